-- Written by wip/pp of this repo (over the kit's print, with additions of this session); Lean checks every line.
import Derived.Test.YthhejedfjgikdaaDoorPRowReadsx13
namespace Go.Proofs.YthhejedfjgikdaaDoor.PRowReads
open Go.RowKit Go.Proofs.YthhejedfjgikdaaDoorW.PrintWords Go.Proofs.YthhejedfjgikdaaDoorW.PrintLast Go.Proofs.YthhejedfjgikdaaDoorW.PrintMore
attribute [local go_sem] zjo zjm zjw zjv zja zq9 zjn zjl   -- for this text's walks alone
set_option linter.unusedVariables false
set_option linter.unusedSimpArgs false

/-! ### qz: function 122 -/
mutual
def qz.j0:Nat→Bool→Int→Int→ByteArray→Option (Bool)
 | 0,_,_,_,_=>none
 | k+1,x52,x267000,x267001,x267002=>if x52=true then(some false) else (qz.l0 k 0 x267000 x267001 x267002)
def qz.l0:Nat→Int→Int→Int→ByteArray→Option (Bool)
 | 0,_,_,_,_=>none
 | k+1,x3,x267000,x267001,x267002=>if x3<(x267002.size:Int) then(if 0≤x3 then(if(bt x267002 x3) ≥ 48 then(if(bt x267002 x3) ≥ 97 then(if(bt x267002 x3)≤122 then(qz.l0 k (wrap64 (x3+1)) x267000 x267001 x267002) else (if(bt x267002 x3)=95 then(qz.l0 k (wrap64 (x3+1)) x267000 x267001 x267002) else (if(bt x267002 x3)≤57 then(if x3 > 0 then(qz.l0 k (wrap64 (x3+1)) x267000 x267001 x267002) else (some false)) else (some false)))) else (if(bt x267002 x3)=95 then(qz.l0 k (wrap64 (x3+1)) x267000 x267001 x267002) else (if(bt x267002 x3)≤57 then(if x3 > 0 then(qz.l0 k (wrap64 (x3+1)) x267000 x267001 x267002) else (some false)) else (some false)))) else (if(bt x267002 x3) ≥ 97 then(if(bt x267002 x3)≤122 then(qz.l0 k (wrap64 (x3+1)) x267000 x267001 x267002) else (if(bt x267002 x3)=95 then(qz.l0 k (wrap64 (x3+1)) x267000 x267001 x267002) else (some false))) else (if(bt x267002 x3)=95 then(qz.l0 k (wrap64 (x3+1)) x267000 x267001 x267002) else (some false)))) else (none)) else (some true)
end
def qz.f (k:Nat) (a0_0:Int) (a0_1:Int) (a0_2:ByteArray):Option (Bool):=if a0_0=2 then(if a0_1 ≥ 0 then(some (a0_2.toList == ([]:List UInt8))) else (some false)) else (if a0_1=0 then(if a0_0=3 then(if(a0_2.size:Int)≤40 then((zu.f k a0_2).bind fun t267=>(some t267)) else (some false)) else (if a0_0=4 then((zjr.f a0_2).bind fun t268=>(some t268)) else (if a0_0=1 then(if(a0_2.size:Int)<1 then(qz.j0 k true a0_0 a0_1 a0_2) else (qz.j0 k (decide ((a0_2.size:Int) > 12)) a0_0 a0_1 a0_2)) else (qz.j0 k true a0_0 a0_1 a0_2)))) else (some false))
theorem qz.mono_l:∀ k,(∀ y0 y1 y2 y3,LeO (qz.j0 k y0 y1 y2 y3) (qz.j0 (k+1) y0 y1 y2 y3))∧(∀ y0 y1 y2 y3,LeO (qz.l0 k y0 y1 y2 y3) (qz.l0 (k+1) y0 y1 y2 y3))
 | 0=>⟨fun _ _ _ _ r h=>by simp [qz.j0] at h,fun _ _ _ _ r h=>by simp [qz.l0] at h⟩
 | k+1=>by
  obtain ⟨ih0,ih1⟩:=qz.mono_l k
  refine⟨?_,?_⟩
  ·intro y0 y1 y2 y3
   unfold qz.j0
   repeat' first
   | (with_reducible first|exact ih0 _ _ _ _|exact ih1 _ _ _ _|exact zu.mono _ _|exact LeO.refl _|exact LeO.none _|refine LeO.ite ?_ ?_|refine LeO.bind ?_ (fun _=>?_))
   | exact ih0 _ _ _ _
   | exact ih1 _ _ _ _
   | exact zu.mono _ _
   | exact LeO.none _
   | refine LeO.ite ?_ ?_
   | refine LeO.bind ?_ (fun _=>?_)
  intro y0 y1 y2 y3
  unfold qz.l0
  repeat' first
  | (with_reducible first|exact ih0 _ _ _ _|exact ih1 _ _ _ _|exact zu.mono _ _|exact LeO.refl _|exact LeO.none _|refine LeO.ite ?_ ?_|refine LeO.bind ?_ (fun _=>?_))
  | exact ih0 _ _ _ _
  | exact ih1 _ _ _ _
  | exact zu.mono _ _
  | exact LeO.none _
  | refine LeO.ite ?_ ?_
  | refine LeO.bind ?_ (fun _=>?_)
theorem qz.mono:∀ a0 a1 a2 k,LeO (qz.f k a0 a1 a2) (qz.f (k+1) a0 a1 a2):=by
 intro a0 a1 a2 k
 obtain ⟨ih0,ih1⟩:=qz.mono_l k
 unfold qz.f
 repeat' first
   | (with_reducible first|exact ih0 _ _ _ _|exact ih1 _ _ _ _|exact zu.mono _ _|exact LeO.refl _|exact LeO.none _|refine LeO.ite ?_ ?_|refine LeO.bind ?_ (fun _=>?_))
   | exact ih0 _ _ _ _
   | exact ih1 _ _ _ _
   | exact zu.mono _ _
   | exact LeO.none _
   | refine LeO.ite ?_ ?_
   | refine LeO.bind ?_ (fun _=>?_)
set_option maxHeartbeats 8000000 in
set_option maxRecDepth 100000 in
theorem qz.calls (k:Nat) (a0_0:Int) (a0_1:Int) (a0_2:ByteArray) (r:Bool) (w:World) (h:qz.f k a0_0 a0_1 a0_2=some r) :
  Calls Tryd.prog 122 #[.agg #[.int .i64 a0_0,.int .i64 a0_1,.string a0_2]] w fun e w'=>e = .returned (.bool r)∧Below w.heap.size w w':=by
 have hu158:=Tryd.underlying158
 have HB:=zq.mk (Below.refl w.heap.size w)
 have H:(if a0_0=2 then(if a0_1 ≥ 0 then(some (a0_2.toList == ([]:List UInt8))) else (some false)) else (if a0_1=0 then(if a0_0=3 then(if(a0_2.size:Int)≤40 then((zu.f k a0_2).bind fun t267=>(some t267)) else (some false)) else (if a0_0=4 then((zjr.f a0_2).bind fun t268=>(some t268)) else (if a0_0=1 then(if(a0_2.size:Int)<1 then(qz.j0 k true a0_0 a0_1 a0_2) else (qz.j0 k (decide ((a0_2.size:Int) > 12)) a0_0 a0_1 a0_2)) else (qz.j0 k true a0_0 a0_1 a0_2)))) else (some false)))=some r:=h
 clear h
 by_cases c2:a0_0=2
 ·rw [if_pos c2] at H
  have c2b0:(a0_0 == 2)=true:=beq_iff_eq.mpr c2
  have c2b1:(a0_0 != 2)=false:=bne_eq_false_iff_eq.mpr c2
  clear c2
  by_cases c3:a0_1 ≥ 0
  ·rw [if_pos c3] at H
   have c3b0:=decide_eq_true c3
   clear c3
   obtain rfl:=Option.some.inj H
   go_enter Tryd.func122,Tryd.ntmps122
   go_wp2_with (first|((with_reducible refine qr (N:=1) rfl ?_);(try(refine ql (by rfl) ?_;dsimp only));refine qm ?hg (N:=1) ?hd (cs:=#[.int .i64 a0_0,.int .i64 a0_1,.string a0_2]) (t:=158) ?hr ?_;(case hd=>rfl);(case hg=>rfl);(case hr=>first|(go_simp;done)|(go_simp;rfl));intro gb266 hg w4 hbox hb;have BK266:=zq.mk (hbox);have GW266:=zq.mk ((by rw [hg];exact(zw bw):w.heap.size≤gb266));have GE266:=zq.mk ((by rw [hg];exact(zw bw):w.heap.size≤gb266));replace HB:=zq.mk (zn bw hb);clear hb hbox hg;obtain ⟨hcz5_0,hcz5_1,hcz5_2,hfz5_0,hfz5_1,hfz5_2⟩:=qd BK266.out))
   go_ret
   exact⟨by first|rfl|(simp [zg,zy] <;> rfl)|(simp [*,zg,zy] <;> rfl),bw⟩
  rw [if_neg c3] at H
  have c3b0:=decide_eq_false c3
  clear c3
  obtain rfl:=Option.some.inj H
  go_enter Tryd.func122,Tryd.ntmps122
  go_wp2_with (first|((with_reducible refine qr (N:=1) rfl ?_);(try(refine ql (by rfl) ?_;dsimp only));refine qm ?hg (N:=1) ?hd (cs:=#[.int .i64 a0_0,.int .i64 a0_1,.string a0_2]) (t:=158) ?hr ?_;(case hd=>rfl);(case hg=>rfl);(case hr=>first|(go_simp;done)|(go_simp;rfl));intro gb266 hg w6 hbox hb;have BK266:=zq.mk (hbox);have GW266:=zq.mk ((by rw [hg];exact(zw bw):w.heap.size≤gb266));have GE266:=zq.mk ((by rw [hg];exact(zw bw):w.heap.size≤gb266));replace HB:=zq.mk (zn bw hb);clear hb hbox hg;obtain ⟨hcz7_0,hcz7_1,hcz7_2,hfz7_0,hfz7_1,hfz7_2⟩:=qd BK266.out))
  go_ret
  exact⟨by first|rfl|(simp [zg,zy] <;> rfl)|(simp [*,zg,zy] <;> rfl),bw⟩
 rw [if_neg c2] at H
 have c2b0:(a0_0 == 2)=false:=beq_eq_false_iff_ne.mpr c2
 have c2b1:(a0_0 != 2)=true:=bne_iff_ne.mpr c2
 by_cases c8:a0_1=0
 ·rw [if_pos c8] at H
  have c8b0:(a0_1 == 0)=true:=beq_iff_eq.mpr c8
  have c8b1:(a0_1 != 0)=false:=bne_eq_false_iff_eq.mpr c8
  clear c8
  by_cases c9:a0_0=3
  ·rw [if_pos c9] at H
   have c9b0:(a0_0 == 3)=true:=beq_iff_eq.mpr c9
   have c9b1:(a0_0 != 3)=false:=bne_eq_false_iff_eq.mpr c9
   clear c9
   by_cases c10:(a0_2.size:Int)≤40
   ·rw [if_pos c10] at H
    have c10b0:=decide_eq_true c10
    have c10b1:decide (a0_2.size≤40)=true:=decide_eq_true (by omega)
    clear c10
    replace H:=Option.bind_eq_some_iff.mp H
    obtain ⟨t267,A110,H⟩:=H
    replace H:(some t267)=some r:=H
    have A11:=zq.mk A110
    clear A110
    obtain rfl:=Option.some.inj H
    go_enter Tryd.func122,Tryd.ntmps122
    go_wp2_with (first|((with_reducible refine qr (N:=1) rfl ?_);(try(refine ql (by rfl) ?_;dsimp only));refine qm ?hg (N:=1) ?hd (cs:=#[.int .i64 a0_0,.int .i64 a0_1,.string a0_2]) (t:=158) ?hr ?_;(case hd=>rfl);(case hg=>rfl);(case hr=>first|(go_simp;done)|(go_simp;rfl));intro gb266 hg w12 hbox hb;have BK266:=zq.mk (hbox);have GW266:=zq.mk ((by rw [hg];exact(zw bw):w.heap.size≤gb266));have GE266:=zq.mk ((by rw [hg];exact(zw bw):w.heap.size≤gb266));replace HB:=zq.mk (zn bw hb);clear hb hbox hg;obtain ⟨hcz13_0,hcz13_1,hcz13_2,hfz13_0,hfz13_1,hfz13_2⟩:=qd BK266.out)|(go_at_call 102;(with_reducible refine(zu.calls k a0_2 t267 _ A11.out).mono ?_);rintro e w' ⟨rfl,⟨nd,rfl⟩⟩))
    go_ret
    exact⟨by first|rfl|(simp [zg,zy] <;> rfl)|(simp [*,zg,zy] <;> rfl),bw⟩
   rw [if_neg c10] at H
   have c10b0:=decide_eq_false c10
   have c10b1:decide (a0_2.size≤40)=false:=decide_eq_false (by omega)
   clear c10
   obtain rfl:=Option.some.inj H
   go_enter Tryd.func122,Tryd.ntmps122
   go_wp2_with (first|((with_reducible refine qr (N:=1) rfl ?_);(try(refine ql (by rfl) ?_;dsimp only));refine qm ?hg (N:=1) ?hd (cs:=#[.int .i64 a0_0,.int .i64 a0_1,.string a0_2]) (t:=158) ?hr ?_;(case hd=>rfl);(case hg=>rfl);(case hr=>first|(go_simp;done)|(go_simp;rfl));intro gb266 hg w14 hbox hb;have BK266:=zq.mk (hbox);have GW266:=zq.mk ((by rw [hg];exact(zw bw):w.heap.size≤gb266));have GE266:=zq.mk ((by rw [hg];exact(zw bw):w.heap.size≤gb266));replace HB:=zq.mk (zn bw hb);clear hb hbox hg;obtain ⟨hcz15_0,hcz15_1,hcz15_2,hfz15_0,hfz15_1,hfz15_2⟩:=qd BK266.out))
   go_ret
   exact⟨by first|rfl|(simp [zg,zy] <;> rfl)|(simp [*,zg,zy] <;> rfl),bw⟩
  rw [if_neg c9] at H
  have c9b0:(a0_0 == 3)=false:=beq_eq_false_iff_ne.mpr c9
  have c9b1:(a0_0 != 3)=true:=bne_iff_ne.mpr c9
  by_cases c16:a0_0=4
  ·rw [if_pos c16] at H
   have c16b0:(a0_0 == 4)=true:=beq_iff_eq.mpr c16
   have c16b1:(a0_0 != 4)=false:=bne_eq_false_iff_eq.mpr c16
   clear c16
   replace H:=Option.bind_eq_some_iff.mp H
   obtain ⟨t268,A170,H⟩:=H
   replace H:(some t268)=some r:=H
   have A17:=zq.mk A170
   clear A170
   obtain rfl:=Option.some.inj H
   go_enter Tryd.func122,Tryd.ntmps122
   go_wp2_with (first|((with_reducible refine qr (N:=1) rfl ?_);(try(refine ql (by rfl) ?_;dsimp only));refine qm ?hg (N:=1) ?hd (cs:=#[.int .i64 a0_0,.int .i64 a0_1,.string a0_2]) (t:=158) ?hr ?_;(case hd=>rfl);(case hg=>rfl);(case hr=>first|(go_simp;done)|(go_simp;rfl));intro gb266 hg w18 hbox hb;have BK266:=zq.mk (hbox);have GW266:=zq.mk ((by rw [hg];exact(zw bw):w.heap.size≤gb266));have GE266:=zq.mk ((by rw [hg];exact(zw bw):w.heap.size≤gb266));replace HB:=zq.mk (zn bw hb);clear hb hbox hg;obtain ⟨hcz19_0,hcz19_1,hcz19_2,hfz19_0,hfz19_1,hfz19_2⟩:=qd BK266.out)|((with_reducible refine qh (f:=149) rfl ?_);refine zqn (some 37) rfl rfl Tryd.func149 (by kernel_rfl) rfl #[.string a0_2] rfl gs ?_;(with_reducible refine(zjr.calls a0_2 t268 _ A17.out).mono ?_);rintro e w' ⟨rfl,⟨nd,rfl⟩⟩;refine⟨_,rfl,?_⟩))
   go_ret
   exact⟨by first|rfl|(simp [zg,zy] <;> rfl)|(simp [*,zg,zy] <;> rfl),bw⟩
  rw [if_neg c16] at H
  have c16b0:(a0_0 == 4)=false:=beq_eq_false_iff_ne.mpr c16
  have c16b1:(a0_0 != 4)=true:=bne_iff_ne.mpr c16
  have HC20:=zq.mk H
  clear H
  go_enter Tryd.func122,Tryd.ntmps122
  go_upto_region 9 with (first|((with_reducible refine qr (N:=1) rfl ?_);(try(refine ql (by rfl) ?_;dsimp only));refine qm ?hg (N:=1) ?hd (cs:=#[.int .i64 a0_0,.int .i64 a0_1,.string a0_2]) (t:=158) ?hr ?_;(case hd=>rfl);(case hg=>rfl);(case hr=>first|(go_simp;done)|(go_simp;rfl));intro gb266 hg w21 hbox hb;have BK266:=zq.mk (hbox);have GW266:=zq.mk ((by rw [hg];exact(zw bw):w.heap.size≤gb266));have GE266:=zq.mk ((by rw [hg];exact(zw bw):w.heap.size≤gb266));replace HB:=zq.mk (zn bw hb);clear hb hbox hg;obtain ⟨hcz22_0,hcz22_1,hcz22_2,hfz22_0,hfz22_1,hfz22_2⟩:=qd BK266.out))
  (try simp only [Act.put,List.setIfInBounds_toArray,List.set_cons_zero,List.set_cons_succ])
  go_cut [52] (fun v52 wc => ∃ (kq:Nat) (x52_19:Bool),v52 = .bool x52_19∧zq (qz.j0 kq x52_19 a0_0 a0_1 a0_2=some r)∧zq (kq≤k)∧zq (wc.heap[gb266]? = some (.cells #[.int .i64 a0_0,.int .i64 a0_1,.string a0_2] 158 (0,0)))∧zq (Below w.heap.size w wc))
  case first=>
   have H:=HC20.out
   clear HC20
   by_cases c23:a0_0=1
   ·rw [if_pos c23] at H
    have c23b0:(a0_0 == 1)=true:=beq_iff_eq.mpr c23
    have c23b1:(a0_0 != 1)=false:=bne_eq_false_iff_eq.mpr c23
    clear c23
    (first|rw [c23b0]|(simp only [zqp,zqq];rw [c23b0])|skip)
    by_cases c24:(a0_2.size:Int)<1
    ·rw [if_pos c24] at H
     have c24b0:=decide_eq_true c24
     have c24b1:decide (a0_2.size<1)=true:=decide_eq_true (by omega)
     clear c24
     have H':=zq.mk H
     clear H
     obtain ⟨hcz25_0,hcz25_1,hcz25_2,hfz25_0,hfz25_1,hfz25_2⟩:=qd BK266.out
     go_wp2
     go_meet
     case rel=>exact⟨_,(true),vr,H',⟨by first|omega|exact Nat.le_refl _⟩,⟨by(with_reducible repeat(first|refine zz ?_ _|refine zk ?_|refine zj ?_ _));exact BK266.out⟩,⟨bw⟩⟩
    rw [if_neg c24] at H
    have c24b0:=decide_eq_false c24
    have c24b1:decide (a0_2.size<1)=false:=decide_eq_false (by omega)
    clear c24
    have H':=zq.mk H
    clear H
    obtain ⟨hcz26_0,hcz26_1,hcz26_2,hfz26_0,hfz26_1,hfz26_2⟩:=qd BK266.out
    go_wp2
    go_meet
    case rel=>exact⟨_,(decide ((a0_2.size:Int) > 12)),vr,H',⟨by first|omega|exact Nat.le_refl _⟩,⟨by(with_reducible repeat(first|refine zz ?_ _|refine zk ?_|refine zj ?_ _));exact BK266.out⟩,⟨bw⟩⟩
   rw [if_neg c23] at H
   have c23b0:(a0_0 == 1)=false:=beq_eq_false_iff_ne.mpr c23
   have c23b1:(a0_0 != 1)=true:=bne_iff_ne.mpr c23
   (first|rw [c23b0]|(simp only [zqp,zqq];rw [c23b0])|skip)
   have H':=zq.mk H
   clear H
   obtain ⟨hcz27_0,hcz27_1,hcz27_2,hfz27_0,hfz27_1,hfz27_2⟩:=qd BK266.out
   go_wp2
   go_meet
   case rel=>exact⟨_,(true),vr,H',⟨by first|omega|exact Nat.le_refl _⟩,⟨by(with_reducible repeat(first|refine zz ?_ _|refine zk ?_|refine zj ?_ _));exact BK266.out⟩,⟨bw⟩⟩
  case rest=>
   clear HC20
   (try clear c2);(try clear c2b0);(try clear c2b1);(try clear c8);(try clear c8b0);(try clear c8b1);(try clear c9);(try clear c9b0);(try clear c9b1);(try clear c16);(try clear c16b0);(try clear c16b1);(try clear hcz22_0);(try clear hcz22_1);(try clear hcz22_2);(try clear hfz22_0);(try clear hfz22_1);(try clear hfz22_2)
   obtain ⟨kq,x52_19,rfl,HA,HJ19,BK266,HB⟩:=hcut
   cases kq with
   | zero=>exact absurd HA.out (by simp [qz.j0])
   | succ kj19=>
    have H:=HA.out
    clear HA
    simp only [qz.j0] at H
    by_cases c28:x52_19=true
    ·subst c28
     rw [if_pos rfl] at H
     obtain rfl:=Option.some.inj H
     go_wp2
     go_ret
     exact⟨by first|rfl|(simp [zg,zy] <;> rfl)|(simp [*,zg,zy] <;> rfl),bw⟩
    replace c28:=Bool.eq_false_iff.mpr c28
    subst c28
    rw [if_neg (show ¬ (false=true) by decide)] at H
    have H':=zq.mk H
    clear H
    go_wp2
    go_loopg [3] kj19 (fun kq v3 w' => ∃ (x3_2:Int),v3 = .int .i64 x3_2∧zq (qz.l0 kq x3_2 a0_0 a0_1 a0_2=some r)∧zq (kq≤kj19)∧zq (w'.heap[gb266]? = some (.cells #[.int .i64 a0_0,.int .i64 a0_1,.string a0_2] 158 (0,0)))∧zq (Below w.heap.size w w'))
    case atStart=>exact⟨(0),vr,H',⟨Nat.le_refl _⟩,⟨by(with_reducible repeat(first|refine zz ?_ _|refine zk ?_|refine zj ?_ _));exact BK266.out⟩,⟨bw⟩⟩
    case round=>
     clear H'
     (try clear c2);(try clear c2b0);(try clear c2b1);(try clear c8);(try clear c8b0);(try clear c8b1);(try clear c9);(try clear c9b0);(try clear c9b1);(try clear c16);(try clear c16b0);(try clear c16b1);(try clear c28);(try clear hcz22_0);(try clear hcz22_1);(try clear hcz22_2);(try clear hfz22_0);(try clear hfz22_1);(try clear hfz22_2)
     obtain ⟨x3_2,rfl,HA,HK2,BK266,HB⟩:=hrel
     cases gk with
     | zero=>exact absurd HA.out (by simp [qz.l0])
     | succ k2=>
      have H:=HA.out
      clear HA
      simp only [qz.l0] at H
      by_cases c29:x3_2<(a0_2.size:Int)
      ·rw [if_pos c29] at H
       have c29b0:=decide_eq_true c29
       clear c29
       by_cases c30:0≤x3_2
       ·rw [if_pos c30] at H
        have c30b0:=decide_eq_true c30
        clear c30
        by_cases c32:(bt a0_2 x3_2) ≥ 48
        ·rw [if_pos c32] at H
         have c32b0:=decide_eq_true c32
         clear c32
         by_cases c33:(bt a0_2 x3_2) ≥ 97
         ·rw [if_pos c33] at H
          have c33b0:=decide_eq_true c33
          clear c33
          by_cases c34:(bt a0_2 x3_2)≤122
          ·rw [if_pos c34] at H
           have c34b0:=decide_eq_true c34
           clear c34
           have H':=zq.mk H
           clear H
           obtain ⟨hcz35_0,hcz35_1,hcz35_2,hfz35_0,hfz35_1,hfz35_2⟩:=qd BK266.out
           have p31:0≤(x3_2:Int):=dt
           have q31:x3_2<(a0_2.size:Int):=dt
           have hx31:=zxj a0_2 x3_2
           replace p31:=eq_true p31
           replace q31:=eq_true q31
           go_wp2
           go_roundg k2
           case measure=>have:=HJ19.out;have:=HK2.out;omega
           case rel=>exact⟨(wrap64 (x3_2+1)),vr,H',⟨by have:=HJ19.out;have:=HK2.out;omega⟩,⟨by(with_reducible repeat(first|refine zz ?_ _|refine zk ?_|refine zj ?_ _));exact BK266.out⟩,⟨bw⟩⟩
          rw [if_neg c34] at H
          have c34b0:=decide_eq_false c34
          clear c34
          by_cases c36:(bt a0_2 x3_2)=95
          ·rw [if_pos c36] at H
           have c36b0:((bt a0_2 x3_2) == 95)=true:=beq_iff_eq.mpr c36
           have c36b1:((bt a0_2 x3_2) != 95)=false:=bne_eq_false_iff_eq.mpr c36
           clear c36
           have H':=zq.mk H
           clear H
           obtain ⟨hcz37_0,hcz37_1,hcz37_2,hfz37_0,hfz37_1,hfz37_2⟩:=qd BK266.out
           have p31:0≤(x3_2:Int):=dt
           have q31:x3_2<(a0_2.size:Int):=dt
           have hx31:=zxj a0_2 x3_2
           replace p31:=eq_true p31
           replace q31:=eq_true q31
           go_wp2
           go_roundg k2
           case measure=>have:=HJ19.out;have:=HK2.out;omega
           case rel=>exact⟨(wrap64 (x3_2+1)),vr,H',⟨by have:=HJ19.out;have:=HK2.out;omega⟩,⟨by(with_reducible repeat(first|refine zz ?_ _|refine zk ?_|refine zj ?_ _));exact BK266.out⟩,⟨bw⟩⟩
          rw [if_neg c36] at H
          have c36b0:((bt a0_2 x3_2) == 95)=false:=beq_eq_false_iff_ne.mpr c36
          have c36b1:((bt a0_2 x3_2) != 95)=true:=bne_iff_ne.mpr c36
          by_cases c38:(bt a0_2 x3_2)≤57
          ·rw [if_pos c38] at H
           have c38b0:=decide_eq_true c38
           clear c38
           by_cases c39:x3_2 > 0
           ·rw [if_pos c39] at H
            have c39b0:=decide_eq_true c39
            clear c39
            have H':=zq.mk H
            clear H
            obtain ⟨hcz40_0,hcz40_1,hcz40_2,hfz40_0,hfz40_1,hfz40_2⟩:=qd BK266.out
            have p31:0≤(x3_2:Int):=dt
            have q31:x3_2<(a0_2.size:Int):=dt
            have hx31:=zxj a0_2 x3_2
            replace p31:=eq_true p31
            replace q31:=eq_true q31
            go_wp2
            go_roundg k2
            case measure=>have:=HJ19.out;have:=HK2.out;omega
            case rel=>exact⟨(wrap64 (x3_2+1)),vr,H',⟨by have:=HJ19.out;have:=HK2.out;omega⟩,⟨by(with_reducible repeat(first|refine zz ?_ _|refine zk ?_|refine zj ?_ _));exact BK266.out⟩,⟨bw⟩⟩
           rw [if_neg c39] at H
           have c39b0:=decide_eq_false c39
           clear c39
           obtain rfl:=Option.some.inj H
           obtain ⟨hcz41_0,hcz41_1,hcz41_2,hfz41_0,hfz41_1,hfz41_2⟩:=qd BK266.out
           have p31:0≤(x3_2:Int):=dt
           have q31:x3_2<(a0_2.size:Int):=dt
           have hx31:=zxj a0_2 x3_2
           replace p31:=eq_true p31
           replace q31:=eq_true q31
           go_wp2
           go_ret
           exact⟨by first|rfl|(simp [zg,zy] <;> rfl)|(simp [*,zg,zy] <;> rfl),bw⟩
          rw [if_neg c38] at H
          have c38b0:=decide_eq_false c38
          clear c38
          obtain rfl:=Option.some.inj H
          obtain ⟨hcz42_0,hcz42_1,hcz42_2,hfz42_0,hfz42_1,hfz42_2⟩:=qd BK266.out
          have p31:0≤(x3_2:Int):=dt
          have q31:x3_2<(a0_2.size:Int):=dt
          have hx31:=zxj a0_2 x3_2
          replace p31:=eq_true p31
          replace q31:=eq_true q31
          go_wp2
          go_ret
          exact⟨by first|rfl|(simp [zg,zy] <;> rfl)|(simp [*,zg,zy] <;> rfl),bw⟩
         rw [if_neg c33] at H
         have c33b0:=decide_eq_false c33
         clear c33
         by_cases c43:(bt a0_2 x3_2)=95
         ·rw [if_pos c43] at H
          have c43b0:((bt a0_2 x3_2) == 95)=true:=beq_iff_eq.mpr c43
          have c43b1:((bt a0_2 x3_2) != 95)=false:=bne_eq_false_iff_eq.mpr c43
          clear c43
          have H':=zq.mk H
          clear H
          obtain ⟨hcz44_0,hcz44_1,hcz44_2,hfz44_0,hfz44_1,hfz44_2⟩:=qd BK266.out
          have p31:0≤(x3_2:Int):=dt
          have q31:x3_2<(a0_2.size:Int):=dt
          have hx31:=zxj a0_2 x3_2
          replace p31:=eq_true p31
          replace q31:=eq_true q31
          go_wp2
          go_roundg k2
          case measure=>have:=HJ19.out;have:=HK2.out;omega
          case rel=>exact⟨(wrap64 (x3_2+1)),vr,H',⟨by have:=HJ19.out;have:=HK2.out;omega⟩,⟨by(with_reducible repeat(first|refine zz ?_ _|refine zk ?_|refine zj ?_ _));exact BK266.out⟩,⟨bw⟩⟩
         rw [if_neg c43] at H
         have c43b0:((bt a0_2 x3_2) == 95)=false:=beq_eq_false_iff_ne.mpr c43
         have c43b1:((bt a0_2 x3_2) != 95)=true:=bne_iff_ne.mpr c43
         by_cases c45:(bt a0_2 x3_2)≤57
         ·rw [if_pos c45] at H
          have c45b0:=decide_eq_true c45
          clear c45
          by_cases c46:x3_2 > 0
          ·rw [if_pos c46] at H
           have c46b0:=decide_eq_true c46
           clear c46
           have H':=zq.mk H
           clear H
           obtain ⟨hcz47_0,hcz47_1,hcz47_2,hfz47_0,hfz47_1,hfz47_2⟩:=qd BK266.out
           have p31:0≤(x3_2:Int):=dt
           have q31:x3_2<(a0_2.size:Int):=dt
           have hx31:=zxj a0_2 x3_2
           replace p31:=eq_true p31
           replace q31:=eq_true q31
           go_wp2
           go_roundg k2
           case measure=>have:=HJ19.out;have:=HK2.out;omega
           case rel=>exact⟨(wrap64 (x3_2+1)),vr,H',⟨by have:=HJ19.out;have:=HK2.out;omega⟩,⟨by(with_reducible repeat(first|refine zz ?_ _|refine zk ?_|refine zj ?_ _));exact BK266.out⟩,⟨bw⟩⟩
          rw [if_neg c46] at H
          have c46b0:=decide_eq_false c46
          clear c46
          obtain rfl:=Option.some.inj H
          obtain ⟨hcz48_0,hcz48_1,hcz48_2,hfz48_0,hfz48_1,hfz48_2⟩:=qd BK266.out
          have p31:0≤(x3_2:Int):=dt
          have q31:x3_2<(a0_2.size:Int):=dt
          have hx31:=zxj a0_2 x3_2
          replace p31:=eq_true p31
          replace q31:=eq_true q31
          go_wp2
          go_ret
          exact⟨by first|rfl|(simp [zg,zy] <;> rfl)|(simp [*,zg,zy] <;> rfl),bw⟩
         rw [if_neg c45] at H
         have c45b0:=decide_eq_false c45
         clear c45
         obtain rfl:=Option.some.inj H
         obtain ⟨hcz49_0,hcz49_1,hcz49_2,hfz49_0,hfz49_1,hfz49_2⟩:=qd BK266.out
         have p31:0≤(x3_2:Int):=dt
         have q31:x3_2<(a0_2.size:Int):=dt
         have hx31:=zxj a0_2 x3_2
         replace p31:=eq_true p31
         replace q31:=eq_true q31
         go_wp2
         go_ret
         exact⟨by first|rfl|(simp [zg,zy] <;> rfl)|(simp [*,zg,zy] <;> rfl),bw⟩
        rw [if_neg c32] at H
        have c32b0:=decide_eq_false c32
        clear c32
        by_cases c50:(bt a0_2 x3_2) ≥ 97
        ·rw [if_pos c50] at H
         have c50b0:=decide_eq_true c50
         clear c50
         by_cases c51:(bt a0_2 x3_2)≤122
         ·rw [if_pos c51] at H
          have c51b0:=decide_eq_true c51
          clear c51
          have H':=zq.mk H
          clear H
          obtain ⟨hcz52_0,hcz52_1,hcz52_2,hfz52_0,hfz52_1,hfz52_2⟩:=qd BK266.out
          have p31:0≤(x3_2:Int):=dt
          have q31:x3_2<(a0_2.size:Int):=dt
          have hx31:=zxj a0_2 x3_2
          replace p31:=eq_true p31
          replace q31:=eq_true q31
          go_wp2
          go_roundg k2
          case measure=>have:=HJ19.out;have:=HK2.out;omega
          case rel=>exact⟨(wrap64 (x3_2+1)),vr,H',⟨by have:=HJ19.out;have:=HK2.out;omega⟩,⟨by(with_reducible repeat(first|refine zz ?_ _|refine zk ?_|refine zj ?_ _));exact BK266.out⟩,⟨bw⟩⟩
         rw [if_neg c51] at H
         have c51b0:=decide_eq_false c51
         clear c51
         by_cases c53:(bt a0_2 x3_2)=95
         ·rw [if_pos c53] at H
          have c53b0:((bt a0_2 x3_2) == 95)=true:=beq_iff_eq.mpr c53
          have c53b1:((bt a0_2 x3_2) != 95)=false:=bne_eq_false_iff_eq.mpr c53
          clear c53
          have H':=zq.mk H
          clear H
          obtain ⟨hcz54_0,hcz54_1,hcz54_2,hfz54_0,hfz54_1,hfz54_2⟩:=qd BK266.out
          have p31:0≤(x3_2:Int):=dt
          have q31:x3_2<(a0_2.size:Int):=dt
          have hx31:=zxj a0_2 x3_2
          replace p31:=eq_true p31
          replace q31:=eq_true q31
          go_wp2
          go_roundg k2
          case measure=>have:=HJ19.out;have:=HK2.out;omega
          case rel=>exact⟨(wrap64 (x3_2+1)),vr,H',⟨by have:=HJ19.out;have:=HK2.out;omega⟩,⟨by(with_reducible repeat(first|refine zz ?_ _|refine zk ?_|refine zj ?_ _));exact BK266.out⟩,⟨bw⟩⟩
         rw [if_neg c53] at H
         have c53b0:((bt a0_2 x3_2) == 95)=false:=beq_eq_false_iff_ne.mpr c53
         have c53b1:((bt a0_2 x3_2) != 95)=true:=bne_iff_ne.mpr c53
         obtain rfl:=Option.some.inj H
         obtain ⟨hcz55_0,hcz55_1,hcz55_2,hfz55_0,hfz55_1,hfz55_2⟩:=qd BK266.out
         have p31:0≤(x3_2:Int):=dt
         have q31:x3_2<(a0_2.size:Int):=dt
         have hx31:=zxj a0_2 x3_2
         replace p31:=eq_true p31
         replace q31:=eq_true q31
         go_wp2
         go_ret
         exact⟨by first|rfl|(simp [zg,zy] <;> rfl)|(simp [*,zg,zy] <;> rfl),bw⟩
        rw [if_neg c50] at H
        have c50b0:=decide_eq_false c50
        clear c50
        by_cases c56:(bt a0_2 x3_2)=95
        ·rw [if_pos c56] at H
         have c56b0:((bt a0_2 x3_2) == 95)=true:=beq_iff_eq.mpr c56
         have c56b1:((bt a0_2 x3_2) != 95)=false:=bne_eq_false_iff_eq.mpr c56
         clear c56
         have H':=zq.mk H
         clear H
         obtain ⟨hcz57_0,hcz57_1,hcz57_2,hfz57_0,hfz57_1,hfz57_2⟩:=qd BK266.out
         have p31:0≤(x3_2:Int):=dt
         have q31:x3_2<(a0_2.size:Int):=dt
         have hx31:=zxj a0_2 x3_2
         replace p31:=eq_true p31
         replace q31:=eq_true q31
         go_wp2
         go_roundg k2
         case measure=>have:=HJ19.out;have:=HK2.out;omega
         case rel=>exact⟨(wrap64 (x3_2+1)),vr,H',⟨by have:=HJ19.out;have:=HK2.out;omega⟩,⟨by(with_reducible repeat(first|refine zz ?_ _|refine zk ?_|refine zj ?_ _));exact BK266.out⟩,⟨bw⟩⟩
        rw [if_neg c56] at H
        have c56b0:((bt a0_2 x3_2) == 95)=false:=beq_eq_false_iff_ne.mpr c56
        have c56b1:((bt a0_2 x3_2) != 95)=true:=bne_iff_ne.mpr c56
        obtain rfl:=Option.some.inj H
        obtain ⟨hcz58_0,hcz58_1,hcz58_2,hfz58_0,hfz58_1,hfz58_2⟩:=qd BK266.out
        have p31:0≤(x3_2:Int):=dt
        have q31:x3_2<(a0_2.size:Int):=dt
        have hx31:=zxj a0_2 x3_2
        replace p31:=eq_true p31
        replace q31:=eq_true q31
        go_wp2
        go_ret
        exact⟨by first|rfl|(simp [zg,zy] <;> rfl)|(simp [*,zg,zy] <;> rfl),bw⟩
       rw [if_neg c30] at H
       exact absurd H (by simp)
      rw [if_neg c29] at H
      have c29b0:=decide_eq_false c29
      clear c29
      obtain rfl:=Option.some.inj H
      obtain ⟨hcz59_0,hcz59_1,hcz59_2,hfz59_0,hfz59_1,hfz59_2⟩:=qd BK266.out
      go_wp2
      go_ret
      exact⟨by first|rfl|(simp [zg,zy] <;> rfl)|(simp [*,zg,zy] <;> rfl),bw⟩
 rw [if_neg c8] at H
 have c8b0:(a0_1 == 0)=false:=beq_eq_false_iff_ne.mpr c8
 have c8b1:(a0_1 != 0)=true:=bne_iff_ne.mpr c8
 obtain rfl:=Option.some.inj H
 go_enter Tryd.func122,Tryd.ntmps122
 go_wp2_with (first|((with_reducible refine qr (N:=1) rfl ?_);(try(refine ql (by rfl) ?_;dsimp only));refine qm ?hg (N:=1) ?hd (cs:=#[.int .i64 a0_0,.int .i64 a0_1,.string a0_2]) (t:=158) ?hr ?_;(case hd=>rfl);(case hg=>rfl);(case hr=>first|(go_simp;done)|(go_simp;rfl));intro gb266 hg w60 hbox hb;have BK266:=zq.mk (hbox);have GW266:=zq.mk ((by rw [hg];exact(zw bw):w.heap.size≤gb266));have GE266:=zq.mk ((by rw [hg];exact(zw bw):w.heap.size≤gb266));replace HB:=zq.mk (zn bw hb);clear hb hbox hg;obtain ⟨hcz61_0,hcz61_1,hcz61_2,hfz61_0,hfz61_1,hfz61_2⟩:=qd BK266.out))
 go_ret
 exact⟨by first|rfl|(simp [zg,zy] <;> rfl)|(simp [*,zg,zy] <;> rfl),bw⟩

end Go.Proofs.YthhejedfjgikdaaDoor.PRowReads
