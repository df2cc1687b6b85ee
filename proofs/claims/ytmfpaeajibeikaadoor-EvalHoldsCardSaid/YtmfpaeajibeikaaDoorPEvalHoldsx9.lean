-- Written by wip/pp of this repo (over the kit's print, with additions of this session); Lean checks every line.
import Derived.Test.YtmfpaeajibeikaaDoorPEvalHoldsx8
namespace Go.Proofs.YtmfpaeajibeikaaDoor.PEvalHolds
open Go.RowKit Go.Proofs.YtmfpaeajibeikaaDoorW.PrintWords Go.Proofs.YtmfpaeajibeikaaDoorW.PrintLast Go.Proofs.YtmfpaeajibeikaaDoorW.PrintMore
attribute [local go_sem] zje zjc zjo zjn zq1 zq0 zjd zjb   -- for this text's walks alone
set_option linter.unusedVariables false
set_option linter.unusedSimpArgs false

/-! ### zw: function 49 -/
mutual
def zw.j0:Nat→Bool→Int→Int→ByteArray→Option (Int)
 | 0,_,_,_,_=>none
 | k+1,x20,x167000,x167001,x167002=>if x20=true then(some 3) else (if(x167002.size:Int) > 40 then(some 1) else (if x167000=3 then(if x167000=0 then(zw.j1 k (x167001 != 0) x167000 x167001 x167002) else (zw.j1 k (x167001 != 0) x167000 x167001 x167002)) else (if x167002.toList=([]:List UInt8) then(if x167000=0 then(zw.j1 k (x167001 != 0) x167000 x167001 x167002) else (zw.j1 k false x167000 x167001 x167002)) else (zw.j1 k true x167000 x167001 x167002))))
def zw.j1:Nat→Bool→Int→Int→ByteArray→Option (Int)
 | 0,_,_,_,_=>none
 | k+1,x47,x167000,x167001,x167002=>if x47=true then(some 4) else (if x167000=1 then(if x167001=0 then(if x167000=3 then((qg.f k x167002).bind fun t167=>(if t167=true then(some 0) else (some 4))) else (some 0)) else (if x167001=1 then(if x167000=3 then((qg.f k x167002).bind fun t168=>(if t168=true then(some 0) else (some 4))) else (some 0)) else (some 4))) else (if x167000=3 then((qg.f k x167002).bind fun t169=>(if t169=true then(some 0) else (some 4))) else (some 0)))
end
def zw.f (k:Nat) (a0_0:Int) (a0_1:Int) (a0_2:ByteArray):Option (Int):=if a0_0=0 then(zw.j0 k false a0_0 a0_1 a0_2) else (if a0_0=1 then(zw.j0 k false a0_0 a0_1 a0_2) else (if a0_0=2 then(zw.j0 k false a0_0 a0_1 a0_2) else (zw.j0 k (a0_0 != 3) a0_0 a0_1 a0_2)))
theorem zw.mono_l:∀ k,(∀ y0 y1 y2 y3,LeO (zw.j0 k y0 y1 y2 y3) (zw.j0 (k+1) y0 y1 y2 y3))∧(∀ y0 y1 y2 y3,LeO (zw.j1 k y0 y1 y2 y3) (zw.j1 (k+1) y0 y1 y2 y3))
 | 0=>⟨fun _ _ _ _ r h=>by simp [zw.j0] at h,fun _ _ _ _ r h=>by simp [zw.j1] at h⟩
 | k+1=>by
  obtain ⟨ih0,ih1⟩:=zw.mono_l k
  refine⟨?_,?_⟩
  ·intro y0 y1 y2 y3
   unfold zw.j0
   repeat' first
   | (with_reducible first|exact ih0 _ _ _ _|exact ih1 _ _ _ _|exact qg.mono _ _|exact LeO.refl _|exact LeO.none _|refine LeO.ite ?_ ?_|refine LeO.bind ?_ (fun _=>?_))
   | exact ih0 _ _ _ _
   | exact ih1 _ _ _ _
   | exact qg.mono _ _
   | exact LeO.none _
   | refine LeO.ite ?_ ?_
   | refine LeO.bind ?_ (fun _=>?_)
  intro y0 y1 y2 y3
  unfold zw.j1
  repeat' first
  | (with_reducible first|exact ih0 _ _ _ _|exact ih1 _ _ _ _|exact qg.mono _ _|exact LeO.refl _|exact LeO.none _|refine LeO.ite ?_ ?_|refine LeO.bind ?_ (fun _=>?_))
  | exact ih0 _ _ _ _
  | exact ih1 _ _ _ _
  | exact qg.mono _ _
  | exact LeO.none _
  | refine LeO.ite ?_ ?_
  | refine LeO.bind ?_ (fun _=>?_)
theorem zw.mono:∀ a0 a1 a2 k,LeO (zw.f k a0 a1 a2) (zw.f (k+1) a0 a1 a2):=by
 intro a0 a1 a2 k
 obtain ⟨ih0,ih1⟩:=zw.mono_l k
 unfold zw.f
 repeat' first
   | (with_reducible first|exact ih0 _ _ _ _|exact ih1 _ _ _ _|exact qg.mono _ _|exact LeO.refl _|exact LeO.none _|refine LeO.ite ?_ ?_|refine LeO.bind ?_ (fun _=>?_))
   | exact ih0 _ _ _ _
   | exact ih1 _ _ _ _
   | exact qg.mono _ _
   | exact LeO.none _
   | refine LeO.ite ?_ ?_
   | refine LeO.bind ?_ (fun _=>?_)
set_option maxHeartbeats 8000000 in
set_option maxRecDepth 100000 in
theorem zw.calls (k:Nat) (a0_0:Int) (a0_1:Int) (a0_2:ByteArray) (r:Int) (w:World) (h:zw.f k a0_0 a0_1 a0_2=some r) :
  Calls Tryd.prog 49 #[.agg #[.int .i64 a0_0,.int .i64 a0_1,.string a0_2]] w fun e w'=>e = .returned (.int .i64 r)∧Below w.heap.size w w':=by
 have hu30:=Tryd.underlying30
 have HB:=zq.mk (Below.refl w.heap.size w)
 have H:(if a0_0=0 then(zw.j0 k false a0_0 a0_1 a0_2) else (if a0_0=1 then(zw.j0 k false a0_0 a0_1 a0_2) else (if a0_0=2 then(zw.j0 k false a0_0 a0_1 a0_2) else (zw.j0 k (a0_0 != 3) a0_0 a0_1 a0_2))))=some r:=h
 clear h
 have HC2:=zq.mk H
 clear H
 go_enter Tryd.func49,Tryd.ntmps49
 go_upto_region 1 with (first|((with_reducible refine ql (N:=1) rfl ?_);refine qh ?hg (N:=1) ?hd (cs:=#[.int .i64 a0_0,.int .i64 a0_1,.string a0_2]) (t:=30) ?hr ?_;(case hd=>rfl);(case hg=>rfl);(case hr=>first|(go_simp;done)|(go_simp;rfl));intro gb166 hg w3 hbox hb;have BK166:=zq.mk (hbox);have GW166:=zq.mk ((by rw [hg];exact(zv bw):w.heap.size≤gb166));have GE166:=zq.mk ((by rw [hg];exact(zv bw):w.heap.size≤gb166));replace HB:=zq.mk (zb bw hb);clear hb hbox hg))
 (try simp only [Act.put,List.setIfInBounds_toArray,List.set_cons_zero,List.set_cons_succ])
 go_cut [20] (fun v20 wc => ∃ (kq:Nat) (x20_1:Bool),v20 = .bool x20_1∧zq (zw.j0 kq x20_1 a0_0 a0_1 a0_2=some r)∧zq (kq≤k)∧zq (wc.heap[gb166]? = some (.cells #[.int .i64 a0_0,.int .i64 a0_1,.string a0_2] 30 (0,0)))∧zq (Below w.heap.size w wc))
 case first=>
  have H:=HC2.out
  clear HC2
  by_cases c4:a0_0=0
  ·rw [if_pos c4] at H
   have c4b0:(a0_0 == 0)=true:=beq_iff_eq.mpr c4
   have c4b1:(a0_0 != 0)=false:=bne_eq_false_iff_eq.mpr c4
   clear c4
   (first|rw [c4b0]|(simp only [zqw,zqx];rw [c4b0])|skip)
   have H':=zq.mk H
   clear H
   obtain ⟨hcz5_0,hcz5_1,hcz5_2,hfz5_0,hfz5_1,hfz5_2⟩:=zr BK166.out
   go_wp2
   go_meet
   case rel=>exact⟨_,(false),vr,H',⟨by first|omega|exact Nat.le_refl _⟩,⟨by(with_reducible repeat(first|refine zn ?_ _|refine zt ?_|refine zy ?_ _));exact BK166.out⟩,⟨bw⟩⟩
  rw [if_neg c4] at H
  have c4b0:(a0_0 == 0)=false:=beq_eq_false_iff_ne.mpr c4
  have c4b1:(a0_0 != 0)=true:=bne_iff_ne.mpr c4
  (first|rw [c4b0]|(simp only [zqw,zqx];rw [c4b0])|skip)
  by_cases c6:a0_0=1
  ·rw [if_pos c6] at H
   have c6b0:(a0_0 == 1)=true:=beq_iff_eq.mpr c6
   have c6b1:(a0_0 != 1)=false:=bne_eq_false_iff_eq.mpr c6
   clear c6
   have H':=zq.mk H
   clear H
   obtain ⟨hcz7_0,hcz7_1,hcz7_2,hfz7_0,hfz7_1,hfz7_2⟩:=zr BK166.out
   go_wp2
   go_meet
   case rel=>exact⟨_,(false),vr,H',⟨by first|omega|exact Nat.le_refl _⟩,⟨by(with_reducible repeat(first|refine zn ?_ _|refine zt ?_|refine zy ?_ _));exact BK166.out⟩,⟨bw⟩⟩
  rw [if_neg c6] at H
  have c6b0:(a0_0 == 1)=false:=beq_eq_false_iff_ne.mpr c6
  have c6b1:(a0_0 != 1)=true:=bne_iff_ne.mpr c6
  by_cases c8:a0_0=2
  ·rw [if_pos c8] at H
   have c8b0:(a0_0 == 2)=true:=beq_iff_eq.mpr c8
   have c8b1:(a0_0 != 2)=false:=bne_eq_false_iff_eq.mpr c8
   clear c8
   have H':=zq.mk H
   clear H
   obtain ⟨hcz9_0,hcz9_1,hcz9_2,hfz9_0,hfz9_1,hfz9_2⟩:=zr BK166.out
   go_wp2
   go_meet
   case rel=>exact⟨_,(false),vr,H',⟨by first|omega|exact Nat.le_refl _⟩,⟨by(with_reducible repeat(first|refine zn ?_ _|refine zt ?_|refine zy ?_ _));exact BK166.out⟩,⟨bw⟩⟩
  rw [if_neg c8] at H
  have c8b0:(a0_0 == 2)=false:=beq_eq_false_iff_ne.mpr c8
  have c8b1:(a0_0 != 2)=true:=bne_iff_ne.mpr c8
  have H':=zq.mk H
  clear H
  obtain ⟨hcz10_0,hcz10_1,hcz10_2,hfz10_0,hfz10_1,hfz10_2⟩:=zr BK166.out
  go_wp2
  go_meet
  case rel=>exact⟨_,((a0_0 != 3)),vr,H',⟨by first|omega|exact Nat.le_refl _⟩,⟨by(with_reducible repeat(first|refine zn ?_ _|refine zt ?_|refine zy ?_ _));exact BK166.out⟩,⟨bw⟩⟩
 case rest=>
  clear HC2
  obtain ⟨kq,x20_1,rfl,HA,HJ1,BK166,HB⟩:=hcut
  cases kq with
  | zero=>exact absurd HA.out (by simp [zw.j0])
  | succ kj1=>
   have H:=HA.out
   clear HA
   simp only [zw.j0] at H
   by_cases c11:x20_1=true
   ·subst c11
    rw [if_pos rfl] at H
    obtain rfl:=Option.some.inj H
    go_wp2
    go_ret
    exact⟨by first|rfl|(simp [zk,zx] <;> rfl)|(simp [*,zk,zx] <;> rfl),bw⟩
   replace c11:=Bool.eq_false_iff.mpr c11
   subst c11
   rw [if_neg (show ¬ (false=true) by decide)] at H
   by_cases c12:(a0_2.size:Int) > 40
   ·rw [if_pos c12] at H
    have c12b0:=decide_eq_true c12
    have c12b1:decide (40<a0_2.size)=true:=decide_eq_true (by omega)
    clear c12
    obtain rfl:=Option.some.inj H
    obtain ⟨hcz13_0,hcz13_1,hcz13_2,hfz13_0,hfz13_1,hfz13_2⟩:=zr BK166.out
    go_wp2
    go_ret
    exact⟨by first|rfl|(simp [zk,zx] <;> rfl)|(simp [*,zk,zx] <;> rfl),bw⟩
   rw [if_neg c12] at H
   have c12b0:=decide_eq_false c12
   have c12b1:decide (40<a0_2.size)=false:=decide_eq_false (by omega)
   clear c12
   have HC14:=zq.mk H
   clear H
   obtain ⟨hcz15_0,hcz15_1,hcz15_2,hfz15_0,hfz15_1,hfz15_2⟩:=zr BK166.out
   go_upto_region 5 with (fail)
   go_cut [47] (fun v47 wc => ∃ (kq:Nat) (x47_13:Bool),v47 = .bool x47_13∧zq (zw.j1 kq x47_13 a0_0 a0_1 a0_2=some r)∧zq (kq≤kj1)∧zq (wc.heap[gb166]? = some (.cells #[.int .i64 a0_0,.int .i64 a0_1,.string a0_2] 30 (0,0)))∧zq (Below w.heap.size w wc))
   case first=>
    have H:=HC14.out
    clear HC14
    by_cases c16:a0_0=3
    ·rw [if_pos c16] at H
     have c16b0:(a0_0 == 3)=true:=beq_iff_eq.mpr c16
     have c16b1:(a0_0 != 3)=false:=bne_eq_false_iff_eq.mpr c16
     clear c16
     (first|rw [c16b0]|(simp only [zqw,zqx];rw [c16b0])|skip)
     by_cases c17:a0_0=0
     ·rw [if_pos c17] at H
      have c17b0:(a0_0 == 0)=true:=beq_iff_eq.mpr c17
      have c17b1:(a0_0 != 0)=false:=bne_eq_false_iff_eq.mpr c17
      clear c17
      have H':=zq.mk H
      clear H
      obtain ⟨hcz18_0,hcz18_1,hcz18_2,hfz18_0,hfz18_1,hfz18_2⟩:=zr BK166.out
      go_wp2
      go_meet
      case rel=>exact⟨_,((a0_1 != 0)),vr,H',⟨by have:=HJ1.out;first|omega|exact Nat.le_refl _⟩,⟨by(with_reducible repeat(first|refine zn ?_ _|refine zt ?_|refine zy ?_ _));exact BK166.out⟩,⟨bw⟩⟩
     rw [if_neg c17] at H
     have c17b0:(a0_0 == 0)=false:=beq_eq_false_iff_ne.mpr c17
     have c17b1:(a0_0 != 0)=true:=bne_iff_ne.mpr c17
     have H':=zq.mk H
     clear H
     obtain ⟨hcz19_0,hcz19_1,hcz19_2,hfz19_0,hfz19_1,hfz19_2⟩:=zr BK166.out
     go_wp2
     go_meet
     case rel=>exact⟨_,((a0_1 != 0)),vr,H',⟨by have:=HJ1.out;first|omega|exact Nat.le_refl _⟩,⟨by(with_reducible repeat(first|refine zn ?_ _|refine zt ?_|refine zy ?_ _));exact BK166.out⟩,⟨bw⟩⟩
    rw [if_neg c16] at H
    have c16b0:(a0_0 == 3)=false:=beq_eq_false_iff_ne.mpr c16
    have c16b1:(a0_0 != 3)=true:=bne_iff_ne.mpr c16
    (first|rw [c16b0]|(simp only [zqw,zqx];rw [c16b0])|skip)
    by_cases c20:a0_2.toList=([]:List UInt8)
    ·rw [if_pos c20] at H
     have c20b0:(a0_2.toList == ([]:List UInt8))=true:=beq_iff_eq.mpr c20
     have c20b1:(a0_2.toList != ([]:List UInt8))=false:=bne_eq_false_iff_eq.mpr c20
     clear c20
     by_cases c21:a0_0=0
     ·rw [if_pos c21] at H
      have c21b0:(a0_0 == 0)=true:=beq_iff_eq.mpr c21
      have c21b1:(a0_0 != 0)=false:=bne_eq_false_iff_eq.mpr c21
      clear c21
      have H':=zq.mk H
      clear H
      obtain ⟨hcz22_0,hcz22_1,hcz22_2,hfz22_0,hfz22_1,hfz22_2⟩:=zr BK166.out
      go_wp2
      go_meet
      case rel=>exact⟨_,((a0_1 != 0)),vr,H',⟨by have:=HJ1.out;first|omega|exact Nat.le_refl _⟩,⟨by(with_reducible repeat(first|refine zn ?_ _|refine zt ?_|refine zy ?_ _));exact BK166.out⟩,⟨bw⟩⟩
     rw [if_neg c21] at H
     have c21b0:(a0_0 == 0)=false:=beq_eq_false_iff_ne.mpr c21
     have c21b1:(a0_0 != 0)=true:=bne_iff_ne.mpr c21
     have H':=zq.mk H
     clear H
     obtain ⟨hcz23_0,hcz23_1,hcz23_2,hfz23_0,hfz23_1,hfz23_2⟩:=zr BK166.out
     go_wp2
     go_meet
     case rel=>exact⟨_,(false),vr,H',⟨by have:=HJ1.out;first|omega|exact Nat.le_refl _⟩,⟨by(with_reducible repeat(first|refine zn ?_ _|refine zt ?_|refine zy ?_ _));exact BK166.out⟩,⟨bw⟩⟩
    rw [if_neg c20] at H
    have c20b0:(a0_2.toList == ([]:List UInt8))=false:=beq_eq_false_iff_ne.mpr c20
    have c20b1:(a0_2.toList != ([]:List UInt8))=true:=bne_iff_ne.mpr c20
    have H':=zq.mk H
    clear H
    obtain ⟨hcz24_0,hcz24_1,hcz24_2,hfz24_0,hfz24_1,hfz24_2⟩:=zr BK166.out
    go_wp2
    go_meet
    case rel=>exact⟨_,(true),vr,H',⟨by have:=HJ1.out;first|omega|exact Nat.le_refl _⟩,⟨by(with_reducible repeat(first|refine zn ?_ _|refine zt ?_|refine zy ?_ _));exact BK166.out⟩,⟨bw⟩⟩
   case rest=>
    clear HC14
    (try clear c11);(try clear c12);(try clear c12b0);(try clear c12b1);(try clear hcz15_0);(try clear hcz15_1);(try clear hcz15_2);(try clear hfz15_0);(try clear hfz15_1);(try clear hfz15_2)
    obtain ⟨kq,x47_13,rfl,HA,HJ13,BK166,HB⟩:=hcut
    cases kq with
    | zero=>exact absurd HA.out (by simp [zw.j1])
    | succ kj13=>
     have H:=HA.out
     clear HA
     simp only [zw.j1] at H
     by_cases c25:x47_13=true
     ·subst c25
      rw [if_pos rfl] at H
      obtain rfl:=Option.some.inj H
      go_wp2
      go_ret
      exact⟨by first|rfl|(simp [zk,zx] <;> rfl)|(simp [*,zk,zx] <;> rfl),bw⟩
     replace c25:=Bool.eq_false_iff.mpr c25
     subst c25
     rw [if_neg (show ¬ (false=true) by decide)] at H
     by_cases c26:a0_0=1
     ·rw [if_pos c26] at H
      have c26b0:(a0_0 == 1)=true:=beq_iff_eq.mpr c26
      have c26b1:(a0_0 != 1)=false:=bne_eq_false_iff_eq.mpr c26
      clear c26
      by_cases c27:a0_1=0
      ·rw [if_pos c27] at H
       have c27b0:(a0_1 == 0)=true:=beq_iff_eq.mpr c27
       have c27b1:(a0_1 != 0)=false:=bne_eq_false_iff_eq.mpr c27
       clear c27
       by_cases c28:a0_0=3
       ·rw [if_pos c28] at H
        have c28b0:(a0_0 == 3)=true:=beq_iff_eq.mpr c28
        have c28b1:(a0_0 != 3)=false:=bne_eq_false_iff_eq.mpr c28
        clear c28
        replace H:=Option.bind_eq_some_iff.mp H
        obtain ⟨t167,A290,H⟩:=H
        replace H:(if t167=true then(some 0) else (some 4))=some r:=H
        have A29:=zq.mk A290
        clear A290
        by_cases c30:t167=true
        ·subst c30
         rw [if_pos rfl] at H
         obtain rfl:=Option.some.inj H
         obtain ⟨hcz31_0,hcz31_1,hcz31_2,hfz31_0,hfz31_1,hfz31_2⟩:=zr BK166.out
         go_wp2_with (first|(go_at_call 67;(with_reducible refine(qg.calls kj13 a0_2 true _ A29.out).mono ?_);rintro e w' ⟨rfl,⟨nd,rfl⟩⟩))
         go_ret
         exact⟨by first|rfl|(simp [zk,zx] <;> rfl)|(simp [*,zk,zx] <;> rfl),bw⟩
        replace c30:=Bool.eq_false_iff.mpr c30
        subst c30
        rw [if_neg (show ¬ (false=true) by decide)] at H
        obtain rfl:=Option.some.inj H
        obtain ⟨hcz32_0,hcz32_1,hcz32_2,hfz32_0,hfz32_1,hfz32_2⟩:=zr BK166.out
        go_wp2_with (first|(go_at_call 67;(with_reducible refine(qg.calls kj13 a0_2 false _ A29.out).mono ?_);rintro e w' ⟨rfl,⟨nd,rfl⟩⟩))
        go_ret
        exact⟨by first|rfl|(simp [zk,zx] <;> rfl)|(simp [*,zk,zx] <;> rfl),bw⟩
       rw [if_neg c28] at H
       have c28b0:(a0_0 == 3)=false:=beq_eq_false_iff_ne.mpr c28
       have c28b1:(a0_0 != 3)=true:=bne_iff_ne.mpr c28
       obtain rfl:=Option.some.inj H
       obtain ⟨hcz33_0,hcz33_1,hcz33_2,hfz33_0,hfz33_1,hfz33_2⟩:=zr BK166.out
       go_wp2
       go_ret
       exact⟨by first|rfl|(simp [zk,zx] <;> rfl)|(simp [*,zk,zx] <;> rfl),bw⟩
      rw [if_neg c27] at H
      have c27b0:(a0_1 == 0)=false:=beq_eq_false_iff_ne.mpr c27
      have c27b1:(a0_1 != 0)=true:=bne_iff_ne.mpr c27
      by_cases c34:a0_1=1
      ·rw [if_pos c34] at H
       have c34b0:(a0_1 == 1)=true:=beq_iff_eq.mpr c34
       have c34b1:(a0_1 != 1)=false:=bne_eq_false_iff_eq.mpr c34
       clear c34
       by_cases c35:a0_0=3
       ·rw [if_pos c35] at H
        have c35b0:(a0_0 == 3)=true:=beq_iff_eq.mpr c35
        have c35b1:(a0_0 != 3)=false:=bne_eq_false_iff_eq.mpr c35
        clear c35
        replace H:=Option.bind_eq_some_iff.mp H
        obtain ⟨t168,A360,H⟩:=H
        replace H:(if t168=true then(some 0) else (some 4))=some r:=H
        have A36:=zq.mk A360
        clear A360
        by_cases c37:t168=true
        ·subst c37
         rw [if_pos rfl] at H
         obtain rfl:=Option.some.inj H
         obtain ⟨hcz38_0,hcz38_1,hcz38_2,hfz38_0,hfz38_1,hfz38_2⟩:=zr BK166.out
         go_wp2_with (first|(go_at_call 67;(with_reducible refine(qg.calls kj13 a0_2 true _ A36.out).mono ?_);rintro e w' ⟨rfl,⟨nd,rfl⟩⟩))
         go_ret
         exact⟨by first|rfl|(simp [zk,zx] <;> rfl)|(simp [*,zk,zx] <;> rfl),bw⟩
        replace c37:=Bool.eq_false_iff.mpr c37
        subst c37
        rw [if_neg (show ¬ (false=true) by decide)] at H
        obtain rfl:=Option.some.inj H
        obtain ⟨hcz39_0,hcz39_1,hcz39_2,hfz39_0,hfz39_1,hfz39_2⟩:=zr BK166.out
        go_wp2_with (first|(go_at_call 67;(with_reducible refine(qg.calls kj13 a0_2 false _ A36.out).mono ?_);rintro e w' ⟨rfl,⟨nd,rfl⟩⟩))
        go_ret
        exact⟨by first|rfl|(simp [zk,zx] <;> rfl)|(simp [*,zk,zx] <;> rfl),bw⟩
       rw [if_neg c35] at H
       have c35b0:(a0_0 == 3)=false:=beq_eq_false_iff_ne.mpr c35
       have c35b1:(a0_0 != 3)=true:=bne_iff_ne.mpr c35
       obtain rfl:=Option.some.inj H
       obtain ⟨hcz40_0,hcz40_1,hcz40_2,hfz40_0,hfz40_1,hfz40_2⟩:=zr BK166.out
       go_wp2
       go_ret
       exact⟨by first|rfl|(simp [zk,zx] <;> rfl)|(simp [*,zk,zx] <;> rfl),bw⟩
      rw [if_neg c34] at H
      have c34b0:(a0_1 == 1)=false:=beq_eq_false_iff_ne.mpr c34
      have c34b1:(a0_1 != 1)=true:=bne_iff_ne.mpr c34
      obtain rfl:=Option.some.inj H
      obtain ⟨hcz41_0,hcz41_1,hcz41_2,hfz41_0,hfz41_1,hfz41_2⟩:=zr BK166.out
      go_wp2
      go_ret
      exact⟨by first|rfl|(simp [zk,zx] <;> rfl)|(simp [*,zk,zx] <;> rfl),bw⟩
     rw [if_neg c26] at H
     have c26b0:(a0_0 == 1)=false:=beq_eq_false_iff_ne.mpr c26
     have c26b1:(a0_0 != 1)=true:=bne_iff_ne.mpr c26
     by_cases c42:a0_0=3
     ·rw [if_pos c42] at H
      have c42b0:(a0_0 == 3)=true:=beq_iff_eq.mpr c42
      have c42b1:(a0_0 != 3)=false:=bne_eq_false_iff_eq.mpr c42
      clear c42
      replace H:=Option.bind_eq_some_iff.mp H
      obtain ⟨t169,A430,H⟩:=H
      replace H:(if t169=true then(some 0) else (some 4))=some r:=H
      have A43:=zq.mk A430
      clear A430
      by_cases c44:t169=true
      ·subst c44
       rw [if_pos rfl] at H
       obtain rfl:=Option.some.inj H
       obtain ⟨hcz45_0,hcz45_1,hcz45_2,hfz45_0,hfz45_1,hfz45_2⟩:=zr BK166.out
       go_wp2_with (first|(go_at_call 67;(with_reducible refine(qg.calls kj13 a0_2 true _ A43.out).mono ?_);rintro e w' ⟨rfl,⟨nd,rfl⟩⟩))
       go_ret
       exact⟨by first|rfl|(simp [zk,zx] <;> rfl)|(simp [*,zk,zx] <;> rfl),bw⟩
      replace c44:=Bool.eq_false_iff.mpr c44
      subst c44
      rw [if_neg (show ¬ (false=true) by decide)] at H
      obtain rfl:=Option.some.inj H
      obtain ⟨hcz46_0,hcz46_1,hcz46_2,hfz46_0,hfz46_1,hfz46_2⟩:=zr BK166.out
      go_wp2_with (first|(go_at_call 67;(with_reducible refine(qg.calls kj13 a0_2 false _ A43.out).mono ?_);rintro e w' ⟨rfl,⟨nd,rfl⟩⟩))
      go_ret
      exact⟨by first|rfl|(simp [zk,zx] <;> rfl)|(simp [*,zk,zx] <;> rfl),bw⟩
     rw [if_neg c42] at H
     have c42b0:(a0_0 == 3)=false:=beq_eq_false_iff_ne.mpr c42
     have c42b1:(a0_0 != 3)=true:=bne_iff_ne.mpr c42
     obtain rfl:=Option.some.inj H
     obtain ⟨hcz47_0,hcz47_1,hcz47_2,hfz47_0,hfz47_1,hfz47_2⟩:=zr BK166.out
     go_wp2
     go_ret
     exact⟨by first|rfl|(simp [zk,zx] <;> rfl)|(simp [*,zk,zx] <;> rfl),bw⟩

/-! ### qk: function 33 -/
def qk.l0:Nat→List (S30)→Int→Int→Option (Int)
 | 0,_,_,_=>none
 | k+1,x6,x7,x8=>if x8<x7 then(if 0≤x8 then(if x8<(x6.length:Int) then((zw.f k ((zqh x6 x8).f0) ((zqh x6 x8).f1) ((zqh x6 x8).f2)).bind fun t172=>(if t172=0 then(qk.l0 k x6 x7 (wrap64 (x8+1))) else (some t172))) else (none)) else (none)) else (some 0)
def qk.f (k:Nat) (l0:List (S30)):Option (Int):=qk.l0 k l0 (l0.length:Int) 0
theorem qk.mono_l:∀ k,(∀ y0 y1 y2,LeO (qk.l0 k y0 y1 y2) (qk.l0 (k+1) y0 y1 y2))
 | 0=>fun _ _ _ r h=>by simp [qk.l0] at h
 | k+1=>by
  have ih0:=qk.mono_l k
  intro y0 y1 y2
  unfold qk.l0
  repeat' first
  | (with_reducible first|exact ih0 _ _ _|exact zw.mono _ _ _ _|exact LeO.refl _|exact LeO.none _|refine LeO.ite ?_ ?_|refine LeO.bind ?_ (fun _=>?_))
  | exact ih0 _ _ _
  | exact zw.mono _ _ _ _
  | exact LeO.none _
  | refine LeO.ite ?_ ?_
  | refine LeO.bind ?_ (fun _=>?_)
theorem qk.mono:∀ a0 k,LeO (qk.f k a0) (qk.f (k+1) a0):=by
 intro a0 k
 have ih0:=qk.mono_l k
 unfold qk.f
 repeat' first
   | (with_reducible first|exact ih0 _ _ _|exact zw.mono _ _ _ _|exact LeO.refl _|exact LeO.none _|refine LeO.ite ?_ ?_|refine LeO.bind ?_ (fun _=>?_))
   | exact ih0 _ _ _
   | exact zw.mono _ _ _ _
   | exact LeO.none _
   | refine LeO.ite ?_ ?_
   | refine LeO.bind ?_ (fun _=>?_)
set_option maxHeartbeats 8000000 in
set_option maxRecDepth 100000 in
theorem qk.calls (k:Nat) (A0:Option Addr) (c0:Nat) (l0:List (S30)) (r:Int) (w:World) (hr0:Kd.C k30 w A0 l0.length l0) (hc0:l0.length≤c0) (h:qk.f k l0=some r) :
  Calls Tryd.prog 33 #[.slice A0 l0.length c0] w fun e w'=>e = .returned (.int .i64 r)∧Below w.heap.size w w':=by
 have hu30:=Tryd.underlying30
 have HR0:=zq.mk hr0
 have HC0:=zq.mk hc0
 clear hr0 hc0
 have HB:=zq.mk (Below.refl w.heap.size w)
 have H:(qk.l0 k l0 (l0.length:Int) 0)=some r:=h
 clear h
 have H':=zq.mk H
 clear H
 go_enter Tryd.func33,Tryd.ntmps33
 go_wp2
 go_loopg [8] k (fun kq v8 w' => ∃ (x8_1:Int),v8 = .int .i64 x8_1∧zq (qk.l0 kq l0 (l0.length:Int) x8_1=some r)∧zq (kq≤k)∧zq (Below w.heap.size w w'))
 case atStart=>exact⟨(0),vr,H',⟨Nat.le_refl _⟩,⟨bw⟩⟩
 case round=>
  clear H'
  obtain ⟨x8_1,rfl,HA,HK1,HB⟩:=hrel
  cases gk with
  | zero=>exact absurd HA.out (by simp [qk.l0])
  | succ k1=>
   have H:=HA.out
   clear HA
   simp only [qk.l0] at H
   by_cases c2:x8_1<(l0.length:Int)
   ·rw [if_pos c2] at H
    have c2b0:=decide_eq_true c2
    clear c2
    by_cases c3:0≤x8_1
    ·rw [if_pos c3] at H
     have c3b0:=decide_eq_true c3
     clear c3
     by_cases c4:x8_1<(l0.length:Int)
     ·rw [if_pos c4] at H
      have c4b0:=decide_eq_true c4
      clear c4
      replace H:=Option.bind_eq_some_iff.mp H
      obtain ⟨t172,A50,H⟩:=H
      replace H:(if t172=0 then(qk.l0 k1 l0 (l0.length:Int) (wrap64 (x8_1+1))) else (some t172))=some r:=H
      have A5:=zq.mk A50
      clear A50
      by_cases c6:t172=0
      ·rw [if_pos c6] at H
       have c6b0:(t172 == 0)=true:=beq_iff_eq.mpr c6
       have c6b1:(t172 != 0)=false:=bne_eq_false_iff_eq.mpr c6
       clear c6
       have H':=zq.mk H
       clear H
       have p170:0≤(x8_1:Int):=dt
       have q170:x8_1<(l0.length:Int):=dt
       obtain ⟨ad170,e170,hx170_0,hx170_1,hx170_2⟩:=zxn HR0.out x8_1 p170 q170
       cases e170
       replace hx170_0:=(HB.out.cell (World.block_lt_of_cell? w _ hx170_0)).trans hx170_0
       replace hx170_1:=(HB.out.cell (World.block_lt_of_cell? w _ hx170_1)).trans hx170_1
       replace hx170_2:=(HB.out.cell (World.block_lt_of_cell? w _ hx170_2)).trans hx170_2
       replace p170:=eq_true p170
       replace q170:=eq_true q170
       go_wp2_with (first|((with_reducible refine ql (N:=4) rfl ?_);refine qh ?hg (N:=4) ?hd (cs:=#[.int .i64 0,.int .i64 0,.string (⟨#[]⟩:ByteArray)]) (t:=30) ?hr ?_;(case hd=>rfl);(case hg=>rfl);(case hr=>first|(go_simp;done)|(go_simp;rfl));intro gb171 hg w7 hbox hb;have BK171:=zq.mk (hbox);have GW171:=zq.mk ((by rw [hg];exact(zv bw):w.heap.size≤gb171));have GE171:=zq.mk ((by rw [hg];exact(zv bw):w.heap.size≤gb171));replace HB:=zq.mk (zb bw hb);clear hb hbox hg;obtain ⟨hcz8_0,hcz8_1,hcz8_2,hfz8_0,hfz8_1,hfz8_2⟩:=zr BK171.out)|((with_reducible refine zs (f:=49) rfl ?_);refine qo (some 13) rfl rfl Tryd.func49 (by kernel_rfl) rfl #[.agg #[.int .i64 ((zqh l0 x8_1).f0),.int .i64 ((zqh l0 x8_1).f1),.string ((zqh l0 x8_1).f2)]] rfl gs ?_;(with_reducible refine(zw.calls k1 ((zqh l0 x8_1).f0) ((zqh l0 x8_1).f1) ((zqh l0 x8_1).f2) t172 _ A5.out).mono ?_);rintro e w9 ⟨rfl,hb⟩;refine⟨_,rfl,?_⟩;replace BK171:=zq.mk (zf (g:=gb171) (o:=.cells #[.int .i64 ((zqh l0 x8_1).f0),.int .i64 ((zqh l0 x8_1).f1),.string ((zqh l0 x8_1).f2)] 30 (0,0)) (by(with_reducible repeat(first|refine zn ?_ _|refine zt ?_|refine zy ?_ _));refine zl (cs:=#[.int .i64 ((zqh l0 x8_1).f0),.int .i64 ((zqh l0 x8_1).f1),.string (⟨#[]⟩:ByteArray)]) ?_ 2 _ rfl;(with_reducible repeat(first|refine zn ?_ _|refine zt ?_|refine zy ?_ _));refine zl (cs:=#[.int .i64 ((zqh l0 x8_1).f0),.int .i64 0,.string (⟨#[]⟩:ByteArray)]) ?_ 1 _ rfl;(with_reducible repeat(first|refine zn ?_ _|refine zt ?_|refine zy ?_ _));refine zl (cs:=#[.int .i64 0,.int .i64 0,.string (⟨#[]⟩:ByteArray)]) ?_ 0 _ rfl;(with_reducible repeat(first|refine zn ?_ _|refine zt ?_|refine zy ?_ _));exact BK171.out) hb);replace HB:=zq.mk (zb bw hb);(try clear hb);(try clear hb2);(try clear hk);(try clear hi)))
       go_roundg k1
       case measure=>have:=HK1.out;omega
       case rel=>exact⟨(wrap64 (x8_1+1)),vr,H',⟨by have:=HK1.out;omega⟩,⟨bw⟩⟩
      rw [if_neg c6] at H
      have c6b0:(t172 == 0)=false:=beq_eq_false_iff_ne.mpr c6
      have c6b1:(t172 != 0)=true:=bne_iff_ne.mpr c6
      obtain rfl:=Option.some.inj H
      have p170:0≤(x8_1:Int):=dt
      have q170:x8_1<(l0.length:Int):=dt
      obtain ⟨ad170,e170,hx170_0,hx170_1,hx170_2⟩:=zxn HR0.out x8_1 p170 q170
      cases e170
      replace hx170_0:=(HB.out.cell (World.block_lt_of_cell? w _ hx170_0)).trans hx170_0
      replace hx170_1:=(HB.out.cell (World.block_lt_of_cell? w _ hx170_1)).trans hx170_1
      replace hx170_2:=(HB.out.cell (World.block_lt_of_cell? w _ hx170_2)).trans hx170_2
      replace p170:=eq_true p170
      replace q170:=eq_true q170
      go_wp2_with (first|((with_reducible refine ql (N:=4) rfl ?_);refine qh ?hg (N:=4) ?hd (cs:=#[.int .i64 0,.int .i64 0,.string (⟨#[]⟩:ByteArray)]) (t:=30) ?hr ?_;(case hd=>rfl);(case hg=>rfl);(case hr=>first|(go_simp;done)|(go_simp;rfl));intro gb171 hg w10 hbox hb;have BK171:=zq.mk (hbox);have GW171:=zq.mk ((by rw [hg];exact(zv bw):w.heap.size≤gb171));have GE171:=zq.mk ((by rw [hg];exact(zv bw):w.heap.size≤gb171));replace HB:=zq.mk (zb bw hb);clear hb hbox hg;obtain ⟨hcz11_0,hcz11_1,hcz11_2,hfz11_0,hfz11_1,hfz11_2⟩:=zr BK171.out)|((with_reducible refine zs (f:=49) rfl ?_);refine qo (some 13) rfl rfl Tryd.func49 (by kernel_rfl) rfl #[.agg #[.int .i64 ((zqh l0 x8_1).f0),.int .i64 ((zqh l0 x8_1).f1),.string ((zqh l0 x8_1).f2)]] rfl gs ?_;(with_reducible refine(zw.calls k1 ((zqh l0 x8_1).f0) ((zqh l0 x8_1).f1) ((zqh l0 x8_1).f2) t172 _ A5.out).mono ?_);rintro e w12 ⟨rfl,hb⟩;refine⟨_,rfl,?_⟩;replace BK171:=zq.mk (zf (g:=gb171) (o:=.cells #[.int .i64 ((zqh l0 x8_1).f0),.int .i64 ((zqh l0 x8_1).f1),.string ((zqh l0 x8_1).f2)] 30 (0,0)) (by(with_reducible repeat(first|refine zn ?_ _|refine zt ?_|refine zy ?_ _));refine zl (cs:=#[.int .i64 ((zqh l0 x8_1).f0),.int .i64 ((zqh l0 x8_1).f1),.string (⟨#[]⟩:ByteArray)]) ?_ 2 _ rfl;(with_reducible repeat(first|refine zn ?_ _|refine zt ?_|refine zy ?_ _));refine zl (cs:=#[.int .i64 ((zqh l0 x8_1).f0),.int .i64 0,.string (⟨#[]⟩:ByteArray)]) ?_ 1 _ rfl;(with_reducible repeat(first|refine zn ?_ _|refine zt ?_|refine zy ?_ _));refine zl (cs:=#[.int .i64 0,.int .i64 0,.string (⟨#[]⟩:ByteArray)]) ?_ 0 _ rfl;(with_reducible repeat(first|refine zn ?_ _|refine zt ?_|refine zy ?_ _));exact BK171.out) hb);replace HB:=zq.mk (zb bw hb);(try clear hb);(try clear hb2);(try clear hk);(try clear hi)))
      go_ret
      exact⟨by first|rfl|(simp [zk,zx] <;> rfl)|(simp [*,zk,zx] <;> rfl),bw⟩
     rw [if_neg c4] at H
     exact absurd H (by simp)
    rw [if_neg c3] at H
    exact absurd H (by simp)
   rw [if_neg c2] at H
   have c2b0:=decide_eq_false c2
   clear c2
   obtain rfl:=Option.some.inj H
   go_wp2
   go_ret
   exact⟨by first|rfl|(simp [zk,zx] <;> rfl)|(simp [*,zk,zx] <;> rfl),bw⟩

end Go.Proofs.YtmfpaeajibeikaaDoor.PEvalHolds
