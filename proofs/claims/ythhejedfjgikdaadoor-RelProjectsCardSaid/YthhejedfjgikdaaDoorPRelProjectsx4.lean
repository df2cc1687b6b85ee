-- Written by wip/pp of this repo (over the kit's print, with additions of this session); Lean checks every line.
import Derived.Test.YthhejedfjgikdaaDoorPRelProjectsx2
namespace Go.Proofs.YthhejedfjgikdaaDoor.PRelProjects
open Go.RowKit Go.Proofs.YthhejedfjgikdaaDoorW.PrintWords Go.Proofs.YthhejedfjgikdaaDoorW.PrintLast Go.Proofs.YthhejedfjgikdaaDoorW.PrintMore
attribute [local go_sem] zjh zjf zjq zjp zq4 zq3 zjg zje   -- for this text's walks alone
set_option linter.unusedVariables false
set_option linter.unusedSimpArgs false

/-! ### zqp: function 132 -/
def zqp.j0:Nat→Int→Int→Bool→Option (Int × Int × ByteArray × Int)
 | 0,_,_,_=>none
 | k+1,x0,x4,x5=>if x5=true then(some (1,wrap64 (Int.tdiv x0 2),(⟨#[]⟩:ByteArray),0)) else (if x4=1 then(some (0,0,(⟨#[]⟩:ByteArray),0)) else (some (0,0,(⟨#[]⟩:ByteArray),2)))
def zqp.f (k:Nat) (a0:Int):Option (Int × Int × ByteArray × Int):=if a0=0 then(zqp.j0 k a0 a0 (a0 == 0)) else (zqp.j0 k a0 a0 (a0 == 2))
theorem zqp.mono_l:∀ k,(∀ y0 y1 y2,LeO (zqp.j0 k y0 y1 y2) (zqp.j0 (k+1) y0 y1 y2))
 | 0=>fun _ _ _ r h=>by simp [zqp.j0] at h
 | k+1=>by
  have ih0:=zqp.mono_l k
  intro y0 y1 y2
  unfold zqp.j0
  repeat' first
  | (with_reducible first|exact ih0 _ _ _|exact LeO.refl _|exact LeO.none _|refine LeO.ite ?_ ?_|refine LeO.bind ?_ (fun _=>?_))
  | exact ih0 _ _ _
  | exact LeO.none _
  | refine LeO.ite ?_ ?_
  | refine LeO.bind ?_ (fun _=>?_)
theorem zqp.mono:∀ a0 k,LeO (zqp.f k a0) (zqp.f (k+1) a0):=by
 intro a0 k
 have ih0:=zqp.mono_l k
 unfold zqp.f
 repeat' first
   | (with_reducible first|exact ih0 _ _ _|exact LeO.refl _|exact LeO.none _|refine LeO.ite ?_ ?_|refine LeO.bind ?_ (fun _=>?_))
   | exact ih0 _ _ _
   | exact LeO.none _
   | refine LeO.ite ?_ ?_
   | refine LeO.bind ?_ (fun _=>?_)
set_option maxHeartbeats 8000000 in
set_option maxRecDepth 100000 in
theorem zqp.calls (k:Nat) (a0:Int) (r1:Int) (r2:Int) (r3:ByteArray) (r4:Int) (w:World) (h:zqp.f k a0=some (r1,r2,r3,r4)) :
  Calls Tryd.prog 132 #[.int .i64 a0] w fun e w'=>e = .returned (.tuple #[.agg #[.int .i64 r1,.int .i64 r2,.string r3],.int .i64 r4])∧Below w.heap.size w w':=by
 have hu38:=Tryd.underlying38
 have HB:=zq.mk (Below.refl w.heap.size w)
 have H:(if a0=0 then(zqp.j0 k a0 a0 (a0 == 0)) else (zqp.j0 k a0 a0 (a0 == 2)))=some (r1,r2,r3,r4):=h
 clear h
 have HC2:=zq.mk H
 clear H
 go_enter Tryd.func132,Tryd.ntmps132
 go_upto_if 5 with (first|((with_reducible refine qo (N:=2) rfl ?_);refine qd ?hg (N:=2) ?hd (cs:=#[.int .i64 0,.int .i64 0,.string (⟨#[]⟩:ByteArray)]) (t:=38) ?hr ?_;(case hd=>rfl);(case hg=>rfl);(case hr=>first|(go_simp;done)|(go_simp;rfl));intro gb116 hg w3 hbox hb;have BK116:=zq.mk (hbox);have GW116:=zq.mk ((by rw [hg];exact(zy bw):w.heap.size≤gb116));have GE116:=zq.mk ((by rw [hg];exact(zy bw):w.heap.size≤gb116));replace HB:=zq.mk (zt bw hb);clear hb hbox hg))
 (try simp only [Act.put,List.setIfInBounds_toArray,List.set_cons_zero,List.set_cons_succ])
 go_cut [5] (fun v5 wc => ∃ (kq:Nat) (x5_1:Bool),v5 = .bool x5_1∧zq (zqp.j0 kq a0 a0 x5_1=some (r1,r2,r3,r4))∧zq (kq≤k)∧zq (wc.heap[gb116]? = some (.cells #[.int .i64 0,.int .i64 0,.string (⟨#[]⟩:ByteArray)] 38 (0,0)))∧zq (Below w.heap.size w wc))
 case first=>
  have H:=HC2.out
  clear HC2
  by_cases c4:a0=0
  ·rw [if_pos c4] at H
   have c4b0:(a0 == 0)=true:=beq_iff_eq.mpr c4
   have c4b1:(a0 != 0)=false:=bne_eq_false_iff_eq.mpr c4
   clear c4
   (first|rw [c4b0]|(simp only [zjs,zjt];rw [c4b0])|skip)
   have H':=zq.mk H
   clear H
   go_wp2
   go_meet
   case rel=>exact⟨_,((a0 == 0)),vr,H',⟨by first|omega|exact Nat.le_refl _⟩,⟨by(with_reducible repeat(first|refine zh ?_ _|refine zc ?_|refine zv ?_ _));exact BK116.out⟩,⟨bw⟩⟩
  rw [if_neg c4] at H
  have c4b0:(a0 == 0)=false:=beq_eq_false_iff_ne.mpr c4
  have c4b1:(a0 != 0)=true:=bne_iff_ne.mpr c4
  (first|rw [c4b0]|(simp only [zjs,zjt];rw [c4b0])|skip)
  have H':=zq.mk H
  clear H
  go_wp2
  go_meet
  case rel=>exact⟨_,((a0 == 2)),vr,H',⟨by first|omega|exact Nat.le_refl _⟩,⟨by(with_reducible repeat(first|refine zh ?_ _|refine zc ?_|refine zv ?_ _));exact BK116.out⟩,⟨bw⟩⟩
 case rest=>
  clear HC2
  obtain ⟨kq,x5_1,rfl,HA,HJ1,BK116,HB⟩:=hcut
  cases kq with
  | zero=>exact absurd HA.out (by simp [zqp.j0])
  | succ kj1=>
   have H:=HA.out
   clear HA
   simp only [zqp.j0] at H
   by_cases c5:x5_1=true
   ·subst c5
    rw [if_pos rfl] at H
    simp only [Option.some.injEq,Prod.mk.injEq] at H
    obtain ⟨rfl,rfl,rfl,rfl⟩:=H
    obtain ⟨hcz6_0,hcz6_1,hcz6_2,hfz6_0,hfz6_1,hfz6_2⟩:=zb BK116.out
    go_wp2
    refine bodyPost_ret (zqx rfl _ _ gb116 38 #[.int .i64 1,.int .i64 (wrap64 (Int.tdiv a0 2)),.string (⟨#[]⟩:ByteArray)] (0,0) _ rfl (by(with_reducible repeat(first|refine zh ?_ _|refine zc ?_|refine zv ?_ _));refine zr (cs:=#[.int .i64 1,.int .i64 (wrap64 (Int.tdiv a0 2)),.string (⟨#[]⟩:ByteArray)]) ?_ 2 _ rfl;(with_reducible repeat(first|refine zh ?_ _|refine zc ?_|refine zv ?_ _));refine zr (cs:=#[.int .i64 1,.int .i64 0,.string (⟨#[]⟩:ByteArray)]) ?_ 1 _ rfl;(with_reducible repeat(first|refine zh ?_ _|refine zc ?_|refine zv ?_ _));refine zr (cs:=#[.int .i64 0,.int .i64 0,.string (⟨#[]⟩:ByteArray)]) ?_ 0 _ rfl;(with_reducible repeat(first|refine zh ?_ _|refine zc ?_|refine zv ?_ _));exact BK116.out) Tryd.underlying38 rfl (by kernel_rfl)) rfl ?_
    exact⟨by first|rfl|(simp [zx,zj] <;> rfl)|(simp [*,zx,zj] <;> rfl),bw⟩
   replace c5:=Bool.eq_false_iff.mpr c5
   subst c5
   rw [if_neg (show ¬ (false=true) by decide)] at H
   by_cases c7:a0=1
   ·rw [if_pos c7] at H
    have c7b0:(a0 == 1)=true:=beq_iff_eq.mpr c7
    have c7b1:(a0 != 1)=false:=bne_eq_false_iff_eq.mpr c7
    clear c7
    simp only [Option.some.injEq,Prod.mk.injEq] at H
    obtain ⟨rfl,rfl,rfl,rfl⟩:=H
    obtain ⟨hcz8_0,hcz8_1,hcz8_2,hfz8_0,hfz8_1,hfz8_2⟩:=zb BK116.out
    go_wp2
    refine bodyPost_ret (zqx rfl _ _ gb116 38 #[.int .i64 0,.int .i64 0,.string (⟨#[]⟩:ByteArray)] (0,0) _ rfl (by(with_reducible repeat(first|refine zh ?_ _|refine zc ?_|refine zv ?_ _));refine zr (cs:=#[.int .i64 0,.int .i64 0,.string (⟨#[]⟩:ByteArray)]) ?_ 2 _ rfl;(with_reducible repeat(first|refine zh ?_ _|refine zc ?_|refine zv ?_ _));refine zr (cs:=#[.int .i64 0,.int .i64 0,.string (⟨#[]⟩:ByteArray)]) ?_ 1 _ rfl;(with_reducible repeat(first|refine zh ?_ _|refine zc ?_|refine zv ?_ _));refine zr (cs:=#[.int .i64 0,.int .i64 0,.string (⟨#[]⟩:ByteArray)]) ?_ 0 _ rfl;(with_reducible repeat(first|refine zh ?_ _|refine zc ?_|refine zv ?_ _));exact BK116.out) Tryd.underlying38 rfl (by kernel_rfl)) rfl ?_
    exact⟨by first|rfl|(simp [zx,zj] <;> rfl)|(simp [*,zx,zj] <;> rfl),bw⟩
   rw [if_neg c7] at H
   have c7b0:(a0 == 1)=false:=beq_eq_false_iff_ne.mpr c7
   have c7b1:(a0 != 1)=true:=bne_iff_ne.mpr c7
   simp only [Option.some.injEq,Prod.mk.injEq] at H
   obtain ⟨rfl,rfl,rfl,rfl⟩:=H
   obtain ⟨hcz9_0,hcz9_1,hcz9_2,hfz9_0,hfz9_1,hfz9_2⟩:=zb BK116.out
   go_wp2
   refine bodyPost_ret (zqx rfl _ _ gb116 38 #[.int .i64 0,.int .i64 0,.string (⟨#[]⟩:ByteArray)] (0,0) _ rfl (by(with_reducible repeat(first|refine zh ?_ _|refine zc ?_|refine zv ?_ _));refine zr (cs:=#[.int .i64 0,.int .i64 0,.string (⟨#[]⟩:ByteArray)]) ?_ 2 _ rfl;(with_reducible repeat(first|refine zh ?_ _|refine zc ?_|refine zv ?_ _));refine zr (cs:=#[.int .i64 0,.int .i64 0,.string (⟨#[]⟩:ByteArray)]) ?_ 1 _ rfl;(with_reducible repeat(first|refine zh ?_ _|refine zc ?_|refine zv ?_ _));refine zr (cs:=#[.int .i64 0,.int .i64 0,.string (⟨#[]⟩:ByteArray)]) ?_ 0 _ rfl;(with_reducible repeat(first|refine zh ?_ _|refine zc ?_|refine zv ?_ _));exact BK116.out) Tryd.underlying38 rfl (by kernel_rfl)) rfl ?_
   exact⟨by first|rfl|(simp [zx,zj] <;> rfl)|(simp [*,zx,zj] <;> rfl),bw⟩

/-! ### zqz: function 133 -/
def zqz.f (k:Nat) (a0:Int) (a1:Int):Option (Int × Int × ByteArray × Int):=if a1=0 then((zqp.f k a0).bind fun bt118=>(some (bt118.1,bt118.2.1,bt118.2.2.1,bt118.2.2.2))) else (some (0,0,(⟨#[]⟩:ByteArray),a1))
theorem zqz.mono:∀ a0 a1 k,LeO (zqz.f k a0 a1) (zqz.f (k+1) a0 a1):=by
 intro a0 a1 k
 unfold zqz.f
 repeat' first
   | (with_reducible first|exact zqp.mono _ _|exact LeO.refl _|exact LeO.none _|refine LeO.ite ?_ ?_|refine LeO.bind ?_ (fun _=>?_))
   | exact zqp.mono _ _
   | exact LeO.none _
   | refine LeO.ite ?_ ?_
   | refine LeO.bind ?_ (fun _=>?_)
set_option maxHeartbeats 8000000 in
set_option maxRecDepth 100000 in
theorem zqz.calls (k:Nat) (a0:Int) (a1:Int) (r1:Int) (r2:Int) (r3:ByteArray) (r4:Int) (w:World) (h:zqz.f k a0 a1=some (r1,r2,r3,r4)) :
  Calls Tryd.prog 133 #[.int .i64 a0,.int .i64 a1] w fun e w'=>e = .returned (.tuple #[.agg #[.int .i64 r1,.int .i64 r2,.string r3],.int .i64 r4])∧Below w.heap.size w w':=by
 have hu38:=Tryd.underlying38
 have HB:=zq.mk (Below.refl w.heap.size w)
 have H:(if a1=0 then((zqp.f k a0).bind fun bt118=>(some (bt118.1,bt118.2.1,bt118.2.2.1,bt118.2.2.2))) else (some (0,0,(⟨#[]⟩:ByteArray),a1)))=some (r1,r2,r3,r4):=h
 clear h
 by_cases c3:a1=0
 ·rw [if_pos c3] at H
  have c3b0:(a1 == 0)=true:=beq_iff_eq.mpr c3
  have c3b1:(a1 != 0)=false:=bne_eq_false_iff_eq.mpr c3
  clear c3
  replace H:=Option.bind_eq_some_iff.mp H
  obtain ⟨⟨t118,t119,t120,t121⟩,A40,H⟩:=H
  replace H:(some (t118,t119,t120,t121))=some (r1,r2,r3,r4):=H
  have A4:=zq.mk A40
  clear A40
  simp only [Option.some.injEq,Prod.mk.injEq] at H
  obtain ⟨rfl,rfl,rfl,rfl⟩:=H
  go_enter Tryd.func133,Tryd.ntmps133
  go_wp2_with (first|((with_reducible refine qo (N:=4) rfl ?_);refine qd ?hg (N:=4) ?hd (cs:=#[.int .i64 0,.int .i64 0,.string (⟨#[]⟩:ByteArray)]) (t:=38) ?hr ?_;(case hd=>rfl);(case hg=>rfl);(case hr=>first|(go_simp;done)|(go_simp;rfl));intro gb117 hg w5 hbox hb;have BK117:=zq.mk (hbox);have GW117:=zq.mk ((by rw [hg];exact(zy bw):w.heap.size≤gb117));have GE117:=zq.mk ((by rw [hg];exact(zy bw):w.heap.size≤gb117));replace HB:=zq.mk (zt bw hb);clear hb hbox hg)|((with_reducible refine zl (f:=132) rfl ?_);refine qu (some 11) rfl rfl Tryd.func132 (by kernel_rfl) rfl #[.int .i64 a0] rfl gs ?_;(with_reducible refine(zqp.calls k a0 t118 t119 t120 t121 _ A4.out).mono ?_);rintro e w6 ⟨rfl,hb⟩;refine⟨_,rfl,?_⟩;replace BK117:=zq.mk (za (g:=gb117) (o:=.cells #[.int .i64 0,.int .i64 0,.string (⟨#[]⟩:ByteArray)] 38 (0,0)) (up BK117.out) hb);replace HB:=zq.mk (zt bw hb);(try clear hb);(try clear hb2);(try clear hk);(try clear hi);obtain ⟨hcz7_0,hcz7_1,hcz7_2,hfz7_0,hfz7_1,hfz7_2⟩:=zb BK117.out))
  refine bodyPost_ret (zqx rfl _ _ gb117 38 #[.int .i64 t118,.int .i64 t119,.string t120] (0,0) _ rfl (by(with_reducible repeat(first|refine zh ?_ _|refine zc ?_|refine zv ?_ _));refine zr (cs:=#[.int .i64 t118,.int .i64 t119,.string (⟨#[]⟩:ByteArray)]) ?_ 2 _ rfl;(with_reducible repeat(first|refine zh ?_ _|refine zc ?_|refine zv ?_ _));refine zr (cs:=#[.int .i64 t118,.int .i64 0,.string (⟨#[]⟩:ByteArray)]) ?_ 1 _ rfl;(with_reducible repeat(first|refine zh ?_ _|refine zc ?_|refine zv ?_ _));refine zr (cs:=#[.int .i64 0,.int .i64 0,.string (⟨#[]⟩:ByteArray)]) ?_ 0 _ rfl;(with_reducible repeat(first|refine zh ?_ _|refine zc ?_|refine zv ?_ _));exact BK117.out) Tryd.underlying38 rfl (by kernel_rfl)) rfl ?_
  exact⟨by first|rfl|(simp [zx,zj] <;> rfl)|(simp [*,zx,zj] <;> rfl),bw⟩
 rw [if_neg c3] at H
 have c3b0:(a1 == 0)=false:=beq_eq_false_iff_ne.mpr c3
 have c3b1:(a1 != 0)=true:=bne_iff_ne.mpr c3
 simp only [Option.some.injEq,Prod.mk.injEq] at H
 obtain ⟨rfl,rfl,rfl,rfl⟩:=H
 go_enter Tryd.func133,Tryd.ntmps133
 go_wp2_with (first|((with_reducible refine qo (N:=4) rfl ?_);refine qd ?hg (N:=4) ?hd (cs:=#[.int .i64 0,.int .i64 0,.string (⟨#[]⟩:ByteArray)]) (t:=38) ?hr ?_;(case hd=>rfl);(case hg=>rfl);(case hr=>first|(go_simp;done)|(go_simp;rfl));intro gb117 hg w8 hbox hb;have BK117:=zq.mk (hbox);have GW117:=zq.mk ((by rw [hg];exact(zy bw):w.heap.size≤gb117));have GE117:=zq.mk ((by rw [hg];exact(zy bw):w.heap.size≤gb117));replace HB:=zq.mk (zt bw hb);clear hb hbox hg;obtain ⟨hcz9_0,hcz9_1,hcz9_2,hfz9_0,hfz9_1,hfz9_2⟩:=zb BK117.out))
 refine bodyPost_ret (zqx rfl _ _ gb117 38 #[.int .i64 0,.int .i64 0,.string (⟨#[]⟩:ByteArray)] (0,0) _ rfl (by(with_reducible repeat(first|refine zh ?_ _|refine zc ?_|refine zv ?_ _));refine zr (cs:=#[.int .i64 0,.int .i64 0,.string (⟨#[]⟩:ByteArray)]) ?_ 2 _ rfl;(with_reducible repeat(first|refine zh ?_ _|refine zc ?_|refine zv ?_ _));refine zr (cs:=#[.int .i64 0,.int .i64 0,.string (⟨#[]⟩:ByteArray)]) ?_ 1 _ rfl;(with_reducible repeat(first|refine zh ?_ _|refine zc ?_|refine zv ?_ _));refine zr (cs:=#[.int .i64 0,.int .i64 0,.string (⟨#[]⟩:ByteArray)]) ?_ 0 _ rfl;(with_reducible repeat(first|refine zh ?_ _|refine zc ?_|refine zv ?_ _));exact BK117.out) Tryd.underlying38 rfl (by kernel_rfl)) rfl ?_
 exact⟨by first|rfl|(simp [zx,zj] <;> rfl)|(simp [*,zx,zj] <;> rfl),bw⟩

/-! ### zq2: function 155 -/
def zq2.f (k:Nat) (a0_0:Int) (a0_1:Int) (a0_2:ByteArray) (a1_0:Int) (a1_1:Int) (a1_2:ByteArray):Option (Int):=(qf.f k a0_0 a0_1 a0_2).bind fun t124=>(if t124=0 then((qf.f k a1_0 a1_1 a1_2).bind fun t125=>(some t125)) else (some t124))
theorem zq2.mono:∀ a0 a1 a2 a3 a4 a5 k,LeO (zq2.f k a0 a1 a2 a3 a4 a5) (zq2.f (k+1) a0 a1 a2 a3 a4 a5):=by
 intro a0 a1 a2 a3 a4 a5 k
 unfold zq2.f
 repeat' first
   | (with_reducible first|exact qf.mono _ _ _ _|exact LeO.refl _|exact LeO.none _|refine LeO.ite ?_ ?_|refine LeO.bind ?_ (fun _=>?_))
   | exact qf.mono _ _ _ _
   | exact LeO.none _
   | refine LeO.ite ?_ ?_
   | refine LeO.bind ?_ (fun _=>?_)
set_option maxHeartbeats 8000000 in
set_option maxRecDepth 100000 in
theorem zq2.calls (k:Nat) (a0_0:Int) (a0_1:Int) (a0_2:ByteArray) (a1_0:Int) (a1_1:Int) (a1_2:ByteArray) (r:Int) (w:World) (hL:LD w) (h:zq2.f k a0_0 a0_1 a0_2 a1_0 a1_1 a1_2=some r) :
  Calls Tryd.prog 155 #[.agg #[.int .i64 a0_0,.int .i64 a0_1,.string a0_2],.agg #[.int .i64 a1_0,.int .i64 a1_1,.string a1_2]] w fun e w'=>e = .returned (.int .i64 r)∧Below w.heap.size w w':=by
 have hu38:=Tryd.underlying38
 have HLD:=zq.mk hL
 clear hL
 have HB:=zq.mk (Below.refl w.heap.size w)
 have H:((qf.f k a0_0 a0_1 a0_2).bind fun t124=>(if t124=0 then((qf.f k a1_0 a1_1 a1_2).bind fun t125=>(some t125)) else (some t124)))=some r:=h
 clear h
 replace H:=Option.bind_eq_some_iff.mp H
 obtain ⟨t124,A30,H⟩:=H
 replace H:(if t124=0 then((qf.f k a1_0 a1_1 a1_2).bind fun t125=>(some t125)) else (some t124))=some r:=H
 have A3:=zq.mk A30
 clear A30
 by_cases c4:t124=0
 ·rw [if_pos c4] at H
  have c4b0:(t124 == 0)=true:=beq_iff_eq.mpr c4
  have c4b1:(t124 != 0)=false:=bne_eq_false_iff_eq.mpr c4
  clear c4
  replace H:=Option.bind_eq_some_iff.mp H
  obtain ⟨t125,A50,H⟩:=H
  replace H:(some t125)=some r:=H
  have A5:=zq.mk A50
  clear A50
  obtain rfl:=Option.some.inj H
  go_enter Tryd.func155,Tryd.ntmps155
  go_wp2_with (first|((with_reducible refine qo (N:=2) rfl ?_);refine qd ?hg (N:=2) ?hd (cs:=#[.int .i64 a0_0,.int .i64 a0_1,.string a0_2]) (t:=38) ?hr ?_;(case hd=>rfl);(case hg=>rfl);(case hr=>first|(go_simp;done)|(go_simp;rfl));intro gb122 hg w6 hbox hb;have BK122:=zq.mk (hbox);have GW122:=zq.mk ((by rw [hg];exact(zy bw):w.heap.size≤gb122));have GE122:=zq.mk ((by rw [hg];exact(zy bw):w.heap.size≤gb122));replace HB:=zq.mk (zt bw hb);clear hb hbox hg)|((with_reducible refine qo (N:=3) rfl ?_);refine qd ?hg (N:=3) ?hd (cs:=#[.int .i64 a1_0,.int .i64 a1_1,.string a1_2]) (t:=38) ?hr ?_;(case hd=>rfl);(case hg=>rfl);(case hr=>first|(go_simp;done)|(go_simp;rfl));intro gb123 hg w7 hbox hb;have BK123:=zq.mk (hbox);have GW123:=zq.mk ((by rw [hg];exact(zy bw):w.heap.size≤gb123));have GE123:=zq.mk ((by rw [hg];exact(zy bw):w.heap.size≤gb123));replace HB:=zq.mk (zt bw hb);have NB122_123:=zq.mk ((by rw [hg];exact Nat.ne_of_lt (qi (g:=gb122) (o:=.cells #[.int .i64 a0_0,.int .i64 a0_1,.string a0_2] 38 (0,0)) (up BK122.out)):gb122≠gb123));have NB123_122:=zq.mk ((by rw [hg];exact Nat.ne_of_gt (qi (g:=gb122) (o:=.cells #[.int .i64 a0_0,.int .i64 a0_1,.string a0_2] 38 (0,0)) (up BK122.out)):gb123≠gb122));replace BK122:=zq.mk (za (g:=gb122) (o:=.cells #[.int .i64 a0_0,.int .i64 a0_1,.string a0_2] 38 (0,0)) (up BK122.out) hb);clear hb hbox hg;have hnb8:=NB122_123.out;have hnc8:=NB123_122.out;obtain ⟨hcz9_0,hcz9_1,hcz9_2,hfz9_0,hfz9_1,hfz9_2⟩:=zb BK122.out)|((with_reducible refine zl (f:=57) rfl ?_);refine qu (some 7) rfl rfl Tryd.func57 (by kernel_rfl) rfl #[.agg #[.int .i64 a0_0,.int .i64 a0_1,.string a0_2]] rfl gs ?_;(with_reducible refine(qf.calls k a0_0 a0_1 a0_2 t124 _ ?side1 A3.out).mono ?_);(case side1=>exact LD.below HLD.out (by first|(with_reducible exact Below.refl _ _)|((repeat(first|(with_reducible exact Below.refl _ _)|(with_reducible apply zp)|(with_reducible apply qc)|(with_reducible apply zqa)));done)|exact bw));rintro e w10 ⟨rfl,hb⟩;refine⟨_,rfl,?_⟩;replace BK122:=zq.mk (za (g:=gb122) (o:=.cells #[.int .i64 a0_0,.int .i64 a0_1,.string a0_2] 38 (0,0)) (up BK122.out) hb);replace BK123:=zq.mk (za (g:=gb123) (o:=.cells #[.int .i64 a1_0,.int .i64 a1_1,.string a1_2] 38 (0,0)) (up BK123.out) hb);replace HB:=zq.mk (zt bw hb);(try clear hb);(try clear hb2);(try clear hk);(try clear hi);obtain ⟨hcz11_0,hcz11_1,hcz11_2,hfz11_0,hfz11_1,hfz11_2⟩:=zb BK123.out)|((with_reducible refine zl (f:=57) rfl ?_);refine qu (some 12) rfl rfl Tryd.func57 (by kernel_rfl) rfl #[.agg #[.int .i64 a1_0,.int .i64 a1_1,.string a1_2]] rfl gs ?_;(with_reducible refine(qf.calls k a1_0 a1_1 a1_2 t125 _ ?side1 A5.out).mono ?_);(case side1=>exact LD.below HLD.out (by first|(with_reducible exact Below.refl _ _)|((repeat(first|(with_reducible exact Below.refl _ _)|(with_reducible apply zp)|(with_reducible apply qc)|(with_reducible apply zqa)));done)|exact bw));rintro e w12 ⟨rfl,hb⟩;refine⟨_,rfl,?_⟩;replace BK122:=zq.mk (za (g:=gb122) (o:=.cells #[.int .i64 a0_0,.int .i64 a0_1,.string a0_2] 38 (0,0)) (up BK122.out) hb);replace BK123:=zq.mk (za (g:=gb123) (o:=.cells #[.int .i64 a1_0,.int .i64 a1_1,.string a1_2] 38 (0,0)) (up BK123.out) hb);replace HB:=zq.mk (zt bw hb);(try clear hb);(try clear hb2);(try clear hk);(try clear hi)))
  go_ret
  exact⟨by first|rfl|(simp [zx,zj] <;> rfl)|(simp [*,zx,zj] <;> rfl),bw⟩
 rw [if_neg c4] at H
 have c4b0:(t124 == 0)=false:=beq_eq_false_iff_ne.mpr c4
 have c4b1:(t124 != 0)=true:=bne_iff_ne.mpr c4
 obtain rfl:=Option.some.inj H
 go_enter Tryd.func155,Tryd.ntmps155
 go_wp2_with (first|((with_reducible refine qo (N:=2) rfl ?_);refine qd ?hg (N:=2) ?hd (cs:=#[.int .i64 a0_0,.int .i64 a0_1,.string a0_2]) (t:=38) ?hr ?_;(case hd=>rfl);(case hg=>rfl);(case hr=>first|(go_simp;done)|(go_simp;rfl));intro gb122 hg w13 hbox hb;have BK122:=zq.mk (hbox);have GW122:=zq.mk ((by rw [hg];exact(zy bw):w.heap.size≤gb122));have GE122:=zq.mk ((by rw [hg];exact(zy bw):w.heap.size≤gb122));replace HB:=zq.mk (zt bw hb);clear hb hbox hg)|((with_reducible refine qo (N:=3) rfl ?_);refine qd ?hg (N:=3) ?hd (cs:=#[.int .i64 a1_0,.int .i64 a1_1,.string a1_2]) (t:=38) ?hr ?_;(case hd=>rfl);(case hg=>rfl);(case hr=>first|(go_simp;done)|(go_simp;rfl));intro gb123 hg w14 hbox hb;have BK123:=zq.mk (hbox);have GW123:=zq.mk ((by rw [hg];exact(zy bw):w.heap.size≤gb123));have GE123:=zq.mk ((by rw [hg];exact(zy bw):w.heap.size≤gb123));replace HB:=zq.mk (zt bw hb);have NB122_123:=zq.mk ((by rw [hg];exact Nat.ne_of_lt (qi (g:=gb122) (o:=.cells #[.int .i64 a0_0,.int .i64 a0_1,.string a0_2] 38 (0,0)) (up BK122.out)):gb122≠gb123));have NB123_122:=zq.mk ((by rw [hg];exact Nat.ne_of_gt (qi (g:=gb122) (o:=.cells #[.int .i64 a0_0,.int .i64 a0_1,.string a0_2] 38 (0,0)) (up BK122.out)):gb123≠gb122));replace BK122:=zq.mk (za (g:=gb122) (o:=.cells #[.int .i64 a0_0,.int .i64 a0_1,.string a0_2] 38 (0,0)) (up BK122.out) hb);clear hb hbox hg;have hnb15:=NB122_123.out;have hnc15:=NB123_122.out;obtain ⟨hcz16_0,hcz16_1,hcz16_2,hfz16_0,hfz16_1,hfz16_2⟩:=zb BK122.out)|((with_reducible refine zl (f:=57) rfl ?_);refine qu (some 7) rfl rfl Tryd.func57 (by kernel_rfl) rfl #[.agg #[.int .i64 a0_0,.int .i64 a0_1,.string a0_2]] rfl gs ?_;(with_reducible refine(qf.calls k a0_0 a0_1 a0_2 t124 _ ?side1 A3.out).mono ?_);(case side1=>exact LD.below HLD.out (by first|(with_reducible exact Below.refl _ _)|((repeat(first|(with_reducible exact Below.refl _ _)|(with_reducible apply zp)|(with_reducible apply qc)|(with_reducible apply zqa)));done)|exact bw));rintro e w17 ⟨rfl,hb⟩;refine⟨_,rfl,?_⟩;replace BK122:=zq.mk (za (g:=gb122) (o:=.cells #[.int .i64 a0_0,.int .i64 a0_1,.string a0_2] 38 (0,0)) (up BK122.out) hb);replace BK123:=zq.mk (za (g:=gb123) (o:=.cells #[.int .i64 a1_0,.int .i64 a1_1,.string a1_2] 38 (0,0)) (up BK123.out) hb);replace HB:=zq.mk (zt bw hb);(try clear hb);(try clear hb2);(try clear hk);(try clear hi)))
 go_ret
 exact⟨by first|rfl|(simp [zx,zj] <;> rfl)|(simp [*,zx,zj] <;> rfl),bw⟩

/-! ### zjk: function 156, by hand -/
-- HAND rounds=0 making=1
def zjk.at (o c:Int):Bool:=if o=13 then decide (c=0) else if o=14 then decide (c≠0) else if o=15 then decide (c<0) else if o=16 then decide (c≤0) else if o=17 then decide (c > 0) else decide (c ≥ 0)
def zjk.f (a0 a1:Int):Option (Bool):=if 13≤a0∧a0≤18 ∧ -1≤a1∧a1≤1 then some (zjk.at a0 a1) else none
set_option maxHeartbeats 4000000 in
set_option maxRecDepth 100000 in
theorem zjk.calls (a0:Int) (a1:Int) (r:Bool) (w:World) (h:zjk.f a0 a1=some r) :
  Calls Tryd.prog 156 #[.int .i64 a0,.int .i64 a1] w fun e w'=>e = .returned (.bool r)∧Below w.heap.size w w':=by
 unfold zjk.f at h
 split at h
 ·rename_i hb
  have h0:a0=13∨a0=14∨a0=15∨a0=16∨a0=17∨a0=18:=by omega
  have h1:a1 = -1∨a1=0∨a1=1:=by omega
  clear hb
  rcases h0 with rfl|rfl|rfl|rfl|rfl|rfl <;> rcases h1 with rfl|rfl|rfl <;>
  ·obtain rfl:=Option.some.inj h
   clear h
   go_enter Tryd.func156,Tryd.ntmps156
   go_wp2
   go_ret
   exact⟨rfl,by repeat(first|exact Below.refl _ _|apply zp|apply zqa)⟩
 cases h

/-! ### cmp_isNaN_int: function 173 -/
def cmp_isNaN_int.f (a0:Int):Option (Bool):=some (a0 != a0)
set_option maxHeartbeats 8000000 in
set_option maxRecDepth 100000 in
theorem cmp_isNaN_int.calls (a0:Int) (r:Bool) (w:World) (h:cmp_isNaN_int.f a0=some r) :
  Calls Tryd.prog 173 #[.int .i64 a0] w fun e w'=>e = .returned (.bool r)∧zu w w':=by
 have H:(some (a0 != a0))=some r:=h
 clear h
 obtain rfl:=Option.some.inj H
 go_enter Tryd.func173,Tryd.ntmps173
 go_wp2
 go_ret
 exact⟨by first|rfl|(simp;done)|(simp [*];done),by repeat(first|exact zu.refl _|apply zu.step)⟩

/-! ### cmp_Compare_int: function 166 -/
def cmp_Compare_int.f (a0:Int) (a1:Int):Option (Int):=(cmp_isNaN_int.f a0).bind fun t126=>((cmp_isNaN_int.f a1).bind fun t127=>(if t126=true then(if t127=true then(some 0) else (some (-1))) else (if t127=true then(some 1) else (if a0<a1 then(some (-1)) else (if a0 > a1 then(some 1) else (some 0))))))
set_option maxHeartbeats 8000000 in
set_option maxRecDepth 100000 in
theorem cmp_Compare_int.calls (a0:Int) (a1:Int) (r:Int) (w:World) (h:cmp_Compare_int.f a0 a1=some r) :
  Calls Tryd.prog 166 #[.int .i64 a0,.int .i64 a1] w fun e w'=>e = .returned (.int .i64 r)∧zu w w':=by
 have H:((cmp_isNaN_int.f a0).bind fun t126=>((cmp_isNaN_int.f a1).bind fun t127=>(if t126=true then(if t127=true then(some 0) else (some (-1))) else (if t127=true then(some 1) else (if a0<a1 then(some (-1)) else (if a0 > a1 then(some 1) else (some 0)))))))=some r:=h
 clear h
 replace H:=Option.bind_eq_some_iff.mp H
 obtain ⟨t126,A30,H⟩:=H
 replace H:((cmp_isNaN_int.f a1).bind fun t127=>(if t126=true then(if t127=true then(some 0) else (some (-1))) else (if t127=true then(some 1) else (if a0<a1 then(some (-1)) else (if a0 > a1 then(some 1) else (some 0))))))=some r:=H
 have A3:=zq.mk A30
 clear A30
 replace H:=Option.bind_eq_some_iff.mp H
 obtain ⟨t127,A40,H⟩:=H
 replace H:(if t126=true then(if t127=true then(some 0) else (some (-1))) else (if t127=true then(some 1) else (if a0<a1 then(some (-1)) else (if a0 > a1 then(some 1) else (some 0)))))=some r:=H
 have A4:=zq.mk A40
 clear A40
 by_cases c5:t126=true
 ·subst c5
  rw [if_pos rfl] at H
  by_cases c6:t127=true
  ·subst c6
   rw [if_pos rfl] at H
   obtain rfl:=Option.some.inj H
   go_enter Tryd.func166,Tryd.ntmps166
   go_wp2_with (first|((with_reducible refine zl (f:=173) rfl ?_);refine qu (some 8) rfl rfl Tryd.func173 (by kernel_rfl) rfl #[.int .i64 a0] rfl gs ?_;(with_reducible refine(cmp_isNaN_int.calls a0 true _ A3.out).mono ?_);rintro e w' ⟨rfl,⟨nd,rfl⟩⟩;refine⟨_,rfl,?_⟩)|((with_reducible refine zl (f:=173) rfl ?_);refine qu (some 10) rfl rfl Tryd.func173 (by kernel_rfl) rfl #[.int .i64 a1] rfl gs ?_;(with_reducible refine(cmp_isNaN_int.calls a1 true _ A4.out).mono ?_);rintro e w' ⟨rfl,⟨nd,rfl⟩⟩;refine⟨_,rfl,?_⟩))
   go_ret
   exact⟨by first|rfl|(simp;done)|(simp [*];done),by repeat(first|exact zu.refl _|apply zu.step)⟩
  replace c6:=Bool.eq_false_iff.mpr c6
  subst c6
  rw [if_neg (show ¬ (false=true) by decide)] at H
  obtain rfl:=Option.some.inj H
  go_enter Tryd.func166,Tryd.ntmps166
  go_wp2_with (first|((with_reducible refine zl (f:=173) rfl ?_);refine qu (some 8) rfl rfl Tryd.func173 (by kernel_rfl) rfl #[.int .i64 a0] rfl gs ?_;(with_reducible refine(cmp_isNaN_int.calls a0 true _ A3.out).mono ?_);rintro e w' ⟨rfl,⟨nd,rfl⟩⟩;refine⟨_,rfl,?_⟩)|((with_reducible refine zl (f:=173) rfl ?_);refine qu (some 10) rfl rfl Tryd.func173 (by kernel_rfl) rfl #[.int .i64 a1] rfl gs ?_;(with_reducible refine(cmp_isNaN_int.calls a1 false _ A4.out).mono ?_);rintro e w' ⟨rfl,⟨nd,rfl⟩⟩;refine⟨_,rfl,?_⟩))
  go_ret
  exact⟨by first|rfl|(simp;done)|(simp [*];done),by repeat(first|exact zu.refl _|apply zu.step)⟩
 replace c5:=Bool.eq_false_iff.mpr c5
 subst c5
 rw [if_neg (show ¬ (false=true) by decide)] at H
 by_cases c7:t127=true
 ·subst c7
  rw [if_pos rfl] at H
  obtain rfl:=Option.some.inj H
  go_enter Tryd.func166,Tryd.ntmps166
  go_wp2_with (first|((with_reducible refine zl (f:=173) rfl ?_);refine qu (some 8) rfl rfl Tryd.func173 (by kernel_rfl) rfl #[.int .i64 a0] rfl gs ?_;(with_reducible refine(cmp_isNaN_int.calls a0 false _ A3.out).mono ?_);rintro e w' ⟨rfl,⟨nd,rfl⟩⟩;refine⟨_,rfl,?_⟩)|((with_reducible refine zl (f:=173) rfl ?_);refine qu (some 10) rfl rfl Tryd.func173 (by kernel_rfl) rfl #[.int .i64 a1] rfl gs ?_;(with_reducible refine(cmp_isNaN_int.calls a1 true _ A4.out).mono ?_);rintro e w' ⟨rfl,⟨nd,rfl⟩⟩;refine⟨_,rfl,?_⟩))
  go_ret
  exact⟨by first|rfl|(simp;done)|(simp [*];done),by repeat(first|exact zu.refl _|apply zu.step)⟩
 replace c7:=Bool.eq_false_iff.mpr c7
 subst c7
 rw [if_neg (show ¬ (false=true) by decide)] at H
 by_cases c8:a0<a1
 ·rw [if_pos c8] at H
  have c8b0:=decide_eq_true c8
  clear c8
  obtain rfl:=Option.some.inj H
  go_enter Tryd.func166,Tryd.ntmps166
  go_wp2_with (first|((with_reducible refine zl (f:=173) rfl ?_);refine qu (some 8) rfl rfl Tryd.func173 (by kernel_rfl) rfl #[.int .i64 a0] rfl gs ?_;(with_reducible refine(cmp_isNaN_int.calls a0 false _ A3.out).mono ?_);rintro e w' ⟨rfl,⟨nd,rfl⟩⟩;refine⟨_,rfl,?_⟩)|((with_reducible refine zl (f:=173) rfl ?_);refine qu (some 10) rfl rfl Tryd.func173 (by kernel_rfl) rfl #[.int .i64 a1] rfl gs ?_;(with_reducible refine(cmp_isNaN_int.calls a1 false _ A4.out).mono ?_);rintro e w' ⟨rfl,⟨nd,rfl⟩⟩;refine⟨_,rfl,?_⟩))
  go_ret
  exact⟨by first|rfl|(simp;done)|(simp [*];done),by repeat(first|exact zu.refl _|apply zu.step)⟩
 rw [if_neg c8] at H
 have c8b0:=decide_eq_false c8
 clear c8
 by_cases c9:a0 > a1
 ·rw [if_pos c9] at H
  have c9b0:=decide_eq_true c9
  clear c9
  obtain rfl:=Option.some.inj H
  go_enter Tryd.func166,Tryd.ntmps166
  go_wp2_with (first|((with_reducible refine zl (f:=173) rfl ?_);refine qu (some 8) rfl rfl Tryd.func173 (by kernel_rfl) rfl #[.int .i64 a0] rfl gs ?_;(with_reducible refine(cmp_isNaN_int.calls a0 false _ A3.out).mono ?_);rintro e w' ⟨rfl,⟨nd,rfl⟩⟩;refine⟨_,rfl,?_⟩)|((with_reducible refine zl (f:=173) rfl ?_);refine qu (some 10) rfl rfl Tryd.func173 (by kernel_rfl) rfl #[.int .i64 a1] rfl gs ?_;(with_reducible refine(cmp_isNaN_int.calls a1 false _ A4.out).mono ?_);rintro e w' ⟨rfl,⟨nd,rfl⟩⟩;refine⟨_,rfl,?_⟩))
  go_ret
  exact⟨by first|rfl|(simp;done)|(simp [*];done),by repeat(first|exact zu.refl _|apply zu.step)⟩
 rw [if_neg c9] at H
 have c9b0:=decide_eq_false c9
 clear c9
 obtain rfl:=Option.some.inj H
 go_enter Tryd.func166,Tryd.ntmps166
 go_wp2_with (first|((with_reducible refine zl (f:=173) rfl ?_);refine qu (some 8) rfl rfl Tryd.func173 (by kernel_rfl) rfl #[.int .i64 a0] rfl gs ?_;(with_reducible refine(cmp_isNaN_int.calls a0 false _ A3.out).mono ?_);rintro e w' ⟨rfl,⟨nd,rfl⟩⟩;refine⟨_,rfl,?_⟩)|((with_reducible refine zl (f:=173) rfl ?_);refine qu (some 10) rfl rfl Tryd.func173 (by kernel_rfl) rfl #[.int .i64 a1] rfl gs ?_;(with_reducible refine(cmp_isNaN_int.calls a1 false _ A4.out).mono ?_);rintro e w' ⟨rfl,⟨nd,rfl⟩⟩;refine⟨_,rfl,?_⟩))
 go_ret
 exact⟨by first|rfl|(simp;done)|(simp [*];done),by repeat(first|exact zu.refl _|apply zu.step)⟩

-- NOT PRINTED: function 177 (bytealg_abigen_runtime_cmpstring)

-- NOT PRINTED: function 174 (bytealg_CompareString)

/-! ### strings_Compare: function 167, by hand -/
-- HAND rounds=0 making=0 imports=Derived.Shelf.Small.Strs,Derived.Test.YthhejedfjgikdaaDoorShelfV
def strings_Compare.f (a0:ByteArray) (a1:ByteArray):Option (Int):=some (Lib.compareBytes a0.data.toList a1.data.toList)
section
open Go.Shelf
theorem strings_Compare.calls (a0:ByteArray) (a1:ByteArray) (r:Int) (w:World) (h:strings_Compare.f a0 a1=some r) :
  Calls Tryd.prog 167 #[.string a0,.string a1] w fun e w'=>e = .returned (.int .i64 r)∧zu w w':=by
 cases h
 refine(Any.strings_Compare Tryd.laysCompare a0 a1 w).mono ?_
 rintro e w' ⟨rfl,rfl⟩
 exact⟨rfl,0,rfl⟩
end

/-! ### zj0: function 157 -/
def zj0.f (a0_0:Int) (a0_1:Int) (a0_2:ByteArray) (a1_0:Int) (a1_1:Int) (a1_2:ByteArray):Option (Int):=(cmp_Compare_int.f a0_0 a1_0).bind fun t130=>(if t130=0 then((cmp_Compare_int.f a0_1 a1_1).bind fun t131=>(if t131=0 then((strings_Compare.f a0_2 a1_2).bind fun t132=>(some t132)) else (some t131))) else (some t130))
set_option maxHeartbeats 8000000 in
set_option maxRecDepth 100000 in
theorem zj0.calls (a0_0:Int) (a0_1:Int) (a0_2:ByteArray) (a1_0:Int) (a1_1:Int) (a1_2:ByteArray) (r:Int) (w:World) (h:zj0.f a0_0 a0_1 a0_2 a1_0 a1_1 a1_2=some r) :
  Calls Tryd.prog 157 #[.agg #[.int .i64 a0_0,.int .i64 a0_1,.string a0_2],.agg #[.int .i64 a1_0,.int .i64 a1_1,.string a1_2]] w fun e w'=>e = .returned (.int .i64 r)∧Below w.heap.size w w':=by
 have hu38:=Tryd.underlying38
 have HB:=zq.mk (Below.refl w.heap.size w)
 have H:((cmp_Compare_int.f a0_0 a1_0).bind fun t130=>(if t130=0 then((cmp_Compare_int.f a0_1 a1_1).bind fun t131=>(if t131=0 then((strings_Compare.f a0_2 a1_2).bind fun t132=>(some t132)) else (some t131))) else (some t130)))=some r:=h
 clear h
 replace H:=Option.bind_eq_some_iff.mp H
 obtain ⟨t130,A30,H⟩:=H
 replace H:(if t130=0 then((cmp_Compare_int.f a0_1 a1_1).bind fun t131=>(if t131=0 then((strings_Compare.f a0_2 a1_2).bind fun t132=>(some t132)) else (some t131))) else (some t130))=some r:=H
 have A3:=zq.mk A30
 clear A30
 by_cases c4:t130=0
 ·rw [if_pos c4] at H
  have c4b0:(t130 == 0)=true:=beq_iff_eq.mpr c4
  have c4b1:(t130 != 0)=false:=bne_eq_false_iff_eq.mpr c4
  clear c4
  replace H:=Option.bind_eq_some_iff.mp H
  obtain ⟨t131,A50,H⟩:=H
  replace H:(if t131=0 then((strings_Compare.f a0_2 a1_2).bind fun t132=>(some t132)) else (some t131))=some r:=H
  have A5:=zq.mk A50
  clear A50
  by_cases c6:t131=0
  ·rw [if_pos c6] at H
   have c6b0:(t131 == 0)=true:=beq_iff_eq.mpr c6
   have c6b1:(t131 != 0)=false:=bne_eq_false_iff_eq.mpr c6
   clear c6
   replace H:=Option.bind_eq_some_iff.mp H
   obtain ⟨t132,A70,H⟩:=H
   replace H:(some t132)=some r:=H
   have A7:=zq.mk A70
   clear A70
   obtain rfl:=Option.some.inj H
   go_enter Tryd.func157,Tryd.ntmps157
   go_wp2_with (first|((with_reducible refine qo (N:=2) rfl ?_);refine qd ?hg (N:=2) ?hd (cs:=#[.int .i64 a0_0,.int .i64 a0_1,.string a0_2]) (t:=38) ?hr ?_;(case hd=>rfl);(case hg=>rfl);(case hr=>first|(go_simp;done)|(go_simp;rfl));intro gb128 hg w8 hbox hb;have BK128:=zq.mk (hbox);have GW128:=zq.mk ((by rw [hg];exact(zy bw):w.heap.size≤gb128));have GE128:=zq.mk ((by rw [hg];exact(zy bw):w.heap.size≤gb128));replace HB:=zq.mk (zt bw hb);clear hb hbox hg)|((with_reducible refine qo (N:=3) rfl ?_);refine qd ?hg (N:=3) ?hd (cs:=#[.int .i64 a1_0,.int .i64 a1_1,.string a1_2]) (t:=38) ?hr ?_;(case hd=>rfl);(case hg=>rfl);(case hr=>first|(go_simp;done)|(go_simp;rfl));intro gb129 hg w9 hbox hb;have BK129:=zq.mk (hbox);have GW129:=zq.mk ((by rw [hg];exact(zy bw):w.heap.size≤gb129));have GE129:=zq.mk ((by rw [hg];exact(zy bw):w.heap.size≤gb129));replace HB:=zq.mk (zt bw hb);have NB128_129:=zq.mk ((by rw [hg];exact Nat.ne_of_lt (qi (g:=gb128) (o:=.cells #[.int .i64 a0_0,.int .i64 a0_1,.string a0_2] 38 (0,0)) (up BK128.out)):gb128≠gb129));have NB129_128:=zq.mk ((by rw [hg];exact Nat.ne_of_gt (qi (g:=gb128) (o:=.cells #[.int .i64 a0_0,.int .i64 a0_1,.string a0_2] 38 (0,0)) (up BK128.out)):gb129≠gb128));replace BK128:=zq.mk (za (g:=gb128) (o:=.cells #[.int .i64 a0_0,.int .i64 a0_1,.string a0_2] 38 (0,0)) (up BK128.out) hb);clear hb hbox hg;have hnb10:=NB128_129.out;have hnc10:=NB129_128.out;obtain ⟨hcz11_0,hcz11_1,hcz11_2,hfz11_0,hfz11_1,hfz11_2⟩:=zb BK128.out;obtain ⟨hcz12_0,hcz12_1,hcz12_2,hfz12_0,hfz12_1,hfz12_2⟩:=zb BK129.out)|((with_reducible refine zl (f:=166) rfl ?_);refine qu (some 11) rfl rfl Tryd.func166 (by kernel_rfl) rfl #[.int .i64 a0_0,.int .i64 a1_0] rfl gs ?_;(with_reducible refine(cmp_Compare_int.calls a0_0 a1_0 t130 _ A3.out).mono ?_);rintro e w' ⟨rfl,⟨nd,rfl⟩⟩;refine⟨_,rfl,?_⟩)|((with_reducible refine zl (f:=166) rfl ?_);refine qu (some 19) rfl rfl Tryd.func166 (by kernel_rfl) rfl #[.int .i64 a0_1,.int .i64 a1_1] rfl gs ?_;(with_reducible refine(cmp_Compare_int.calls a0_1 a1_1 t131 _ A5.out).mono ?_);rintro e w' ⟨rfl,⟨nd,rfl⟩⟩;refine⟨_,rfl,?_⟩)|((with_reducible refine zl (f:=167) rfl ?_);refine qu (some 27) rfl rfl Tryd.func167 (by kernel_rfl) rfl #[.string a0_2,.string a1_2] rfl gs ?_;(with_reducible refine(strings_Compare.calls a0_2 a1_2 t132 _ A7.out).mono ?_);rintro e w' ⟨rfl,⟨nd,rfl⟩⟩;refine⟨_,rfl,?_⟩))
   go_ret
   exact⟨by first|rfl|(simp [zx,zj] <;> rfl)|(simp [*,zx,zj] <;> rfl),bw⟩
  rw [if_neg c6] at H
  have c6b0:(t131 == 0)=false:=beq_eq_false_iff_ne.mpr c6
  have c6b1:(t131 != 0)=true:=bne_iff_ne.mpr c6
  obtain rfl:=Option.some.inj H
  go_enter Tryd.func157,Tryd.ntmps157
  go_wp2_with (first|((with_reducible refine qo (N:=2) rfl ?_);refine qd ?hg (N:=2) ?hd (cs:=#[.int .i64 a0_0,.int .i64 a0_1,.string a0_2]) (t:=38) ?hr ?_;(case hd=>rfl);(case hg=>rfl);(case hr=>first|(go_simp;done)|(go_simp;rfl));intro gb128 hg w13 hbox hb;have BK128:=zq.mk (hbox);have GW128:=zq.mk ((by rw [hg];exact(zy bw):w.heap.size≤gb128));have GE128:=zq.mk ((by rw [hg];exact(zy bw):w.heap.size≤gb128));replace HB:=zq.mk (zt bw hb);clear hb hbox hg)|((with_reducible refine qo (N:=3) rfl ?_);refine qd ?hg (N:=3) ?hd (cs:=#[.int .i64 a1_0,.int .i64 a1_1,.string a1_2]) (t:=38) ?hr ?_;(case hd=>rfl);(case hg=>rfl);(case hr=>first|(go_simp;done)|(go_simp;rfl));intro gb129 hg w14 hbox hb;have BK129:=zq.mk (hbox);have GW129:=zq.mk ((by rw [hg];exact(zy bw):w.heap.size≤gb129));have GE129:=zq.mk ((by rw [hg];exact(zy bw):w.heap.size≤gb129));replace HB:=zq.mk (zt bw hb);have NB128_129:=zq.mk ((by rw [hg];exact Nat.ne_of_lt (qi (g:=gb128) (o:=.cells #[.int .i64 a0_0,.int .i64 a0_1,.string a0_2] 38 (0,0)) (up BK128.out)):gb128≠gb129));have NB129_128:=zq.mk ((by rw [hg];exact Nat.ne_of_gt (qi (g:=gb128) (o:=.cells #[.int .i64 a0_0,.int .i64 a0_1,.string a0_2] 38 (0,0)) (up BK128.out)):gb129≠gb128));replace BK128:=zq.mk (za (g:=gb128) (o:=.cells #[.int .i64 a0_0,.int .i64 a0_1,.string a0_2] 38 (0,0)) (up BK128.out) hb);clear hb hbox hg;have hnb15:=NB128_129.out;have hnc15:=NB129_128.out;obtain ⟨hcz16_0,hcz16_1,hcz16_2,hfz16_0,hfz16_1,hfz16_2⟩:=zb BK128.out;obtain ⟨hcz17_0,hcz17_1,hcz17_2,hfz17_0,hfz17_1,hfz17_2⟩:=zb BK129.out)|((with_reducible refine zl (f:=166) rfl ?_);refine qu (some 11) rfl rfl Tryd.func166 (by kernel_rfl) rfl #[.int .i64 a0_0,.int .i64 a1_0] rfl gs ?_;(with_reducible refine(cmp_Compare_int.calls a0_0 a1_0 t130 _ A3.out).mono ?_);rintro e w' ⟨rfl,⟨nd,rfl⟩⟩;refine⟨_,rfl,?_⟩)|((with_reducible refine zl (f:=166) rfl ?_);refine qu (some 19) rfl rfl Tryd.func166 (by kernel_rfl) rfl #[.int .i64 a0_1,.int .i64 a1_1] rfl gs ?_;(with_reducible refine(cmp_Compare_int.calls a0_1 a1_1 t131 _ A5.out).mono ?_);rintro e w' ⟨rfl,⟨nd,rfl⟩⟩;refine⟨_,rfl,?_⟩))
  go_ret
  exact⟨by first|rfl|(simp [zx,zj] <;> rfl)|(simp [*,zx,zj] <;> rfl),bw⟩
 rw [if_neg c4] at H
 have c4b0:(t130 == 0)=false:=beq_eq_false_iff_ne.mpr c4
 have c4b1:(t130 != 0)=true:=bne_iff_ne.mpr c4
 obtain rfl:=Option.some.inj H
 go_enter Tryd.func157,Tryd.ntmps157
 go_wp2_with (first|((with_reducible refine qo (N:=2) rfl ?_);refine qd ?hg (N:=2) ?hd (cs:=#[.int .i64 a0_0,.int .i64 a0_1,.string a0_2]) (t:=38) ?hr ?_;(case hd=>rfl);(case hg=>rfl);(case hr=>first|(go_simp;done)|(go_simp;rfl));intro gb128 hg w18 hbox hb;have BK128:=zq.mk (hbox);have GW128:=zq.mk ((by rw [hg];exact(zy bw):w.heap.size≤gb128));have GE128:=zq.mk ((by rw [hg];exact(zy bw):w.heap.size≤gb128));replace HB:=zq.mk (zt bw hb);clear hb hbox hg)|((with_reducible refine qo (N:=3) rfl ?_);refine qd ?hg (N:=3) ?hd (cs:=#[.int .i64 a1_0,.int .i64 a1_1,.string a1_2]) (t:=38) ?hr ?_;(case hd=>rfl);(case hg=>rfl);(case hr=>first|(go_simp;done)|(go_simp;rfl));intro gb129 hg w19 hbox hb;have BK129:=zq.mk (hbox);have GW129:=zq.mk ((by rw [hg];exact(zy bw):w.heap.size≤gb129));have GE129:=zq.mk ((by rw [hg];exact(zy bw):w.heap.size≤gb129));replace HB:=zq.mk (zt bw hb);have NB128_129:=zq.mk ((by rw [hg];exact Nat.ne_of_lt (qi (g:=gb128) (o:=.cells #[.int .i64 a0_0,.int .i64 a0_1,.string a0_2] 38 (0,0)) (up BK128.out)):gb128≠gb129));have NB129_128:=zq.mk ((by rw [hg];exact Nat.ne_of_gt (qi (g:=gb128) (o:=.cells #[.int .i64 a0_0,.int .i64 a0_1,.string a0_2] 38 (0,0)) (up BK128.out)):gb129≠gb128));replace BK128:=zq.mk (za (g:=gb128) (o:=.cells #[.int .i64 a0_0,.int .i64 a0_1,.string a0_2] 38 (0,0)) (up BK128.out) hb);clear hb hbox hg;have hnb20:=NB128_129.out;have hnc20:=NB129_128.out;obtain ⟨hcz21_0,hcz21_1,hcz21_2,hfz21_0,hfz21_1,hfz21_2⟩:=zb BK128.out;obtain ⟨hcz22_0,hcz22_1,hcz22_2,hfz22_0,hfz22_1,hfz22_2⟩:=zb BK129.out)|((with_reducible refine zl (f:=166) rfl ?_);refine qu (some 11) rfl rfl Tryd.func166 (by kernel_rfl) rfl #[.int .i64 a0_0,.int .i64 a1_0] rfl gs ?_;(with_reducible refine(cmp_Compare_int.calls a0_0 a1_0 t130 _ A3.out).mono ?_);rintro e w' ⟨rfl,⟨nd,rfl⟩⟩;refine⟨_,rfl,?_⟩))
 go_ret
 exact⟨by first|rfl|(simp [zx,zj] <;> rfl)|(simp [*,zx,zj] <;> rfl),bw⟩

/-! ### zqd: function 134 -/
mutual
def zqd.j0:Nat→Int→Bool→Int→Int→ByteArray→Int→Int→ByteArray→Option (Int × Int)
 | 0,_,_,_,_,_,_,_,_=>none
 | k+1,x0,x14,x134000,x134001,x134002,x135000,x135001,x135002=>if x14=true then(some (0,3)) else ((zq2.f k x134000 x134001 x134002 x135000 x135001 x135002).bind fun t135=>(if t135=0 then(if x134000=0 then(zqd.j1 k x0 true x134000 x134001 x134002 x135000 x135001 x135002) else (zqd.j1 k x0 (x135000 == 0) x134000 x134001 x134002 x135000 x135001 x135002)) else (some (0,t135))))
def zqd.j1:Nat→Int→Bool→Int→Int→ByteArray→Int→Int→ByteArray→Option (Int × Int)
 | 0,_,_,_,_,_,_,_,_=>none
 | k+1,x0,x21,x134000,x134001,x134002,x135000,x135001,x135002=>if x21=true then(some (1,0)) else (if x134000=x135000 then((zj0.f x134000 x134001 x134002 x135000 x135001 x135002).bind fun t136=>((zjk.f x0 t136).bind fun t137=>(if t137=true then(some (2,0)) else (some (0,0))))) else (some (0,12)))
end
def zqd.f (k:Nat) (a0:Int) (a1_0:Int) (a1_1:Int) (a1_2:ByteArray) (a2_0:Int) (a2_1:Int) (a2_2:ByteArray):Option (Int × Int):=if a0<13 then(zqd.j0 k a0 true a1_0 a1_1 a1_2 a2_0 a2_1 a2_2) else (zqd.j0 k a0 (decide (a0 > 18)) a1_0 a1_1 a1_2 a2_0 a2_1 a2_2)
theorem zqd.mono_l:∀ k,(∀ y0 y1 y2 y3 y4 y5 y6 y7,LeO (zqd.j0 k y0 y1 y2 y3 y4 y5 y6 y7) (zqd.j0 (k+1) y0 y1 y2 y3 y4 y5 y6 y7))∧(∀ y0 y1 y2 y3 y4 y5 y6 y7,LeO (zqd.j1 k y0 y1 y2 y3 y4 y5 y6 y7) (zqd.j1 (k+1) y0 y1 y2 y3 y4 y5 y6 y7))
 | 0=>⟨fun _ _ _ _ _ _ _ _ r h=>by simp [zqd.j0] at h,fun _ _ _ _ _ _ _ _ r h=>by simp [zqd.j1] at h⟩
 | k+1=>by
  obtain ⟨ih0,ih1⟩:=zqd.mono_l k
  refine⟨?_,?_⟩
  ·intro y0 y1 y2 y3 y4 y5 y6 y7
   unfold zqd.j0
   repeat' first
   | (with_reducible first|exact ih0 _ _ _ _ _ _ _ _|exact ih1 _ _ _ _ _ _ _ _|exact zq2.mono _ _ _ _ _ _ _|exact LeO.refl _|exact LeO.none _|refine LeO.ite ?_ ?_|refine LeO.bind ?_ (fun _=>?_))
   | exact ih0 _ _ _ _ _ _ _ _
   | exact ih1 _ _ _ _ _ _ _ _
   | exact zq2.mono _ _ _ _ _ _ _
   | exact LeO.none _
   | refine LeO.ite ?_ ?_
   | refine LeO.bind ?_ (fun _=>?_)
  intro y0 y1 y2 y3 y4 y5 y6 y7
  unfold zqd.j1
  repeat' first
  | (with_reducible first|exact ih0 _ _ _ _ _ _ _ _|exact ih1 _ _ _ _ _ _ _ _|exact zq2.mono _ _ _ _ _ _ _|exact LeO.refl _|exact LeO.none _|refine LeO.ite ?_ ?_|refine LeO.bind ?_ (fun _=>?_))
  | exact ih0 _ _ _ _ _ _ _ _
  | exact ih1 _ _ _ _ _ _ _ _
  | exact zq2.mono _ _ _ _ _ _ _
  | exact LeO.none _
  | refine LeO.ite ?_ ?_
  | refine LeO.bind ?_ (fun _=>?_)
theorem zqd.mono:∀ a0 a1 a2 a3 a4 a5 a6 k,LeO (zqd.f k a0 a1 a2 a3 a4 a5 a6) (zqd.f (k+1) a0 a1 a2 a3 a4 a5 a6):=by
 intro a0 a1 a2 a3 a4 a5 a6 k
 obtain ⟨ih0,ih1⟩:=zqd.mono_l k
 unfold zqd.f
 repeat' first
   | (with_reducible first|exact ih0 _ _ _ _ _ _ _ _|exact ih1 _ _ _ _ _ _ _ _|exact zq2.mono _ _ _ _ _ _ _|exact LeO.refl _|exact LeO.none _|refine LeO.ite ?_ ?_|refine LeO.bind ?_ (fun _=>?_))
   | exact ih0 _ _ _ _ _ _ _ _
   | exact ih1 _ _ _ _ _ _ _ _
   | exact zq2.mono _ _ _ _ _ _ _
   | exact LeO.none _
   | refine LeO.ite ?_ ?_
   | refine LeO.bind ?_ (fun _=>?_)
set_option maxHeartbeats 8000000 in
set_option maxRecDepth 100000 in
theorem zqd.calls (k:Nat) (a0:Int) (a1_0:Int) (a1_1:Int) (a1_2:ByteArray) (a2_0:Int) (a2_1:Int) (a2_2:ByteArray) (r1:Int) (r2:Int) (w:World) (hL:LD w) (h:zqd.f k a0 a1_0 a1_1 a1_2 a2_0 a2_1 a2_2=some (r1,r2)) :
  Calls Tryd.prog 134 #[.int .i64 a0,.agg #[.int .i64 a1_0,.int .i64 a1_1,.string a1_2],.agg #[.int .i64 a2_0,.int .i64 a2_1,.string a2_2]] w fun e w'=>e = .returned (.tuple #[.int .i64 r1,.int .i64 r2])∧Below w.heap.size w w':=by
 have hu38:=Tryd.underlying38
 have HLD:=zq.mk hL
 clear hL
 have HB:=zq.mk (Below.refl w.heap.size w)
 have H:(if a0<13 then(zqd.j0 k a0 true a1_0 a1_1 a1_2 a2_0 a2_1 a2_2) else (zqd.j0 k a0 (decide (a0 > 18)) a1_0 a1_1 a1_2 a2_0 a2_1 a2_2))=some (r1,r2):=h
 clear h
 have HC4:=zq.mk H
 clear H
 go_enter Tryd.func134,Tryd.ntmps134
 go_upto_region 1 with (first|((with_reducible refine qo (N:=4) rfl ?_);refine qd ?hg (N:=4) ?hd (cs:=#[.int .i64 a1_0,.int .i64 a1_1,.string a1_2]) (t:=38) ?hr ?_;(case hd=>rfl);(case hg=>rfl);(case hr=>first|(go_simp;done)|(go_simp;rfl));intro gb133 hg w5 hbox hb;have BK133:=zq.mk (hbox);have GW133:=zq.mk ((by rw [hg];exact(zy bw):w.heap.size≤gb133));have GE133:=zq.mk ((by rw [hg];exact(zy bw):w.heap.size≤gb133));replace HB:=zq.mk (zt bw hb);clear hb hbox hg)|((with_reducible refine qo (N:=5) rfl ?_);refine qd ?hg (N:=5) ?hd (cs:=#[.int .i64 a2_0,.int .i64 a2_1,.string a2_2]) (t:=38) ?hr ?_;(case hd=>rfl);(case hg=>rfl);(case hr=>first|(go_simp;done)|(go_simp;rfl));intro gb134 hg w6 hbox hb;have BK134:=zq.mk (hbox);have GW134:=zq.mk ((by rw [hg];exact(zy bw):w.heap.size≤gb134));have GE134:=zq.mk ((by rw [hg];exact(zy bw):w.heap.size≤gb134));replace HB:=zq.mk (zt bw hb);have NB133_134:=zq.mk ((by rw [hg];exact Nat.ne_of_lt (qi (g:=gb133) (o:=.cells #[.int .i64 a1_0,.int .i64 a1_1,.string a1_2] 38 (0,0)) (up BK133.out)):gb133≠gb134));have NB134_133:=zq.mk ((by rw [hg];exact Nat.ne_of_gt (qi (g:=gb133) (o:=.cells #[.int .i64 a1_0,.int .i64 a1_1,.string a1_2] 38 (0,0)) (up BK133.out)):gb134≠gb133));replace BK133:=zq.mk (za (g:=gb133) (o:=.cells #[.int .i64 a1_0,.int .i64 a1_1,.string a1_2] 38 (0,0)) (up BK133.out) hb);clear hb hbox hg))
 (try simp only [Act.put,List.setIfInBounds_toArray,List.set_cons_zero,List.set_cons_succ])
 go_cut [14] (fun v14 wc => ∃ (kq:Nat) (x14_3:Bool),v14 = .bool x14_3∧zq (zqd.j0 kq a0 x14_3 a1_0 a1_1 a1_2 a2_0 a2_1 a2_2=some (r1,r2))∧zq (kq≤k)∧zq (wc.heap[gb133]? = some (.cells #[.int .i64 a1_0,.int .i64 a1_1,.string a1_2] 38 (0,0)))∧zq (wc.heap[gb134]? = some (.cells #[.int .i64 a2_0,.int .i64 a2_1,.string a2_2] 38 (0,0)))∧zq (Below w.heap.size w wc))
 case first=>
  have H:=HC4.out
  clear HC4
  by_cases c7:a0<13
  ·rw [if_pos c7] at H
   have c7b0:=decide_eq_true c7
   clear c7
   (first|rw [c7b0]|(simp only [zjs,zjt];rw [c7b0])|skip)
   have H':=zq.mk H
   clear H
   go_wp2
   go_meet
   case rel=>exact⟨_,(true),vr,H',⟨by first|omega|exact Nat.le_refl _⟩,⟨by(with_reducible repeat(first|refine zh ?_ _|refine zc ?_|refine zv ?_ _));exact BK133.out⟩,⟨by(with_reducible repeat(first|refine zh ?_ _|refine zc ?_|refine zv ?_ _));exact BK134.out⟩,⟨bw⟩⟩
  rw [if_neg c7] at H
  have c7b0:=decide_eq_false c7
  clear c7
  (first|rw [c7b0]|(simp only [zjs,zjt];rw [c7b0])|skip)
  have H':=zq.mk H
  clear H
  go_wp2
  go_meet
  case rel=>exact⟨_,(decide (a0 > 18)),vr,H',⟨by first|omega|exact Nat.le_refl _⟩,⟨by(with_reducible repeat(first|refine zh ?_ _|refine zc ?_|refine zv ?_ _));exact BK133.out⟩,⟨by(with_reducible repeat(first|refine zh ?_ _|refine zc ?_|refine zv ?_ _));exact BK134.out⟩,⟨bw⟩⟩
 case rest=>
  clear HC4
  obtain ⟨kq,x14_3,rfl,HA,HJ3,BK133,BK134,HB⟩:=hcut
  cases kq with
  | zero=>exact absurd HA.out (by simp [zqd.j0])
  | succ kj3=>
   have H:=HA.out
   clear HA
   simp only [zqd.j0] at H
   by_cases c8:x14_3=true
   ·subst c8
    rw [if_pos rfl] at H
    simp only [Option.some.injEq,Prod.mk.injEq] at H
    obtain ⟨rfl,rfl⟩:=H
    go_wp2
    go_ret2
    exact⟨by first|rfl|(simp [zx,zj] <;> rfl)|(simp [*,zx,zj] <;> rfl),bw⟩
   replace c8:=Bool.eq_false_iff.mpr c8
   subst c8
   rw [if_neg (show ¬ (false=true) by decide)] at H
   replace H:=Option.bind_eq_some_iff.mp H
   obtain ⟨t135,A90,H⟩:=H
   replace H:(if t135=0 then(if a1_0=0 then(zqd.j1 kj3 a0 true a1_0 a1_1 a1_2 a2_0 a2_1 a2_2) else (zqd.j1 kj3 a0 (a2_0 == 0) a1_0 a1_1 a1_2 a2_0 a2_1 a2_2)) else (some (0,t135)))=some (r1,r2):=H
   have A9:=zq.mk A90
   clear A90
   by_cases c10:t135=0
   ·rw [if_pos c10] at H
    have c10b0:(t135 == 0)=true:=beq_iff_eq.mpr c10
    have c10b1:(t135 != 0)=false:=bne_eq_false_iff_eq.mpr c10
    clear c10
    have HC11:=zq.mk H
    clear H
    have hnb12:=NB133_134.out
    have hnc12:=NB134_133.out
    obtain ⟨hcz13_0,hcz13_1,hcz13_2,hfz13_0,hfz13_1,hfz13_2⟩:=zb BK133.out
    obtain ⟨hcz14_0,hcz14_1,hcz14_2,hfz14_0,hfz14_1,hfz14_2⟩:=zb BK134.out
    go_upto_region 6 with (first|((with_reducible refine zl (f:=155) rfl ?_);refine qu (some 17) rfl rfl Tryd.func155 (by kernel_rfl) rfl #[.agg #[.int .i64 a1_0,.int .i64 a1_1,.string a1_2],.agg #[.int .i64 a2_0,.int .i64 a2_1,.string a2_2]] rfl gs ?_;(with_reducible refine(zq2.calls kj3 a1_0 a1_1 a1_2 a2_0 a2_1 a2_2 t135 _ ?side1 A9.out).mono ?_);(case side1=>exact LD.below HLD.out (by first|(with_reducible exact Below.refl _ _)|((repeat(first|(with_reducible exact Below.refl _ _)|(with_reducible apply zp)|(with_reducible apply qc)|(with_reducible apply zqa)));done)|exact bw));rintro e w15 ⟨rfl,hb⟩;refine⟨_,rfl,?_⟩;replace BK133:=zq.mk (za (g:=gb133) (o:=.cells #[.int .i64 a1_0,.int .i64 a1_1,.string a1_2] 38 (0,0)) (up BK133.out) hb);replace BK134:=zq.mk (za (g:=gb134) (o:=.cells #[.int .i64 a2_0,.int .i64 a2_1,.string a2_2] 38 (0,0)) (up BK134.out) hb);replace HB:=zq.mk (zt bw hb);(try clear hb);(try clear hb2);(try clear hk);(try clear hi)))
    (try simp only [Act.put,List.setIfInBounds_toArray,List.set_cons_zero,List.set_cons_succ])
    go_cut [21] (fun v21 wc => ∃ (kq:Nat) (x21_10:Bool),v21 = .bool x21_10∧zq (zqd.j1 kq a0 x21_10 a1_0 a1_1 a1_2 a2_0 a2_1 a2_2=some (r1,r2))∧zq (kq≤kj3)∧zq (wc.heap[gb133]? = some (.cells #[.int .i64 a1_0,.int .i64 a1_1,.string a1_2] 38 (0,0)))∧zq (wc.heap[gb134]? = some (.cells #[.int .i64 a2_0,.int .i64 a2_1,.string a2_2] 38 (0,0)))∧zq (Below w.heap.size w wc))
    case first=>
     have H:=HC11.out
     clear HC11
     by_cases c16:a1_0=0
     ·rw [if_pos c16] at H
      have c16b0:(a1_0 == 0)=true:=beq_iff_eq.mpr c16
      have c16b1:(a1_0 != 0)=false:=bne_eq_false_iff_eq.mpr c16
      clear c16
      (first|rw [c16b0]|(simp only [zjs,zjt];rw [c16b0])|skip)
      have H':=zq.mk H
      clear H
      have hnb17:=NB133_134.out
      have hnc17:=NB134_133.out
      obtain ⟨hcz18_0,hcz18_1,hcz18_2,hfz18_0,hfz18_1,hfz18_2⟩:=zb BK133.out
      go_wp2
      go_meet
      case rel=>exact⟨_,(true),vr,H',⟨by have:=HJ3.out;first|omega|exact Nat.le_refl _⟩,⟨by(with_reducible repeat(first|refine zh ?_ _|refine zc ?_|refine zv ?_ _));exact BK133.out⟩,⟨by(with_reducible repeat(first|refine zh ?_ _|refine zc ?_|refine zv ?_ _));exact BK134.out⟩,⟨bw⟩⟩
     rw [if_neg c16] at H
     have c16b0:(a1_0 == 0)=false:=beq_eq_false_iff_ne.mpr c16
     have c16b1:(a1_0 != 0)=true:=bne_iff_ne.mpr c16
     (first|rw [c16b0]|(simp only [zjs,zjt];rw [c16b0])|skip)
     have H':=zq.mk H
     clear H
     have hnb19:=NB133_134.out
     have hnc19:=NB134_133.out
     obtain ⟨hcz20_0,hcz20_1,hcz20_2,hfz20_0,hfz20_1,hfz20_2⟩:=zb BK133.out
     obtain ⟨hcz21_0,hcz21_1,hcz21_2,hfz21_0,hfz21_1,hfz21_2⟩:=zb BK134.out
     go_wp2
     go_meet
     case rel=>exact⟨_,((a2_0 == 0)),vr,H',⟨by have:=HJ3.out;first|omega|exact Nat.le_refl _⟩,⟨by(with_reducible repeat(first|refine zh ?_ _|refine zc ?_|refine zv ?_ _));exact BK133.out⟩,⟨by(with_reducible repeat(first|refine zh ?_ _|refine zc ?_|refine zv ?_ _));exact BK134.out⟩,⟨bw⟩⟩
    case rest=>
     clear HC11
     (try clear c8);(try clear c10);(try clear c10b0);(try clear c10b1);(try clear hcz13_0);(try clear hcz13_1);(try clear hcz13_2);(try clear hcz14_0);(try clear hcz14_1);(try clear hcz14_2);(try clear hfz13_0);(try clear hfz13_1);(try clear hfz13_2);(try clear hfz14_0);(try clear hfz14_1);(try clear hfz14_2)
     obtain ⟨kq,x21_10,rfl,HA,HJ10,BK133,BK134,HB⟩:=hcut
     cases kq with
     | zero=>exact absurd HA.out (by simp [zqd.j1])
     | succ kj10=>
      have H:=HA.out
      clear HA
      simp only [zqd.j1] at H
      by_cases c22:x21_10=true
      ·subst c22
       rw [if_pos rfl] at H
       simp only [Option.some.injEq,Prod.mk.injEq] at H
       obtain ⟨rfl,rfl⟩:=H
       go_wp2
       go_ret2
       exact⟨by first|rfl|(simp [zx,zj] <;> rfl)|(simp [*,zx,zj] <;> rfl),bw⟩
      replace c22:=Bool.eq_false_iff.mpr c22
      subst c22
      rw [if_neg (show ¬ (false=true) by decide)] at H
      by_cases c23:a1_0=a2_0
      ·rw [if_pos c23] at H
       have c23b0:(a1_0 == a2_0)=true:=beq_iff_eq.mpr c23
       have c23b1:(a1_0 != a2_0)=false:=bne_eq_false_iff_eq.mpr c23
       clear c23
       replace H:=Option.bind_eq_some_iff.mp H
       obtain ⟨t136,A240,H⟩:=H
       replace H:((zjk.f a0 t136).bind fun t137=>(if t137=true then(some (2,0)) else (some (0,0))))=some (r1,r2):=H
       have A24:=zq.mk A240
       clear A240
       replace H:=Option.bind_eq_some_iff.mp H
       obtain ⟨t137,A250,H⟩:=H
       replace H:(if t137=true then(some (2,0)) else (some (0,0)))=some (r1,r2):=H
       have A25:=zq.mk A250
       clear A250
       by_cases c26:t137=true
       ·subst c26
        rw [if_pos rfl] at H
        simp only [Option.some.injEq,Prod.mk.injEq] at H
        obtain ⟨rfl,rfl⟩:=H
        have hnb27:=NB133_134.out
        have hnc27:=NB134_133.out
        obtain ⟨hcz28_0,hcz28_1,hcz28_2,hfz28_0,hfz28_1,hfz28_2⟩:=zb BK133.out
        obtain ⟨hcz29_0,hcz29_1,hcz29_2,hfz29_0,hfz29_1,hfz29_2⟩:=zb BK134.out
        go_wp2_with (first|((with_reducible refine zl (f:=157) rfl ?_);refine qu (some 40) rfl rfl Tryd.func157 (by kernel_rfl) rfl #[.agg #[.int .i64 a1_0,.int .i64 a1_1,.string a1_2],.agg #[.int .i64 a2_0,.int .i64 a2_1,.string a2_2]] rfl gs ?_;(with_reducible refine(zj0.calls a1_0 a1_1 a1_2 a2_0 a2_1 a2_2 t136 _ A24.out).mono ?_);rintro e w30 ⟨rfl,hb⟩;refine⟨_,rfl,?_⟩;replace BK133:=zq.mk (za (g:=gb133) (o:=.cells #[.int .i64 a1_0,.int .i64 a1_1,.string a1_2] 38 (0,0)) (up BK133.out) hb);replace BK134:=zq.mk (za (g:=gb134) (o:=.cells #[.int .i64 a2_0,.int .i64 a2_1,.string a2_2] 38 (0,0)) (up BK134.out) hb);replace HB:=zq.mk (zt bw hb);(try clear hb);(try clear hb2);(try clear hk);(try clear hi))|((with_reducible refine zl (f:=156) rfl ?_);refine qu (some 41) rfl rfl Tryd.func156 (by kernel_rfl) rfl #[.int .i64 a0,.int .i64 t136] rfl gs ?_;(with_reducible refine(zjk.calls a0 t136 true _ A25.out).mono ?_);rintro e w31 ⟨rfl,hb⟩;refine⟨_,rfl,?_⟩;replace BK133:=zq.mk (za (g:=gb133) (o:=.cells #[.int .i64 a1_0,.int .i64 a1_1,.string a1_2] 38 (0,0)) (up BK133.out) hb);replace BK134:=zq.mk (za (g:=gb134) (o:=.cells #[.int .i64 a2_0,.int .i64 a2_1,.string a2_2] 38 (0,0)) (up BK134.out) hb);replace HB:=zq.mk (zt bw hb);(try clear hb);(try clear hb2);(try clear hk);(try clear hi)))
        go_ret2
        exact⟨by first|rfl|(simp [zx,zj] <;> rfl)|(simp [*,zx,zj] <;> rfl),bw⟩
       replace c26:=Bool.eq_false_iff.mpr c26
       subst c26
       rw [if_neg (show ¬ (false=true) by decide)] at H
       simp only [Option.some.injEq,Prod.mk.injEq] at H
       obtain ⟨rfl,rfl⟩:=H
       have hnb32:=NB133_134.out
       have hnc32:=NB134_133.out
       obtain ⟨hcz33_0,hcz33_1,hcz33_2,hfz33_0,hfz33_1,hfz33_2⟩:=zb BK133.out
       obtain ⟨hcz34_0,hcz34_1,hcz34_2,hfz34_0,hfz34_1,hfz34_2⟩:=zb BK134.out
       go_wp2_with (first|((with_reducible refine zl (f:=157) rfl ?_);refine qu (some 40) rfl rfl Tryd.func157 (by kernel_rfl) rfl #[.agg #[.int .i64 a1_0,.int .i64 a1_1,.string a1_2],.agg #[.int .i64 a2_0,.int .i64 a2_1,.string a2_2]] rfl gs ?_;(with_reducible refine(zj0.calls a1_0 a1_1 a1_2 a2_0 a2_1 a2_2 t136 _ A24.out).mono ?_);rintro e w35 ⟨rfl,hb⟩;refine⟨_,rfl,?_⟩;replace BK133:=zq.mk (za (g:=gb133) (o:=.cells #[.int .i64 a1_0,.int .i64 a1_1,.string a1_2] 38 (0,0)) (up BK133.out) hb);replace BK134:=zq.mk (za (g:=gb134) (o:=.cells #[.int .i64 a2_0,.int .i64 a2_1,.string a2_2] 38 (0,0)) (up BK134.out) hb);replace HB:=zq.mk (zt bw hb);(try clear hb);(try clear hb2);(try clear hk);(try clear hi))|((with_reducible refine zl (f:=156) rfl ?_);refine qu (some 41) rfl rfl Tryd.func156 (by kernel_rfl) rfl #[.int .i64 a0,.int .i64 t136] rfl gs ?_;(with_reducible refine(zjk.calls a0 t136 false _ A25.out).mono ?_);rintro e w36 ⟨rfl,hb⟩;refine⟨_,rfl,?_⟩;replace BK133:=zq.mk (za (g:=gb133) (o:=.cells #[.int .i64 a1_0,.int .i64 a1_1,.string a1_2] 38 (0,0)) (up BK133.out) hb);replace BK134:=zq.mk (za (g:=gb134) (o:=.cells #[.int .i64 a2_0,.int .i64 a2_1,.string a2_2] 38 (0,0)) (up BK134.out) hb);replace HB:=zq.mk (zt bw hb);(try clear hb);(try clear hb2);(try clear hk);(try clear hi)))
       go_ret2
       exact⟨by first|rfl|(simp [zx,zj] <;> rfl)|(simp [*,zx,zj] <;> rfl),bw⟩
      rw [if_neg c23] at H
      have c23b0:(a1_0 == a2_0)=false:=beq_eq_false_iff_ne.mpr c23
      have c23b1:(a1_0 != a2_0)=true:=bne_iff_ne.mpr c23
      simp only [Option.some.injEq,Prod.mk.injEq] at H
      obtain ⟨rfl,rfl⟩:=H
      have hnb37:=NB133_134.out
      have hnc37:=NB134_133.out
      obtain ⟨hcz38_0,hcz38_1,hcz38_2,hfz38_0,hfz38_1,hfz38_2⟩:=zb BK133.out
      obtain ⟨hcz39_0,hcz39_1,hcz39_2,hfz39_0,hfz39_1,hfz39_2⟩:=zb BK134.out
      go_wp2
      go_ret2
      exact⟨by first|rfl|(simp [zx,zj] <;> rfl)|(simp [*,zx,zj] <;> rfl),bw⟩
   rw [if_neg c10] at H
   have c10b0:(t135 == 0)=false:=beq_eq_false_iff_ne.mpr c10
   have c10b1:(t135 != 0)=true:=bne_iff_ne.mpr c10
   simp only [Option.some.injEq,Prod.mk.injEq] at H
   obtain ⟨rfl,rfl⟩:=H
   have hnb40:=NB133_134.out
   have hnc40:=NB134_133.out
   obtain ⟨hcz41_0,hcz41_1,hcz41_2,hfz41_0,hfz41_1,hfz41_2⟩:=zb BK133.out
   obtain ⟨hcz42_0,hcz42_1,hcz42_2,hfz42_0,hfz42_1,hfz42_2⟩:=zb BK134.out
   go_wp2_with (first|((with_reducible refine zl (f:=155) rfl ?_);refine qu (some 17) rfl rfl Tryd.func155 (by kernel_rfl) rfl #[.agg #[.int .i64 a1_0,.int .i64 a1_1,.string a1_2],.agg #[.int .i64 a2_0,.int .i64 a2_1,.string a2_2]] rfl gs ?_;(with_reducible refine(zq2.calls kj3 a1_0 a1_1 a1_2 a2_0 a2_1 a2_2 t135 _ ?side1 A9.out).mono ?_);(case side1=>exact LD.below HLD.out (by first|(with_reducible exact Below.refl _ _)|((repeat(first|(with_reducible exact Below.refl _ _)|(with_reducible apply zp)|(with_reducible apply qc)|(with_reducible apply zqa)));done)|exact bw));rintro e w43 ⟨rfl,hb⟩;refine⟨_,rfl,?_⟩;replace BK133:=zq.mk (za (g:=gb133) (o:=.cells #[.int .i64 a1_0,.int .i64 a1_1,.string a1_2] 38 (0,0)) (up BK133.out) hb);replace BK134:=zq.mk (za (g:=gb134) (o:=.cells #[.int .i64 a2_0,.int .i64 a2_1,.string a2_2] 38 (0,0)) (up BK134.out) hb);replace HB:=zq.mk (zt bw hb);(try clear hb);(try clear hb2);(try clear hk);(try clear hi)))
   go_ret2
   exact⟨by first|rfl|(simp [zx,zj] <;> rfl)|(simp [*,zx,zj] <;> rfl),bw⟩

/-! ### zj1: function 135 -/
def zj1.f (k:Nat) (a0:Bool):Option (Int × Int × ByteArray × Int):=if a0=true then((zqp.f k 2).bind fun bt139=>(some (bt139.1,bt139.2.1,bt139.2.2.1,bt139.2.2.2))) else ((zqp.f k 0).bind fun bt143=>(some (bt143.1,bt143.2.1,bt143.2.2.1,bt143.2.2.2)))
theorem zj1.mono:∀ a0 k,LeO (zj1.f k a0) (zj1.f (k+1) a0):=by
 intro a0 k
 unfold zj1.f
 repeat' first
   | (with_reducible first|exact zqp.mono _ _|exact LeO.refl _|exact LeO.none _|refine LeO.ite ?_ ?_|refine LeO.bind ?_ (fun _=>?_))
   | exact zqp.mono _ _
   | exact LeO.none _
   | refine LeO.ite ?_ ?_
   | refine LeO.bind ?_ (fun _=>?_)
set_option maxHeartbeats 8000000 in
set_option maxRecDepth 100000 in
theorem zj1.calls (k:Nat) (a0:Bool) (r1:Int) (r2:Int) (r3:ByteArray) (r4:Int) (w:World) (h:zj1.f k a0=some (r1,r2,r3,r4)) :
  Calls Tryd.prog 135 #[.bool a0] w fun e w'=>e = .returned (.tuple #[.agg #[.int .i64 r1,.int .i64 r2,.string r3],.int .i64 r4])∧Below w.heap.size w w':=by
 have hu38:=Tryd.underlying38
 have HB:=zq.mk (Below.refl w.heap.size w)
 have H:(if a0=true then((zqp.f k 2).bind fun bt139=>(some (bt139.1,bt139.2.1,bt139.2.2.1,bt139.2.2.2))) else ((zqp.f k 0).bind fun bt143=>(some (bt143.1,bt143.2.1,bt143.2.2.1,bt143.2.2.2))))=some (r1,r2,r3,r4):=h
 clear h
 by_cases c2:a0=true
 ·subst c2
  rw [if_pos rfl] at H
  replace H:=Option.bind_eq_some_iff.mp H
  obtain ⟨⟨t139,t140,t141,t142⟩,A30,H⟩:=H
  replace H:(some (t139,t140,t141,t142))=some (r1,r2,r3,r4):=H
  have A3:=zq.mk A30
  clear A30
  simp only [Option.some.injEq,Prod.mk.injEq] at H
  obtain ⟨rfl,rfl,rfl,rfl⟩:=H
  go_enter Tryd.func135,Tryd.ntmps135
  go_wp2_with (first|((with_reducible refine qo (N:=2) rfl ?_);refine qd ?hg (N:=2) ?hd (cs:=#[.int .i64 0,.int .i64 0,.string (⟨#[]⟩:ByteArray)]) (t:=38) ?hr ?_;(case hd=>rfl);(case hg=>rfl);(case hr=>first|(go_simp;done)|(go_simp;rfl));intro gb138 hg w4 hbox hb;have BK138:=zq.mk (hbox);have GW138:=zq.mk ((by rw [hg];exact(zy bw):w.heap.size≤gb138));have GE138:=zq.mk ((by rw [hg];exact(zy bw):w.heap.size≤gb138));replace HB:=zq.mk (zt bw hb);clear hb hbox hg)|((with_reducible refine zl (f:=132) rfl ?_);refine qu (some 5) rfl rfl Tryd.func132 (by kernel_rfl) rfl #[.int .i64 2] rfl gs ?_;(with_reducible refine(zqp.calls k 2 t139 t140 t141 t142 _ A3.out).mono ?_);rintro e w5 ⟨rfl,hb⟩;refine⟨_,rfl,?_⟩;replace BK138:=zq.mk (za (g:=gb138) (o:=.cells #[.int .i64 0,.int .i64 0,.string (⟨#[]⟩:ByteArray)] 38 (0,0)) (up BK138.out) hb);replace HB:=zq.mk (zt bw hb);(try clear hb);(try clear hb2);(try clear hk);(try clear hi);obtain ⟨hcz6_0,hcz6_1,hcz6_2,hfz6_0,hfz6_1,hfz6_2⟩:=zb BK138.out))
  refine bodyPost_ret (zqx rfl _ _ gb138 38 #[.int .i64 t139,.int .i64 t140,.string t141] (0,0) _ rfl (by(with_reducible repeat(first|refine zh ?_ _|refine zc ?_|refine zv ?_ _));refine zr (cs:=#[.int .i64 t139,.int .i64 t140,.string (⟨#[]⟩:ByteArray)]) ?_ 2 _ rfl;(with_reducible repeat(first|refine zh ?_ _|refine zc ?_|refine zv ?_ _));refine zr (cs:=#[.int .i64 t139,.int .i64 0,.string (⟨#[]⟩:ByteArray)]) ?_ 1 _ rfl;(with_reducible repeat(first|refine zh ?_ _|refine zc ?_|refine zv ?_ _));refine zr (cs:=#[.int .i64 0,.int .i64 0,.string (⟨#[]⟩:ByteArray)]) ?_ 0 _ rfl;(with_reducible repeat(first|refine zh ?_ _|refine zc ?_|refine zv ?_ _));exact BK138.out) Tryd.underlying38 rfl (by kernel_rfl)) rfl ?_
  exact⟨by first|rfl|(simp [zx,zj] <;> rfl)|(simp [*,zx,zj] <;> rfl),bw⟩
 replace c2:=Bool.eq_false_iff.mpr c2
 subst c2
 rw [if_neg (show ¬ (false=true) by decide)] at H
 replace H:=Option.bind_eq_some_iff.mp H
 obtain ⟨⟨t143,t144,t145,t146⟩,A70,H⟩:=H
 replace H:(some (t143,t144,t145,t146))=some (r1,r2,r3,r4):=H
 have A7:=zq.mk A70
 clear A70
 simp only [Option.some.injEq,Prod.mk.injEq] at H
 obtain ⟨rfl,rfl,rfl,rfl⟩:=H
 go_enter Tryd.func135,Tryd.ntmps135
 go_wp2_with (first|((with_reducible refine qo (N:=2) rfl ?_);refine qd ?hg (N:=2) ?hd (cs:=#[.int .i64 0,.int .i64 0,.string (⟨#[]⟩:ByteArray)]) (t:=38) ?hr ?_;(case hd=>rfl);(case hg=>rfl);(case hr=>first|(go_simp;done)|(go_simp;rfl));intro gb138 hg w8 hbox hb;have BK138:=zq.mk (hbox);have GW138:=zq.mk ((by rw [hg];exact(zy bw):w.heap.size≤gb138));have GE138:=zq.mk ((by rw [hg];exact(zy bw):w.heap.size≤gb138));replace HB:=zq.mk (zt bw hb);clear hb hbox hg)|((with_reducible refine zl (f:=132) rfl ?_);refine qu (some 8) rfl rfl Tryd.func132 (by kernel_rfl) rfl #[.int .i64 0] rfl gs ?_;(with_reducible refine(zqp.calls k 0 t143 t144 t145 t146 _ A7.out).mono ?_);rintro e w9 ⟨rfl,hb⟩;refine⟨_,rfl,?_⟩;replace BK138:=zq.mk (za (g:=gb138) (o:=.cells #[.int .i64 0,.int .i64 0,.string (⟨#[]⟩:ByteArray)] 38 (0,0)) (up BK138.out) hb);replace HB:=zq.mk (zt bw hb);(try clear hb);(try clear hb2);(try clear hk);(try clear hi);obtain ⟨hcz10_0,hcz10_1,hcz10_2,hfz10_0,hfz10_1,hfz10_2⟩:=zb BK138.out))
 refine bodyPost_ret (zqx rfl _ _ gb138 38 #[.int .i64 t143,.int .i64 t144,.string t145] (0,0) _ rfl (by(with_reducible repeat(first|refine zh ?_ _|refine zc ?_|refine zv ?_ _));refine zr (cs:=#[.int .i64 t143,.int .i64 t144,.string (⟨#[]⟩:ByteArray)]) ?_ 2 _ rfl;(with_reducible repeat(first|refine zh ?_ _|refine zc ?_|refine zv ?_ _));refine zr (cs:=#[.int .i64 t143,.int .i64 0,.string (⟨#[]⟩:ByteArray)]) ?_ 1 _ rfl;(with_reducible repeat(first|refine zh ?_ _|refine zc ?_|refine zv ?_ _));refine zr (cs:=#[.int .i64 0,.int .i64 0,.string (⟨#[]⟩:ByteArray)]) ?_ 0 _ rfl;(with_reducible repeat(first|refine zh ?_ _|refine zc ?_|refine zv ?_ _));exact BK138.out) Tryd.underlying38 rfl (by kernel_rfl)) rfl ?_
 exact⟨by first|rfl|(simp [zx,zj] <;> rfl)|(simp [*,zx,zj] <;> rfl),bw⟩

end Go.Proofs.YthhejedfjgikdaaDoor.PRelProjects
