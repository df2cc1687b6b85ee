-- Written by wip/pp of this repo (over the kit's print, with additions of this session); Lean checks every line.
import Derived.Test.YtkgllmjlhaimcaaDoorPEvalEvalsx4
namespace Go.Proofs.YtkgllmjlhaimcaaDoor.PEvalEvals
open Go.RowKit Go.Proofs.YtkgllmjlhaimcaaDoorW.PrintWords Go.Proofs.YtkgllmjlhaimcaaDoorW.PrintLast Go.Proofs.YtkgllmjlhaimcaaDoorW.PrintMore
attribute [local go_sem] zje zjc zjo zjn zq4 zq3 zjd zjb   -- for this text's walks alone
set_option linter.unusedVariables false
set_option linter.unusedSimpArgs false

/-! ### zxo: function 92 -/
def zxo.f (a0:Int) (a1:Int):Option (Int × Int):=(zqn.f (wrap64 (a0 - a1)) (decide ((Go.bits .and .i64 (Go.bits .xor .i64 a0 a1) (Go.bits .xor .i64 a0 (wrap64 (a0 - a1)))) ≥ 0))).bind fun bt144=>(some (bt144.1,bt144.2))
set_option maxHeartbeats 8000000 in
set_option maxRecDepth 100000 in
theorem zxo.calls (a0:Int) (a1:Int) (r1:Int) (r2:Int) (w:World) (h:zxo.f a0 a1=some (r1,r2)) :
  Calls Tryd.prog 92 #[.int .i64 a0,.int .i64 a1] w fun e w'=>e = .returned (.tuple #[.int .i64 r1,.int .i64 r2])∧zu w w':=by
 have H:((zqn.f (wrap64 (a0 - a1)) (decide ((Go.bits .and .i64 (Go.bits .xor .i64 a0 a1) (Go.bits .xor .i64 a0 (wrap64 (a0 - a1)))) ≥ 0))).bind fun bt144=>(some (bt144.1,bt144.2)))=some (r1,r2):=h
 clear h
 replace H:=Option.bind_eq_some_iff.mp H
 obtain ⟨⟨t144,t145⟩,A30,H⟩:=H
 replace H:(some (t144,t145))=some (r1,r2):=H
 have A3:=zq.mk A30
 clear A30
 simp only [Option.some.injEq,Prod.mk.injEq] at H
 obtain ⟨rfl,rfl⟩:=H
 go_enter Tryd.func92,Tryd.ntmps92
 go_wp2_with (first|((with_reducible refine zo (f:=107) rfl ?_);refine qo (some 19) rfl rfl Tryd.func107 (by kernel_rfl) rfl #[.int .i64 (wrap64 (a0 - a1)),.bool (decide ((Go.bits .and .i64 (Go.bits .xor .i64 a0 a1) (Go.bits .xor .i64 a0 (wrap64 (a0 - a1)))) ≥ 0))] rfl gs ?_;(with_reducible refine(zqn.calls (wrap64 (a0 - a1)) (decide ((Go.bits .and .i64 (Go.bits .xor .i64 a0 a1) (Go.bits .xor .i64 a0 (wrap64 (a0 - a1)))) ≥ 0)) t144 t145 _ A3.out).mono ?_);rintro e w' ⟨rfl,⟨nd,rfl⟩⟩;refine⟨_,rfl,?_⟩))
 go_ret2
 exact⟨by first|rfl|(simp;done)|(simp [*];done),by repeat(first|exact zu.refl _|apply zu.step)⟩

/-! ### zjj: function 106 -/
def zjj.f  : Option (Int):=some (wrap64 (1 * 9223372036854775808))
set_option maxHeartbeats 8000000 in
set_option maxRecDepth 100000 in
theorem zjj.calls  (r:Int) (w:World) (h:zjj.f  = some r) :
  Calls Tryd.prog 106 #[] w fun e w'=>e = .returned (.int .i64 r)∧zu w w':=by
 have H:(some (wrap64 (1 * 9223372036854775808)))=some r:=h
 clear h
 obtain rfl:=Option.some.inj H
 go_enter Tryd.func106,Tryd.ntmps106
 go_wp2
 go_ret
 exact⟨by first|rfl|(simp;done)|(simp [*];done),by repeat(first|exact zu.refl _|apply zu.step)⟩

/-! ### zjt: function 90 -/
def zjt.f (a0:Int):Option (Int × Int):=(zjj.f).bind fun t146=>(if a0=t146 then((zqn.f a0 false).bind fun bt147=>(some (bt147.1,bt147.2))) else ((zqn.f (wrap64 (-a0)) true).bind fun bt149=>(some (bt149.1,bt149.2))))
set_option maxHeartbeats 8000000 in
set_option maxRecDepth 100000 in
theorem zjt.calls (a0:Int) (r1:Int) (r2:Int) (w:World) (h:zjt.f a0=some (r1,r2)) :
  Calls Tryd.prog 90 #[.int .i64 a0] w fun e w'=>e = .returned (.tuple #[.int .i64 r1,.int .i64 r2])∧zu w w':=by
 have H:((zjj.f).bind fun t146=>(if a0=t146 then((zqn.f a0 false).bind fun bt147=>(some (bt147.1,bt147.2))) else ((zqn.f (wrap64 (-a0)) true).bind fun bt149=>(some (bt149.1,bt149.2)))))=some (r1,r2):=h
 clear h
 replace H:=Option.bind_eq_some_iff.mp H
 obtain ⟨t146,A20,H⟩:=H
 replace H:(if a0=t146 then((zqn.f a0 false).bind fun bt147=>(some (bt147.1,bt147.2))) else ((zqn.f (wrap64 (-a0)) true).bind fun bt149=>(some (bt149.1,bt149.2))))=some (r1,r2):=H
 have A2:=zq.mk A20
 clear A20
 by_cases c3:a0=t146
 ·rw [if_pos c3] at H
  have c3b0:(a0 == t146)=true:=beq_iff_eq.mpr c3
  have c3b1:(a0 != t146)=false:=bne_eq_false_iff_eq.mpr c3
  clear c3
  replace H:=Option.bind_eq_some_iff.mp H
  obtain ⟨⟨t147,t148⟩,A40,H⟩:=H
  replace H:(some (t147,t148))=some (r1,r2):=H
  have A4:=zq.mk A40
  clear A40
  simp only [Option.some.injEq,Prod.mk.injEq] at H
  obtain ⟨rfl,rfl⟩:=H
  go_enter Tryd.func90,Tryd.ntmps90
  go_wp2_with (first|((with_reducible refine zo (f:=106) rfl ?_);refine qo (some 5) rfl rfl Tryd.func106 (by kernel_rfl) rfl #[] rfl gs ?_;(with_reducible refine(zjj.calls  t146 _ A2.out).mono ?_);rintro e w' ⟨rfl,⟨nd,rfl⟩⟩;refine⟨_,rfl,?_⟩)|((with_reducible refine zo (f:=107) rfl ?_);refine qo (some 8) rfl rfl Tryd.func107 (by kernel_rfl) rfl #[.int .i64 a0,.bool false] rfl gs ?_;(with_reducible refine(zqn.calls a0 false t147 t148 _ A4.out).mono ?_);rintro e w' ⟨rfl,⟨nd,rfl⟩⟩;refine⟨_,rfl,?_⟩))
  go_ret2
  exact⟨by first|rfl|(simp;done)|(simp [*];done),by repeat(first|exact zu.refl _|apply zu.step)⟩
 rw [if_neg c3] at H
 have c3b0:(a0 == t146)=false:=beq_eq_false_iff_ne.mpr c3
 have c3b1:(a0 != t146)=true:=bne_iff_ne.mpr c3
 replace H:=Option.bind_eq_some_iff.mp H
 obtain ⟨⟨t149,t150⟩,A50,H⟩:=H
 replace H:(some (t149,t150))=some (r1,r2):=H
 have A5:=zq.mk A50
 clear A50
 simp only [Option.some.injEq,Prod.mk.injEq] at H
 obtain ⟨rfl,rfl⟩:=H
 go_enter Tryd.func90,Tryd.ntmps90
 go_wp2_with (first|((with_reducible refine zo (f:=106) rfl ?_);refine qo (some 5) rfl rfl Tryd.func106 (by kernel_rfl) rfl #[] rfl gs ?_;(with_reducible refine(zjj.calls  t146 _ A2.out).mono ?_);rintro e w' ⟨rfl,⟨nd,rfl⟩⟩;refine⟨_,rfl,?_⟩)|((with_reducible refine zo (f:=107) rfl ?_);refine qo (some 13) rfl rfl Tryd.func107 (by kernel_rfl) rfl #[.int .i64 (wrap64 (-a0)),.bool true] rfl gs ?_;(with_reducible refine(zqn.calls (wrap64 (-a0)) true t149 t150 _ A5.out).mono ?_);rintro e w' ⟨rfl,⟨nd,rfl⟩⟩;refine⟨_,rfl,?_⟩))
 go_ret2
 exact⟨by first|rfl|(simp;done)|(simp [*];done),by repeat(first|exact zu.refl _|apply zu.step)⟩

/-! ### zq2: function 93 -/
def zq2.j0:Nat→Int→Int→Bool→Option (Int × Int)
 | 0,_,_,_=>none
 | k+1,x0,x1,x12=>if x12=true then(some (0,0)) else (if x0=(-1) then((zjt.f x1).bind fun bt151=>(some (bt151.1,bt151.2))) else (if x1=(-1) then((zjt.f x0).bind fun bt153=>(some (bt153.1,bt153.2))) else (if x1=0 then(none) else ((zqn.f (wrap64 (x0 * x1)) ((wrap64 (Int.tdiv (wrap64 (x0 * x1)) x1)) == x0)).bind fun bt155=>(some (bt155.1,bt155.2))))))
def zq2.f (k:Nat) (a0:Int) (a1:Int):Option (Int × Int):=if a0=0 then(zq2.j0 k a0 a1 true) else (zq2.j0 k a0 a1 (a1 == 0))
theorem zq2.mono_l:∀ k,(∀ y0 y1 y2,LeO (zq2.j0 k y0 y1 y2) (zq2.j0 (k+1) y0 y1 y2))
 | 0=>fun _ _ _ r h=>by simp [zq2.j0] at h
 | k+1=>by
  have ih0:=zq2.mono_l k
  intro y0 y1 y2
  unfold zq2.j0
  repeat' first
  | (with_reducible first|exact ih0 _ _ _|exact LeO.refl _|exact LeO.none _|refine LeO.ite ?_ ?_|refine LeO.bind ?_ (fun _=>?_))
  | exact ih0 _ _ _
  | exact LeO.none _
  | refine LeO.ite ?_ ?_
  | refine LeO.bind ?_ (fun _=>?_)
theorem zq2.mono:∀ a0 a1 k,LeO (zq2.f k a0 a1) (zq2.f (k+1) a0 a1):=by
 intro a0 a1 k
 have ih0:=zq2.mono_l k
 unfold zq2.f
 repeat' first
   | (with_reducible first|exact ih0 _ _ _|exact LeO.refl _|exact LeO.none _|refine LeO.ite ?_ ?_|refine LeO.bind ?_ (fun _=>?_))
   | exact ih0 _ _ _
   | exact LeO.none _
   | refine LeO.ite ?_ ?_
   | refine LeO.bind ?_ (fun _=>?_)
set_option maxHeartbeats 8000000 in
set_option maxRecDepth 100000 in
theorem zq2.calls (k:Nat) (a0:Int) (a1:Int) (r1:Int) (r2:Int) (w:World) (h:zq2.f k a0 a1=some (r1,r2)) :
  Calls Tryd.prog 93 #[.int .i64 a0,.int .i64 a1] w fun e w'=>e = .returned (.tuple #[.int .i64 r1,.int .i64 r2])∧zu w w':=by
 have H:(if a0=0 then(zq2.j0 k a0 a1 true) else (zq2.j0 k a0 a1 (a1 == 0)))=some (r1,r2):=h
 clear h
 have HC3:=zq.mk H
 clear H
 go_enter Tryd.func93,Tryd.ntmps93
 go_upto_region 1 with (fail)
 go_cut [12] (fun v12 wc => ∃ (kq:Nat) (x12_2:Bool),v12 = .bool x12_2∧zq (zq2.j0 kq a0 a1 x12_2=some (r1,r2))∧zq (kq≤k)∧zu w wc)
 case first=>
  have H:=HC3.out
  clear HC3
  by_cases c4:a0=0
  ·rw [if_pos c4] at H
   have c4b0:(a0 == 0)=true:=beq_iff_eq.mpr c4
   have c4b1:(a0 != 0)=false:=bne_eq_false_iff_eq.mpr c4
   clear c4
   (first|rw [c4b0]|(simp only [zqq,zqr];rw [c4b0])|skip)
   have H':=zq.mk H
   clear H
   go_wp2
   go_meet
   case rel=>exact⟨_,(true),vr,H',⟨by first|omega|exact Nat.le_refl _⟩,by repeat(first|exact zu.refl _|apply zu.step)⟩
  rw [if_neg c4] at H
  have c4b0:(a0 == 0)=false:=beq_eq_false_iff_ne.mpr c4
  have c4b1:(a0 != 0)=true:=bne_iff_ne.mpr c4
  (first|rw [c4b0]|(simp only [zqq,zqr];rw [c4b0])|skip)
  have H':=zq.mk H
  clear H
  go_wp2
  go_meet
  case rel=>exact⟨_,((a1 == 0)),vr,H',⟨by first|omega|exact Nat.le_refl _⟩,by repeat(first|exact zu.refl _|apply zu.step)⟩
 case rest=>
  clear HC3
  obtain ⟨kq,x12_2,rfl,HA,HJ2,⟨mc2,rfl⟩⟩:=hcut
  cases kq with
  | zero=>exact absurd HA.out (by simp [zq2.j0])
  | succ kj2=>
   have H:=HA.out
   clear HA
   simp only [zq2.j0] at H
   by_cases c5:x12_2=true
   ·subst c5
    rw [if_pos rfl] at H
    simp only [Option.some.injEq,Prod.mk.injEq] at H
    obtain ⟨rfl,rfl⟩:=H
    go_wp2
    go_ret2
    exact⟨by first|rfl|(simp;done)|(simp [*];done),by repeat(first|exact zu.refl _|apply zu.step)⟩
   replace c5:=Bool.eq_false_iff.mpr c5
   subst c5
   rw [if_neg (show ¬ (false=true) by decide)] at H
   by_cases c6:a0=(-1)
   ·rw [if_pos c6] at H
    have c6b0:(a0 == (-1))=true:=beq_iff_eq.mpr c6
    have c6b1:(a0 != (-1))=false:=bne_eq_false_iff_eq.mpr c6
    clear c6
    replace H:=Option.bind_eq_some_iff.mp H
    obtain ⟨⟨t151,t152⟩,A70,H⟩:=H
    replace H:(some (t151,t152))=some (r1,r2):=H
    have A7:=zq.mk A70
    clear A70
    simp only [Option.some.injEq,Prod.mk.injEq] at H
    obtain ⟨rfl,rfl⟩:=H
    go_wp2_with (first|((with_reducible refine zo (f:=90) rfl ?_);refine qo (some 16) rfl rfl Tryd.func90 (by kernel_rfl) rfl #[.int .i64 a1] rfl gs ?_;(with_reducible refine(zjt.calls a1 t151 t152 _ A7.out).mono ?_);rintro e w' ⟨rfl,⟨nd,rfl⟩⟩;refine⟨_,rfl,?_⟩))
    go_ret2
    exact⟨by first|rfl|(simp;done)|(simp [*];done),by repeat(first|exact zu.refl _|apply zu.step)⟩
   rw [if_neg c6] at H
   have c6b0:(a0 == (-1))=false:=beq_eq_false_iff_ne.mpr c6
   have c6b1:(a0 != (-1))=true:=bne_iff_ne.mpr c6
   by_cases c8:a1=(-1)
   ·rw [if_pos c8] at H
    have c8b0:(a1 == (-1))=true:=beq_iff_eq.mpr c8
    have c8b1:(a1 != (-1))=false:=bne_eq_false_iff_eq.mpr c8
    clear c8
    replace H:=Option.bind_eq_some_iff.mp H
    obtain ⟨⟨t153,t154⟩,A90,H⟩:=H
    replace H:(some (t153,t154))=some (r1,r2):=H
    have A9:=zq.mk A90
    clear A90
    simp only [Option.some.injEq,Prod.mk.injEq] at H
    obtain ⟨rfl,rfl⟩:=H
    go_wp2_with (first|((with_reducible refine zo (f:=90) rfl ?_);refine qo (some 22) rfl rfl Tryd.func90 (by kernel_rfl) rfl #[.int .i64 a0] rfl gs ?_;(with_reducible refine(zjt.calls a0 t153 t154 _ A9.out).mono ?_);rintro e w' ⟨rfl,⟨nd,rfl⟩⟩;refine⟨_,rfl,?_⟩))
    go_ret2
    exact⟨by first|rfl|(simp;done)|(simp [*];done),by repeat(first|exact zu.refl _|apply zu.step)⟩
   rw [if_neg c8] at H
   have c8b0:(a1 == (-1))=false:=beq_eq_false_iff_ne.mpr c8
   have c8b1:(a1 != (-1))=true:=bne_iff_ne.mpr c8
   by_cases c10:a1=0
   ·rw [if_pos c10] at H
    exact absurd H (by simp)
   rw [if_neg c10] at H
   have c10b0:(a1 == 0)=false:=beq_eq_false_iff_ne.mpr c10
   have c10b1:(a1 != 0)=true:=bne_iff_ne.mpr c10
   replace H:=Option.bind_eq_some_iff.mp H
   obtain ⟨⟨t155,t156⟩,A110,H⟩:=H
   replace H:(some (t155,t156))=some (r1,r2):=H
   have A11:=zq.mk A110
   clear A110
   simp only [Option.some.injEq,Prod.mk.injEq] at H
   obtain ⟨rfl,rfl⟩:=H
   go_wp2_with (first|((with_reducible refine zo (f:=107) rfl ?_);refine qo (some 34) rfl rfl Tryd.func107 (by kernel_rfl) rfl #[.int .i64 (wrap64 (a0 * a1)),.bool ((wrap64 (Int.tdiv (wrap64 (a0 * a1)) a1)) == a0)] rfl gs ?_;(with_reducible refine(zqn.calls (wrap64 (a0 * a1)) ((wrap64 (Int.tdiv (wrap64 (a0 * a1)) a1)) == a0) t155 t156 _ A11.out).mono ?_);rintro e w' ⟨rfl,⟨nd,rfl⟩⟩;refine⟨_,rfl,?_⟩))
   go_ret2
   exact⟨by first|rfl|(simp;done)|(simp [*];done),by repeat(first|exact zu.refl _|apply zu.step)⟩

/-! ### zxq: function 94 -/
def zxq.f (a0:Int) (a1:Int):Option (Int × Int):=if a1=0 then(some (0,11)) else (if a1=(-1) then((zjt.f a0).bind fun bt157=>(some (bt157.1,bt157.2))) else (some (wrap64 (Int.tdiv a0 a1),0)))
set_option maxHeartbeats 8000000 in
set_option maxRecDepth 100000 in
theorem zxq.calls (a0:Int) (a1:Int) (r1:Int) (r2:Int) (w:World) (h:zxq.f a0 a1=some (r1,r2)) :
  Calls Tryd.prog 94 #[.int .i64 a0,.int .i64 a1] w fun e w'=>e = .returned (.tuple #[.int .i64 r1,.int .i64 r2])∧zu w w':=by
 have H:(if a1=0 then(some (0,11)) else (if a1=(-1) then((zjt.f a0).bind fun bt157=>(some (bt157.1,bt157.2))) else (some (wrap64 (Int.tdiv a0 a1),0))))=some (r1,r2):=h
 clear h
 by_cases c3:a1=0
 ·rw [if_pos c3] at H
  have c3b0:(a1 == 0)=true:=beq_iff_eq.mpr c3
  have c3b1:(a1 != 0)=false:=bne_eq_false_iff_eq.mpr c3
  clear c3
  simp only [Option.some.injEq,Prod.mk.injEq] at H
  obtain ⟨rfl,rfl⟩:=H
  go_enter Tryd.func94,Tryd.ntmps94
  go_wp2
  go_ret2
  exact⟨by first|rfl|(simp;done)|(simp [*];done),by repeat(first|exact zu.refl _|apply zu.step)⟩
 rw [if_neg c3] at H
 have c3b0:(a1 == 0)=false:=beq_eq_false_iff_ne.mpr c3
 have c3b1:(a1 != 0)=true:=bne_iff_ne.mpr c3
 by_cases c4:a1=(-1)
 ·rw [if_pos c4] at H
  have c4b0:(a1 == (-1))=true:=beq_iff_eq.mpr c4
  have c4b1:(a1 != (-1))=false:=bne_eq_false_iff_eq.mpr c4
  clear c4
  replace H:=Option.bind_eq_some_iff.mp H
  obtain ⟨⟨t157,t158⟩,A50,H⟩:=H
  replace H:(some (t157,t158))=some (r1,r2):=H
  have A5:=zq.mk A50
  clear A50
  simp only [Option.some.injEq,Prod.mk.injEq] at H
  obtain ⟨rfl,rfl⟩:=H
  go_enter Tryd.func94,Tryd.ntmps94
  go_wp2_with (first|((with_reducible refine zo (f:=90) rfl ?_);refine qo (some 12) rfl rfl Tryd.func90 (by kernel_rfl) rfl #[.int .i64 a0] rfl gs ?_;(with_reducible refine(zjt.calls a0 t157 t158 _ A5.out).mono ?_);rintro e w' ⟨rfl,⟨nd,rfl⟩⟩;refine⟨_,rfl,?_⟩))
  go_ret2
  exact⟨by first|rfl|(simp;done)|(simp [*];done),by repeat(first|exact zu.refl _|apply zu.step)⟩
 rw [if_neg c4] at H
 have c4b0:(a1 == (-1))=false:=beq_eq_false_iff_ne.mpr c4
 have c4b1:(a1 != (-1))=true:=bne_iff_ne.mpr c4
 simp only [Option.some.injEq,Prod.mk.injEq] at H
 obtain ⟨rfl,rfl⟩:=H
 go_enter Tryd.func94,Tryd.ntmps94
 go_wp2
 go_ret2
 exact⟨by first|rfl|(simp;done)|(simp [*];done),by repeat(first|exact zu.refl _|apply zu.step)⟩

/-! ### zxp: function 95 -/
def zxp.f (a0:Int) (a1:Int):Option (Int × Int):=if a1=0 then(some (0,11)) else (if a1=(-1) then(some (0,0)) else (some (Int.tmod a0 a1,0)))
set_option maxHeartbeats 8000000 in
set_option maxRecDepth 100000 in
theorem zxp.calls (a0:Int) (a1:Int) (r1:Int) (r2:Int) (w:World) (h:zxp.f a0 a1=some (r1,r2)) :
  Calls Tryd.prog 95 #[.int .i64 a0,.int .i64 a1] w fun e w'=>e = .returned (.tuple #[.int .i64 r1,.int .i64 r2])∧zu w w':=by
 have H:(if a1=0 then(some (0,11)) else (if a1=(-1) then(some (0,0)) else (some (Int.tmod a0 a1,0))))=some (r1,r2):=h
 clear h
 by_cases c3:a1=0
 ·rw [if_pos c3] at H
  have c3b0:(a1 == 0)=true:=beq_iff_eq.mpr c3
  have c3b1:(a1 != 0)=false:=bne_eq_false_iff_eq.mpr c3
  clear c3
  simp only [Option.some.injEq,Prod.mk.injEq] at H
  obtain ⟨rfl,rfl⟩:=H
  go_enter Tryd.func95,Tryd.ntmps95
  go_wp2
  go_ret2
  exact⟨by first|rfl|(simp;done)|(simp [*];done),by repeat(first|exact zu.refl _|apply zu.step)⟩
 rw [if_neg c3] at H
 have c3b0:(a1 == 0)=false:=beq_eq_false_iff_ne.mpr c3
 have c3b1:(a1 != 0)=true:=bne_iff_ne.mpr c3
 by_cases c4:a1=(-1)
 ·rw [if_pos c4] at H
  have c4b0:(a1 == (-1))=true:=beq_iff_eq.mpr c4
  have c4b1:(a1 != (-1))=false:=bne_eq_false_iff_eq.mpr c4
  clear c4
  simp only [Option.some.injEq,Prod.mk.injEq] at H
  obtain ⟨rfl,rfl⟩:=H
  go_enter Tryd.func95,Tryd.ntmps95
  go_wp2
  go_ret2
  exact⟨by first|rfl|(simp;done)|(simp [*];done),by repeat(first|exact zu.refl _|apply zu.step)⟩
 rw [if_neg c4] at H
 have c4b0:(a1 == (-1))=false:=beq_eq_false_iff_ne.mpr c4
 have c4b1:(a1 != (-1))=true:=bne_iff_ne.mpr c4
 simp only [Option.some.injEq,Prod.mk.injEq] at H
 obtain ⟨rfl,rfl⟩:=H
 go_enter Tryd.func95,Tryd.ntmps95
 go_wp2
 go_ret2
 exact⟨by first|rfl|(simp;done)|(simp [*];done),by repeat(first|exact zu.refl _|apply zu.step)⟩

/-! ### zy: function 70, by hand -/
-- HAND rounds=1 making=1 laid=1 func=1 imports=Derived.Deep.QuietTactic,Derived.BigQuiet,Derived.Deep.RegionHeld3,Derived.Deep.RegionWith
def zy.of (k:Nat) (o:Int) (a b:S23):Option (Int × Int × ByteArray × Int):=
 if 13≤o∧o≤18 then(qi.f k o a.f0 a.f1 a.f2 b.f0 b.f1 b.f2).bind fun p=>zqw.f k p.1 p.2
 else if o=6 then zjx.f k (a.f0 == 0)
 else if o=7 then zjx.f k (a.f0 != 0)
 else if o=5 then(zqx.f k a.f0 a.f1 a.f2).bind fun p=>if p.2=0 then(zj9.f p.1).bind fun q=>zqw.f k q.1 q.2 else some (0,0,⟨#[]⟩,p.2)
 else if o=4 then zs.of (fun x _=>zjt.f x) a a
 else if o=8 then zs.of zxr.f a b
 else if o=9 then zs.of zxo.f a b
 else if o=10 then zs.of (zq2.f k) a b
 else if o=11 then zs.of zxq.f a b
 else if o=12 then zs.of zxp.f a b
 else none
def zy.f (_k:Nat) (_a:Int):Option Bool:=none
theorem zy.mono:∀ a0 k,LeO (zy.f k a0) (zy.f (k+1) a0):=fun _ _=>LeO.refl _
theorem zy.mono_of (k:Nat) (o:Int) (a b:S23):LeO (zy.of k o a b) (zy.of (k+1) o a b):=by
 unfold zy.of
 refine LeO.ite (LeO.bind (qi.mono _ _ _ _ _ _ _ _) (fun _=>zqw.mono _ _ _)) ?_
 refine LeO.ite (zjx.mono _ _) (LeO.ite (zjx.mono _ _) (LeO.ite (LeO.bind (zqx.mono _ _ _ _) (fun _=>LeO.ite (LeO.bind (LeO.refl _) (fun _=>zqw.mono _ _ _)) (LeO.refl _))) ?_))
 refine LeO.ite (LeO.refl _) (LeO.ite (LeO.refl _) (LeO.ite (LeO.refl _) (LeO.ite ?_ (LeO.ite (LeO.refl _) (LeO.ite (LeO.refl _) (LeO.refl _))))))
 exact zs.mono_of (fun x y=>zq2.mono _ _ _) _ _
set_option maxRecDepth 100000 in
theorem zy.neg_at (x y r c:Int) (W:World) (h:zjt.f x=some (r,c)):Calls Tryd.prog 89 #[.int .i64 x,.int .i64 y] W fun e w'=>e = .returned (.tuple #[.int .i64 r,.int .i64 c])∧Below W.heap.size W w':=by
 have HC:=zq.mk (zjt.calls x r c W h)
 clear h
 go_enter Tryd.func89,Tryd.ntmps89
 go_wp2_with (go_at_call 90;(with_reducible refine HC.out.mono ?_);rintro e w1 ⟨rfl,hd⟩;have HD:=zq.mk hd.below;clear hd)
 go_ret2
 exact⟨rfl,HD.out⟩
abbrev zy.w0 (o ex ey:Int) (et en ep:ByteArray) (el:Int) (A7:Option Addr) (n7 c7:Nat) (a b:S23) (w:World):World:=(((w.alloc (.cells #[.int .i64 o,.int .i64 ex,.int .i64 ey,.string et,.string en,.string ep,.int .i64 el,.slice A7 n7 c7] 63)).alloc (.cells #[.int .i64 a.f0,.int .i64 a.f1,.string a.f2] 23)).alloc (.cells #[.int .i64 b.f0,.int .i64 b.f1,.string b.f2] 23)).alloc (.cells #[.int .i64 0,.int .i64 0,.string ⟨#[]⟩] 23)
structure zy.Kp (o ex ey:Int) (et en ep:ByteArray) (el:Int) (A7:Option Addr) (n7 c7:Nat) (a b:S23) (w W:World):Prop where mk :: (c0:W.cell? ⟨w.heap.size,0,none⟩=some (.int .i64 o)) (c1:W.cell? ⟨w.heap.size+1,0,none⟩=some (.int .i64 a.f0)) (c2:W.cell? ⟨w.heap.size+1,1,none⟩=some (.int .i64 a.f1)) (c3:W.cell? ⟨w.heap.size+1,2,none⟩=some (.string a.f2)) (c4:W.cell? ⟨w.heap.size+1+1,0,none⟩=some (.int .i64 b.f0)) (c5:W.cell? ⟨w.heap.size+1+1,1,none⟩=some (.int .i64 b.f1)) (c6:W.cell? ⟨w.heap.size+1+1,2,none⟩=some (.string b.f2)) (c7:W.cell? ⟨w.heap.size+1+1+1,0,none⟩=some (.int .i64 0)) (c8:W.cell? ⟨w.heap.size+1+1+1,1,none⟩=some (.int .i64 0)) (c9:W.cell? ⟨w.heap.size+1+1+1,2,none⟩=some (.string ⟨#[]⟩)) (c10:W.frozen? ⟨w.heap.size+1+1+1,0,none⟩=false) (c11:W.frozen? ⟨w.heap.size+1+1+1,1,none⟩=false) (c12:W.frozen? ⟨w.heap.size+1+1+1,2,none⟩=false)
theorem zy.zq1 {o ex ey:Int} {et en ep:ByteArray} {el:Int} {A7:Option Addr} {n7 c7:Nat} {a b:S23} {w:World} : (zy.w0 o ex ey et en ep el A7 n7 c7 a b w).heap.size=w.heap.size+1+1+1+1:=by simp [zy.w0]
theorem zy.hz {o ex ey:Int} {et en ep:ByteArray} {el:Int} {A7:Option Addr} {n7 c7:Nat} {a b:S23} {w W:World} (hb:Below (zy.w0 o ex ey et en ep el A7 n7 c7 a b w).heap.size (zy.w0 o ex ey et en ep el A7 n7 c7 a b w) W):W.heap[w.heap.size+1+1+1]? = some (.cells #[.int .i64 0,.int .i64 0,.string ⟨#[]⟩] 23 (0,0)):=by
 have q_:(((w.alloc (.cells #[.int .i64 o,.int .i64 ex,.int .i64 ey,.string et,.string en,.string ep,.int .i64 el,.slice A7 n7 c7] 63)).alloc (.cells #[.int .i64 a.f0,.int .i64 a.f1,.string a.f2] 23)).alloc (.cells #[.int .i64 b.f0,.int .i64 b.f1,.string b.f2] 23)).heap.size=w.heap.size+1+1+1:=by simp
 have h:=zjy (((w.alloc (.cells #[.int .i64 o,.int .i64 ex,.int .i64 ey,.string et,.string en,.string ep,.int .i64 el,.slice A7 n7 c7] 63)).alloc (.cells #[.int .i64 a.f0,.int .i64 a.f1,.string a.f2] 23)).alloc (.cells #[.int .i64 b.f0,.int .i64 b.f1,.string b.f2] 23)) (.cells #[.int .i64 0,.int .i64 0,.string ⟨#[]⟩] 23)
 rw [q_] at h
 exact zl h hb
theorem zy.hr {o ex ey:Int} {et en ep:ByteArray} {el:Int} {A7:Option Addr} {n7 c7:Nat} {a b:S23} {w W:World} (hb:Below (zy.w0 o ex ey et en ep el A7 n7 c7 a b w).heap.size (zy.w0 o ex ey et en ep el A7 n7 c7 a b w) W):Below w.heap.size w W:=by
 have h0:Below w.heap.size w (zy.w0 o ex ey et en ep el A7 n7 c7 a b w):=zn (zn (zn (zn (Below.refl _ _) _) _) _) _
 exact h0.trans (hb.mono h0.size)
theorem zy.kp {o ex ey:Int} {et en ep:ByteArray} {el:Int} {A7:Option Addr} {n7 c7:Nat} {a b:S23} {w W:World} (hb:Below (zy.w0 o ex ey et en ep el A7 n7 c7 a b w).heap.size (zy.w0 o ex ey et en ep el A7 n7 c7 a b w) W):zy.Kp o ex ey et en ep el A7 n7 c7 a b w W:=by
 have hs:=hb.size
 rw [zy.zq1] at hs
 exact⟨ze hb (by simp [go_sem]),ze hb (by simp [go_sem]),ze hb (by simp [go_sem]),ze hb (by simp [go_sem]),ze hb (by simp [go_sem]),ze hb (by simp [go_sem]),ze hb (by simp [go_sem]),ze hb (by simp [go_sem]),ze hb (by simp [go_sem]),ze hb (by simp [go_sem]),qj (zy.hz hb) 0,qj (zy.hz hb) 1,qj (zy.hz hb) 2⟩
set_option maxRecDepth 100000 in
set_option maxHeartbeats 8000000 in
theorem zy.at_cmp (k:Nat) (o ex ey:Int) (et en ep:ByteArray) (el:Int) (A7:Option Addr) (n7 c7:Nat) (a b:S23) (r1 r2:Int) (r3:ByteArray) (r4:Int) (w:World) (hL:LD w) (o1:13≤o) (o2:o≤18) (h:zy.of k o a b=some (r1,r2,r3,r4)) :
  Calls Tryd.prog 70 #[.agg #[.int .i64 o,.int .i64 ex,.int .i64 ey,.string et,.string en,.string ep,.int .i64 el,.slice A7 n7 c7],.agg #[.int .i64 a.f0,.int .i64 a.f1,.string a.f2],.agg #[.int .i64 b.f0,.int .i64 b.f1,.string b.f2]] w fun e w'=>e = .returned (.tuple #[.agg #[.int .i64 r1,.int .i64 r2,.string r3],.int .i64 r4])∧Below w.heap.size w w':=by
 have huv:=Tryd.underlying23
 have HL:=zq.mk hL
 clear hL
 unfold zy.of at h
 rw [if_pos ⟨o1,o2⟩] at h
 obtain ⟨⟨u,v⟩,hp,hq⟩:=Option.bind_eq_some_iff.1 h
 have HP:=zq.mk hp
 have HQ:=zq.mk hq
 have d1:=decide_eq_true o1
 have d2:=decide_eq_true o2
 clear h hp hq o1 o2
 go_enter Tryd.func70,Tryd.ntmps70
 go_wp2_with (first|(go_at_call 85;(with_reducible refine(zs.lift (W0:=zy.w0 o ex ey et en ep el A7 n7 c7 a b w) (Below.refl _ _) (qi.calls k _ _ _ _ _ _ _ u v _ (LD.below HL.out (zy.hr (o:=o) (ex:=ex) (ey:=ey) (et:=et) (en:=en) (ep:=ep) (el:=el) (A7:=A7) (n7:=n7) (c7:=c7) (a:=a) (b:=b) (Below.refl _ _))) HP.out)).mono ?_);rintro e w1 ⟨rfl,hb1⟩;have HB1:=zq.mk hb1;cases zy.kp hb1;clear hb1)|(go_at_call 84;(with_reducible refine(zs.lift (HB1.out) (zqw.calls k u v r1 r2 r3 r4 _ HQ.out)).mono ?_);rintro e w2 ⟨rfl,hb2⟩;have HB2:=zq.mk hb2;cases zy.kp hb2;clear hb2))
 have HVX:=(zr (zr (zr (zy.hz HB2.out) 0 (.int .i64 r1) rfl) 1 (.int .i64 r2) rfl) 2 (.string r3) rfl)
 refine bodyPost_ret (qx (rs := [.cell 6 23,.tmp 7]) rfl (by simp) (.cell (w.heap.size+1+1+1) 23 _ (0,0) _ rfl HVX huv rfl (by kernel_rfl) (.tmp .nil))) rfl ?_
 exact⟨rfl,(((zy.hr HB2.out).setCell (p:=⟨w.heap.size+1+1+1,0,none⟩) (by simp <;> omega) _).setCell (p:=⟨w.heap.size+1+1+1,1,none⟩) (by simp <;> omega) _).setCell (p:=⟨w.heap.size+1+1+1,2,none⟩) (by simp <;> omega) _⟩
set_option maxRecDepth 100000 in
set_option maxHeartbeats 8000000 in
theorem zy.at_null (k:Nat) (ex ey:Int) (et en ep:ByteArray) (el:Int) (A7:Option Addr) (n7 c7:Nat) (a b:S23) (r1 r2:Int) (r3:ByteArray) (r4:Int) (w:World) (hL:LD w) (h:zy.of k 6 a b=some (r1,r2,r3,r4)) :
  Calls Tryd.prog 70 #[.agg #[.int .i64 6,.int .i64 ex,.int .i64 ey,.string et,.string en,.string ep,.int .i64 el,.slice A7 n7 c7],.agg #[.int .i64 a.f0,.int .i64 a.f1,.string a.f2],.agg #[.int .i64 b.f0,.int .i64 b.f1,.string b.f2]] w fun e w'=>e = .returned (.tuple #[.agg #[.int .i64 r1,.int .i64 r2,.string r3],.int .i64 r4])∧Below w.heap.size w w':=by
 have huv:=Tryd.underlying23
 have HL:=zq.mk hL
 clear hL
 unfold zy.of at h
 rw [if_neg (by decide),if_pos rfl] at h
 have HP:=zq.mk h
 clear h
 go_enter Tryd.func70,Tryd.ntmps70
 go_wp2_with (first|(go_at_call 86;(with_reducible refine(zs.lift (W0:=zy.w0 6 ex ey et en ep el A7 n7 c7 a b w) (Below.refl _ _) (zjx.calls k _ r1 r2 r3 r4 _ HP.out)).mono ?_);rintro e w1 ⟨rfl,hb1⟩;have HB1:=zq.mk hb1;cases zy.kp hb1;clear hb1))
 have HVX:=(zr (zr (zr (zy.hz HB1.out) 0 (.int .i64 r1) rfl) 1 (.int .i64 r2) rfl) 2 (.string r3) rfl)
 refine bodyPost_ret (qx (rs := [.cell 6 23,.tmp 7]) rfl (by simp) (.cell (w.heap.size+1+1+1) 23 _ (0,0) _ rfl HVX huv rfl (by kernel_rfl) (.tmp .nil))) rfl ?_
 exact⟨rfl,(((zy.hr HB1.out).setCell (p:=⟨w.heap.size+1+1+1,0,none⟩) (by simp <;> omega) _).setCell (p:=⟨w.heap.size+1+1+1,1,none⟩) (by simp <;> omega) _).setCell (p:=⟨w.heap.size+1+1+1,2,none⟩) (by simp <;> omega) _⟩
set_option maxRecDepth 100000 in
set_option maxHeartbeats 8000000 in
theorem zy.at_some (k:Nat) (ex ey:Int) (et en ep:ByteArray) (el:Int) (A7:Option Addr) (n7 c7:Nat) (a b:S23) (r1 r2:Int) (r3:ByteArray) (r4:Int) (w:World) (hL:LD w) (h:zy.of k 7 a b=some (r1,r2,r3,r4)) :
  Calls Tryd.prog 70 #[.agg #[.int .i64 7,.int .i64 ex,.int .i64 ey,.string et,.string en,.string ep,.int .i64 el,.slice A7 n7 c7],.agg #[.int .i64 a.f0,.int .i64 a.f1,.string a.f2],.agg #[.int .i64 b.f0,.int .i64 b.f1,.string b.f2]] w fun e w'=>e = .returned (.tuple #[.agg #[.int .i64 r1,.int .i64 r2,.string r3],.int .i64 r4])∧Below w.heap.size w w':=by
 have huv:=Tryd.underlying23
 have HL:=zq.mk hL
 clear hL
 unfold zy.of at h
 rw [if_neg (by decide),if_neg (by decide),if_pos rfl] at h
 have HP:=zq.mk h
 clear h
 go_enter Tryd.func70,Tryd.ntmps70
 go_wp2_with (first|(go_at_call 86;(with_reducible refine(zs.lift (W0:=zy.w0 7 ex ey et en ep el A7 n7 c7 a b w) (Below.refl _ _) (zjx.calls k _ r1 r2 r3 r4 _ HP.out)).mono ?_);rintro e w1 ⟨rfl,hb1⟩;have HB1:=zq.mk hb1;cases zy.kp hb1;clear hb1))
 have HVX:=(zr (zr (zr (zy.hz HB1.out) 0 (.int .i64 r1) rfl) 1 (.int .i64 r2) rfl) 2 (.string r3) rfl)
 refine bodyPost_ret (qx (rs := [.cell 6 23,.tmp 7]) rfl (by simp) (.cell (w.heap.size+1+1+1) 23 _ (0,0) _ rfl HVX huv rfl (by kernel_rfl) (.tmp .nil))) rfl ?_
 exact⟨rfl,(((zy.hr HB1.out).setCell (p:=⟨w.heap.size+1+1+1,0,none⟩) (by simp <;> omega) _).setCell (p:=⟨w.heap.size+1+1+1,1,none⟩) (by simp <;> omega) _).setCell (p:=⟨w.heap.size+1+1+1,2,none⟩) (by simp <;> omega) _⟩
set_option maxRecDepth 100000 in
set_option maxHeartbeats 8000000 in
theorem zy.at_not (k:Nat) (ex ey:Int) (et en ep:ByteArray) (el:Int) (A7:Option Addr) (n7 c7:Nat) (a b:S23) (r1 r2:Int) (r3:ByteArray) (r4:Int) (w:World) (hL:LD w) (h:zy.of k 5 a b=some (r1,r2,r3,r4)) :
  Calls Tryd.prog 70 #[.agg #[.int .i64 5,.int .i64 ex,.int .i64 ey,.string et,.string en,.string ep,.int .i64 el,.slice A7 n7 c7],.agg #[.int .i64 a.f0,.int .i64 a.f1,.string a.f2],.agg #[.int .i64 b.f0,.int .i64 b.f1,.string b.f2]] w fun e w'=>e = .returned (.tuple #[.agg #[.int .i64 r1,.int .i64 r2,.string r3],.int .i64 r4])∧Below w.heap.size w w':=by
 have huv:=Tryd.underlying23
 have HL:=zq.mk hL
 clear hL
 unfold zy.of at h
 rw [if_neg (by decide),if_neg (by decide),if_neg (by decide),if_pos rfl] at h
 obtain ⟨⟨u,v⟩,hp,h⟩:=Option.bind_eq_some_iff.1 h
 have HP:=zq.mk hp
 clear hp
 by_cases z:v=0
 ·rw [if_pos z] at h
  obtain ⟨⟨p,q⟩,hp,hq⟩:=Option.bind_eq_some_iff.1 h
  have HN:=zq.mk hp
  have HQ:=zq.mk hq
  subst z
  clear h hp hq
  go_enter Tryd.func70,Tryd.ntmps70
  go_wp2_with (first|(go_at_call 28;(with_reducible refine(zs.lift (W0:=zy.w0 5 ex ey et en ep el A7 n7 c7 a b w) (Below.refl _ _) (zqx.calls k _ _ _ u _ _ (LD.below HL.out (zy.hr (o:=5) (ex:=ex) (ey:=ey) (et:=et) (en:=en) (ep:=ep) (el:=el) (A7:=A7) (n7:=n7) (c7:=c7) (a:=a) (b:=b) (Below.refl _ _))) HP.out)).mono ?_);rintro e w1 ⟨rfl,hb1⟩;have HB1:=zq.mk hb1;cases zy.kp hb1;clear hb1)|(go_at_call 87;(with_reducible refine(zs.lift (HB1.out) (zs.drawn (zj9.calls u p q _ HN.out))).mono ?_);rintro e w2 ⟨rfl,hb2⟩;have HB2:=zq.mk hb2;cases zy.kp hb2;clear hb2)|(go_at_call 84;(with_reducible refine(zs.lift (HB2.out) (zqw.calls k p q r1 r2 r3 r4 _ HQ.out)).mono ?_);rintro e w3 ⟨rfl,hb3⟩;have HB3:=zq.mk hb3;cases zy.kp hb3;clear hb3))
  have HVX:=(zr (zr (zr (zy.hz HB3.out) 0 (.int .i64 r1) rfl) 1 (.int .i64 r2) rfl) 2 (.string r3) rfl)
  refine bodyPost_ret (qx (rs := [.cell 6 23,.tmp 7]) rfl (by simp) (.cell (w.heap.size+1+1+1) 23 _ (0,0) _ rfl HVX huv rfl (by kernel_rfl) (.tmp .nil))) rfl ?_
  exact⟨rfl,(((zy.hr HB3.out).setCell (p:=⟨w.heap.size+1+1+1,0,none⟩) (by simp <;> omega) _).setCell (p:=⟨w.heap.size+1+1+1,1,none⟩) (by simp <;> omega) _).setCell (p:=⟨w.heap.size+1+1+1,2,none⟩) (by simp <;> omega) _⟩
 rw [if_neg z] at h
 obtain ⟨rfl,rfl,rfl,rfl⟩:0=r1∧0=r2∧(⟨#[]⟩:ByteArray)=r3∧v=r4:=by simpa using h
 have dz:(v != 0)=true:=by simpa using z
 clear h z
 go_enter Tryd.func70,Tryd.ntmps70
 go_wp2_with (first|(go_at_call 28;(with_reducible refine(zs.lift (W0:=zy.w0 5 ex ey et en ep el A7 n7 c7 a b w) (Below.refl _ _) (zqx.calls k _ _ _ u _ _ (LD.below HL.out (zy.hr (o:=5) (ex:=ex) (ey:=ey) (et:=et) (en:=en) (ep:=ep) (el:=el) (A7:=A7) (n7:=n7) (c7:=c7) (a:=a) (b:=b) (Below.refl _ _))) HP.out)).mono ?_);rintro e w1 ⟨rfl,hb1⟩;have HB1:=zq.mk hb1;cases zy.kp hb1;clear hb1))
 have HVX:=(zr (zr (zr (zy.hz HB1.out) 0 (.int .i64 0) rfl) 1 (.int .i64 0) rfl) 2 (.string ⟨#[]⟩) rfl)
 refine bodyPost_ret (qx (rs := [.cell 6 23,.tmp 7]) rfl (by simp) (.cell (w.heap.size+1+1+1) 23 _ (0,0) _ rfl HVX huv rfl (by kernel_rfl) (.tmp .nil))) rfl ?_
 exact⟨rfl,(((zy.hr HB1.out).setCell (p:=⟨w.heap.size+1+1+1,0,none⟩) (by simp <;> omega) _).setCell (p:=⟨w.heap.size+1+1+1,1,none⟩) (by simp <;> omega) _).setCell (p:=⟨w.heap.size+1+1+1,2,none⟩) (by simp <;> omega) _⟩
set_option maxRecDepth 100000 in
set_option maxHeartbeats 8000000 in
theorem zy.at_neg (k:Nat) (ex ey:Int) (et en ep:ByteArray) (el:Int) (A7:Option Addr) (n7 c7:Nat) (a b:S23) (r1 r2:Int) (r3:ByteArray) (r4:Int) (w:World) (hL:LD w) (h:zy.of k 4 a b=some (r1,r2,r3,r4)) :
  Calls Tryd.prog 70 #[.agg #[.int .i64 4,.int .i64 ex,.int .i64 ey,.string et,.string en,.string ep,.int .i64 el,.slice A7 n7 c7],.agg #[.int .i64 a.f0,.int .i64 a.f1,.string a.f2],.agg #[.int .i64 b.f0,.int .i64 b.f1,.string b.f2]] w fun e w'=>e = .returned (.tuple #[.agg #[.int .i64 r1,.int .i64 r2,.string r3],.int .i64 r4])∧Below w.heap.size w w':=by
 have huv:=Tryd.underlying23
 have HL:=zq.mk hL
 clear hL
 unfold zy.of at h
 rw [if_neg (by decide),if_neg (by decide),if_neg (by decide),if_neg (by decide),if_pos rfl] at h
 have HP:=zq.mk h
 clear h
 go_enter Tryd.func70,Tryd.ntmps70
 go_wp2_with (first|(go_at_call 88;(with_reducible refine(zs.lift (W0:=zy.w0 4 ex ey et en ep el A7 n7 c7 a b w) (Below.refl _ _) (zs.at_ (fun x _=>zjt.f x) 89 (by decide) (fun x y r c W h=>zy.neg_at x y r c W h) a a r1 r2 r3 r4 _ HP.out)).mono ?_);rintro e w1 ⟨rfl,hb1⟩;have HB1:=zq.mk hb1;cases zy.kp hb1;clear hb1))
 have HVX:=(zr (zr (zr (zy.hz HB1.out) 0 (.int .i64 r1) rfl) 1 (.int .i64 r2) rfl) 2 (.string r3) rfl)
 refine bodyPost_ret (qx (rs := [.cell 6 23,.tmp 7]) rfl (by simp) (.cell (w.heap.size+1+1+1) 23 _ (0,0) _ rfl HVX huv rfl (by kernel_rfl) (.tmp .nil))) rfl ?_
 exact⟨rfl,(((zy.hr HB1.out).setCell (p:=⟨w.heap.size+1+1+1,0,none⟩) (by simp <;> omega) _).setCell (p:=⟨w.heap.size+1+1+1,1,none⟩) (by simp <;> omega) _).setCell (p:=⟨w.heap.size+1+1+1,2,none⟩) (by simp <;> omega) _⟩
theorem zy.idx0 (w:World):Sem.run Tryd.prog (Instr.index 109 (.agg #[.func (.func 91) #[] #[],.func (.func 92) #[] #[],.func (.func 93) #[] #[],.func (.func 94) #[] #[],.func (.func 95) #[] #[]]) (.int .i64 (IntKind.i64.wrap 0))) w = .ok (.func (.func 91) #[] #[]) w:=by kernel_rfl
theorem zy.idx1 (w:World):Sem.run Tryd.prog (Instr.index 109 (.agg #[.func (.func 91) #[] #[],.func (.func 92) #[] #[],.func (.func 93) #[] #[],.func (.func 94) #[] #[],.func (.func 95) #[] #[]]) (.int .i64 (IntKind.i64.wrap 1))) w = .ok (.func (.func 92) #[] #[]) w:=by kernel_rfl
theorem zy.idx2 (w:World):Sem.run Tryd.prog (Instr.index 109 (.agg #[.func (.func 91) #[] #[],.func (.func 92) #[] #[],.func (.func 93) #[] #[],.func (.func 94) #[] #[],.func (.func 95) #[] #[]]) (.int .i64 (IntKind.i64.wrap 2))) w = .ok (.func (.func 93) #[] #[]) w:=by kernel_rfl
theorem zy.idx3 (w:World):Sem.run Tryd.prog (Instr.index 109 (.agg #[.func (.func 91) #[] #[],.func (.func 92) #[] #[],.func (.func 93) #[] #[],.func (.func 94) #[] #[],.func (.func 95) #[] #[]]) (.int .i64 (IntKind.i64.wrap 3))) w = .ok (.func (.func 94) #[] #[]) w:=by kernel_rfl
theorem zy.idx4 (w:World):Sem.run Tryd.prog (Instr.index 109 (.agg #[.func (.func 91) #[] #[],.func (.func 92) #[] #[],.func (.func 93) #[] #[],.func (.func 94) #[] #[],.func (.func 95) #[] #[]]) (.int .i64 (IntKind.i64.wrap 4))) w = .ok (.func (.func 95) #[] #[]) w:=by kernel_rfl
attribute [local go_sem] zy.idx0 zy.idx1 zy.idx2 zy.idx3 zy.idx4
set_option maxRecDepth 100000 in
set_option maxHeartbeats 8000000 in
theorem zy.at_add (k:Nat) (ex ey:Int) (et en ep:ByteArray) (el:Int) (A7:Option Addr) (n7 c7:Nat) (a b:S23) (r1 r2:Int) (r3:ByteArray) (r4:Int) (w:World) (hL:LD w) (h:zy.of k 8 a b=some (r1,r2,r3,r4)) :
  Calls Tryd.prog 70 #[.agg #[.int .i64 8,.int .i64 ex,.int .i64 ey,.string et,.string en,.string ep,.int .i64 el,.slice A7 n7 c7],.agg #[.int .i64 a.f0,.int .i64 a.f1,.string a.f2],.agg #[.int .i64 b.f0,.int .i64 b.f1,.string b.f2]] w fun e w'=>e = .returned (.tuple #[.agg #[.int .i64 r1,.int .i64 r2,.string r3],.int .i64 r4])∧Below w.heap.size w w':=by
 have huv:=Tryd.underlying23
 have HL:=zq.mk hL
 clear hL
 unfold zy.of at h
 rw [if_neg (by decide),if_neg (by decide),if_neg (by decide),if_neg (by decide),if_neg (by decide),if_pos rfl] at h
 have HP:=zq.mk h
 clear h
 go_enter Tryd.func70,Tryd.ntmps70
 go_wp2
 go_region_with (go_at_call 88;(with_reducible refine(zs.lift (W0:=zy.w0 8 ex ey et en ep el A7 n7 c7 a b w) (by first|exact Below.refl _ _|exact ql (Below.refl _ _)|exact qp (Below.refl _ _) _) (zs.at_ zxr.f 91 (by decide) (fun x y r c W h=>zs.drawn (zxr.calls x y r c W h)) a b r1 r2 r3 r4 _ HP.out)).mono ?_);rintro e w1 ⟨rfl,hb1⟩;have HB1:=zq.mk hb1;cases zy.kp hb1;clear hb1)
 all_goals
  go_wp2
  have HVX:=(zr (zr (zr (zy.hz HB1.out) 0 (.int .i64 r1) rfl) 1 (.int .i64 r2) rfl) 2 (.string r3) rfl)
  refine bodyPost_ret (qx (rs := [.cell 6 23,.tmp 7]) rfl (by simp) (.cell (w.heap.size+1+1+1) 23 _ (0,0) _ rfl HVX huv rfl (by kernel_rfl) (.tmp .nil))) rfl ?_
  exact⟨rfl,(((zy.hr HB1.out).setCell (p:=⟨w.heap.size+1+1+1,0,none⟩) (by simp <;> omega) _).setCell (p:=⟨w.heap.size+1+1+1,1,none⟩) (by simp <;> omega) _).setCell (p:=⟨w.heap.size+1+1+1,2,none⟩) (by simp <;> omega) _⟩
set_option maxRecDepth 100000 in
set_option maxHeartbeats 8000000 in
theorem zy.at_sub (k:Nat) (ex ey:Int) (et en ep:ByteArray) (el:Int) (A7:Option Addr) (n7 c7:Nat) (a b:S23) (r1 r2:Int) (r3:ByteArray) (r4:Int) (w:World) (hL:LD w) (h:zy.of k 9 a b=some (r1,r2,r3,r4)) :
  Calls Tryd.prog 70 #[.agg #[.int .i64 9,.int .i64 ex,.int .i64 ey,.string et,.string en,.string ep,.int .i64 el,.slice A7 n7 c7],.agg #[.int .i64 a.f0,.int .i64 a.f1,.string a.f2],.agg #[.int .i64 b.f0,.int .i64 b.f1,.string b.f2]] w fun e w'=>e = .returned (.tuple #[.agg #[.int .i64 r1,.int .i64 r2,.string r3],.int .i64 r4])∧Below w.heap.size w w':=by
 have huv:=Tryd.underlying23
 have HL:=zq.mk hL
 clear hL
 unfold zy.of at h
 rw [if_neg (by decide),if_neg (by decide),if_neg (by decide),if_neg (by decide),if_neg (by decide),if_neg (by decide),if_pos rfl] at h
 have HP:=zq.mk h
 clear h
 go_enter Tryd.func70,Tryd.ntmps70
 go_wp2
 go_region_with (go_at_call 88;(with_reducible refine(zs.lift (W0:=zy.w0 9 ex ey et en ep el A7 n7 c7 a b w) (by first|exact Below.refl _ _|exact ql (Below.refl _ _)|exact qp (Below.refl _ _) _) (zs.at_ zxo.f 92 (by decide) (fun x y r c W h=>zs.drawn (zxo.calls x y r c W h)) a b r1 r2 r3 r4 _ HP.out)).mono ?_);rintro e w1 ⟨rfl,hb1⟩;have HB1:=zq.mk hb1;cases zy.kp hb1;clear hb1)
 all_goals
  go_wp2
  have HVX:=(zr (zr (zr (zy.hz HB1.out) 0 (.int .i64 r1) rfl) 1 (.int .i64 r2) rfl) 2 (.string r3) rfl)
  refine bodyPost_ret (qx (rs := [.cell 6 23,.tmp 7]) rfl (by simp) (.cell (w.heap.size+1+1+1) 23 _ (0,0) _ rfl HVX huv rfl (by kernel_rfl) (.tmp .nil))) rfl ?_
  exact⟨rfl,(((zy.hr HB1.out).setCell (p:=⟨w.heap.size+1+1+1,0,none⟩) (by simp <;> omega) _).setCell (p:=⟨w.heap.size+1+1+1,1,none⟩) (by simp <;> omega) _).setCell (p:=⟨w.heap.size+1+1+1,2,none⟩) (by simp <;> omega) _⟩
set_option maxRecDepth 100000 in
set_option maxHeartbeats 8000000 in
theorem zy.at_mul (k:Nat) (ex ey:Int) (et en ep:ByteArray) (el:Int) (A7:Option Addr) (n7 c7:Nat) (a b:S23) (r1 r2:Int) (r3:ByteArray) (r4:Int) (w:World) (hL:LD w) (h:zy.of k 10 a b=some (r1,r2,r3,r4)) :
  Calls Tryd.prog 70 #[.agg #[.int .i64 10,.int .i64 ex,.int .i64 ey,.string et,.string en,.string ep,.int .i64 el,.slice A7 n7 c7],.agg #[.int .i64 a.f0,.int .i64 a.f1,.string a.f2],.agg #[.int .i64 b.f0,.int .i64 b.f1,.string b.f2]] w fun e w'=>e = .returned (.tuple #[.agg #[.int .i64 r1,.int .i64 r2,.string r3],.int .i64 r4])∧Below w.heap.size w w':=by
 have huv:=Tryd.underlying23
 have HL:=zq.mk hL
 clear hL
 unfold zy.of at h
 rw [if_neg (by decide),if_neg (by decide),if_neg (by decide),if_neg (by decide),if_neg (by decide),if_neg (by decide),if_neg (by decide),if_pos rfl] at h
 have HP:=zq.mk h
 clear h
 go_enter Tryd.func70,Tryd.ntmps70
 go_wp2
 go_region_with (go_at_call 88;(with_reducible refine(zs.lift (W0:=zy.w0 10 ex ey et en ep el A7 n7 c7 a b w) (by first|exact Below.refl _ _|exact ql (Below.refl _ _)|exact qp (Below.refl _ _) _) (zs.at_ (zq2.f k) 93 (by decide) (fun x y r c W h=>zs.drawn (zq2.calls k x y r c W h)) a b r1 r2 r3 r4 _ HP.out)).mono ?_);rintro e w1 ⟨rfl,hb1⟩;have HB1:=zq.mk hb1;cases zy.kp hb1;clear hb1)
 all_goals
  go_wp2
  have HVX:=(zr (zr (zr (zy.hz HB1.out) 0 (.int .i64 r1) rfl) 1 (.int .i64 r2) rfl) 2 (.string r3) rfl)
  refine bodyPost_ret (qx (rs := [.cell 6 23,.tmp 7]) rfl (by simp) (.cell (w.heap.size+1+1+1) 23 _ (0,0) _ rfl HVX huv rfl (by kernel_rfl) (.tmp .nil))) rfl ?_
  exact⟨rfl,(((zy.hr HB1.out).setCell (p:=⟨w.heap.size+1+1+1,0,none⟩) (by simp <;> omega) _).setCell (p:=⟨w.heap.size+1+1+1,1,none⟩) (by simp <;> omega) _).setCell (p:=⟨w.heap.size+1+1+1,2,none⟩) (by simp <;> omega) _⟩
set_option maxRecDepth 100000 in
set_option maxHeartbeats 8000000 in
theorem zy.at_div (k:Nat) (ex ey:Int) (et en ep:ByteArray) (el:Int) (A7:Option Addr) (n7 c7:Nat) (a b:S23) (r1 r2:Int) (r3:ByteArray) (r4:Int) (w:World) (hL:LD w) (h:zy.of k 11 a b=some (r1,r2,r3,r4)) :
  Calls Tryd.prog 70 #[.agg #[.int .i64 11,.int .i64 ex,.int .i64 ey,.string et,.string en,.string ep,.int .i64 el,.slice A7 n7 c7],.agg #[.int .i64 a.f0,.int .i64 a.f1,.string a.f2],.agg #[.int .i64 b.f0,.int .i64 b.f1,.string b.f2]] w fun e w'=>e = .returned (.tuple #[.agg #[.int .i64 r1,.int .i64 r2,.string r3],.int .i64 r4])∧Below w.heap.size w w':=by
 have huv:=Tryd.underlying23
 have HL:=zq.mk hL
 clear hL
 unfold zy.of at h
 rw [if_neg (by decide),if_neg (by decide),if_neg (by decide),if_neg (by decide),if_neg (by decide),if_neg (by decide),if_neg (by decide),if_neg (by decide),if_pos rfl] at h
 have HP:=zq.mk h
 clear h
 go_enter Tryd.func70,Tryd.ntmps70
 go_wp2
 go_region_with (go_at_call 88;(with_reducible refine(zs.lift (W0:=zy.w0 11 ex ey et en ep el A7 n7 c7 a b w) (by first|exact Below.refl _ _|exact ql (Below.refl _ _)|exact qp (Below.refl _ _) _) (zs.at_ zxq.f 94 (by decide) (fun x y r c W h=>zs.drawn (zxq.calls x y r c W h)) a b r1 r2 r3 r4 _ HP.out)).mono ?_);rintro e w1 ⟨rfl,hb1⟩;have HB1:=zq.mk hb1;cases zy.kp hb1;clear hb1)
 all_goals
  go_wp2
  have HVX:=(zr (zr (zr (zy.hz HB1.out) 0 (.int .i64 r1) rfl) 1 (.int .i64 r2) rfl) 2 (.string r3) rfl)
  refine bodyPost_ret (qx (rs := [.cell 6 23,.tmp 7]) rfl (by simp) (.cell (w.heap.size+1+1+1) 23 _ (0,0) _ rfl HVX huv rfl (by kernel_rfl) (.tmp .nil))) rfl ?_
  exact⟨rfl,(((zy.hr HB1.out).setCell (p:=⟨w.heap.size+1+1+1,0,none⟩) (by simp <;> omega) _).setCell (p:=⟨w.heap.size+1+1+1,1,none⟩) (by simp <;> omega) _).setCell (p:=⟨w.heap.size+1+1+1,2,none⟩) (by simp <;> omega) _⟩
set_option maxRecDepth 100000 in
set_option maxHeartbeats 8000000 in
theorem zy.at_mod (k:Nat) (ex ey:Int) (et en ep:ByteArray) (el:Int) (A7:Option Addr) (n7 c7:Nat) (a b:S23) (r1 r2:Int) (r3:ByteArray) (r4:Int) (w:World) (hL:LD w) (h:zy.of k 12 a b=some (r1,r2,r3,r4)) :
  Calls Tryd.prog 70 #[.agg #[.int .i64 12,.int .i64 ex,.int .i64 ey,.string et,.string en,.string ep,.int .i64 el,.slice A7 n7 c7],.agg #[.int .i64 a.f0,.int .i64 a.f1,.string a.f2],.agg #[.int .i64 b.f0,.int .i64 b.f1,.string b.f2]] w fun e w'=>e = .returned (.tuple #[.agg #[.int .i64 r1,.int .i64 r2,.string r3],.int .i64 r4])∧Below w.heap.size w w':=by
 have huv:=Tryd.underlying23
 have HL:=zq.mk hL
 clear hL
 unfold zy.of at h
 rw [if_neg (by decide),if_neg (by decide),if_neg (by decide),if_neg (by decide),if_neg (by decide),if_neg (by decide),if_neg (by decide),if_neg (by decide),if_neg (by decide),if_pos rfl] at h
 have HP:=zq.mk h
 clear h
 go_enter Tryd.func70,Tryd.ntmps70
 go_wp2
 go_region_with (go_at_call 88;(with_reducible refine(zs.lift (W0:=zy.w0 12 ex ey et en ep el A7 n7 c7 a b w) (by first|exact Below.refl _ _|exact ql (Below.refl _ _)|exact qp (Below.refl _ _) _) (zs.at_ zxp.f 95 (by decide) (fun x y r c W h=>zs.drawn (zxp.calls x y r c W h)) a b r1 r2 r3 r4 _ HP.out)).mono ?_);rintro e w1 ⟨rfl,hb1⟩;have HB1:=zq.mk hb1;cases zy.kp hb1;clear hb1)
 all_goals
  go_wp2
  have HVX:=(zr (zr (zr (zy.hz HB1.out) 0 (.int .i64 r1) rfl) 1 (.int .i64 r2) rfl) 2 (.string r3) rfl)
  refine bodyPost_ret (qx (rs := [.cell 6 23,.tmp 7]) rfl (by simp) (.cell (w.heap.size+1+1+1) 23 _ (0,0) _ rfl HVX huv rfl (by kernel_rfl) (.tmp .nil))) rfl ?_
  exact⟨rfl,(((zy.hr HB1.out).setCell (p:=⟨w.heap.size+1+1+1,0,none⟩) (by simp <;> omega) _).setCell (p:=⟨w.heap.size+1+1+1,1,none⟩) (by simp <;> omega) _).setCell (p:=⟨w.heap.size+1+1+1,2,none⟩) (by simp <;> omega) _⟩
theorem zy.at_ (k:Nat) (o ex ey:Int) (et en ep:ByteArray) (el:Int) (A7:Option Addr) (n7 c7:Nat) (a b:S23) (r1 r2:Int) (r3:ByteArray) (r4:Int) (w:World) (hL:LD w) (h:zy.of k o a b=some (r1,r2,r3,r4)) :
  Calls Tryd.prog 70 #[.agg #[.int .i64 o,.int .i64 ex,.int .i64 ey,.string et,.string en,.string ep,.int .i64 el,.slice A7 n7 c7],.agg #[.int .i64 a.f0,.int .i64 a.f1,.string a.f2],.agg #[.int .i64 b.f0,.int .i64 b.f1,.string b.f2]] w fun e w'=>e = .returned (.tuple #[.agg #[.int .i64 r1,.int .i64 r2,.string r3],.int .i64 r4])∧Below w.heap.size w w':=by
 by_cases h1:13≤o∧o≤18
 ·exact zy.at_cmp k o ex ey et en ep el A7 n7 c7 a b r1 r2 r3 r4 w hL h1.1 h1.2 h
 by_cases h6:o=6
 ·subst h6
  exact zy.at_null k ex ey et en ep el A7 n7 c7 a b r1 r2 r3 r4 w hL h
 by_cases h7:o=7
 ·subst h7
  exact zy.at_some k ex ey et en ep el A7 n7 c7 a b r1 r2 r3 r4 w hL h
 by_cases h5:o=5
 ·subst h5
  exact zy.at_not k ex ey et en ep el A7 n7 c7 a b r1 r2 r3 r4 w hL h
 by_cases h4:o=4
 ·subst h4
  exact zy.at_neg k ex ey et en ep el A7 n7 c7 a b r1 r2 r3 r4 w hL h
 by_cases h8:o=8
 ·subst h8
  exact zy.at_add k ex ey et en ep el A7 n7 c7 a b r1 r2 r3 r4 w hL h
 by_cases h9:o=9
 ·subst h9
  exact zy.at_sub k ex ey et en ep el A7 n7 c7 a b r1 r2 r3 r4 w hL h
 by_cases h10:o=10
 ·subst h10
  exact zy.at_mul k ex ey et en ep el A7 n7 c7 a b r1 r2 r3 r4 w hL h
 by_cases h11:o=11
 ·subst h11
  exact zy.at_div k ex ey et en ep el A7 n7 c7 a b r1 r2 r3 r4 w hL h
 by_cases h12:o=12
 ·subst h12
  exact zy.at_mod k ex ey et en ep el A7 n7 c7 a b r1 r2 r3 r4 w hL h
 exfalso
 unfold zy.of at h
 rw [if_neg h1,if_neg h6,if_neg h7,if_neg h5,if_neg h4,if_neg h8,if_neg h9,if_neg h10,if_neg h11,if_neg h12] at h
 cases h

-- NOT PRINTED: function 99 (value_fold)

/-! ### zqj: function 81, by hand -/
-- HAND rounds=0 making=0
def zqj.st (l:List Int):Int × Bool:=l.foldl (fun s t=>(mn s.1 t,s.2 || (decide (t<0) || decide (t > 2)))) (2,false)
def zqj.f (l0:List Int):Option (Int × Int):=some (if(zqj.st l0).2=true then(0,2) else ((zqj.st l0).1,0))
theorem zqj.st_snoc (l:List Int) (t:Int):zqj.st (l ++ [t])=(mn (zqj.st l).1 t,(zqj.st l).2 || (decide (t<0) || decide (t > 2))):=by
 simp [zqj.st,List.foldl_append]
theorem zqj.st_take (l:List Int) (i:Nat) (h:i<l.length):zqj.st (l.take (i+1))=(mn (zqj.st (l.take i)).1 (rd l i),(zqj.st (l.take i)).2 || (decide (rd l i<0) || decide (rd l i > 2))):=by
 rw [List.take_succ_eq_append_getElem h,zqj.st_snoc]
 have e:rd l (i:Int)=l[i]:=by simp [rd,List.getD_eq_getElem?_getD,h]
 rw [e]
theorem zqj.step (a b:Int) (w:World):Calls Tryd.prog 100 #[.int .i64 a,.int .i64 b] w fun e w'=>e = .returned (.int .i64 (mn a b))∧w'=w:=by
 go_enter Tryd.func100,Tryd.ntmps100
 go_wp2
 all_goals go_ret
 ·exact⟨by unfold mn;rw [if_pos (by assumption)];rfl,rfl⟩
 exact⟨by unfold mn;rw [if_neg (by omega)];rfl,rfl⟩
theorem zqj.fold (A0:Option Addr) (c0:Nat) (l0:List Int) (w:World) (hr0:Kd.C (Kd.int .i64) w A0 l0.length l0) (hm:l0.length≤9223372036854775807) (z1:Int) (z2:Bool) (hz:Hid (zqj.st l0=(z1,z2))) :
  Calls Tryd.prog 99 #[.int .i64 2,.slice A0 l0.length c0,.func (.func 100) #[] #[]] w fun e w'=>
   e = .returned (.tuple #[.int .i64 (if z2=true then 0 else z1),.int .i64 (if z2=true then 2 else 0)])∧w'=w:=by
 have HR0:=zq.mk hr0
 clear hr0
 go_enter Tryd.func99,Tryd.ntmps99
 go_wp2
 go_loop [8,9,15] (fun o b i => ∃ k:Nat,k≤l0.length∧i = .int .i64 k∧o = .int .i64 (zqj.st (l0.take k)).1∧b = .bool (zqj.st (l0.take k)).2) (fun _ _ i=>l0.length - (intOf i).toNat)
 case atStart=>exact⟨0,by omega,rfl,rfl,rfl⟩
 case round=>
  obtain ⟨k,hk,rfl,rfl,rfl⟩:=hrel
  by_cases hlt:k<l0.length
  ·have hs:=zqj.st_take l0 k hlt
   obtain ⟨ad,e1,hc'⟩:=Kd.at_int HR0.out (k:Int) (by omega) (by omega)
   cases e1
   have hc:w.cell? (ad.add k)=some (.int .i64 (rd l0 (k:Int))):=by simpa using hc'
   clear hc'
   generalize zqj.st (l0.take k)=s at *
   generalize rd l0 (k:Int)=t at *
   obtain ⟨s1,s2⟩:=s
   have HS:=Lib.hid hs
   clear hs
   cases s2 with
   | true=>
    go_wp2_with (go_at_call 100;refine(zqj.step _ _ _).mono ?_;rintro e w' ⟨rfl,rfl⟩)
    go_round
    case rel=>exact⟨k+1,by omega,by go_num,by rw [HS.out],by rw [HS.out];rfl⟩
    case measure=>simp [intOf];omega
   | false=>
    by_cases h0:t<0
    ·have h1:=decide_eq_true h0
     go_wp2_with (go_at_call 100;refine(zqj.step _ _ _).mono ?_;rintro e w' ⟨rfl,rfl⟩)
     go_round
     case rel=>exact⟨k+1,by omega,by go_num,by rw [HS.out],by rw [HS.out];simp [h1]⟩
     case measure=>simp [intOf];omega
    have h1:=decide_eq_false h0
    by_cases h2:2<t
    ·have h3:=decide_eq_true h2
     go_wp2_with (go_at_call 100;refine(zqj.step _ _ _).mono ?_;rintro e w' ⟨rfl,rfl⟩)
     go_round
     case rel=>exact⟨k+1,by omega,by go_num,by rw [HS.out],by rw [HS.out];simp [h1,h3]⟩
     case measure=>simp [intOf];omega
    have h3:=decide_eq_false h2
    go_wp2_with (go_at_call 100;refine(zqj.step _ _ _).mono ?_;rintro e w' ⟨rfl,rfl⟩)
    go_round
    case rel=>exact⟨k+1,by omega,by go_num,by rw [HS.out],by rw [HS.out];simp [h1,h3]⟩
    case measure=>simp [intOf];omega
  have hkl:k=l0.length:=by omega
  subst hkl
  have e:=hz.out
  rw [List.take_length,e]
  clear e
  cases z2 with
  | true=>
   go_wp2
   go_ret2
   exact⟨rfl,rfl⟩
  | false=>
   go_wp2
   go_ret2
   exact⟨rfl,rfl⟩
theorem zqj.calls (A0:Option Addr) (c0:Nat) (l0:List Int) (r1:Int) (r2:Int) (w:World) (hr0:Kd.C (Kd.int .i64) w A0 l0.length l0) (hc0:l0.length≤c0) (h:zqj.f l0=some (r1,r2)) :
  Calls Tryd.prog 81 #[.slice A0 l0.length c0] w fun e w'=>e = .returned (.tuple #[.int .i64 r1,.int .i64 r2])∧zu w w':=by
 obtain ⟨z1,z2,hz⟩:∃ z1 z2,zqj.st l0=(z1,z2):=⟨_,_,rfl⟩
 have HF:=Lib.hid (zqj.fold A0 c0 l0 w hr0 hr0.2.1 z1 z2 (Lib.hid hz))
 have hv:r1=(if z2=true then 0 else z1)∧r2=(if z2=true then 2 else 0):=by
  unfold zqj.f at h
  rw [hz] at h
  have h:=Option.some.inj h
  cases z2 <;> (simp at h;simp [h])
 obtain ⟨rfl,rfl⟩:=hv
 clear h hr0 hz
 generalize (if z2=true then(0:Int) else z1)=u at *
 generalize (if z2=true then(2:Int) else 0)=v at *
 go_enter Tryd.func81,Tryd.ntmps81
 go_wp2_with (go_at_call 99;refine HF.out.mono ?_;rintro e w' ⟨rfl,rfl⟩)
 go_ret2
 exact⟨rfl,zu.refl _⟩

/-! ### zqp: function 82, by hand -/
-- HAND rounds=0 making=0
def zqp.st (l:List Int):Int × Bool:=l.foldl (fun s t=>(mx s.1 t,s.2 || (decide (t<0) || decide (t > 2)))) (0,false)
def zqp.f (l0:List Int):Option (Int × Int):=some (if(zqp.st l0).2=true then(0,2) else ((zqp.st l0).1,0))
theorem zqp.st_snoc (l:List Int) (t:Int):zqp.st (l ++ [t])=(mx (zqp.st l).1 t,(zqp.st l).2 || (decide (t<0) || decide (t > 2))):=by
 simp [zqp.st,List.foldl_append]
theorem zqp.st_take (l:List Int) (i:Nat) (h:i<l.length):zqp.st (l.take (i+1))=(mx (zqp.st (l.take i)).1 (rd l i),(zqp.st (l.take i)).2 || (decide (rd l i<0) || decide (rd l i > 2))):=by
 rw [List.take_succ_eq_append_getElem h,zqp.st_snoc]
 have e:rd l (i:Int)=l[i]:=by simp [rd,List.getD_eq_getElem?_getD,h]
 rw [e]
theorem zqp.step (a b:Int) (w:World):Calls Tryd.prog 101 #[.int .i64 a,.int .i64 b] w fun e w'=>e = .returned (.int .i64 (mx a b))∧w'=w:=by
 go_enter Tryd.func101,Tryd.ntmps101
 go_wp2
 all_goals go_ret
 ·exact⟨by unfold mx;rw [if_pos (by assumption)];rfl,rfl⟩
 exact⟨by unfold mx;rw [if_neg (by omega)];rfl,rfl⟩
theorem zqp.fold (A0:Option Addr) (c0:Nat) (l0:List Int) (w:World) (hr0:Kd.C (Kd.int .i64) w A0 l0.length l0) (hm:l0.length≤9223372036854775807) (z1:Int) (z2:Bool) (hz:Hid (zqp.st l0=(z1,z2))) :
  Calls Tryd.prog 99 #[.int .i64 0,.slice A0 l0.length c0,.func (.func 101) #[] #[]] w fun e w'=>
   e = .returned (.tuple #[.int .i64 (if z2=true then 0 else z1),.int .i64 (if z2=true then 2 else 0)])∧w'=w:=by
 have HR0:=zq.mk hr0
 clear hr0
 go_enter Tryd.func99,Tryd.ntmps99
 go_wp2
 go_loop [8,9,15] (fun o b i => ∃ k:Nat,k≤l0.length∧i = .int .i64 k∧o = .int .i64 (zqp.st (l0.take k)).1∧b = .bool (zqp.st (l0.take k)).2) (fun _ _ i=>l0.length - (intOf i).toNat)
 case atStart=>exact⟨0,by omega,rfl,rfl,rfl⟩
 case round=>
  obtain ⟨k,hk,rfl,rfl,rfl⟩:=hrel
  by_cases hlt:k<l0.length
  ·have hs:=zqp.st_take l0 k hlt
   obtain ⟨ad,e1,hc'⟩:=Kd.at_int HR0.out (k:Int) (by omega) (by omega)
   cases e1
   have hc:w.cell? (ad.add k)=some (.int .i64 (rd l0 (k:Int))):=by simpa using hc'
   clear hc'
   generalize zqp.st (l0.take k)=s at *
   generalize rd l0 (k:Int)=t at *
   obtain ⟨s1,s2⟩:=s
   have HS:=Lib.hid hs
   clear hs
   cases s2 with
   | true=>
    go_wp2_with (go_at_call 101;refine(zqp.step _ _ _).mono ?_;rintro e w' ⟨rfl,rfl⟩)
    go_round
    case rel=>exact⟨k+1,by omega,by go_num,by rw [HS.out],by rw [HS.out];rfl⟩
    case measure=>simp [intOf];omega
   | false=>
    by_cases h0:t<0
    ·have h1:=decide_eq_true h0
     go_wp2_with (go_at_call 101;refine(zqp.step _ _ _).mono ?_;rintro e w' ⟨rfl,rfl⟩)
     go_round
     case rel=>exact⟨k+1,by omega,by go_num,by rw [HS.out],by rw [HS.out];simp [h1]⟩
     case measure=>simp [intOf];omega
    have h1:=decide_eq_false h0
    by_cases h2:2<t
    ·have h3:=decide_eq_true h2
     go_wp2_with (go_at_call 101;refine(zqp.step _ _ _).mono ?_;rintro e w' ⟨rfl,rfl⟩)
     go_round
     case rel=>exact⟨k+1,by omega,by go_num,by rw [HS.out],by rw [HS.out];simp [h1,h3]⟩
     case measure=>simp [intOf];omega
    have h3:=decide_eq_false h2
    go_wp2_with (go_at_call 101;refine(zqp.step _ _ _).mono ?_;rintro e w' ⟨rfl,rfl⟩)
    go_round
    case rel=>exact⟨k+1,by omega,by go_num,by rw [HS.out],by rw [HS.out];simp [h1,h3]⟩
    case measure=>simp [intOf];omega
  have hkl:k=l0.length:=by omega
  subst hkl
  have e:=hz.out
  rw [List.take_length,e]
  clear e
  cases z2 with
  | true=>
   go_wp2
   go_ret2
   exact⟨rfl,rfl⟩
  | false=>
   go_wp2
   go_ret2
   exact⟨rfl,rfl⟩
theorem zqp.calls (A0:Option Addr) (c0:Nat) (l0:List Int) (r1:Int) (r2:Int) (w:World) (hr0:Kd.C (Kd.int .i64) w A0 l0.length l0) (hc0:l0.length≤c0) (h:zqp.f l0=some (r1,r2)) :
  Calls Tryd.prog 82 #[.slice A0 l0.length c0] w fun e w'=>e = .returned (.tuple #[.int .i64 r1,.int .i64 r2])∧zu w w':=by
 obtain ⟨z1,z2,hz⟩:∃ z1 z2,zqp.st l0=(z1,z2):=⟨_,_,rfl⟩
 have HF:=Lib.hid (zqp.fold A0 c0 l0 w hr0 hr0.2.1 z1 z2 (Lib.hid hz))
 have hv:r1=(if z2=true then 0 else z1)∧r2=(if z2=true then 2 else 0):=by
  unfold zqp.f at h
  rw [hz] at h
  have h:=Option.some.inj h
  cases z2 <;> (simp at h;simp [h])
 obtain ⟨rfl,rfl⟩:=hv
 clear h hr0 hz
 generalize (if z2=true then(0:Int) else z1)=u at *
 generalize (if z2=true then(2:Int) else 0)=v at *
 go_enter Tryd.func82,Tryd.ntmps82
 go_wp2_with (go_at_call 99;refine HF.out.mono ?_;rintro e w' ⟨rfl,rfl⟩)
 go_ret2
 exact⟨rfl,zu.refl _⟩

end Go.Proofs.YtkgllmjlhaimcaaDoor.PEvalEvals
