-- Written by wip/pp of this repo (over the kit's print, with additions of this session); Lean checks every line.
import Derived.Test.YtmfpaeajibeikaaDoorPEvalHoldsx4
namespace Go.Proofs.YtmfpaeajibeikaaDoor.PEvalHolds
open Go.RowKit Go.Proofs.YtmfpaeajibeikaaDoorW.PrintWords Go.Proofs.YtmfpaeajibeikaaDoorW.PrintLast Go.Proofs.YtmfpaeajibeikaaDoorW.PrintMore
attribute [local go_sem] zje zjc zjo zjn zq1 zq0 zjd zjb   -- for this text's walks alone
set_option linter.unusedVariables false
set_option linter.unusedSimpArgs false

/-! ### zx2: function 102 -/
def zx2.f (a0:Int) (a1:Int):Option (Int × Int):=(zqq.f (wrap64 (a0 - a1)) (decide ((Go.bits .and .i64 (Go.bits .xor .i64 a0 a1) (Go.bits .xor .i64 a0 (wrap64 (a0 - a1)))) ≥ 0))).bind fun bt144=>(some (bt144.1,bt144.2))
set_option maxHeartbeats 8000000 in
set_option maxRecDepth 100000 in
theorem zx2.calls (a0:Int) (a1:Int) (r1:Int) (r2:Int) (w:World) (h:zx2.f a0 a1=some (r1,r2)) :
  Calls Tryd.prog 102 #[.int .i64 a0,.int .i64 a1] w fun e w'=>e = .returned (.tuple #[.int .i64 r1,.int .i64 r2])∧qx w w':=by
 have H:((zqq.f (wrap64 (a0 - a1)) (decide ((Go.bits .and .i64 (Go.bits .xor .i64 a0 a1) (Go.bits .xor .i64 a0 (wrap64 (a0 - a1)))) ≥ 0))).bind fun bt144=>(some (bt144.1,bt144.2)))=some (r1,r2):=h
 clear h
 replace H:=Option.bind_eq_some_iff.mp H
 obtain ⟨⟨t144,t145⟩,A30,H⟩:=H
 replace H:(some (t144,t145))=some (r1,r2):=H
 have A3:=zq.mk A30
 clear A30
 simp only [Option.some.injEq,Prod.mk.injEq] at H
 obtain ⟨rfl,rfl⟩:=H
 go_enter Tryd.func102,Tryd.ntmps102
 go_wp2_with (first|((with_reducible refine zs (f:=122) rfl ?_);refine qo (some 19) rfl rfl Tryd.func122 (by kernel_rfl) rfl #[.int .i64 (wrap64 (a0 - a1)),.bool (decide ((Go.bits .and .i64 (Go.bits .xor .i64 a0 a1) (Go.bits .xor .i64 a0 (wrap64 (a0 - a1)))) ≥ 0))] rfl gs ?_;(with_reducible refine(zqq.calls (wrap64 (a0 - a1)) (decide ((Go.bits .and .i64 (Go.bits .xor .i64 a0 a1) (Go.bits .xor .i64 a0 (wrap64 (a0 - a1)))) ≥ 0)) t144 t145 _ A3.out).mono ?_);rintro e w' ⟨rfl,⟨nd,rfl⟩⟩;refine⟨_,rfl,?_⟩))
 go_ret2
 exact⟨by first|rfl|(simp;done)|(simp [*];done),by repeat(first|exact qx.refl _|apply qx.step)⟩

/-! ### zjq: function 121 -/
def zjq.f  : Option (Int):=some (wrap64 (1 * 9223372036854775808))
set_option maxHeartbeats 8000000 in
set_option maxRecDepth 100000 in
theorem zjq.calls  (r:Int) (w:World) (h:zjq.f  = some r) :
  Calls Tryd.prog 121 #[] w fun e w'=>e = .returned (.int .i64 r)∧qx w w':=by
 have H:(some (wrap64 (1 * 9223372036854775808)))=some r:=h
 clear h
 obtain rfl:=Option.some.inj H
 go_enter Tryd.func121,Tryd.ntmps121
 go_wp2
 go_ret
 exact⟨by first|rfl|(simp;done)|(simp [*];done),by repeat(first|exact qx.refl _|apply qx.step)⟩

/-! ### zjz: function 100 -/
def zjz.f (a0:Int):Option (Int × Int):=(zjq.f).bind fun t146=>(if a0=t146 then((zqq.f a0 false).bind fun bt147=>(some (bt147.1,bt147.2))) else ((zqq.f (wrap64 (-a0)) true).bind fun bt149=>(some (bt149.1,bt149.2))))
set_option maxHeartbeats 8000000 in
set_option maxRecDepth 100000 in
theorem zjz.calls (a0:Int) (r1:Int) (r2:Int) (w:World) (h:zjz.f a0=some (r1,r2)) :
  Calls Tryd.prog 100 #[.int .i64 a0] w fun e w'=>e = .returned (.tuple #[.int .i64 r1,.int .i64 r2])∧qx w w':=by
 have H:((zjq.f).bind fun t146=>(if a0=t146 then((zqq.f a0 false).bind fun bt147=>(some (bt147.1,bt147.2))) else ((zqq.f (wrap64 (-a0)) true).bind fun bt149=>(some (bt149.1,bt149.2)))))=some (r1,r2):=h
 clear h
 replace H:=Option.bind_eq_some_iff.mp H
 obtain ⟨t146,A20,H⟩:=H
 replace H:(if a0=t146 then((zqq.f a0 false).bind fun bt147=>(some (bt147.1,bt147.2))) else ((zqq.f (wrap64 (-a0)) true).bind fun bt149=>(some (bt149.1,bt149.2))))=some (r1,r2):=H
 have A2:=zq.mk A20
 clear A20
 by_cases c3:a0=t146
 ·rw [if_pos c3] at H
  have c3b0:(a0 == t146)=true:=beq_iff_eq.mpr c3
  have c3b1:(a0 != t146)=false:=bne_eq_false_iff_eq.mpr c3
  clear c3
  replace H:=Option.bind_eq_some_iff.mp H
  obtain ⟨⟨t147,t148⟩,A40,H⟩:=H
  replace H:(some (t147,t148))=some (r1,r2):=H
  have A4:=zq.mk A40
  clear A40
  simp only [Option.some.injEq,Prod.mk.injEq] at H
  obtain ⟨rfl,rfl⟩:=H
  go_enter Tryd.func100,Tryd.ntmps100
  go_wp2_with (first|((with_reducible refine zs (f:=121) rfl ?_);refine qo (some 5) rfl rfl Tryd.func121 (by kernel_rfl) rfl #[] rfl gs ?_;(with_reducible refine(zjq.calls  t146 _ A2.out).mono ?_);rintro e w' ⟨rfl,⟨nd,rfl⟩⟩;refine⟨_,rfl,?_⟩)|((with_reducible refine zs (f:=122) rfl ?_);refine qo (some 8) rfl rfl Tryd.func122 (by kernel_rfl) rfl #[.int .i64 a0,.bool false] rfl gs ?_;(with_reducible refine(zqq.calls a0 false t147 t148 _ A4.out).mono ?_);rintro e w' ⟨rfl,⟨nd,rfl⟩⟩;refine⟨_,rfl,?_⟩))
  go_ret2
  exact⟨by first|rfl|(simp;done)|(simp [*];done),by repeat(first|exact qx.refl _|apply qx.step)⟩
 rw [if_neg c3] at H
 have c3b0:(a0 == t146)=false:=beq_eq_false_iff_ne.mpr c3
 have c3b1:(a0 != t146)=true:=bne_iff_ne.mpr c3
 replace H:=Option.bind_eq_some_iff.mp H
 obtain ⟨⟨t149,t150⟩,A50,H⟩:=H
 replace H:(some (t149,t150))=some (r1,r2):=H
 have A5:=zq.mk A50
 clear A50
 simp only [Option.some.injEq,Prod.mk.injEq] at H
 obtain ⟨rfl,rfl⟩:=H
 go_enter Tryd.func100,Tryd.ntmps100
 go_wp2_with (first|((with_reducible refine zs (f:=121) rfl ?_);refine qo (some 5) rfl rfl Tryd.func121 (by kernel_rfl) rfl #[] rfl gs ?_;(with_reducible refine(zjq.calls  t146 _ A2.out).mono ?_);rintro e w' ⟨rfl,⟨nd,rfl⟩⟩;refine⟨_,rfl,?_⟩)|((with_reducible refine zs (f:=122) rfl ?_);refine qo (some 13) rfl rfl Tryd.func122 (by kernel_rfl) rfl #[.int .i64 (wrap64 (-a0)),.bool true] rfl gs ?_;(with_reducible refine(zqq.calls (wrap64 (-a0)) true t149 t150 _ A5.out).mono ?_);rintro e w' ⟨rfl,⟨nd,rfl⟩⟩;refine⟨_,rfl,?_⟩))
 go_ret2
 exact⟨by first|rfl|(simp;done)|(simp [*];done),by repeat(first|exact qx.refl _|apply qx.step)⟩

/-! ### zq9: function 103 -/
def zq9.j0:Nat→Int→Int→Bool→Option (Int × Int)
 | 0,_,_,_=>none
 | k+1,x0,x1,x12=>if x12=true then(some (0,0)) else (if x0=(-1) then((zjz.f x1).bind fun bt151=>(some (bt151.1,bt151.2))) else (if x1=(-1) then((zjz.f x0).bind fun bt153=>(some (bt153.1,bt153.2))) else (if x1=0 then(none) else ((zqq.f (wrap64 (x0 * x1)) ((wrap64 (Int.tdiv (wrap64 (x0 * x1)) x1)) == x0)).bind fun bt155=>(some (bt155.1,bt155.2))))))
def zq9.f (k:Nat) (a0:Int) (a1:Int):Option (Int × Int):=if a0=0 then(zq9.j0 k a0 a1 true) else (zq9.j0 k a0 a1 (a1 == 0))
theorem zq9.mono_l:∀ k,(∀ y0 y1 y2,LeO (zq9.j0 k y0 y1 y2) (zq9.j0 (k+1) y0 y1 y2))
 | 0=>fun _ _ _ r h=>by simp [zq9.j0] at h
 | k+1=>by
  have ih0:=zq9.mono_l k
  intro y0 y1 y2
  unfold zq9.j0
  repeat' first
  | (with_reducible first|exact ih0 _ _ _|exact LeO.refl _|exact LeO.none _|refine LeO.ite ?_ ?_|refine LeO.bind ?_ (fun _=>?_))
  | exact ih0 _ _ _
  | exact LeO.none _
  | refine LeO.ite ?_ ?_
  | refine LeO.bind ?_ (fun _=>?_)
theorem zq9.mono:∀ a0 a1 k,LeO (zq9.f k a0 a1) (zq9.f (k+1) a0 a1):=by
 intro a0 a1 k
 have ih0:=zq9.mono_l k
 unfold zq9.f
 repeat' first
   | (with_reducible first|exact ih0 _ _ _|exact LeO.refl _|exact LeO.none _|refine LeO.ite ?_ ?_|refine LeO.bind ?_ (fun _=>?_))
   | exact ih0 _ _ _
   | exact LeO.none _
   | refine LeO.ite ?_ ?_
   | refine LeO.bind ?_ (fun _=>?_)
set_option maxHeartbeats 8000000 in
set_option maxRecDepth 100000 in
theorem zq9.calls (k:Nat) (a0:Int) (a1:Int) (r1:Int) (r2:Int) (w:World) (h:zq9.f k a0 a1=some (r1,r2)) :
  Calls Tryd.prog 103 #[.int .i64 a0,.int .i64 a1] w fun e w'=>e = .returned (.tuple #[.int .i64 r1,.int .i64 r2])∧qx w w':=by
 have H:(if a0=0 then(zq9.j0 k a0 a1 true) else (zq9.j0 k a0 a1 (a1 == 0)))=some (r1,r2):=h
 clear h
 have HC3:=zq.mk H
 clear H
 go_enter Tryd.func103,Tryd.ntmps103
 go_upto_region 1 with (fail)
 go_cut [12] (fun v12 wc => ∃ (kq:Nat) (x12_2:Bool),v12 = .bool x12_2∧zq (zq9.j0 kq a0 a1 x12_2=some (r1,r2))∧zq (kq≤k)∧qx w wc)
 case first=>
  have H:=HC3.out
  clear HC3
  by_cases c4:a0=0
  ·rw [if_pos c4] at H
   have c4b0:(a0 == 0)=true:=beq_iff_eq.mpr c4
   have c4b1:(a0 != 0)=false:=bne_eq_false_iff_eq.mpr c4
   clear c4
   (first|rw [c4b0]|(simp only [zqw,zqx];rw [c4b0])|skip)
   have H':=zq.mk H
   clear H
   go_wp2
   go_meet
   case rel=>exact⟨_,(true),vr,H',⟨by first|omega|exact Nat.le_refl _⟩,by repeat(first|exact qx.refl _|apply qx.step)⟩
  rw [if_neg c4] at H
  have c4b0:(a0 == 0)=false:=beq_eq_false_iff_ne.mpr c4
  have c4b1:(a0 != 0)=true:=bne_iff_ne.mpr c4
  (first|rw [c4b0]|(simp only [zqw,zqx];rw [c4b0])|skip)
  have H':=zq.mk H
  clear H
  go_wp2
  go_meet
  case rel=>exact⟨_,((a1 == 0)),vr,H',⟨by first|omega|exact Nat.le_refl _⟩,by repeat(first|exact qx.refl _|apply qx.step)⟩
 case rest=>
  clear HC3
  obtain ⟨kq,x12_2,rfl,HA,HJ2,⟨mc2,rfl⟩⟩:=hcut
  cases kq with
  | zero=>exact absurd HA.out (by simp [zq9.j0])
  | succ kj2=>
   have H:=HA.out
   clear HA
   simp only [zq9.j0] at H
   by_cases c5:x12_2=true
   ·subst c5
    rw [if_pos rfl] at H
    simp only [Option.some.injEq,Prod.mk.injEq] at H
    obtain ⟨rfl,rfl⟩:=H
    go_wp2
    go_ret2
    exact⟨by first|rfl|(simp;done)|(simp [*];done),by repeat(first|exact qx.refl _|apply qx.step)⟩
   replace c5:=Bool.eq_false_iff.mpr c5
   subst c5
   rw [if_neg (show ¬ (false=true) by decide)] at H
   by_cases c6:a0=(-1)
   ·rw [if_pos c6] at H
    have c6b0:(a0 == (-1))=true:=beq_iff_eq.mpr c6
    have c6b1:(a0 != (-1))=false:=bne_eq_false_iff_eq.mpr c6
    clear c6
    replace H:=Option.bind_eq_some_iff.mp H
    obtain ⟨⟨t151,t152⟩,A70,H⟩:=H
    replace H:(some (t151,t152))=some (r1,r2):=H
    have A7:=zq.mk A70
    clear A70
    simp only [Option.some.injEq,Prod.mk.injEq] at H
    obtain ⟨rfl,rfl⟩:=H
    go_wp2_with (first|((with_reducible refine zs (f:=100) rfl ?_);refine qo (some 16) rfl rfl Tryd.func100 (by kernel_rfl) rfl #[.int .i64 a1] rfl gs ?_;(with_reducible refine(zjz.calls a1 t151 t152 _ A7.out).mono ?_);rintro e w' ⟨rfl,⟨nd,rfl⟩⟩;refine⟨_,rfl,?_⟩))
    go_ret2
    exact⟨by first|rfl|(simp;done)|(simp [*];done),by repeat(first|exact qx.refl _|apply qx.step)⟩
   rw [if_neg c6] at H
   have c6b0:(a0 == (-1))=false:=beq_eq_false_iff_ne.mpr c6
   have c6b1:(a0 != (-1))=true:=bne_iff_ne.mpr c6
   by_cases c8:a1=(-1)
   ·rw [if_pos c8] at H
    have c8b0:(a1 == (-1))=true:=beq_iff_eq.mpr c8
    have c8b1:(a1 != (-1))=false:=bne_eq_false_iff_eq.mpr c8
    clear c8
    replace H:=Option.bind_eq_some_iff.mp H
    obtain ⟨⟨t153,t154⟩,A90,H⟩:=H
    replace H:(some (t153,t154))=some (r1,r2):=H
    have A9:=zq.mk A90
    clear A90
    simp only [Option.some.injEq,Prod.mk.injEq] at H
    obtain ⟨rfl,rfl⟩:=H
    go_wp2_with (first|((with_reducible refine zs (f:=100) rfl ?_);refine qo (some 22) rfl rfl Tryd.func100 (by kernel_rfl) rfl #[.int .i64 a0] rfl gs ?_;(with_reducible refine(zjz.calls a0 t153 t154 _ A9.out).mono ?_);rintro e w' ⟨rfl,⟨nd,rfl⟩⟩;refine⟨_,rfl,?_⟩))
    go_ret2
    exact⟨by first|rfl|(simp;done)|(simp [*];done),by repeat(first|exact qx.refl _|apply qx.step)⟩
   rw [if_neg c8] at H
   have c8b0:(a1 == (-1))=false:=beq_eq_false_iff_ne.mpr c8
   have c8b1:(a1 != (-1))=true:=bne_iff_ne.mpr c8
   by_cases c10:a1=0
   ·rw [if_pos c10] at H
    exact absurd H (by simp)
   rw [if_neg c10] at H
   have c10b0:(a1 == 0)=false:=beq_eq_false_iff_ne.mpr c10
   have c10b1:(a1 != 0)=true:=bne_iff_ne.mpr c10
   replace H:=Option.bind_eq_some_iff.mp H
   obtain ⟨⟨t155,t156⟩,A110,H⟩:=H
   replace H:(some (t155,t156))=some (r1,r2):=H
   have A11:=zq.mk A110
   clear A110
   simp only [Option.some.injEq,Prod.mk.injEq] at H
   obtain ⟨rfl,rfl⟩:=H
   go_wp2_with (first|((with_reducible refine zs (f:=122) rfl ?_);refine qo (some 34) rfl rfl Tryd.func122 (by kernel_rfl) rfl #[.int .i64 (wrap64 (a0 * a1)),.bool ((wrap64 (Int.tdiv (wrap64 (a0 * a1)) a1)) == a0)] rfl gs ?_;(with_reducible refine(zqq.calls (wrap64 (a0 * a1)) ((wrap64 (Int.tdiv (wrap64 (a0 * a1)) a1)) == a0) t155 t156 _ A11.out).mono ?_);rintro e w' ⟨rfl,⟨nd,rfl⟩⟩;refine⟨_,rfl,?_⟩))
   go_ret2
   exact⟨by first|rfl|(simp;done)|(simp [*];done),by repeat(first|exact qx.refl _|apply qx.step)⟩

/-! ### zx4: function 104 -/
def zx4.f (a0:Int) (a1:Int):Option (Int × Int):=if a1=0 then(some (0,11)) else (if a1=(-1) then((zjz.f a0).bind fun bt157=>(some (bt157.1,bt157.2))) else (some (wrap64 (Int.tdiv a0 a1),0)))
set_option maxHeartbeats 8000000 in
set_option maxRecDepth 100000 in
theorem zx4.calls (a0:Int) (a1:Int) (r1:Int) (r2:Int) (w:World) (h:zx4.f a0 a1=some (r1,r2)) :
  Calls Tryd.prog 104 #[.int .i64 a0,.int .i64 a1] w fun e w'=>e = .returned (.tuple #[.int .i64 r1,.int .i64 r2])∧qx w w':=by
 have H:(if a1=0 then(some (0,11)) else (if a1=(-1) then((zjz.f a0).bind fun bt157=>(some (bt157.1,bt157.2))) else (some (wrap64 (Int.tdiv a0 a1),0))))=some (r1,r2):=h
 clear h
 by_cases c3:a1=0
 ·rw [if_pos c3] at H
  have c3b0:(a1 == 0)=true:=beq_iff_eq.mpr c3
  have c3b1:(a1 != 0)=false:=bne_eq_false_iff_eq.mpr c3
  clear c3
  simp only [Option.some.injEq,Prod.mk.injEq] at H
  obtain ⟨rfl,rfl⟩:=H
  go_enter Tryd.func104,Tryd.ntmps104
  go_wp2
  go_ret2
  exact⟨by first|rfl|(simp;done)|(simp [*];done),by repeat(first|exact qx.refl _|apply qx.step)⟩
 rw [if_neg c3] at H
 have c3b0:(a1 == 0)=false:=beq_eq_false_iff_ne.mpr c3
 have c3b1:(a1 != 0)=true:=bne_iff_ne.mpr c3
 by_cases c4:a1=(-1)
 ·rw [if_pos c4] at H
  have c4b0:(a1 == (-1))=true:=beq_iff_eq.mpr c4
  have c4b1:(a1 != (-1))=false:=bne_eq_false_iff_eq.mpr c4
  clear c4
  replace H:=Option.bind_eq_some_iff.mp H
  obtain ⟨⟨t157,t158⟩,A50,H⟩:=H
  replace H:(some (t157,t158))=some (r1,r2):=H
  have A5:=zq.mk A50
  clear A50
  simp only [Option.some.injEq,Prod.mk.injEq] at H
  obtain ⟨rfl,rfl⟩:=H
  go_enter Tryd.func104,Tryd.ntmps104
  go_wp2_with (first|((with_reducible refine zs (f:=100) rfl ?_);refine qo (some 12) rfl rfl Tryd.func100 (by kernel_rfl) rfl #[.int .i64 a0] rfl gs ?_;(with_reducible refine(zjz.calls a0 t157 t158 _ A5.out).mono ?_);rintro e w' ⟨rfl,⟨nd,rfl⟩⟩;refine⟨_,rfl,?_⟩))
  go_ret2
  exact⟨by first|rfl|(simp;done)|(simp [*];done),by repeat(first|exact qx.refl _|apply qx.step)⟩
 rw [if_neg c4] at H
 have c4b0:(a1 == (-1))=false:=beq_eq_false_iff_ne.mpr c4
 have c4b1:(a1 != (-1))=true:=bne_iff_ne.mpr c4
 simp only [Option.some.injEq,Prod.mk.injEq] at H
 obtain ⟨rfl,rfl⟩:=H
 go_enter Tryd.func104,Tryd.ntmps104
 go_wp2
 go_ret2
 exact⟨by first|rfl|(simp;done)|(simp [*];done),by repeat(first|exact qx.refl _|apply qx.step)⟩

/-! ### zx3: function 105 -/
def zx3.f (a0:Int) (a1:Int):Option (Int × Int):=if a1=0 then(some (0,11)) else (if a1=(-1) then(some (0,0)) else (some (Int.tmod a0 a1,0)))
set_option maxHeartbeats 8000000 in
set_option maxRecDepth 100000 in
theorem zx3.calls (a0:Int) (a1:Int) (r1:Int) (r2:Int) (w:World) (h:zx3.f a0 a1=some (r1,r2)) :
  Calls Tryd.prog 105 #[.int .i64 a0,.int .i64 a1] w fun e w'=>e = .returned (.tuple #[.int .i64 r1,.int .i64 r2])∧qx w w':=by
 have H:(if a1=0 then(some (0,11)) else (if a1=(-1) then(some (0,0)) else (some (Int.tmod a0 a1,0))))=some (r1,r2):=h
 clear h
 by_cases c3:a1=0
 ·rw [if_pos c3] at H
  have c3b0:(a1 == 0)=true:=beq_iff_eq.mpr c3
  have c3b1:(a1 != 0)=false:=bne_eq_false_iff_eq.mpr c3
  clear c3
  simp only [Option.some.injEq,Prod.mk.injEq] at H
  obtain ⟨rfl,rfl⟩:=H
  go_enter Tryd.func105,Tryd.ntmps105
  go_wp2
  go_ret2
  exact⟨by first|rfl|(simp;done)|(simp [*];done),by repeat(first|exact qx.refl _|apply qx.step)⟩
 rw [if_neg c3] at H
 have c3b0:(a1 == 0)=false:=beq_eq_false_iff_ne.mpr c3
 have c3b1:(a1 != 0)=true:=bne_iff_ne.mpr c3
 by_cases c4:a1=(-1)
 ·rw [if_pos c4] at H
  have c4b0:(a1 == (-1))=true:=beq_iff_eq.mpr c4
  have c4b1:(a1 != (-1))=false:=bne_eq_false_iff_eq.mpr c4
  clear c4
  simp only [Option.some.injEq,Prod.mk.injEq] at H
  obtain ⟨rfl,rfl⟩:=H
  go_enter Tryd.func105,Tryd.ntmps105
  go_wp2
  go_ret2
  exact⟨by first|rfl|(simp;done)|(simp [*];done),by repeat(first|exact qx.refl _|apply qx.step)⟩
 rw [if_neg c4] at H
 have c4b0:(a1 == (-1))=false:=beq_eq_false_iff_ne.mpr c4
 have c4b1:(a1 != (-1))=true:=bne_iff_ne.mpr c4
 simp only [Option.some.injEq,Prod.mk.injEq] at H
 obtain ⟨rfl,rfl⟩:=H
 go_enter Tryd.func105,Tryd.ntmps105
 go_wp2
 go_ret2
 exact⟨by first|rfl|(simp;done)|(simp [*];done),by repeat(first|exact qx.refl _|apply qx.step)⟩

/-! ### zh: function 66, by hand -/
-- HAND rounds=1 making=1 laid=1 func=1 imports=Derived.Deep.QuietTactic,Derived.BigQuiet,Derived.Deep.RegionHeld3,Derived.Deep.RegionWith
def zh.of (k:Nat) (o:Int) (a b:S30):Option (Int × Int × ByteArray × Int):=
 if 13≤o∧o≤18 then(zqa.f k o a.f0 a.f1 a.f2 b.f0 b.f1 b.f2).bind fun p=>zq2.f k p.1 p.2
 else if o=6 then zj1.f k (a.f0 == 0)
 else if o=7 then zj1.f k (a.f0 != 0)
 else if o=5 then(zqz.f k a.f0 a.f1 a.f2).bind fun p=>if p.2=0 then(zxh.f p.1).bind fun q=>zq2.f k q.1 q.2 else some (0,0,⟨#[]⟩,p.2)
 else if o=4 then za.of (fun x _=>zjz.f x) a a
 else if o=8 then za.of zx5.f a b
 else if o=9 then za.of zx2.f a b
 else if o=10 then za.of (zq9.f k) a b
 else if o=11 then za.of zx4.f a b
 else if o=12 then za.of zx3.f a b
 else none
def zh.f (_k:Nat) (_a:Int):Option Bool:=none
theorem zh.mono:∀ a0 k,LeO (zh.f k a0) (zh.f (k+1) a0):=fun _ _=>LeO.refl _
theorem zh.zx7 (k:Nat) (o:Int) (a b:S30):LeO (zh.of k o a b) (zh.of (k+1) o a b):=by
 unfold zh.of
 refine LeO.ite (LeO.bind (zqa.mono _ _ _ _ _ _ _ _) (fun _=>zq2.mono _ _ _)) ?_
 refine LeO.ite (zj1.mono _ _) (LeO.ite (zj1.mono _ _) (LeO.ite (LeO.bind (zqz.mono _ _ _ _) (fun _=>LeO.ite (LeO.bind (LeO.refl _) (fun _=>zq2.mono _ _ _)) (LeO.refl _))) ?_))
 refine LeO.ite (LeO.refl _) (LeO.ite (LeO.refl _) (LeO.ite (LeO.refl _) (LeO.ite ?_ (LeO.ite (LeO.refl _) (LeO.ite (LeO.refl _) (LeO.refl _))))))
 exact za.zx7 (fun x y=>zq9.mono _ _ _) _ _
set_option maxRecDepth 100000 in
theorem zh.neg_at (x y r c:Int) (W:World) (h:zjz.f x=some (r,c)):Calls Tryd.prog 99 #[.int .i64 x,.int .i64 y] W fun e w'=>e = .returned (.tuple #[.int .i64 r,.int .i64 c])∧Below W.heap.size W w':=by
 have HC:=zq.mk (zjz.calls x r c W h)
 clear h
 go_enter Tryd.func99,Tryd.ntmps99
 go_wp2_with (go_at_call 100;(with_reducible refine HC.out.mono ?_);rintro e w1 ⟨rfl,hd⟩;have HD:=zq.mk hd.below;clear hd)
 go_ret2
 exact⟨rfl,HD.out⟩
abbrev zh.w0 (o ex ey:Int) (et en ep:ByteArray) (el:Int) (A7:Option Addr) (n7 c7:Nat) (a b:S30) (w:World):World:=(((w.alloc (.cells #[.int .i64 o,.int .i64 ex,.int .i64 ey,.string et,.string en,.string ep,.int .i64 el,.slice A7 n7 c7] 75)).alloc (.cells #[.int .i64 a.f0,.int .i64 a.f1,.string a.f2] 30)).alloc (.cells #[.int .i64 b.f0,.int .i64 b.f1,.string b.f2] 30)).alloc (.cells #[.int .i64 0,.int .i64 0,.string ⟨#[]⟩] 30)
structure zh.Kp (o ex ey:Int) (et en ep:ByteArray) (el:Int) (A7:Option Addr) (n7 c7:Nat) (a b:S30) (w W:World):Prop where mk :: (c0:W.cell? ⟨w.heap.size,0,none⟩=some (.int .i64 o)) (c1:W.cell? ⟨w.heap.size+1,0,none⟩=some (.int .i64 a.f0)) (c2:W.cell? ⟨w.heap.size+1,1,none⟩=some (.int .i64 a.f1)) (c3:W.cell? ⟨w.heap.size+1,2,none⟩=some (.string a.f2)) (c4:W.cell? ⟨w.heap.size+1+1,0,none⟩=some (.int .i64 b.f0)) (c5:W.cell? ⟨w.heap.size+1+1,1,none⟩=some (.int .i64 b.f1)) (c6:W.cell? ⟨w.heap.size+1+1,2,none⟩=some (.string b.f2)) (c7:W.cell? ⟨w.heap.size+1+1+1,0,none⟩=some (.int .i64 0)) (c8:W.cell? ⟨w.heap.size+1+1+1,1,none⟩=some (.int .i64 0)) (c9:W.cell? ⟨w.heap.size+1+1+1,2,none⟩=some (.string ⟨#[]⟩)) (c10:W.frozen? ⟨w.heap.size+1+1+1,0,none⟩=false) (c11:W.frozen? ⟨w.heap.size+1+1+1,1,none⟩=false) (c12:W.frozen? ⟨w.heap.size+1+1+1,2,none⟩=false)
theorem zh.zq7 {o ex ey:Int} {et en ep:ByteArray} {el:Int} {A7:Option Addr} {n7 c7:Nat} {a b:S30} {w:World} : (zh.w0 o ex ey et en ep el A7 n7 c7 a b w).heap.size=w.heap.size+1+1+1+1:=by simp [zh.w0]
theorem zh.hz {o ex ey:Int} {et en ep:ByteArray} {el:Int} {A7:Option Addr} {n7 c7:Nat} {a b:S30} {w W:World} (hb:Below (zh.w0 o ex ey et en ep el A7 n7 c7 a b w).heap.size (zh.w0 o ex ey et en ep el A7 n7 c7 a b w) W):W.heap[w.heap.size+1+1+1]? = some (.cells #[.int .i64 0,.int .i64 0,.string ⟨#[]⟩] 30 (0,0)):=by
 have q_:(((w.alloc (.cells #[.int .i64 o,.int .i64 ex,.int .i64 ey,.string et,.string en,.string ep,.int .i64 el,.slice A7 n7 c7] 75)).alloc (.cells #[.int .i64 a.f0,.int .i64 a.f1,.string a.f2] 30)).alloc (.cells #[.int .i64 b.f0,.int .i64 b.f1,.string b.f2] 30)).heap.size=w.heap.size+1+1+1:=by simp
 have h:=zjt (((w.alloc (.cells #[.int .i64 o,.int .i64 ex,.int .i64 ey,.string et,.string en,.string ep,.int .i64 el,.slice A7 n7 c7] 75)).alloc (.cells #[.int .i64 a.f0,.int .i64 a.f1,.string a.f2] 30)).alloc (.cells #[.int .i64 b.f0,.int .i64 b.f1,.string b.f2] 30)) (.cells #[.int .i64 0,.int .i64 0,.string ⟨#[]⟩] 30)
 rw [q_] at h
 exact zf h hb
theorem zh.hr {o ex ey:Int} {et en ep:ByteArray} {el:Int} {A7:Option Addr} {n7 c7:Nat} {a b:S30} {w W:World} (hb:Below (zh.w0 o ex ey et en ep el A7 n7 c7 a b w).heap.size (zh.w0 o ex ey et en ep el A7 n7 c7 a b w) W):Below w.heap.size w W:=by
 have h0:Below w.heap.size w (zh.w0 o ex ey et en ep el A7 n7 c7 a b w):=zm (zm (zm (zm (Below.refl _ _) _) _) _) _
 exact h0.trans (hb.mono h0.size)
theorem zh.kp {o ex ey:Int} {et en ep:ByteArray} {el:Int} {A7:Option Addr} {n7 c7:Nat} {a b:S30} {w W:World} (hb:Below (zh.w0 o ex ey et en ep el A7 n7 c7 a b w).heap.size (zh.w0 o ex ey et en ep el A7 n7 c7 a b w) W):zh.Kp o ex ey et en ep el A7 n7 c7 a b w W:=by
 have hs:=hb.size
 rw [zh.zq7] at hs
 exact⟨zp hb (by simp [go_sem]),zp hb (by simp [go_sem]),zp hb (by simp [go_sem]),zp hb (by simp [go_sem]),zp hb (by simp [go_sem]),zp hb (by simp [go_sem]),zp hb (by simp [go_sem]),zp hb (by simp [go_sem]),zp hb (by simp [go_sem]),zp hb (by simp [go_sem]),qy (zh.hz hb) 0,qy (zh.hz hb) 1,qy (zh.hz hb) 2⟩
set_option maxRecDepth 100000 in
set_option maxHeartbeats 8000000 in
theorem zh.at_cmp (k:Nat) (o ex ey:Int) (et en ep:ByteArray) (el:Int) (A7:Option Addr) (n7 c7:Nat) (a b:S30) (r1 r2:Int) (r3:ByteArray) (r4:Int) (w:World) (hL:LD w) (o1:13≤o) (o2:o≤18) (h:zh.of k o a b=some (r1,r2,r3,r4)) :
  Calls Tryd.prog 66 #[.agg #[.int .i64 o,.int .i64 ex,.int .i64 ey,.string et,.string en,.string ep,.int .i64 el,.slice A7 n7 c7],.agg #[.int .i64 a.f0,.int .i64 a.f1,.string a.f2],.agg #[.int .i64 b.f0,.int .i64 b.f1,.string b.f2]] w fun e w'=>e = .returned (.tuple #[.agg #[.int .i64 r1,.int .i64 r2,.string r3],.int .i64 r4])∧Below w.heap.size w w':=by
 have huv:=Tryd.underlying30
 have HL:=zq.mk hL
 clear hL
 unfold zh.of at h
 rw [if_pos ⟨o1,o2⟩] at h
 obtain ⟨⟨u,v⟩,hp,hq⟩:=Option.bind_eq_some_iff.1 h
 have HP:=zq.mk hp
 have HQ:=zq.mk hq
 have d1:=decide_eq_true o1
 have d2:=decide_eq_true o2
 clear h hp hq o1 o2
 go_enter Tryd.func66,Tryd.ntmps66
 go_wp2_with (first|(go_at_call 95;(with_reducible refine(za.lift (W0:=zh.w0 o ex ey et en ep el A7 n7 c7 a b w) (Below.refl _ _) (zqa.calls k _ _ _ _ _ _ _ u v _ (LD.below HL.out (zh.hr (o:=o) (ex:=ex) (ey:=ey) (et:=et) (en:=en) (ep:=ep) (el:=el) (A7:=A7) (n7:=n7) (c7:=c7) (a:=a) (b:=b) (Below.refl _ _))) HP.out)).mono ?_);rintro e w1 ⟨rfl,hb1⟩;have HB1:=zq.mk hb1;cases zh.kp hb1;clear hb1)|(go_at_call 94;(with_reducible refine(za.lift (HB1.out) (zq2.calls k u v r1 r2 r3 r4 _ HQ.out)).mono ?_);rintro e w2 ⟨rfl,hb2⟩;have HB2:=zq.mk hb2;cases zh.kp hb2;clear hb2))
 have HVX:=(zl (zl (zl (zh.hz HB2.out) 0 (.int .i64 r1) rfl) 1 (.int .i64 r2) rfl) 2 (.string r3) rfl)
 refine bodyPost_ret (qm (rs := [.cell 6 30,.tmp 7]) rfl (by simp) (.cell (w.heap.size+1+1+1) 30 _ (0,0) _ rfl HVX huv rfl (by kernel_rfl) (.tmp .nil))) rfl ?_
 exact⟨rfl,(((zh.hr HB2.out).setCell (p:=⟨w.heap.size+1+1+1,0,none⟩) (by simp <;> omega) _).setCell (p:=⟨w.heap.size+1+1+1,1,none⟩) (by simp <;> omega) _).setCell (p:=⟨w.heap.size+1+1+1,2,none⟩) (by simp <;> omega) _⟩
set_option maxRecDepth 100000 in
set_option maxHeartbeats 8000000 in
theorem zh.at_null (k:Nat) (ex ey:Int) (et en ep:ByteArray) (el:Int) (A7:Option Addr) (n7 c7:Nat) (a b:S30) (r1 r2:Int) (r3:ByteArray) (r4:Int) (w:World) (hL:LD w) (h:zh.of k 6 a b=some (r1,r2,r3,r4)) :
  Calls Tryd.prog 66 #[.agg #[.int .i64 6,.int .i64 ex,.int .i64 ey,.string et,.string en,.string ep,.int .i64 el,.slice A7 n7 c7],.agg #[.int .i64 a.f0,.int .i64 a.f1,.string a.f2],.agg #[.int .i64 b.f0,.int .i64 b.f1,.string b.f2]] w fun e w'=>e = .returned (.tuple #[.agg #[.int .i64 r1,.int .i64 r2,.string r3],.int .i64 r4])∧Below w.heap.size w w':=by
 have huv:=Tryd.underlying30
 have HL:=zq.mk hL
 clear hL
 unfold zh.of at h
 rw [if_neg (by decide),if_pos rfl] at h
 have HP:=zq.mk h
 clear h
 go_enter Tryd.func66,Tryd.ntmps66
 go_wp2_with (first|(go_at_call 96;(with_reducible refine(za.lift (W0:=zh.w0 6 ex ey et en ep el A7 n7 c7 a b w) (Below.refl _ _) (zj1.calls k _ r1 r2 r3 r4 _ HP.out)).mono ?_);rintro e w1 ⟨rfl,hb1⟩;have HB1:=zq.mk hb1;cases zh.kp hb1;clear hb1))
 have HVX:=(zl (zl (zl (zh.hz HB1.out) 0 (.int .i64 r1) rfl) 1 (.int .i64 r2) rfl) 2 (.string r3) rfl)
 refine bodyPost_ret (qm (rs := [.cell 6 30,.tmp 7]) rfl (by simp) (.cell (w.heap.size+1+1+1) 30 _ (0,0) _ rfl HVX huv rfl (by kernel_rfl) (.tmp .nil))) rfl ?_
 exact⟨rfl,(((zh.hr HB1.out).setCell (p:=⟨w.heap.size+1+1+1,0,none⟩) (by simp <;> omega) _).setCell (p:=⟨w.heap.size+1+1+1,1,none⟩) (by simp <;> omega) _).setCell (p:=⟨w.heap.size+1+1+1,2,none⟩) (by simp <;> omega) _⟩
set_option maxRecDepth 100000 in
set_option maxHeartbeats 8000000 in
theorem zh.at_some (k:Nat) (ex ey:Int) (et en ep:ByteArray) (el:Int) (A7:Option Addr) (n7 c7:Nat) (a b:S30) (r1 r2:Int) (r3:ByteArray) (r4:Int) (w:World) (hL:LD w) (h:zh.of k 7 a b=some (r1,r2,r3,r4)) :
  Calls Tryd.prog 66 #[.agg #[.int .i64 7,.int .i64 ex,.int .i64 ey,.string et,.string en,.string ep,.int .i64 el,.slice A7 n7 c7],.agg #[.int .i64 a.f0,.int .i64 a.f1,.string a.f2],.agg #[.int .i64 b.f0,.int .i64 b.f1,.string b.f2]] w fun e w'=>e = .returned (.tuple #[.agg #[.int .i64 r1,.int .i64 r2,.string r3],.int .i64 r4])∧Below w.heap.size w w':=by
 have huv:=Tryd.underlying30
 have HL:=zq.mk hL
 clear hL
 unfold zh.of at h
 rw [if_neg (by decide),if_neg (by decide),if_pos rfl] at h
 have HP:=zq.mk h
 clear h
 go_enter Tryd.func66,Tryd.ntmps66
 go_wp2_with (first|(go_at_call 96;(with_reducible refine(za.lift (W0:=zh.w0 7 ex ey et en ep el A7 n7 c7 a b w) (Below.refl _ _) (zj1.calls k _ r1 r2 r3 r4 _ HP.out)).mono ?_);rintro e w1 ⟨rfl,hb1⟩;have HB1:=zq.mk hb1;cases zh.kp hb1;clear hb1))
 have HVX:=(zl (zl (zl (zh.hz HB1.out) 0 (.int .i64 r1) rfl) 1 (.int .i64 r2) rfl) 2 (.string r3) rfl)
 refine bodyPost_ret (qm (rs := [.cell 6 30,.tmp 7]) rfl (by simp) (.cell (w.heap.size+1+1+1) 30 _ (0,0) _ rfl HVX huv rfl (by kernel_rfl) (.tmp .nil))) rfl ?_
 exact⟨rfl,(((zh.hr HB1.out).setCell (p:=⟨w.heap.size+1+1+1,0,none⟩) (by simp <;> omega) _).setCell (p:=⟨w.heap.size+1+1+1,1,none⟩) (by simp <;> omega) _).setCell (p:=⟨w.heap.size+1+1+1,2,none⟩) (by simp <;> omega) _⟩
set_option maxRecDepth 100000 in
set_option maxHeartbeats 8000000 in
theorem zh.at_not (k:Nat) (ex ey:Int) (et en ep:ByteArray) (el:Int) (A7:Option Addr) (n7 c7:Nat) (a b:S30) (r1 r2:Int) (r3:ByteArray) (r4:Int) (w:World) (hL:LD w) (h:zh.of k 5 a b=some (r1,r2,r3,r4)) :
  Calls Tryd.prog 66 #[.agg #[.int .i64 5,.int .i64 ex,.int .i64 ey,.string et,.string en,.string ep,.int .i64 el,.slice A7 n7 c7],.agg #[.int .i64 a.f0,.int .i64 a.f1,.string a.f2],.agg #[.int .i64 b.f0,.int .i64 b.f1,.string b.f2]] w fun e w'=>e = .returned (.tuple #[.agg #[.int .i64 r1,.int .i64 r2,.string r3],.int .i64 r4])∧Below w.heap.size w w':=by
 have huv:=Tryd.underlying30
 have HL:=zq.mk hL
 clear hL
 unfold zh.of at h
 rw [if_neg (by decide),if_neg (by decide),if_neg (by decide),if_pos rfl] at h
 obtain ⟨⟨u,v⟩,hp,h⟩:=Option.bind_eq_some_iff.1 h
 have HP:=zq.mk hp
 clear hp
 by_cases z:v=0
 ·rw [if_pos z] at h
  obtain ⟨⟨p,q⟩,hp,hq⟩:=Option.bind_eq_some_iff.1 h
  have HN:=zq.mk hp
  have HQ:=zq.mk hq
  subst z
  clear h hp hq
  go_enter Tryd.func66,Tryd.ntmps66
  go_wp2_with (first|(go_at_call 31;(with_reducible refine(za.lift (W0:=zh.w0 5 ex ey et en ep el A7 n7 c7 a b w) (Below.refl _ _) (zqz.calls k _ _ _ u _ _ (LD.below HL.out (zh.hr (o:=5) (ex:=ex) (ey:=ey) (et:=et) (en:=en) (ep:=ep) (el:=el) (A7:=A7) (n7:=n7) (c7:=c7) (a:=a) (b:=b) (Below.refl _ _))) HP.out)).mono ?_);rintro e w1 ⟨rfl,hb1⟩;have HB1:=zq.mk hb1;cases zh.kp hb1;clear hb1)|(go_at_call 97;(with_reducible refine(za.lift (HB1.out) (za.drawn (zxh.calls u p q _ HN.out))).mono ?_);rintro e w2 ⟨rfl,hb2⟩;have HB2:=zq.mk hb2;cases zh.kp hb2;clear hb2)|(go_at_call 94;(with_reducible refine(za.lift (HB2.out) (zq2.calls k p q r1 r2 r3 r4 _ HQ.out)).mono ?_);rintro e w3 ⟨rfl,hb3⟩;have HB3:=zq.mk hb3;cases zh.kp hb3;clear hb3))
  have HVX:=(zl (zl (zl (zh.hz HB3.out) 0 (.int .i64 r1) rfl) 1 (.int .i64 r2) rfl) 2 (.string r3) rfl)
  refine bodyPost_ret (qm (rs := [.cell 6 30,.tmp 7]) rfl (by simp) (.cell (w.heap.size+1+1+1) 30 _ (0,0) _ rfl HVX huv rfl (by kernel_rfl) (.tmp .nil))) rfl ?_
  exact⟨rfl,(((zh.hr HB3.out).setCell (p:=⟨w.heap.size+1+1+1,0,none⟩) (by simp <;> omega) _).setCell (p:=⟨w.heap.size+1+1+1,1,none⟩) (by simp <;> omega) _).setCell (p:=⟨w.heap.size+1+1+1,2,none⟩) (by simp <;> omega) _⟩
 rw [if_neg z] at h
 obtain ⟨rfl,rfl,rfl,rfl⟩:0=r1∧0=r2∧(⟨#[]⟩:ByteArray)=r3∧v=r4:=by simpa using h
 have dz:(v != 0)=true:=by simpa using z
 clear h z
 go_enter Tryd.func66,Tryd.ntmps66
 go_wp2_with (first|(go_at_call 31;(with_reducible refine(za.lift (W0:=zh.w0 5 ex ey et en ep el A7 n7 c7 a b w) (Below.refl _ _) (zqz.calls k _ _ _ u _ _ (LD.below HL.out (zh.hr (o:=5) (ex:=ex) (ey:=ey) (et:=et) (en:=en) (ep:=ep) (el:=el) (A7:=A7) (n7:=n7) (c7:=c7) (a:=a) (b:=b) (Below.refl _ _))) HP.out)).mono ?_);rintro e w1 ⟨rfl,hb1⟩;have HB1:=zq.mk hb1;cases zh.kp hb1;clear hb1))
 have HVX:=(zl (zl (zl (zh.hz HB1.out) 0 (.int .i64 0) rfl) 1 (.int .i64 0) rfl) 2 (.string ⟨#[]⟩) rfl)
 refine bodyPost_ret (qm (rs := [.cell 6 30,.tmp 7]) rfl (by simp) (.cell (w.heap.size+1+1+1) 30 _ (0,0) _ rfl HVX huv rfl (by kernel_rfl) (.tmp .nil))) rfl ?_
 exact⟨rfl,(((zh.hr HB1.out).setCell (p:=⟨w.heap.size+1+1+1,0,none⟩) (by simp <;> omega) _).setCell (p:=⟨w.heap.size+1+1+1,1,none⟩) (by simp <;> omega) _).setCell (p:=⟨w.heap.size+1+1+1,2,none⟩) (by simp <;> omega) _⟩
set_option maxRecDepth 100000 in
set_option maxHeartbeats 8000000 in
theorem zh.at_neg (k:Nat) (ex ey:Int) (et en ep:ByteArray) (el:Int) (A7:Option Addr) (n7 c7:Nat) (a b:S30) (r1 r2:Int) (r3:ByteArray) (r4:Int) (w:World) (hL:LD w) (h:zh.of k 4 a b=some (r1,r2,r3,r4)) :
  Calls Tryd.prog 66 #[.agg #[.int .i64 4,.int .i64 ex,.int .i64 ey,.string et,.string en,.string ep,.int .i64 el,.slice A7 n7 c7],.agg #[.int .i64 a.f0,.int .i64 a.f1,.string a.f2],.agg #[.int .i64 b.f0,.int .i64 b.f1,.string b.f2]] w fun e w'=>e = .returned (.tuple #[.agg #[.int .i64 r1,.int .i64 r2,.string r3],.int .i64 r4])∧Below w.heap.size w w':=by
 have huv:=Tryd.underlying30
 have HL:=zq.mk hL
 clear hL
 unfold zh.of at h
 rw [if_neg (by decide),if_neg (by decide),if_neg (by decide),if_neg (by decide),if_pos rfl] at h
 have HP:=zq.mk h
 clear h
 go_enter Tryd.func66,Tryd.ntmps66
 go_wp2_with (first|(go_at_call 98;(with_reducible refine(za.lift (W0:=zh.w0 4 ex ey et en ep el A7 n7 c7 a b w) (Below.refl _ _) (za.at_ (fun x _=>zjz.f x) 99 (by decide) (fun x y r c W h=>zh.neg_at x y r c W h) a a r1 r2 r3 r4 _ HP.out)).mono ?_);rintro e w1 ⟨rfl,hb1⟩;have HB1:=zq.mk hb1;cases zh.kp hb1;clear hb1))
 have HVX:=(zl (zl (zl (zh.hz HB1.out) 0 (.int .i64 r1) rfl) 1 (.int .i64 r2) rfl) 2 (.string r3) rfl)
 refine bodyPost_ret (qm (rs := [.cell 6 30,.tmp 7]) rfl (by simp) (.cell (w.heap.size+1+1+1) 30 _ (0,0) _ rfl HVX huv rfl (by kernel_rfl) (.tmp .nil))) rfl ?_
 exact⟨rfl,(((zh.hr HB1.out).setCell (p:=⟨w.heap.size+1+1+1,0,none⟩) (by simp <;> omega) _).setCell (p:=⟨w.heap.size+1+1+1,1,none⟩) (by simp <;> omega) _).setCell (p:=⟨w.heap.size+1+1+1,2,none⟩) (by simp <;> omega) _⟩
theorem zh.idx0 (w:World):Sem.run Tryd.prog (Instr.index 119 (.agg #[.func (.func 101) #[] #[],.func (.func 102) #[] #[],.func (.func 103) #[] #[],.func (.func 104) #[] #[],.func (.func 105) #[] #[]]) (.int .i64 (IntKind.i64.wrap 0))) w = .ok (.func (.func 101) #[] #[]) w:=by kernel_rfl
theorem zh.idx1 (w:World):Sem.run Tryd.prog (Instr.index 119 (.agg #[.func (.func 101) #[] #[],.func (.func 102) #[] #[],.func (.func 103) #[] #[],.func (.func 104) #[] #[],.func (.func 105) #[] #[]]) (.int .i64 (IntKind.i64.wrap 1))) w = .ok (.func (.func 102) #[] #[]) w:=by kernel_rfl
theorem zh.idx2 (w:World):Sem.run Tryd.prog (Instr.index 119 (.agg #[.func (.func 101) #[] #[],.func (.func 102) #[] #[],.func (.func 103) #[] #[],.func (.func 104) #[] #[],.func (.func 105) #[] #[]]) (.int .i64 (IntKind.i64.wrap 2))) w = .ok (.func (.func 103) #[] #[]) w:=by kernel_rfl
theorem zh.idx3 (w:World):Sem.run Tryd.prog (Instr.index 119 (.agg #[.func (.func 101) #[] #[],.func (.func 102) #[] #[],.func (.func 103) #[] #[],.func (.func 104) #[] #[],.func (.func 105) #[] #[]]) (.int .i64 (IntKind.i64.wrap 3))) w = .ok (.func (.func 104) #[] #[]) w:=by kernel_rfl
theorem zh.idx4 (w:World):Sem.run Tryd.prog (Instr.index 119 (.agg #[.func (.func 101) #[] #[],.func (.func 102) #[] #[],.func (.func 103) #[] #[],.func (.func 104) #[] #[],.func (.func 105) #[] #[]]) (.int .i64 (IntKind.i64.wrap 4))) w = .ok (.func (.func 105) #[] #[]) w:=by kernel_rfl
attribute [local go_sem] zh.idx0 zh.idx1 zh.idx2 zh.idx3 zh.idx4
set_option maxRecDepth 100000 in
set_option maxHeartbeats 8000000 in
theorem zh.at_add (k:Nat) (ex ey:Int) (et en ep:ByteArray) (el:Int) (A7:Option Addr) (n7 c7:Nat) (a b:S30) (r1 r2:Int) (r3:ByteArray) (r4:Int) (w:World) (hL:LD w) (h:zh.of k 8 a b=some (r1,r2,r3,r4)) :
  Calls Tryd.prog 66 #[.agg #[.int .i64 8,.int .i64 ex,.int .i64 ey,.string et,.string en,.string ep,.int .i64 el,.slice A7 n7 c7],.agg #[.int .i64 a.f0,.int .i64 a.f1,.string a.f2],.agg #[.int .i64 b.f0,.int .i64 b.f1,.string b.f2]] w fun e w'=>e = .returned (.tuple #[.agg #[.int .i64 r1,.int .i64 r2,.string r3],.int .i64 r4])∧Below w.heap.size w w':=by
 have huv:=Tryd.underlying30
 have HL:=zq.mk hL
 clear hL
 unfold zh.of at h
 rw [if_neg (by decide),if_neg (by decide),if_neg (by decide),if_neg (by decide),if_neg (by decide),if_pos rfl] at h
 have HP:=zq.mk h
 clear h
 go_enter Tryd.func66,Tryd.ntmps66
 go_wp2
 go_region_with (go_at_call 98;(with_reducible refine(za.lift (W0:=zh.w0 8 ex ey et en ep el A7 n7 c7 a b w) (by first|exact Below.refl _ _|exact qe (Below.refl _ _)|exact qd (Below.refl _ _) _) (za.at_ zx5.f 101 (by decide) (fun x y r c W h=>za.drawn (zx5.calls x y r c W h)) a b r1 r2 r3 r4 _ HP.out)).mono ?_);rintro e w1 ⟨rfl,hb1⟩;have HB1:=zq.mk hb1;cases zh.kp hb1;clear hb1)
 all_goals
  go_wp2
  have HVX:=(zl (zl (zl (zh.hz HB1.out) 0 (.int .i64 r1) rfl) 1 (.int .i64 r2) rfl) 2 (.string r3) rfl)
  refine bodyPost_ret (qm (rs := [.cell 6 30,.tmp 7]) rfl (by simp) (.cell (w.heap.size+1+1+1) 30 _ (0,0) _ rfl HVX huv rfl (by kernel_rfl) (.tmp .nil))) rfl ?_
  exact⟨rfl,(((zh.hr HB1.out).setCell (p:=⟨w.heap.size+1+1+1,0,none⟩) (by simp <;> omega) _).setCell (p:=⟨w.heap.size+1+1+1,1,none⟩) (by simp <;> omega) _).setCell (p:=⟨w.heap.size+1+1+1,2,none⟩) (by simp <;> omega) _⟩
set_option maxRecDepth 100000 in
set_option maxHeartbeats 8000000 in
theorem zh.at_sub (k:Nat) (ex ey:Int) (et en ep:ByteArray) (el:Int) (A7:Option Addr) (n7 c7:Nat) (a b:S30) (r1 r2:Int) (r3:ByteArray) (r4:Int) (w:World) (hL:LD w) (h:zh.of k 9 a b=some (r1,r2,r3,r4)) :
  Calls Tryd.prog 66 #[.agg #[.int .i64 9,.int .i64 ex,.int .i64 ey,.string et,.string en,.string ep,.int .i64 el,.slice A7 n7 c7],.agg #[.int .i64 a.f0,.int .i64 a.f1,.string a.f2],.agg #[.int .i64 b.f0,.int .i64 b.f1,.string b.f2]] w fun e w'=>e = .returned (.tuple #[.agg #[.int .i64 r1,.int .i64 r2,.string r3],.int .i64 r4])∧Below w.heap.size w w':=by
 have huv:=Tryd.underlying30
 have HL:=zq.mk hL
 clear hL
 unfold zh.of at h
 rw [if_neg (by decide),if_neg (by decide),if_neg (by decide),if_neg (by decide),if_neg (by decide),if_neg (by decide),if_pos rfl] at h
 have HP:=zq.mk h
 clear h
 go_enter Tryd.func66,Tryd.ntmps66
 go_wp2
 go_region_with (go_at_call 98;(with_reducible refine(za.lift (W0:=zh.w0 9 ex ey et en ep el A7 n7 c7 a b w) (by first|exact Below.refl _ _|exact qe (Below.refl _ _)|exact qd (Below.refl _ _) _) (za.at_ zx2.f 102 (by decide) (fun x y r c W h=>za.drawn (zx2.calls x y r c W h)) a b r1 r2 r3 r4 _ HP.out)).mono ?_);rintro e w1 ⟨rfl,hb1⟩;have HB1:=zq.mk hb1;cases zh.kp hb1;clear hb1)
 all_goals
  go_wp2
  have HVX:=(zl (zl (zl (zh.hz HB1.out) 0 (.int .i64 r1) rfl) 1 (.int .i64 r2) rfl) 2 (.string r3) rfl)
  refine bodyPost_ret (qm (rs := [.cell 6 30,.tmp 7]) rfl (by simp) (.cell (w.heap.size+1+1+1) 30 _ (0,0) _ rfl HVX huv rfl (by kernel_rfl) (.tmp .nil))) rfl ?_
  exact⟨rfl,(((zh.hr HB1.out).setCell (p:=⟨w.heap.size+1+1+1,0,none⟩) (by simp <;> omega) _).setCell (p:=⟨w.heap.size+1+1+1,1,none⟩) (by simp <;> omega) _).setCell (p:=⟨w.heap.size+1+1+1,2,none⟩) (by simp <;> omega) _⟩
set_option maxRecDepth 100000 in
set_option maxHeartbeats 8000000 in
theorem zh.at_mul (k:Nat) (ex ey:Int) (et en ep:ByteArray) (el:Int) (A7:Option Addr) (n7 c7:Nat) (a b:S30) (r1 r2:Int) (r3:ByteArray) (r4:Int) (w:World) (hL:LD w) (h:zh.of k 10 a b=some (r1,r2,r3,r4)) :
  Calls Tryd.prog 66 #[.agg #[.int .i64 10,.int .i64 ex,.int .i64 ey,.string et,.string en,.string ep,.int .i64 el,.slice A7 n7 c7],.agg #[.int .i64 a.f0,.int .i64 a.f1,.string a.f2],.agg #[.int .i64 b.f0,.int .i64 b.f1,.string b.f2]] w fun e w'=>e = .returned (.tuple #[.agg #[.int .i64 r1,.int .i64 r2,.string r3],.int .i64 r4])∧Below w.heap.size w w':=by
 have huv:=Tryd.underlying30
 have HL:=zq.mk hL
 clear hL
 unfold zh.of at h
 rw [if_neg (by decide),if_neg (by decide),if_neg (by decide),if_neg (by decide),if_neg (by decide),if_neg (by decide),if_neg (by decide),if_pos rfl] at h
 have HP:=zq.mk h
 clear h
 go_enter Tryd.func66,Tryd.ntmps66
 go_wp2
 go_region_with (go_at_call 98;(with_reducible refine(za.lift (W0:=zh.w0 10 ex ey et en ep el A7 n7 c7 a b w) (by first|exact Below.refl _ _|exact qe (Below.refl _ _)|exact qd (Below.refl _ _) _) (za.at_ (zq9.f k) 103 (by decide) (fun x y r c W h=>za.drawn (zq9.calls k x y r c W h)) a b r1 r2 r3 r4 _ HP.out)).mono ?_);rintro e w1 ⟨rfl,hb1⟩;have HB1:=zq.mk hb1;cases zh.kp hb1;clear hb1)
 all_goals
  go_wp2
  have HVX:=(zl (zl (zl (zh.hz HB1.out) 0 (.int .i64 r1) rfl) 1 (.int .i64 r2) rfl) 2 (.string r3) rfl)
  refine bodyPost_ret (qm (rs := [.cell 6 30,.tmp 7]) rfl (by simp) (.cell (w.heap.size+1+1+1) 30 _ (0,0) _ rfl HVX huv rfl (by kernel_rfl) (.tmp .nil))) rfl ?_
  exact⟨rfl,(((zh.hr HB1.out).setCell (p:=⟨w.heap.size+1+1+1,0,none⟩) (by simp <;> omega) _).setCell (p:=⟨w.heap.size+1+1+1,1,none⟩) (by simp <;> omega) _).setCell (p:=⟨w.heap.size+1+1+1,2,none⟩) (by simp <;> omega) _⟩
set_option maxRecDepth 100000 in
set_option maxHeartbeats 8000000 in
theorem zh.at_div (k:Nat) (ex ey:Int) (et en ep:ByteArray) (el:Int) (A7:Option Addr) (n7 c7:Nat) (a b:S30) (r1 r2:Int) (r3:ByteArray) (r4:Int) (w:World) (hL:LD w) (h:zh.of k 11 a b=some (r1,r2,r3,r4)) :
  Calls Tryd.prog 66 #[.agg #[.int .i64 11,.int .i64 ex,.int .i64 ey,.string et,.string en,.string ep,.int .i64 el,.slice A7 n7 c7],.agg #[.int .i64 a.f0,.int .i64 a.f1,.string a.f2],.agg #[.int .i64 b.f0,.int .i64 b.f1,.string b.f2]] w fun e w'=>e = .returned (.tuple #[.agg #[.int .i64 r1,.int .i64 r2,.string r3],.int .i64 r4])∧Below w.heap.size w w':=by
 have huv:=Tryd.underlying30
 have HL:=zq.mk hL
 clear hL
 unfold zh.of at h
 rw [if_neg (by decide),if_neg (by decide),if_neg (by decide),if_neg (by decide),if_neg (by decide),if_neg (by decide),if_neg (by decide),if_neg (by decide),if_pos rfl] at h
 have HP:=zq.mk h
 clear h
 go_enter Tryd.func66,Tryd.ntmps66
 go_wp2
 go_region_with (go_at_call 98;(with_reducible refine(za.lift (W0:=zh.w0 11 ex ey et en ep el A7 n7 c7 a b w) (by first|exact Below.refl _ _|exact qe (Below.refl _ _)|exact qd (Below.refl _ _) _) (za.at_ zx4.f 104 (by decide) (fun x y r c W h=>za.drawn (zx4.calls x y r c W h)) a b r1 r2 r3 r4 _ HP.out)).mono ?_);rintro e w1 ⟨rfl,hb1⟩;have HB1:=zq.mk hb1;cases zh.kp hb1;clear hb1)
 all_goals
  go_wp2
  have HVX:=(zl (zl (zl (zh.hz HB1.out) 0 (.int .i64 r1) rfl) 1 (.int .i64 r2) rfl) 2 (.string r3) rfl)
  refine bodyPost_ret (qm (rs := [.cell 6 30,.tmp 7]) rfl (by simp) (.cell (w.heap.size+1+1+1) 30 _ (0,0) _ rfl HVX huv rfl (by kernel_rfl) (.tmp .nil))) rfl ?_
  exact⟨rfl,(((zh.hr HB1.out).setCell (p:=⟨w.heap.size+1+1+1,0,none⟩) (by simp <;> omega) _).setCell (p:=⟨w.heap.size+1+1+1,1,none⟩) (by simp <;> omega) _).setCell (p:=⟨w.heap.size+1+1+1,2,none⟩) (by simp <;> omega) _⟩
set_option maxRecDepth 100000 in
set_option maxHeartbeats 8000000 in
theorem zh.at_mod (k:Nat) (ex ey:Int) (et en ep:ByteArray) (el:Int) (A7:Option Addr) (n7 c7:Nat) (a b:S30) (r1 r2:Int) (r3:ByteArray) (r4:Int) (w:World) (hL:LD w) (h:zh.of k 12 a b=some (r1,r2,r3,r4)) :
  Calls Tryd.prog 66 #[.agg #[.int .i64 12,.int .i64 ex,.int .i64 ey,.string et,.string en,.string ep,.int .i64 el,.slice A7 n7 c7],.agg #[.int .i64 a.f0,.int .i64 a.f1,.string a.f2],.agg #[.int .i64 b.f0,.int .i64 b.f1,.string b.f2]] w fun e w'=>e = .returned (.tuple #[.agg #[.int .i64 r1,.int .i64 r2,.string r3],.int .i64 r4])∧Below w.heap.size w w':=by
 have huv:=Tryd.underlying30
 have HL:=zq.mk hL
 clear hL
 unfold zh.of at h
 rw [if_neg (by decide),if_neg (by decide),if_neg (by decide),if_neg (by decide),if_neg (by decide),if_neg (by decide),if_neg (by decide),if_neg (by decide),if_neg (by decide),if_pos rfl] at h
 have HP:=zq.mk h
 clear h
 go_enter Tryd.func66,Tryd.ntmps66
 go_wp2
 go_region_with (go_at_call 98;(with_reducible refine(za.lift (W0:=zh.w0 12 ex ey et en ep el A7 n7 c7 a b w) (by first|exact Below.refl _ _|exact qe (Below.refl _ _)|exact qd (Below.refl _ _) _) (za.at_ zx3.f 105 (by decide) (fun x y r c W h=>za.drawn (zx3.calls x y r c W h)) a b r1 r2 r3 r4 _ HP.out)).mono ?_);rintro e w1 ⟨rfl,hb1⟩;have HB1:=zq.mk hb1;cases zh.kp hb1;clear hb1)
 all_goals
  go_wp2
  have HVX:=(zl (zl (zl (zh.hz HB1.out) 0 (.int .i64 r1) rfl) 1 (.int .i64 r2) rfl) 2 (.string r3) rfl)
  refine bodyPost_ret (qm (rs := [.cell 6 30,.tmp 7]) rfl (by simp) (.cell (w.heap.size+1+1+1) 30 _ (0,0) _ rfl HVX huv rfl (by kernel_rfl) (.tmp .nil))) rfl ?_
  exact⟨rfl,(((zh.hr HB1.out).setCell (p:=⟨w.heap.size+1+1+1,0,none⟩) (by simp <;> omega) _).setCell (p:=⟨w.heap.size+1+1+1,1,none⟩) (by simp <;> omega) _).setCell (p:=⟨w.heap.size+1+1+1,2,none⟩) (by simp <;> omega) _⟩
theorem zh.at_ (k:Nat) (o ex ey:Int) (et en ep:ByteArray) (el:Int) (A7:Option Addr) (n7 c7:Nat) (a b:S30) (r1 r2:Int) (r3:ByteArray) (r4:Int) (w:World) (hL:LD w) (h:zh.of k o a b=some (r1,r2,r3,r4)) :
  Calls Tryd.prog 66 #[.agg #[.int .i64 o,.int .i64 ex,.int .i64 ey,.string et,.string en,.string ep,.int .i64 el,.slice A7 n7 c7],.agg #[.int .i64 a.f0,.int .i64 a.f1,.string a.f2],.agg #[.int .i64 b.f0,.int .i64 b.f1,.string b.f2]] w fun e w'=>e = .returned (.tuple #[.agg #[.int .i64 r1,.int .i64 r2,.string r3],.int .i64 r4])∧Below w.heap.size w w':=by
 by_cases h1:13≤o∧o≤18
 ·exact zh.at_cmp k o ex ey et en ep el A7 n7 c7 a b r1 r2 r3 r4 w hL h1.1 h1.2 h
 by_cases h6:o=6
 ·subst h6
  exact zh.at_null k ex ey et en ep el A7 n7 c7 a b r1 r2 r3 r4 w hL h
 by_cases h7:o=7
 ·subst h7
  exact zh.at_some k ex ey et en ep el A7 n7 c7 a b r1 r2 r3 r4 w hL h
 by_cases h5:o=5
 ·subst h5
  exact zh.at_not k ex ey et en ep el A7 n7 c7 a b r1 r2 r3 r4 w hL h
 by_cases h4:o=4
 ·subst h4
  exact zh.at_neg k ex ey et en ep el A7 n7 c7 a b r1 r2 r3 r4 w hL h
 by_cases h8:o=8
 ·subst h8
  exact zh.at_add k ex ey et en ep el A7 n7 c7 a b r1 r2 r3 r4 w hL h
 by_cases h9:o=9
 ·subst h9
  exact zh.at_sub k ex ey et en ep el A7 n7 c7 a b r1 r2 r3 r4 w hL h
 by_cases h10:o=10
 ·subst h10
  exact zh.at_mul k ex ey et en ep el A7 n7 c7 a b r1 r2 r3 r4 w hL h
 by_cases h11:o=11
 ·subst h11
  exact zh.at_div k ex ey et en ep el A7 n7 c7 a b r1 r2 r3 r4 w hL h
 by_cases h12:o=12
 ·subst h12
  exact zh.at_mod k ex ey et en ep el A7 n7 c7 a b r1 r2 r3 r4 w hL h
 exfalso
 unfold zh.of at h
 rw [if_neg h1,if_neg h6,if_neg h7,if_neg h5,if_neg h4,if_neg h8,if_neg h9,if_neg h10,if_neg h11,if_neg h12] at h
 cases h

-- NOT PRINTED: function 116 (value_fold)

/-! ### zqm: function 91, by hand -/
-- HAND rounds=0 making=0
def zqm.st (l:List Int):Int × Bool:=l.foldl (fun s t=>(mn s.1 t,s.2 || (decide (t<0) || decide (t > 2)))) (2,false)
def zqm.f (l0:List Int):Option (Int × Int):=some (if(zqm.st l0).2=true then(0,2) else ((zqm.st l0).1,0))
theorem zqm.st_snoc (l:List Int) (t:Int):zqm.st (l ++ [t])=(mn (zqm.st l).1 t,(zqm.st l).2 || (decide (t<0) || decide (t > 2))):=by
 simp [zqm.st,List.foldl_append]
theorem zqm.st_take (l:List Int) (i:Nat) (h:i<l.length):zqm.st (l.take (i+1))=(mn (zqm.st (l.take i)).1 (rd l i),(zqm.st (l.take i)).2 || (decide (rd l i<0) || decide (rd l i > 2))):=by
 rw [List.take_succ_eq_append_getElem h,zqm.st_snoc]
 have e:rd l (i:Int)=l[i]:=by simp [rd,List.getD_eq_getElem?_getD,h]
 rw [e]
theorem zqm.step (a b:Int) (w:World):Calls Tryd.prog 117 #[.int .i64 a,.int .i64 b] w fun e w'=>e = .returned (.int .i64 (mn a b))∧w'=w:=by
 go_enter Tryd.func117,Tryd.ntmps117
 go_wp2
 all_goals go_ret
 ·exact⟨by unfold mn;rw [if_pos (by assumption)];rfl,rfl⟩
 exact⟨by unfold mn;rw [if_neg (by omega)];rfl,rfl⟩
theorem zqm.fold (A0:Option Addr) (c0:Nat) (l0:List Int) (w:World) (hr0:Kd.C (Kd.int .i64) w A0 l0.length l0) (hm:l0.length≤9223372036854775807) (z1:Int) (z2:Bool) (hz:Hid (zqm.st l0=(z1,z2))) :
  Calls Tryd.prog 116 #[.int .i64 2,.slice A0 l0.length c0,.func (.func 117) #[] #[]] w fun e w'=>
   e = .returned (.tuple #[.int .i64 (if z2=true then 0 else z1),.int .i64 (if z2=true then 2 else 0)])∧w'=w:=by
 have HR0:=zq.mk hr0
 clear hr0
 go_enter Tryd.func116,Tryd.ntmps116
 go_wp2
 go_loop [8,9,15] (fun o b i => ∃ k:Nat,k≤l0.length∧i = .int .i64 k∧o = .int .i64 (zqm.st (l0.take k)).1∧b = .bool (zqm.st (l0.take k)).2) (fun _ _ i=>l0.length - (intOf i).toNat)
 case atStart=>exact⟨0,by omega,rfl,rfl,rfl⟩
 case round=>
  obtain ⟨k,hk,rfl,rfl,rfl⟩:=hrel
  by_cases hlt:k<l0.length
  ·have hs:=zqm.st_take l0 k hlt
   obtain ⟨ad,e1,hc'⟩:=Kd.at_int HR0.out (k:Int) (by omega) (by omega)
   cases e1
   have hc:w.cell? (ad.add k)=some (.int .i64 (rd l0 (k:Int))):=by simpa using hc'
   clear hc'
   generalize zqm.st (l0.take k)=s at *
   generalize rd l0 (k:Int)=t at *
   obtain ⟨s1,s2⟩:=s
   have HS:=Lib.hid hs
   clear hs
   cases s2 with
   | true=>
    go_wp2_with (go_at_call 117;refine(zqm.step _ _ _).mono ?_;rintro e w' ⟨rfl,rfl⟩)
    go_round
    case rel=>exact⟨k+1,by omega,by go_num,by rw [HS.out],by rw [HS.out];rfl⟩
    case measure=>simp [intOf];omega
   | false=>
    by_cases h0:t<0
    ·have h1:=decide_eq_true h0
     go_wp2_with (go_at_call 117;refine(zqm.step _ _ _).mono ?_;rintro e w' ⟨rfl,rfl⟩)
     go_round
     case rel=>exact⟨k+1,by omega,by go_num,by rw [HS.out],by rw [HS.out];simp [h1]⟩
     case measure=>simp [intOf];omega
    have h1:=decide_eq_false h0
    by_cases h2:2<t
    ·have h3:=decide_eq_true h2
     go_wp2_with (go_at_call 117;refine(zqm.step _ _ _).mono ?_;rintro e w' ⟨rfl,rfl⟩)
     go_round
     case rel=>exact⟨k+1,by omega,by go_num,by rw [HS.out],by rw [HS.out];simp [h1,h3]⟩
     case measure=>simp [intOf];omega
    have h3:=decide_eq_false h2
    go_wp2_with (go_at_call 117;refine(zqm.step _ _ _).mono ?_;rintro e w' ⟨rfl,rfl⟩)
    go_round
    case rel=>exact⟨k+1,by omega,by go_num,by rw [HS.out],by rw [HS.out];simp [h1,h3]⟩
    case measure=>simp [intOf];omega
  have hkl:k=l0.length:=by omega
  subst hkl
  have e:=hz.out
  rw [List.take_length,e]
  clear e
  cases z2 with
  | true=>
   go_wp2
   go_ret2
   exact⟨rfl,rfl⟩
  | false=>
   go_wp2
   go_ret2
   exact⟨rfl,rfl⟩
theorem zqm.calls (A0:Option Addr) (c0:Nat) (l0:List Int) (r1:Int) (r2:Int) (w:World) (hr0:Kd.C (Kd.int .i64) w A0 l0.length l0) (hc0:l0.length≤c0) (h:zqm.f l0=some (r1,r2)) :
  Calls Tryd.prog 91 #[.slice A0 l0.length c0] w fun e w'=>e = .returned (.tuple #[.int .i64 r1,.int .i64 r2])∧qx w w':=by
 obtain ⟨z1,z2,hz⟩:∃ z1 z2,zqm.st l0=(z1,z2):=⟨_,_,rfl⟩
 have HF:=Lib.hid (zqm.fold A0 c0 l0 w hr0 hr0.2.1 z1 z2 (Lib.hid hz))
 have hv:r1=(if z2=true then 0 else z1)∧r2=(if z2=true then 2 else 0):=by
  unfold zqm.f at h
  rw [hz] at h
  have h:=Option.some.inj h
  cases z2 <;> (simp at h;simp [h])
 obtain ⟨rfl,rfl⟩:=hv
 clear h hr0 hz
 generalize (if z2=true then(0:Int) else z1)=u at *
 generalize (if z2=true then(2:Int) else 0)=v at *
 go_enter Tryd.func91,Tryd.ntmps91
 go_wp2_with (go_at_call 116;refine HF.out.mono ?_;rintro e w' ⟨rfl,rfl⟩)
 go_ret2
 exact⟨rfl,qx.refl _⟩

/-! ### zqs: function 92, by hand -/
-- HAND rounds=0 making=0
def zqs.st (l:List Int):Int × Bool:=l.foldl (fun s t=>(mx s.1 t,s.2 || (decide (t<0) || decide (t > 2)))) (0,false)
def zqs.f (l0:List Int):Option (Int × Int):=some (if(zqs.st l0).2=true then(0,2) else ((zqs.st l0).1,0))
theorem zqs.st_snoc (l:List Int) (t:Int):zqs.st (l ++ [t])=(mx (zqs.st l).1 t,(zqs.st l).2 || (decide (t<0) || decide (t > 2))):=by
 simp [zqs.st,List.foldl_append]
theorem zqs.st_take (l:List Int) (i:Nat) (h:i<l.length):zqs.st (l.take (i+1))=(mx (zqs.st (l.take i)).1 (rd l i),(zqs.st (l.take i)).2 || (decide (rd l i<0) || decide (rd l i > 2))):=by
 rw [List.take_succ_eq_append_getElem h,zqs.st_snoc]
 have e:rd l (i:Int)=l[i]:=by simp [rd,List.getD_eq_getElem?_getD,h]
 rw [e]
theorem zqs.step (a b:Int) (w:World):Calls Tryd.prog 118 #[.int .i64 a,.int .i64 b] w fun e w'=>e = .returned (.int .i64 (mx a b))∧w'=w:=by
 go_enter Tryd.func118,Tryd.ntmps118
 go_wp2
 all_goals go_ret
 ·exact⟨by unfold mx;rw [if_pos (by assumption)];rfl,rfl⟩
 exact⟨by unfold mx;rw [if_neg (by omega)];rfl,rfl⟩
theorem zqs.fold (A0:Option Addr) (c0:Nat) (l0:List Int) (w:World) (hr0:Kd.C (Kd.int .i64) w A0 l0.length l0) (hm:l0.length≤9223372036854775807) (z1:Int) (z2:Bool) (hz:Hid (zqs.st l0=(z1,z2))) :
  Calls Tryd.prog 116 #[.int .i64 0,.slice A0 l0.length c0,.func (.func 118) #[] #[]] w fun e w'=>
   e = .returned (.tuple #[.int .i64 (if z2=true then 0 else z1),.int .i64 (if z2=true then 2 else 0)])∧w'=w:=by
 have HR0:=zq.mk hr0
 clear hr0
 go_enter Tryd.func116,Tryd.ntmps116
 go_wp2
 go_loop [8,9,15] (fun o b i => ∃ k:Nat,k≤l0.length∧i = .int .i64 k∧o = .int .i64 (zqs.st (l0.take k)).1∧b = .bool (zqs.st (l0.take k)).2) (fun _ _ i=>l0.length - (intOf i).toNat)
 case atStart=>exact⟨0,by omega,rfl,rfl,rfl⟩
 case round=>
  obtain ⟨k,hk,rfl,rfl,rfl⟩:=hrel
  by_cases hlt:k<l0.length
  ·have hs:=zqs.st_take l0 k hlt
   obtain ⟨ad,e1,hc'⟩:=Kd.at_int HR0.out (k:Int) (by omega) (by omega)
   cases e1
   have hc:w.cell? (ad.add k)=some (.int .i64 (rd l0 (k:Int))):=by simpa using hc'
   clear hc'
   generalize zqs.st (l0.take k)=s at *
   generalize rd l0 (k:Int)=t at *
   obtain ⟨s1,s2⟩:=s
   have HS:=Lib.hid hs
   clear hs
   cases s2 with
   | true=>
    go_wp2_with (go_at_call 118;refine(zqs.step _ _ _).mono ?_;rintro e w' ⟨rfl,rfl⟩)
    go_round
    case rel=>exact⟨k+1,by omega,by go_num,by rw [HS.out],by rw [HS.out];rfl⟩
    case measure=>simp [intOf];omega
   | false=>
    by_cases h0:t<0
    ·have h1:=decide_eq_true h0
     go_wp2_with (go_at_call 118;refine(zqs.step _ _ _).mono ?_;rintro e w' ⟨rfl,rfl⟩)
     go_round
     case rel=>exact⟨k+1,by omega,by go_num,by rw [HS.out],by rw [HS.out];simp [h1]⟩
     case measure=>simp [intOf];omega
    have h1:=decide_eq_false h0
    by_cases h2:2<t
    ·have h3:=decide_eq_true h2
     go_wp2_with (go_at_call 118;refine(zqs.step _ _ _).mono ?_;rintro e w' ⟨rfl,rfl⟩)
     go_round
     case rel=>exact⟨k+1,by omega,by go_num,by rw [HS.out],by rw [HS.out];simp [h1,h3]⟩
     case measure=>simp [intOf];omega
    have h3:=decide_eq_false h2
    go_wp2_with (go_at_call 118;refine(zqs.step _ _ _).mono ?_;rintro e w' ⟨rfl,rfl⟩)
    go_round
    case rel=>exact⟨k+1,by omega,by go_num,by rw [HS.out],by rw [HS.out];simp [h1,h3]⟩
    case measure=>simp [intOf];omega
  have hkl:k=l0.length:=by omega
  subst hkl
  have e:=hz.out
  rw [List.take_length,e]
  clear e
  cases z2 with
  | true=>
   go_wp2
   go_ret2
   exact⟨rfl,rfl⟩
  | false=>
   go_wp2
   go_ret2
   exact⟨rfl,rfl⟩
theorem zqs.calls (A0:Option Addr) (c0:Nat) (l0:List Int) (r1:Int) (r2:Int) (w:World) (hr0:Kd.C (Kd.int .i64) w A0 l0.length l0) (hc0:l0.length≤c0) (h:zqs.f l0=some (r1,r2)) :
  Calls Tryd.prog 92 #[.slice A0 l0.length c0] w fun e w'=>e = .returned (.tuple #[.int .i64 r1,.int .i64 r2])∧qx w w':=by
 obtain ⟨z1,z2,hz⟩:∃ z1 z2,zqs.st l0=(z1,z2):=⟨_,_,rfl⟩
 have HF:=Lib.hid (zqs.fold A0 c0 l0 w hr0 hr0.2.1 z1 z2 (Lib.hid hz))
 have hv:r1=(if z2=true then 0 else z1)∧r2=(if z2=true then 2 else 0):=by
  unfold zqs.f at h
  rw [hz] at h
  have h:=Option.some.inj h
  cases z2 <;> (simp at h;simp [h])
 obtain ⟨rfl,rfl⟩:=hv
 clear h hr0 hz
 generalize (if z2=true then(0:Int) else z1)=u at *
 generalize (if z2=true then(2:Int) else 0)=v at *
 go_enter Tryd.func92,Tryd.ntmps92
 go_wp2_with (go_at_call 116;refine HF.out.mono ?_;rintro e w' ⟨rfl,rfl⟩)
 go_ret2
 exact⟨rfl,qx.refl _⟩

end Go.Proofs.YtmfpaeajibeikaaDoor.PEvalHolds
