-- Written by wip/pp of this repo (over the kit's print, with additions of this session); Lean checks every line.
import Derived.Test.YtmfpaeajibeikaaDoorPEvalHoldsx9
namespace Go.Proofs.YtmfpaeajibeikaaDoor.PEvalHolds
open Go.RowKit Go.Proofs.YtmfpaeajibeikaaDoorW.PrintWords Go.Proofs.YtmfpaeajibeikaaDoorW.PrintLast Go.Proofs.YtmfpaeajibeikaaDoorW.PrintMore
attribute [local go_sem] zje zjc zjo zjn zq1 zq0 zjd zjb   -- for this text's walks alone
set_option linter.unusedVariables false
set_option linter.unusedSimpArgs false

/-! ### zu: function 108 -/
def zu.f (a0:Int) (a1:Bool):Option (Int × Int):=if a1=true then(if a0 > 9223372036854775808 then(some (0,10)) else (some (wrap64 (IntKind.u64.wrap (-a0)),0))) else (if a0 ≥ 9223372036854775808 then(some (0,10)) else (some (wrap64 (a0),0)))
set_option maxHeartbeats 8000000 in
set_option maxRecDepth 100000 in
theorem zu.calls (a0:Int) (a1:Bool) (r1:Int) (r2:Int) (w:World) (h:zu.f a0 a1=some (r1,r2)) :
  Calls Tryd.prog 108 #[.int .u64 a0,.bool a1] w fun e w'=>e = .returned (.tuple #[.int .i64 r1,.int .i64 r2])∧qx w w':=by
 have H:(if a1=true then(if a0 > 9223372036854775808 then(some (0,10)) else (some (wrap64 (IntKind.u64.wrap (-a0)),0))) else (if a0 ≥ 9223372036854775808 then(some (0,10)) else (some (wrap64 (a0),0))))=some (r1,r2):=h
 clear h
 by_cases c3:a1=true
 ·subst c3
  rw [if_pos rfl] at H
  by_cases c4:a0 > 9223372036854775808
  ·rw [if_pos c4] at H
   have c4b0:=decide_eq_true c4
   clear c4
   simp only [Option.some.injEq,Prod.mk.injEq] at H
   obtain ⟨rfl,rfl⟩:=H
   go_enter Tryd.func108,Tryd.ntmps108
   go_wp2
   go_ret2
   exact⟨by first|rfl|(simp;done)|(simp [*];done),by repeat(first|exact qx.refl _|apply qx.step)⟩
  rw [if_neg c4] at H
  have c4b0:=decide_eq_false c4
  clear c4
  simp only [Option.some.injEq,Prod.mk.injEq] at H
  obtain ⟨rfl,rfl⟩:=H
  go_enter Tryd.func108,Tryd.ntmps108
  go_wp2
  go_ret2
  exact⟨by first|rfl|(simp;done)|(simp [*];done),by repeat(first|exact qx.refl _|apply qx.step)⟩
 replace c3:=Bool.eq_false_iff.mpr c3
 subst c3
 rw [if_neg (show ¬ (false=true) by decide)] at H
 by_cases c5:a0 ≥ 9223372036854775808
 ·rw [if_pos c5] at H
  have c5b0:=decide_eq_true c5
  clear c5
  simp only [Option.some.injEq,Prod.mk.injEq] at H
  obtain ⟨rfl,rfl⟩:=H
  go_enter Tryd.func108,Tryd.ntmps108
  go_wp2
  go_ret2
  exact⟨by first|rfl|(simp;done)|(simp [*];done),by repeat(first|exact qx.refl _|apply qx.step)⟩
 rw [if_neg c5] at H
 have c5b0:=decide_eq_false c5
 clear c5
 simp only [Option.some.injEq,Prod.mk.injEq] at H
 obtain ⟨rfl,rfl⟩:=H
 go_enter Tryd.func108,Tryd.ntmps108
 go_wp2
 go_ret2
 exact⟨by first|rfl|(simp;done)|(simp [*];done),by repeat(first|exact qx.refl _|apply qx.step)⟩

/-! ### qj: function 109 -/
def qj.f (a0:Int):Option (Int):=if a0<0 then(some (IntKind.u64.wrap (-(IntKind.u64.wrap (a0))))) else (some (IntKind.u64.wrap (a0)))
set_option maxHeartbeats 8000000 in
set_option maxRecDepth 100000 in
theorem qj.calls (a0:Int) (r:Int) (w:World) (h:qj.f a0=some r) :
  Calls Tryd.prog 109 #[.int .i64 a0] w fun e w'=>e = .returned (.int .u64 r)∧qx w w':=by
 have H:(if a0<0 then(some (IntKind.u64.wrap (-(IntKind.u64.wrap (a0))))) else (some (IntKind.u64.wrap (a0))))=some r:=h
 clear h
 by_cases c2:a0<0
 ·rw [if_pos c2] at H
  have c2b0:=decide_eq_true c2
  clear c2
  obtain rfl:=Option.some.inj H
  go_enter Tryd.func109,Tryd.ntmps109
  go_wp2
  go_ret
  exact⟨by first|rfl|(simp;done)|(simp [*];done),by repeat(first|exact qx.refl _|apply qx.step)⟩
 rw [if_neg c2] at H
 have c2b0:=decide_eq_false c2
 clear c2
 obtain rfl:=Option.some.inj H
 go_enter Tryd.func109,Tryd.ntmps109
 go_wp2
 go_ret
 exact⟨by first|rfl|(simp;done)|(simp [*];done),by repeat(first|exact qx.refl _|apply qx.step)⟩

/-! ### zjj: function 76 -/
def zjj.f (a0:Int):Option (Int × Int):=(qj.f a0).bind fun t205=>((zu.f t205 (decide (a0 > 0))).bind fun bt206=>(some (bt206.1,bt206.2)))
set_option maxHeartbeats 8000000 in
set_option maxRecDepth 100000 in
theorem zjj.calls (a0:Int) (r1:Int) (r2:Int) (w:World) (h:zjj.f a0=some (r1,r2)) :
  Calls Tryd.prog 76 #[.int .i64 a0] w fun e w'=>e = .returned (.tuple #[.int .i64 r1,.int .i64 r2])∧qx w w':=by
 have H:((qj.f a0).bind fun t205=>((zu.f t205 (decide (a0 > 0))).bind fun bt206=>(some (bt206.1,bt206.2))))=some (r1,r2):=h
 clear h
 replace H:=Option.bind_eq_some_iff.mp H
 obtain ⟨t205,A20,H⟩:=H
 replace H:((zu.f t205 (decide (a0 > 0))).bind fun bt206=>(some (bt206.1,bt206.2)))=some (r1,r2):=H
 have A2:=zq.mk A20
 clear A20
 replace H:=Option.bind_eq_some_iff.mp H
 obtain ⟨⟨t206,t207⟩,A30,H⟩:=H
 replace H:(some (t206,t207))=some (r1,r2):=H
 have A3:=zq.mk A30
 clear A30
 simp only [Option.some.injEq,Prod.mk.injEq] at H
 obtain ⟨rfl,rfl⟩:=H
 go_enter Tryd.func76,Tryd.ntmps76
 go_wp2_with (first|((with_reducible refine zs (f:=109) rfl ?_);refine qo (some 5) rfl rfl Tryd.func109 (by kernel_rfl) rfl #[.int .i64 a0] rfl gs ?_;(with_reducible refine(qj.calls a0 t205 _ A2.out).mono ?_);rintro e w' ⟨rfl,⟨nd,rfl⟩⟩;refine⟨_,rfl,?_⟩)|((with_reducible refine zs (f:=108) rfl ?_);refine qo (some 8) rfl rfl Tryd.func108 (by kernel_rfl) rfl #[.int .u64 t205,.bool (decide (a0 > 0))] rfl gs ?_;(with_reducible refine(zu.calls t205 (decide (a0 > 0)) t206 t207 _ A3.out).mono ?_);rintro e w' ⟨rfl,⟨nd,rfl⟩⟩;refine⟨_,rfl,?_⟩))
 go_ret2
 exact⟨by first|rfl|(simp;done)|(simp [*];done),by repeat(first|exact qx.refl _|apply qx.step)⟩

/-! ### qv: function 88 -/
mutual
def qv.l0:Nat→ByteArray→ByteArray→Int→Option (Int)
 | 0,_,_,_=>none
 | k+1,x0,x1,x5=>if x5<(x0.size:Int) then(qv.j1 k x0 x1 x5 (decide (x5<(x1.size:Int)))) else (qv.j1 k x0 x1 x5 false)
def qv.j1:Nat→ByteArray→ByteArray→Int→Bool→Option (Int)
 | 0,_,_,_,_=>none
 | k+1,x0,x1,x5,x15=>if x15=true then(if 0≤x5 then(if x5<(x0.size:Int) then(if x5<(x1.size:Int) then(if(bt x0 x5)<(bt x1 x5) then(some (-1)) else (if(bt x0 x5) > (bt x1 x5) then(some 1) else (qv.l0 k x0 x1 (wrap64 (x5+1))))) else (none)) else (none)) else (none)) else (if(x0.size:Int)<(x1.size:Int) then(some (-1)) else (if(x0.size:Int) > (x1.size:Int) then(some 1) else (some 0)))
end
def qv.f (k:Nat) (a0:ByteArray) (a1:ByteArray):Option (Int):=qv.l0 k a0 a1 0
theorem qv.mono_l:∀ k,(∀ y0 y1 y2,LeO (qv.l0 k y0 y1 y2) (qv.l0 (k+1) y0 y1 y2))∧(∀ y0 y1 y2 y3,LeO (qv.j1 k y0 y1 y2 y3) (qv.j1 (k+1) y0 y1 y2 y3))
 | 0=>⟨fun _ _ _ r h=>by simp [qv.l0] at h,fun _ _ _ _ r h=>by simp [qv.j1] at h⟩
 | k+1=>by
  obtain ⟨ih0,ih1⟩:=qv.mono_l k
  refine⟨?_,?_⟩
  ·intro y0 y1 y2
   unfold qv.l0
   repeat' first
   | (with_reducible first|exact ih0 _ _ _|exact ih1 _ _ _ _|exact LeO.refl _|exact LeO.none _|refine LeO.ite ?_ ?_|refine LeO.bind ?_ (fun _=>?_))
   | exact ih0 _ _ _
   | exact ih1 _ _ _ _
   | exact LeO.none _
   | refine LeO.ite ?_ ?_
   | refine LeO.bind ?_ (fun _=>?_)
  intro y0 y1 y2 y3
  unfold qv.j1
  repeat' first
  | (with_reducible first|exact ih0 _ _ _|exact ih1 _ _ _ _|exact LeO.refl _|exact LeO.none _|refine LeO.ite ?_ ?_|refine LeO.bind ?_ (fun _=>?_))
  | exact ih0 _ _ _
  | exact ih1 _ _ _ _
  | exact LeO.none _
  | refine LeO.ite ?_ ?_
  | refine LeO.bind ?_ (fun _=>?_)
theorem qv.mono:∀ a0 a1 k,LeO (qv.f k a0 a1) (qv.f (k+1) a0 a1):=by
 intro a0 a1 k
 obtain ⟨ih0,ih1⟩:=qv.mono_l k
 unfold qv.f
 repeat' first
   | (with_reducible first|exact ih0 _ _ _|exact ih1 _ _ _ _|exact LeO.refl _|exact LeO.none _|refine LeO.ite ?_ ?_|refine LeO.bind ?_ (fun _=>?_))
   | exact ih0 _ _ _
   | exact ih1 _ _ _ _
   | exact LeO.none _
   | refine LeO.ite ?_ ?_
   | refine LeO.bind ?_ (fun _=>?_)
set_option maxHeartbeats 8000000 in
set_option maxRecDepth 100000 in
theorem qv.calls (k:Nat) (a0:ByteArray) (a1:ByteArray) (r:Int) (w:World) (h:qv.f k a0 a1=some r) :
  Calls Tryd.prog 88 #[.string a0,.string a1] w fun e w'=>e = .returned (.int .i64 r)∧qx w w':=by
 have H:(qv.l0 k a0 a1 0)=some r:=h
 clear h
 have H':=zq.mk H
 clear H
 go_enter Tryd.func88,Tryd.ntmps88
 go_wp2
 repeat(go_quiet (fail);try go_wp2)
 go_loopg [5] k (fun kq v5 w' => ∃ (x5_1:Int),v5 = .int .i64 x5_1∧zq (qv.l0 kq a0 a1 x5_1=some r)∧zq (kq≤k)∧qx w w')
 case atStart=>exact⟨(0),vr,H',⟨Nat.le_refl _⟩,by repeat(first|exact qx.refl _|apply qx.step)⟩
 case round=>
  clear H'
  obtain ⟨x5_1,rfl,HA,HK1,⟨m1,rfl⟩⟩:=hrel
  cases gk with
  | zero=>exact absurd HA.out (by simp [qv.l0])
  | succ k1=>
   have H:=HA.out
   clear HA
   simp only [qv.l0] at H
   have HC3:=zq.mk H
   clear H
   go_upto_region 2 with (fail)
   repeat(go_quiet (fail);go_upto_region 2 with (fail))
   go_cut [15] (fun v15 wc => ∃ (kq:Nat) (x15_2:Bool),v15 = .bool x15_2∧zq (qv.j1 kq a0 a1 x5_1 x15_2=some r)∧zq (kq≤k1)∧qx w wc)
   case first=>
    have H:=HC3.out
    clear HC3
    by_cases c4:x5_1<(a0.size:Int)
    ·rw [if_pos c4] at H
     have c4b0:=decide_eq_true c4
     clear c4
     (first|rw [c4b0]|(simp only [zqw,zqx];rw [c4b0])|skip)
     have H':=zq.mk H
     clear H
     go_wp2
     repeat(go_quiet (fail);try go_wp2)
     go_meet
     case rel=>exact⟨_,(decide (x5_1<(a1.size:Int))),vr,H',⟨by have:=HK1.out;first|omega|exact Nat.le_refl _⟩,by repeat(first|exact qx.refl _|apply qx.step)⟩
    rw [if_neg c4] at H
    have c4b0:=decide_eq_false c4
    clear c4
    (first|rw [c4b0]|(simp only [zqw,zqx];rw [c4b0])|skip)
    have H':=zq.mk H
    clear H
    go_wp2
    repeat(go_quiet (fail);try go_wp2)
    go_meet
    case rel=>exact⟨_,(false),vr,H',⟨by have:=HK1.out;first|omega|exact Nat.le_refl _⟩,by repeat(first|exact qx.refl _|apply qx.step)⟩
   case rest=>
    clear HC3
    obtain ⟨kq,x15_2,rfl,HA,HJ2,⟨mc2,rfl⟩⟩:=hcut
    cases kq with
    | zero=>exact absurd HA.out (by simp [qv.j1])
    | succ kj2=>
     have H:=HA.out
     clear HA
     simp only [qv.j1] at H
     by_cases c5:x15_2=true
     ·subst c5
      rw [if_pos rfl] at H
      by_cases c6:0≤x5_1
      ·rw [if_pos c6] at H
       have c6b0:=decide_eq_true c6
       clear c6
       by_cases c7:x5_1<(a0.size:Int)
       ·rw [if_pos c7] at H
        have c7b0:=decide_eq_true c7
        clear c7
        by_cases c9:x5_1<(a1.size:Int)
        ·rw [if_pos c9] at H
         have c9b0:=decide_eq_true c9
         clear c9
         by_cases c11:(bt a0 x5_1)<(bt a1 x5_1)
         ·rw [if_pos c11] at H
          have c11b0:=decide_eq_true c11
          clear c11
          obtain rfl:=Option.some.inj H
          have p8:0≤(x5_1:Int):=dt
          have q8:x5_1<(a0.size:Int):=dt
          have hx8:=zj3 a0 x5_1
          replace p8:=eq_true p8
          replace q8:=eq_true q8
          have p10:0≤(x5_1:Int):=dt
          have q10:x5_1<(a1.size:Int):=dt
          have hx10:=zj3 a1 x5_1
          replace p10:=eq_true p10
          replace q10:=eq_true q10
          go_wp2
          repeat(go_quiet (fail);try go_wp2)
          go_ret
          exact⟨by first|rfl|(simp;done)|(simp [*];done),by repeat(first|exact qx.refl _|apply qx.step)⟩
         rw [if_neg c11] at H
         have c11b0:=decide_eq_false c11
         clear c11
         by_cases c14:(bt a0 x5_1) > (bt a1 x5_1)
         ·rw [if_pos c14] at H
          have c14b0:=decide_eq_true c14
          clear c14
          obtain rfl:=Option.some.inj H
          have p8:0≤(x5_1:Int):=dt
          have q8:x5_1<(a0.size:Int):=dt
          have hx8:=zj3 a0 x5_1
          replace p8:=eq_true p8
          replace q8:=eq_true q8
          have p10:0≤(x5_1:Int):=dt
          have q10:x5_1<(a1.size:Int):=dt
          have hx10:=zj3 a1 x5_1
          replace p10:=eq_true p10
          replace q10:=eq_true q10
          have p12:0≤(x5_1:Int):=dt
          have q12:x5_1<(a0.size:Int):=dt
          have hx12:=zj3 a0 x5_1
          replace p12:=eq_true p12
          replace q12:=eq_true q12
          have p13:0≤(x5_1:Int):=dt
          have q13:x5_1<(a1.size:Int):=dt
          have hx13:=zj3 a1 x5_1
          replace p13:=eq_true p13
          replace q13:=eq_true q13
          go_wp2
          repeat(go_quiet (fail);try go_wp2)
          go_ret
          exact⟨by first|rfl|(simp;done)|(simp [*];done),by repeat(first|exact qx.refl _|apply qx.step)⟩
         rw [if_neg c14] at H
         have c14b0:=decide_eq_false c14
         clear c14
         have H':=zq.mk H
         clear H
         have p8:0≤(x5_1:Int):=dt
         have q8:x5_1<(a0.size:Int):=dt
         have hx8:=zj3 a0 x5_1
         replace p8:=eq_true p8
         replace q8:=eq_true q8
         have p10:0≤(x5_1:Int):=dt
         have q10:x5_1<(a1.size:Int):=dt
         have hx10:=zj3 a1 x5_1
         replace p10:=eq_true p10
         replace q10:=eq_true q10
         have p12:0≤(x5_1:Int):=dt
         have q12:x5_1<(a0.size:Int):=dt
         have hx12:=zj3 a0 x5_1
         replace p12:=eq_true p12
         replace q12:=eq_true q12
         have p13:0≤(x5_1:Int):=dt
         have q13:x5_1<(a1.size:Int):=dt
         have hx13:=zj3 a1 x5_1
         replace p13:=eq_true p13
         replace q13:=eq_true q13
         go_wp2
         repeat(go_quiet (fail);try go_wp2)
         go_roundg kj2
         case measure=>have:=HK1.out;have:=HJ2.out;omega
         case rel=>exact⟨(wrap64 (x5_1+1)),vr,H',⟨by have:=HK1.out;have:=HJ2.out;omega⟩,by repeat(first|exact qx.refl _|apply qx.step)⟩
        rw [if_neg c9] at H
        exact absurd H (by simp)
       rw [if_neg c7] at H
       exact absurd H (by simp)
      rw [if_neg c6] at H
      exact absurd H (by simp)
     replace c5:=Bool.eq_false_iff.mpr c5
     subst c5
     rw [if_neg (show ¬ (false=true) by decide)] at H
     by_cases c15:(a0.size:Int)<(a1.size:Int)
     ·rw [if_pos c15] at H
      have c15b0:=decide_eq_true c15
      have c15b1:decide (a0.size<a1.size)=true:=decide_eq_true (Int.ofNat_lt.mp c15)
      clear c15
      obtain rfl:=Option.some.inj H
      go_wp2
      repeat(go_quiet (fail);try go_wp2)
      go_ret
      exact⟨by first|rfl|(simp;done)|(simp [*];done),by repeat(first|exact qx.refl _|apply qx.step)⟩
     rw [if_neg c15] at H
     have c15b0:=decide_eq_false c15
     have c15b1:decide (a0.size<a1.size)=false:=decide_eq_false (fun h=>c15 (Int.ofNat_lt.mpr h))
     clear c15
     by_cases c16:(a0.size:Int) > (a1.size:Int)
     ·rw [if_pos c16] at H
      have c16b0:=decide_eq_true c16
      have c16b1:decide (a1.size<a0.size)=true:=decide_eq_true (Int.ofNat_lt.mp c16)
      clear c16
      obtain rfl:=Option.some.inj H
      go_wp2
      repeat(go_quiet (fail);try go_wp2)
      go_ret
      exact⟨by first|rfl|(simp;done)|(simp [*];done),by repeat(first|exact qx.refl _|apply qx.step)⟩
     rw [if_neg c16] at H
     have c16b0:=decide_eq_false c16
     have c16b1:decide (a1.size<a0.size)=false:=decide_eq_false (fun h=>c16 (Int.ofNat_lt.mpr h))
     clear c16
     obtain rfl:=Option.some.inj H
     go_wp2
     repeat(go_quiet (fail);try go_wp2)
     go_ret
     exact⟨by first|rfl|(simp;done)|(simp [*];done),by repeat(first|exact qx.refl _|apply qx.step)⟩

/-! ### qu: function 62 -/
def qu.f (k:Nat) (a0_0:Int) (a0_1:Int) (a0_2:ByteArray) (a1_0:Int) (a1_1:Int) (a1_2:ByteArray):Option (Bool):=if a0_0=a1_0 then(if a0_0=3 then((qv.f k a0_2 a1_2).bind fun t210=>(some (decide (t210<0)))) else (some (decide (a0_1<a1_1)))) else (some (decide (a0_0<a1_0)))
theorem qu.mono:∀ a0 a1 a2 a3 a4 a5 k,LeO (qu.f k a0 a1 a2 a3 a4 a5) (qu.f (k+1) a0 a1 a2 a3 a4 a5):=by
 intro a0 a1 a2 a3 a4 a5 k
 unfold qu.f
 repeat' first
   | (with_reducible first|exact qv.mono _ _ _|exact LeO.refl _|exact LeO.none _|refine LeO.ite ?_ ?_|refine LeO.bind ?_ (fun _=>?_))
   | exact qv.mono _ _ _
   | exact LeO.none _
   | refine LeO.ite ?_ ?_
   | refine LeO.bind ?_ (fun _=>?_)
set_option maxHeartbeats 8000000 in
set_option maxRecDepth 100000 in
theorem qu.calls (k:Nat) (a0_0:Int) (a0_1:Int) (a0_2:ByteArray) (a1_0:Int) (a1_1:Int) (a1_2:ByteArray) (r:Bool) (w:World) (h:qu.f k a0_0 a0_1 a0_2 a1_0 a1_1 a1_2=some r) :
  Calls Tryd.prog 62 #[.agg #[.int .i64 a0_0,.int .i64 a0_1,.string a0_2],.agg #[.int .i64 a1_0,.int .i64 a1_1,.string a1_2]] w fun e w'=>e = .returned (.bool r)∧Below w.heap.size w w':=by
 have hu30:=Tryd.underlying30
 have HB:=zq.mk (Below.refl w.heap.size w)
 have H:(if a0_0=a1_0 then(if a0_0=3 then((qv.f k a0_2 a1_2).bind fun t210=>(some (decide (t210<0)))) else (some (decide (a0_1<a1_1)))) else (some (decide (a0_0<a1_0))))=some r:=h
 clear h
 by_cases c3:a0_0=a1_0
 ·rw [if_pos c3] at H
  have c3b0:(a0_0 == a1_0)=true:=beq_iff_eq.mpr c3
  have c3b1:(a0_0 != a1_0)=false:=bne_eq_false_iff_eq.mpr c3
  clear c3
  by_cases c4:a0_0=3
  ·rw [if_pos c4] at H
   have c4b0:(a0_0 == 3)=true:=beq_iff_eq.mpr c4
   have c4b1:(a0_0 != 3)=false:=bne_eq_false_iff_eq.mpr c4
   clear c4
   replace H:=Option.bind_eq_some_iff.mp H
   obtain ⟨t210,A50,H⟩:=H
   replace H:(some (decide (t210<0)))=some r:=H
   have A5:=zq.mk A50
   clear A50
   obtain rfl:=Option.some.inj H
   go_enter Tryd.func62,Tryd.ntmps62
   go_wp2_with (first|((with_reducible refine ql (N:=2) rfl ?_);refine qh ?hg (N:=2) ?hd (cs:=#[.int .i64 a0_0,.int .i64 a0_1,.string a0_2]) (t:=30) ?hr ?_;(case hd=>rfl);(case hg=>rfl);(case hr=>first|(go_simp;done)|(go_simp;rfl));intro gb208 hg w6 hbox hb;have BK208:=zq.mk (hbox);have GW208:=zq.mk ((by rw [hg];exact(zv bw):w.heap.size≤gb208));have GE208:=zq.mk ((by rw [hg];exact(zv bw):w.heap.size≤gb208));replace HB:=zq.mk (zb bw hb);clear hb hbox hg)|((with_reducible refine ql (N:=3) rfl ?_);refine qh ?hg (N:=3) ?hd (cs:=#[.int .i64 a1_0,.int .i64 a1_1,.string a1_2]) (t:=30) ?hr ?_;(case hd=>rfl);(case hg=>rfl);(case hr=>first|(go_simp;done)|(go_simp;rfl));intro gb209 hg w7 hbox hb;have BK209:=zq.mk (hbox);have GW209:=zq.mk ((by rw [hg];exact(zv bw):w.heap.size≤gb209));have GE209:=zq.mk ((by rw [hg];exact(zv bw):w.heap.size≤gb209));replace HB:=zq.mk (zb bw hb);have NB208_209:=zq.mk ((by rw [hg];exact Nat.ne_of_lt (qf (g:=gb208) (o:=.cells #[.int .i64 a0_0,.int .i64 a0_1,.string a0_2] 30 (0,0)) (up BK208.out)):gb208≠gb209));have NB209_208:=zq.mk ((by rw [hg];exact Nat.ne_of_gt (qf (g:=gb208) (o:=.cells #[.int .i64 a0_0,.int .i64 a0_1,.string a0_2] 30 (0,0)) (up BK208.out)):gb209≠gb208));replace BK208:=zq.mk (zf (g:=gb208) (o:=.cells #[.int .i64 a0_0,.int .i64 a0_1,.string a0_2] 30 (0,0)) (up BK208.out) hb);clear hb hbox hg;have hnb8:=NB208_209.out;have hnc8:=NB209_208.out;obtain ⟨hcz9_0,hcz9_1,hcz9_2,hfz9_0,hfz9_1,hfz9_2⟩:=zr BK208.out;obtain ⟨hcz10_0,hcz10_1,hcz10_2,hfz10_0,hfz10_1,hfz10_2⟩:=zr BK209.out)|((with_reducible refine zs (f:=88) rfl ?_);refine qo (some 22) rfl rfl Tryd.func88 (by kernel_rfl) rfl #[.string a0_2,.string a1_2] rfl gs ?_;(with_reducible refine(qv.calls k a0_2 a1_2 t210 _ A5.out).mono ?_);rintro e w' ⟨rfl,⟨nd,rfl⟩⟩;refine⟨_,rfl,?_⟩))
   go_ret
   exact⟨by first|rfl|(simp [zk,zx] <;> rfl)|(simp [*,zk,zx] <;> rfl),bw⟩
  rw [if_neg c4] at H
  have c4b0:(a0_0 == 3)=false:=beq_eq_false_iff_ne.mpr c4
  have c4b1:(a0_0 != 3)=true:=bne_iff_ne.mpr c4
  obtain rfl:=Option.some.inj H
  go_enter Tryd.func62,Tryd.ntmps62
  go_wp2_with (first|((with_reducible refine ql (N:=2) rfl ?_);refine qh ?hg (N:=2) ?hd (cs:=#[.int .i64 a0_0,.int .i64 a0_1,.string a0_2]) (t:=30) ?hr ?_;(case hd=>rfl);(case hg=>rfl);(case hr=>first|(go_simp;done)|(go_simp;rfl));intro gb208 hg w11 hbox hb;have BK208:=zq.mk (hbox);have GW208:=zq.mk ((by rw [hg];exact(zv bw):w.heap.size≤gb208));have GE208:=zq.mk ((by rw [hg];exact(zv bw):w.heap.size≤gb208));replace HB:=zq.mk (zb bw hb);clear hb hbox hg)|((with_reducible refine ql (N:=3) rfl ?_);refine qh ?hg (N:=3) ?hd (cs:=#[.int .i64 a1_0,.int .i64 a1_1,.string a1_2]) (t:=30) ?hr ?_;(case hd=>rfl);(case hg=>rfl);(case hr=>first|(go_simp;done)|(go_simp;rfl));intro gb209 hg w12 hbox hb;have BK209:=zq.mk (hbox);have GW209:=zq.mk ((by rw [hg];exact(zv bw):w.heap.size≤gb209));have GE209:=zq.mk ((by rw [hg];exact(zv bw):w.heap.size≤gb209));replace HB:=zq.mk (zb bw hb);have NB208_209:=zq.mk ((by rw [hg];exact Nat.ne_of_lt (qf (g:=gb208) (o:=.cells #[.int .i64 a0_0,.int .i64 a0_1,.string a0_2] 30 (0,0)) (up BK208.out)):gb208≠gb209));have NB209_208:=zq.mk ((by rw [hg];exact Nat.ne_of_gt (qf (g:=gb208) (o:=.cells #[.int .i64 a0_0,.int .i64 a0_1,.string a0_2] 30 (0,0)) (up BK208.out)):gb209≠gb208));replace BK208:=zq.mk (zf (g:=gb208) (o:=.cells #[.int .i64 a0_0,.int .i64 a0_1,.string a0_2] 30 (0,0)) (up BK208.out) hb);clear hb hbox hg;have hnb13:=NB208_209.out;have hnc13:=NB209_208.out;obtain ⟨hcz14_0,hcz14_1,hcz14_2,hfz14_0,hfz14_1,hfz14_2⟩:=zr BK208.out;obtain ⟨hcz15_0,hcz15_1,hcz15_2,hfz15_0,hfz15_1,hfz15_2⟩:=zr BK209.out))
  go_ret
  exact⟨by first|rfl|(simp [zk,zx] <;> rfl)|(simp [*,zk,zx] <;> rfl),bw⟩
 rw [if_neg c3] at H
 have c3b0:(a0_0 == a1_0)=false:=beq_eq_false_iff_ne.mpr c3
 have c3b1:(a0_0 != a1_0)=true:=bne_iff_ne.mpr c3
 obtain rfl:=Option.some.inj H
 go_enter Tryd.func62,Tryd.ntmps62
 go_wp2_with (first|((with_reducible refine ql (N:=2) rfl ?_);refine qh ?hg (N:=2) ?hd (cs:=#[.int .i64 a0_0,.int .i64 a0_1,.string a0_2]) (t:=30) ?hr ?_;(case hd=>rfl);(case hg=>rfl);(case hr=>first|(go_simp;done)|(go_simp;rfl));intro gb208 hg w16 hbox hb;have BK208:=zq.mk (hbox);have GW208:=zq.mk ((by rw [hg];exact(zv bw):w.heap.size≤gb208));have GE208:=zq.mk ((by rw [hg];exact(zv bw):w.heap.size≤gb208));replace HB:=zq.mk (zb bw hb);clear hb hbox hg)|((with_reducible refine ql (N:=3) rfl ?_);refine qh ?hg (N:=3) ?hd (cs:=#[.int .i64 a1_0,.int .i64 a1_1,.string a1_2]) (t:=30) ?hr ?_;(case hd=>rfl);(case hg=>rfl);(case hr=>first|(go_simp;done)|(go_simp;rfl));intro gb209 hg w17 hbox hb;have BK209:=zq.mk (hbox);have GW209:=zq.mk ((by rw [hg];exact(zv bw):w.heap.size≤gb209));have GE209:=zq.mk ((by rw [hg];exact(zv bw):w.heap.size≤gb209));replace HB:=zq.mk (zb bw hb);have NB208_209:=zq.mk ((by rw [hg];exact Nat.ne_of_lt (qf (g:=gb208) (o:=.cells #[.int .i64 a0_0,.int .i64 a0_1,.string a0_2] 30 (0,0)) (up BK208.out)):gb208≠gb209));have NB209_208:=zq.mk ((by rw [hg];exact Nat.ne_of_gt (qf (g:=gb208) (o:=.cells #[.int .i64 a0_0,.int .i64 a0_1,.string a0_2] 30 (0,0)) (up BK208.out)):gb209≠gb208));replace BK208:=zq.mk (zf (g:=gb208) (o:=.cells #[.int .i64 a0_0,.int .i64 a0_1,.string a0_2] 30 (0,0)) (up BK208.out) hb);clear hb hbox hg;have hnb18:=NB208_209.out;have hnc18:=NB209_208.out;obtain ⟨hcz19_0,hcz19_1,hcz19_2,hfz19_0,hfz19_1,hfz19_2⟩:=zr BK208.out;obtain ⟨hcz20_0,hcz20_1,hcz20_2,hfz20_0,hfz20_1,hfz20_2⟩:=zr BK209.out))
 go_ret
 exact⟨by first|rfl|(simp [zk,zx] <;> rfl)|(simp [*,zk,zx] <;> rfl),bw⟩

/-! ### zqc: function 110 -/
def zqc.f (k:Nat) (a0_0:Int) (a0_1:Int) (a0_2:ByteArray) (a1_0:Int) (a1_1:Int) (a1_2:ByteArray):Option (Int × Int):=(zw.f k a0_0 a0_1 a0_2).bind fun t213=>(if t213=0 then((zw.f k a1_0 a1_1 a1_2).bind fun t214=>(if t214=0 then((qu.f k a0_0 a0_1 a0_2 a1_0 a1_1 a1_2).bind fun t215=>(if t215=true then(some ((-1),0)) else ((qu.f k a1_0 a1_1 a1_2 a0_0 a0_1 a0_2).bind fun t216=>(if t216=true then(some (1,0)) else (some (0,0)))))) else (some (0,t214)))) else (some (0,t213)))
theorem zqc.mono:∀ a0 a1 a2 a3 a4 a5 k,LeO (zqc.f k a0 a1 a2 a3 a4 a5) (zqc.f (k+1) a0 a1 a2 a3 a4 a5):=by
 intro a0 a1 a2 a3 a4 a5 k
 unfold zqc.f
 repeat' first
   | (with_reducible first|exact zw.mono _ _ _ _|exact qu.mono _ _ _ _ _ _ _|exact LeO.refl _|exact LeO.none _|refine LeO.ite ?_ ?_|refine LeO.bind ?_ (fun _=>?_))
   | exact zw.mono _ _ _ _
   | exact qu.mono _ _ _ _ _ _ _
   | exact LeO.none _
   | refine LeO.ite ?_ ?_
   | refine LeO.bind ?_ (fun _=>?_)
set_option maxHeartbeats 8000000 in
set_option maxRecDepth 100000 in
theorem zqc.calls (k:Nat) (a0_0:Int) (a0_1:Int) (a0_2:ByteArray) (a1_0:Int) (a1_1:Int) (a1_2:ByteArray) (r1:Int) (r2:Int) (w:World) (h:zqc.f k a0_0 a0_1 a0_2 a1_0 a1_1 a1_2=some (r1,r2)) :
  Calls Tryd.prog 110 #[.agg #[.int .i64 a0_0,.int .i64 a0_1,.string a0_2],.agg #[.int .i64 a1_0,.int .i64 a1_1,.string a1_2]] w fun e w'=>e = .returned (.tuple #[.int .i64 r1,.int .i64 r2])∧Below w.heap.size w w':=by
 have hu30:=Tryd.underlying30
 have HB:=zq.mk (Below.refl w.heap.size w)
 have H:((zw.f k a0_0 a0_1 a0_2).bind fun t213=>(if t213=0 then((zw.f k a1_0 a1_1 a1_2).bind fun t214=>(if t214=0 then((qu.f k a0_0 a0_1 a0_2 a1_0 a1_1 a1_2).bind fun t215=>(if t215=true then(some ((-1),0)) else ((qu.f k a1_0 a1_1 a1_2 a0_0 a0_1 a0_2).bind fun t216=>(if t216=true then(some (1,0)) else (some (0,0)))))) else (some (0,t214)))) else (some (0,t213))))=some (r1,r2):=h
 clear h
 replace H:=Option.bind_eq_some_iff.mp H
 obtain ⟨t213,A30,H⟩:=H
 replace H:(if t213=0 then((zw.f k a1_0 a1_1 a1_2).bind fun t214=>(if t214=0 then((qu.f k a0_0 a0_1 a0_2 a1_0 a1_1 a1_2).bind fun t215=>(if t215=true then(some ((-1),0)) else ((qu.f k a1_0 a1_1 a1_2 a0_0 a0_1 a0_2).bind fun t216=>(if t216=true then(some (1,0)) else (some (0,0)))))) else (some (0,t214)))) else (some (0,t213)))=some (r1,r2):=H
 have A3:=zq.mk A30
 clear A30
 by_cases c4:t213=0
 ·rw [if_pos c4] at H
  have c4b0:(t213 == 0)=true:=beq_iff_eq.mpr c4
  have c4b1:(t213 != 0)=false:=bne_eq_false_iff_eq.mpr c4
  clear c4
  replace H:=Option.bind_eq_some_iff.mp H
  obtain ⟨t214,A50,H⟩:=H
  replace H:(if t214=0 then((qu.f k a0_0 a0_1 a0_2 a1_0 a1_1 a1_2).bind fun t215=>(if t215=true then(some ((-1),0)) else ((qu.f k a1_0 a1_1 a1_2 a0_0 a0_1 a0_2).bind fun t216=>(if t216=true then(some (1,0)) else (some (0,0)))))) else (some (0,t214)))=some (r1,r2):=H
  have A5:=zq.mk A50
  clear A50
  by_cases c6:t214=0
  ·rw [if_pos c6] at H
   have c6b0:(t214 == 0)=true:=beq_iff_eq.mpr c6
   have c6b1:(t214 != 0)=false:=bne_eq_false_iff_eq.mpr c6
   clear c6
   replace H:=Option.bind_eq_some_iff.mp H
   obtain ⟨t215,A70,H⟩:=H
   replace H:(if t215=true then(some ((-1),0)) else ((qu.f k a1_0 a1_1 a1_2 a0_0 a0_1 a0_2).bind fun t216=>(if t216=true then(some (1,0)) else (some (0,0)))))=some (r1,r2):=H
   have A7:=zq.mk A70
   clear A70
   by_cases c8:t215=true
   ·subst c8
    rw [if_pos rfl] at H
    simp only [Option.some.injEq,Prod.mk.injEq] at H
    obtain ⟨rfl,rfl⟩:=H
    go_enter Tryd.func110,Tryd.ntmps110
    go_wp2_with (first|((with_reducible refine ql (N:=2) rfl ?_);refine qh ?hg (N:=2) ?hd (cs:=#[.int .i64 a0_0,.int .i64 a0_1,.string a0_2]) (t:=30) ?hr ?_;(case hd=>rfl);(case hg=>rfl);(case hr=>first|(go_simp;done)|(go_simp;rfl));intro gb211 hg w9 hbox hb;have BK211:=zq.mk (hbox);have GW211:=zq.mk ((by rw [hg];exact(zv bw):w.heap.size≤gb211));have GE211:=zq.mk ((by rw [hg];exact(zv bw):w.heap.size≤gb211));replace HB:=zq.mk (zb bw hb);clear hb hbox hg)|((with_reducible refine ql (N:=3) rfl ?_);refine qh ?hg (N:=3) ?hd (cs:=#[.int .i64 a1_0,.int .i64 a1_1,.string a1_2]) (t:=30) ?hr ?_;(case hd=>rfl);(case hg=>rfl);(case hr=>first|(go_simp;done)|(go_simp;rfl));intro gb212 hg w10 hbox hb;have BK212:=zq.mk (hbox);have GW212:=zq.mk ((by rw [hg];exact(zv bw):w.heap.size≤gb212));have GE212:=zq.mk ((by rw [hg];exact(zv bw):w.heap.size≤gb212));replace HB:=zq.mk (zb bw hb);have NB211_212:=zq.mk ((by rw [hg];exact Nat.ne_of_lt (qf (g:=gb211) (o:=.cells #[.int .i64 a0_0,.int .i64 a0_1,.string a0_2] 30 (0,0)) (up BK211.out)):gb211≠gb212));have NB212_211:=zq.mk ((by rw [hg];exact Nat.ne_of_gt (qf (g:=gb211) (o:=.cells #[.int .i64 a0_0,.int .i64 a0_1,.string a0_2] 30 (0,0)) (up BK211.out)):gb212≠gb211));replace BK211:=zq.mk (zf (g:=gb211) (o:=.cells #[.int .i64 a0_0,.int .i64 a0_1,.string a0_2] 30 (0,0)) (up BK211.out) hb);clear hb hbox hg;have hnb11:=NB211_212.out;have hnc11:=NB212_211.out;obtain ⟨hcz12_0,hcz12_1,hcz12_2,hfz12_0,hfz12_1,hfz12_2⟩:=zr BK211.out)|((with_reducible refine zs (f:=49) rfl ?_);refine qo (some 9) rfl rfl Tryd.func49 (by kernel_rfl) rfl #[.agg #[.int .i64 a0_0,.int .i64 a0_1,.string a0_2]] rfl gs ?_;(with_reducible refine(zw.calls k a0_0 a0_1 a0_2 t213 _ A3.out).mono ?_);rintro e w13 ⟨rfl,hb⟩;refine⟨_,rfl,?_⟩;replace BK211:=zq.mk (zf (g:=gb211) (o:=.cells #[.int .i64 a0_0,.int .i64 a0_1,.string a0_2] 30 (0,0)) (up BK211.out) hb);replace BK212:=zq.mk (zf (g:=gb212) (o:=.cells #[.int .i64 a1_0,.int .i64 a1_1,.string a1_2] 30 (0,0)) (up BK212.out) hb);replace HB:=zq.mk (zb bw hb);(try clear hb);(try clear hb2);(try clear hk);(try clear hi);obtain ⟨hcz14_0,hcz14_1,hcz14_2,hfz14_0,hfz14_1,hfz14_2⟩:=zr BK212.out)|((with_reducible refine zs (f:=49) rfl ?_);refine qo (some 14) rfl rfl Tryd.func49 (by kernel_rfl) rfl #[.agg #[.int .i64 a1_0,.int .i64 a1_1,.string a1_2]] rfl gs ?_;(with_reducible refine(zw.calls k a1_0 a1_1 a1_2 t214 _ A5.out).mono ?_);rintro e w15 ⟨rfl,hb⟩;refine⟨_,rfl,?_⟩;replace BK211:=zq.mk (zf (g:=gb211) (o:=.cells #[.int .i64 a0_0,.int .i64 a0_1,.string a0_2] 30 (0,0)) (up BK211.out) hb);replace BK212:=zq.mk (zf (g:=gb212) (o:=.cells #[.int .i64 a1_0,.int .i64 a1_1,.string a1_2] 30 (0,0)) (up BK212.out) hb);replace HB:=zq.mk (zb bw hb);(try clear hb);(try clear hb2);(try clear hk);(try clear hi);obtain ⟨hcz16_0,hcz16_1,hcz16_2,hfz16_0,hfz16_1,hfz16_2⟩:=zr BK211.out;obtain ⟨hcz17_0,hcz17_1,hcz17_2,hfz17_0,hfz17_1,hfz17_2⟩:=zr BK212.out)|((with_reducible refine zs (f:=62) rfl ?_);refine qo (some 20) rfl rfl Tryd.func62 (by kernel_rfl) rfl #[.agg #[.int .i64 a0_0,.int .i64 a0_1,.string a0_2],.agg #[.int .i64 a1_0,.int .i64 a1_1,.string a1_2]] rfl gs ?_;(with_reducible refine(qu.calls k a0_0 a0_1 a0_2 a1_0 a1_1 a1_2 true _ A7.out).mono ?_);rintro e w18 ⟨rfl,hb⟩;refine⟨_,rfl,?_⟩;replace BK211:=zq.mk (zf (g:=gb211) (o:=.cells #[.int .i64 a0_0,.int .i64 a0_1,.string a0_2] 30 (0,0)) (up BK211.out) hb);replace BK212:=zq.mk (zf (g:=gb212) (o:=.cells #[.int .i64 a1_0,.int .i64 a1_1,.string a1_2] 30 (0,0)) (up BK212.out) hb);replace HB:=zq.mk (zb bw hb);(try clear hb);(try clear hb2);(try clear hk);(try clear hi)))
    go_ret2
    exact⟨by first|rfl|(simp [zk,zx] <;> rfl)|(simp [*,zk,zx] <;> rfl),bw⟩
   replace c8:=Bool.eq_false_iff.mpr c8
   subst c8
   rw [if_neg (show ¬ (false=true) by decide)] at H
   replace H:=Option.bind_eq_some_iff.mp H
   obtain ⟨t216,A190,H⟩:=H
   replace H:(if t216=true then(some (1,0)) else (some (0,0)))=some (r1,r2):=H
   have A19:=zq.mk A190
   clear A190
   by_cases c20:t216=true
   ·subst c20
    rw [if_pos rfl] at H
    simp only [Option.some.injEq,Prod.mk.injEq] at H
    obtain ⟨rfl,rfl⟩:=H
    go_enter Tryd.func110,Tryd.ntmps110
    go_wp2_with (first|((with_reducible refine ql (N:=2) rfl ?_);refine qh ?hg (N:=2) ?hd (cs:=#[.int .i64 a0_0,.int .i64 a0_1,.string a0_2]) (t:=30) ?hr ?_;(case hd=>rfl);(case hg=>rfl);(case hr=>first|(go_simp;done)|(go_simp;rfl));intro gb211 hg w21 hbox hb;have BK211:=zq.mk (hbox);have GW211:=zq.mk ((by rw [hg];exact(zv bw):w.heap.size≤gb211));have GE211:=zq.mk ((by rw [hg];exact(zv bw):w.heap.size≤gb211));replace HB:=zq.mk (zb bw hb);clear hb hbox hg)|((with_reducible refine ql (N:=3) rfl ?_);refine qh ?hg (N:=3) ?hd (cs:=#[.int .i64 a1_0,.int .i64 a1_1,.string a1_2]) (t:=30) ?hr ?_;(case hd=>rfl);(case hg=>rfl);(case hr=>first|(go_simp;done)|(go_simp;rfl));intro gb212 hg w22 hbox hb;have BK212:=zq.mk (hbox);have GW212:=zq.mk ((by rw [hg];exact(zv bw):w.heap.size≤gb212));have GE212:=zq.mk ((by rw [hg];exact(zv bw):w.heap.size≤gb212));replace HB:=zq.mk (zb bw hb);have NB211_212:=zq.mk ((by rw [hg];exact Nat.ne_of_lt (qf (g:=gb211) (o:=.cells #[.int .i64 a0_0,.int .i64 a0_1,.string a0_2] 30 (0,0)) (up BK211.out)):gb211≠gb212));have NB212_211:=zq.mk ((by rw [hg];exact Nat.ne_of_gt (qf (g:=gb211) (o:=.cells #[.int .i64 a0_0,.int .i64 a0_1,.string a0_2] 30 (0,0)) (up BK211.out)):gb212≠gb211));replace BK211:=zq.mk (zf (g:=gb211) (o:=.cells #[.int .i64 a0_0,.int .i64 a0_1,.string a0_2] 30 (0,0)) (up BK211.out) hb);clear hb hbox hg;have hnb23:=NB211_212.out;have hnc23:=NB212_211.out;obtain ⟨hcz24_0,hcz24_1,hcz24_2,hfz24_0,hfz24_1,hfz24_2⟩:=zr BK211.out)|((with_reducible refine zs (f:=49) rfl ?_);refine qo (some 9) rfl rfl Tryd.func49 (by kernel_rfl) rfl #[.agg #[.int .i64 a0_0,.int .i64 a0_1,.string a0_2]] rfl gs ?_;(with_reducible refine(zw.calls k a0_0 a0_1 a0_2 t213 _ A3.out).mono ?_);rintro e w25 ⟨rfl,hb⟩;refine⟨_,rfl,?_⟩;replace BK211:=zq.mk (zf (g:=gb211) (o:=.cells #[.int .i64 a0_0,.int .i64 a0_1,.string a0_2] 30 (0,0)) (up BK211.out) hb);replace BK212:=zq.mk (zf (g:=gb212) (o:=.cells #[.int .i64 a1_0,.int .i64 a1_1,.string a1_2] 30 (0,0)) (up BK212.out) hb);replace HB:=zq.mk (zb bw hb);(try clear hb);(try clear hb2);(try clear hk);(try clear hi);obtain ⟨hcz26_0,hcz26_1,hcz26_2,hfz26_0,hfz26_1,hfz26_2⟩:=zr BK212.out)|((with_reducible refine zs (f:=49) rfl ?_);refine qo (some 14) rfl rfl Tryd.func49 (by kernel_rfl) rfl #[.agg #[.int .i64 a1_0,.int .i64 a1_1,.string a1_2]] rfl gs ?_;(with_reducible refine(zw.calls k a1_0 a1_1 a1_2 t214 _ A5.out).mono ?_);rintro e w27 ⟨rfl,hb⟩;refine⟨_,rfl,?_⟩;replace BK211:=zq.mk (zf (g:=gb211) (o:=.cells #[.int .i64 a0_0,.int .i64 a0_1,.string a0_2] 30 (0,0)) (up BK211.out) hb);replace BK212:=zq.mk (zf (g:=gb212) (o:=.cells #[.int .i64 a1_0,.int .i64 a1_1,.string a1_2] 30 (0,0)) (up BK212.out) hb);replace HB:=zq.mk (zb bw hb);(try clear hb);(try clear hb2);(try clear hk);(try clear hi);obtain ⟨hcz28_0,hcz28_1,hcz28_2,hfz28_0,hfz28_1,hfz28_2⟩:=zr BK211.out;obtain ⟨hcz29_0,hcz29_1,hcz29_2,hfz29_0,hfz29_1,hfz29_2⟩:=zr BK212.out)|((with_reducible refine zs (f:=62) rfl ?_);refine qo (some 20) rfl rfl Tryd.func62 (by kernel_rfl) rfl #[.agg #[.int .i64 a0_0,.int .i64 a0_1,.string a0_2],.agg #[.int .i64 a1_0,.int .i64 a1_1,.string a1_2]] rfl gs ?_;(with_reducible refine(qu.calls k a0_0 a0_1 a0_2 a1_0 a1_1 a1_2 false _ A7.out).mono ?_);rintro e w30 ⟨rfl,hb⟩;refine⟨_,rfl,?_⟩;replace BK211:=zq.mk (zf (g:=gb211) (o:=.cells #[.int .i64 a0_0,.int .i64 a0_1,.string a0_2] 30 (0,0)) (up BK211.out) hb);replace BK212:=zq.mk (zf (g:=gb212) (o:=.cells #[.int .i64 a1_0,.int .i64 a1_1,.string a1_2] 30 (0,0)) (up BK212.out) hb);replace HB:=zq.mk (zb bw hb);(try clear hb);(try clear hb2);(try clear hk);(try clear hi);obtain ⟨hcz31_0,hcz31_1,hcz31_2,hfz31_0,hfz31_1,hfz31_2⟩:=zr BK212.out;obtain ⟨hcz32_0,hcz32_1,hcz32_2,hfz32_0,hfz32_1,hfz32_2⟩:=zr BK211.out)|((with_reducible refine zs (f:=62) rfl ?_);refine qo (some 23) rfl rfl Tryd.func62 (by kernel_rfl) rfl #[.agg #[.int .i64 a1_0,.int .i64 a1_1,.string a1_2],.agg #[.int .i64 a0_0,.int .i64 a0_1,.string a0_2]] rfl gs ?_;(with_reducible refine(qu.calls k a1_0 a1_1 a1_2 a0_0 a0_1 a0_2 true _ A19.out).mono ?_);rintro e w33 ⟨rfl,hb⟩;refine⟨_,rfl,?_⟩;replace BK211:=zq.mk (zf (g:=gb211) (o:=.cells #[.int .i64 a0_0,.int .i64 a0_1,.string a0_2] 30 (0,0)) (up BK211.out) hb);replace BK212:=zq.mk (zf (g:=gb212) (o:=.cells #[.int .i64 a1_0,.int .i64 a1_1,.string a1_2] 30 (0,0)) (up BK212.out) hb);replace HB:=zq.mk (zb bw hb);(try clear hb);(try clear hb2);(try clear hk);(try clear hi)))
    go_ret2
    exact⟨by first|rfl|(simp [zk,zx] <;> rfl)|(simp [*,zk,zx] <;> rfl),bw⟩
   replace c20:=Bool.eq_false_iff.mpr c20
   subst c20
   rw [if_neg (show ¬ (false=true) by decide)] at H
   simp only [Option.some.injEq,Prod.mk.injEq] at H
   obtain ⟨rfl,rfl⟩:=H
   go_enter Tryd.func110,Tryd.ntmps110
   go_wp2_with (first|((with_reducible refine ql (N:=2) rfl ?_);refine qh ?hg (N:=2) ?hd (cs:=#[.int .i64 a0_0,.int .i64 a0_1,.string a0_2]) (t:=30) ?hr ?_;(case hd=>rfl);(case hg=>rfl);(case hr=>first|(go_simp;done)|(go_simp;rfl));intro gb211 hg w34 hbox hb;have BK211:=zq.mk (hbox);have GW211:=zq.mk ((by rw [hg];exact(zv bw):w.heap.size≤gb211));have GE211:=zq.mk ((by rw [hg];exact(zv bw):w.heap.size≤gb211));replace HB:=zq.mk (zb bw hb);clear hb hbox hg)|((with_reducible refine ql (N:=3) rfl ?_);refine qh ?hg (N:=3) ?hd (cs:=#[.int .i64 a1_0,.int .i64 a1_1,.string a1_2]) (t:=30) ?hr ?_;(case hd=>rfl);(case hg=>rfl);(case hr=>first|(go_simp;done)|(go_simp;rfl));intro gb212 hg w35 hbox hb;have BK212:=zq.mk (hbox);have GW212:=zq.mk ((by rw [hg];exact(zv bw):w.heap.size≤gb212));have GE212:=zq.mk ((by rw [hg];exact(zv bw):w.heap.size≤gb212));replace HB:=zq.mk (zb bw hb);have NB211_212:=zq.mk ((by rw [hg];exact Nat.ne_of_lt (qf (g:=gb211) (o:=.cells #[.int .i64 a0_0,.int .i64 a0_1,.string a0_2] 30 (0,0)) (up BK211.out)):gb211≠gb212));have NB212_211:=zq.mk ((by rw [hg];exact Nat.ne_of_gt (qf (g:=gb211) (o:=.cells #[.int .i64 a0_0,.int .i64 a0_1,.string a0_2] 30 (0,0)) (up BK211.out)):gb212≠gb211));replace BK211:=zq.mk (zf (g:=gb211) (o:=.cells #[.int .i64 a0_0,.int .i64 a0_1,.string a0_2] 30 (0,0)) (up BK211.out) hb);clear hb hbox hg;have hnb36:=NB211_212.out;have hnc36:=NB212_211.out;obtain ⟨hcz37_0,hcz37_1,hcz37_2,hfz37_0,hfz37_1,hfz37_2⟩:=zr BK211.out)|((with_reducible refine zs (f:=49) rfl ?_);refine qo (some 9) rfl rfl Tryd.func49 (by kernel_rfl) rfl #[.agg #[.int .i64 a0_0,.int .i64 a0_1,.string a0_2]] rfl gs ?_;(with_reducible refine(zw.calls k a0_0 a0_1 a0_2 t213 _ A3.out).mono ?_);rintro e w38 ⟨rfl,hb⟩;refine⟨_,rfl,?_⟩;replace BK211:=zq.mk (zf (g:=gb211) (o:=.cells #[.int .i64 a0_0,.int .i64 a0_1,.string a0_2] 30 (0,0)) (up BK211.out) hb);replace BK212:=zq.mk (zf (g:=gb212) (o:=.cells #[.int .i64 a1_0,.int .i64 a1_1,.string a1_2] 30 (0,0)) (up BK212.out) hb);replace HB:=zq.mk (zb bw hb);(try clear hb);(try clear hb2);(try clear hk);(try clear hi);obtain ⟨hcz39_0,hcz39_1,hcz39_2,hfz39_0,hfz39_1,hfz39_2⟩:=zr BK212.out)|((with_reducible refine zs (f:=49) rfl ?_);refine qo (some 14) rfl rfl Tryd.func49 (by kernel_rfl) rfl #[.agg #[.int .i64 a1_0,.int .i64 a1_1,.string a1_2]] rfl gs ?_;(with_reducible refine(zw.calls k a1_0 a1_1 a1_2 t214 _ A5.out).mono ?_);rintro e w40 ⟨rfl,hb⟩;refine⟨_,rfl,?_⟩;replace BK211:=zq.mk (zf (g:=gb211) (o:=.cells #[.int .i64 a0_0,.int .i64 a0_1,.string a0_2] 30 (0,0)) (up BK211.out) hb);replace BK212:=zq.mk (zf (g:=gb212) (o:=.cells #[.int .i64 a1_0,.int .i64 a1_1,.string a1_2] 30 (0,0)) (up BK212.out) hb);replace HB:=zq.mk (zb bw hb);(try clear hb);(try clear hb2);(try clear hk);(try clear hi);obtain ⟨hcz41_0,hcz41_1,hcz41_2,hfz41_0,hfz41_1,hfz41_2⟩:=zr BK211.out;obtain ⟨hcz42_0,hcz42_1,hcz42_2,hfz42_0,hfz42_1,hfz42_2⟩:=zr BK212.out)|((with_reducible refine zs (f:=62) rfl ?_);refine qo (some 20) rfl rfl Tryd.func62 (by kernel_rfl) rfl #[.agg #[.int .i64 a0_0,.int .i64 a0_1,.string a0_2],.agg #[.int .i64 a1_0,.int .i64 a1_1,.string a1_2]] rfl gs ?_;(with_reducible refine(qu.calls k a0_0 a0_1 a0_2 a1_0 a1_1 a1_2 false _ A7.out).mono ?_);rintro e w43 ⟨rfl,hb⟩;refine⟨_,rfl,?_⟩;replace BK211:=zq.mk (zf (g:=gb211) (o:=.cells #[.int .i64 a0_0,.int .i64 a0_1,.string a0_2] 30 (0,0)) (up BK211.out) hb);replace BK212:=zq.mk (zf (g:=gb212) (o:=.cells #[.int .i64 a1_0,.int .i64 a1_1,.string a1_2] 30 (0,0)) (up BK212.out) hb);replace HB:=zq.mk (zb bw hb);(try clear hb);(try clear hb2);(try clear hk);(try clear hi);obtain ⟨hcz44_0,hcz44_1,hcz44_2,hfz44_0,hfz44_1,hfz44_2⟩:=zr BK212.out;obtain ⟨hcz45_0,hcz45_1,hcz45_2,hfz45_0,hfz45_1,hfz45_2⟩:=zr BK211.out)|((with_reducible refine zs (f:=62) rfl ?_);refine qo (some 23) rfl rfl Tryd.func62 (by kernel_rfl) rfl #[.agg #[.int .i64 a1_0,.int .i64 a1_1,.string a1_2],.agg #[.int .i64 a0_0,.int .i64 a0_1,.string a0_2]] rfl gs ?_;(with_reducible refine(qu.calls k a1_0 a1_1 a1_2 a0_0 a0_1 a0_2 false _ A19.out).mono ?_);rintro e w46 ⟨rfl,hb⟩;refine⟨_,rfl,?_⟩;replace BK211:=zq.mk (zf (g:=gb211) (o:=.cells #[.int .i64 a0_0,.int .i64 a0_1,.string a0_2] 30 (0,0)) (up BK211.out) hb);replace BK212:=zq.mk (zf (g:=gb212) (o:=.cells #[.int .i64 a1_0,.int .i64 a1_1,.string a1_2] 30 (0,0)) (up BK212.out) hb);replace HB:=zq.mk (zb bw hb);(try clear hb);(try clear hb2);(try clear hk);(try clear hi)))
   go_ret2
   exact⟨by first|rfl|(simp [zk,zx] <;> rfl)|(simp [*,zk,zx] <;> rfl),bw⟩
  rw [if_neg c6] at H
  have c6b0:(t214 == 0)=false:=beq_eq_false_iff_ne.mpr c6
  have c6b1:(t214 != 0)=true:=bne_iff_ne.mpr c6
  simp only [Option.some.injEq,Prod.mk.injEq] at H
  obtain ⟨rfl,rfl⟩:=H
  go_enter Tryd.func110,Tryd.ntmps110
  go_wp2_with (first|((with_reducible refine ql (N:=2) rfl ?_);refine qh ?hg (N:=2) ?hd (cs:=#[.int .i64 a0_0,.int .i64 a0_1,.string a0_2]) (t:=30) ?hr ?_;(case hd=>rfl);(case hg=>rfl);(case hr=>first|(go_simp;done)|(go_simp;rfl));intro gb211 hg w47 hbox hb;have BK211:=zq.mk (hbox);have GW211:=zq.mk ((by rw [hg];exact(zv bw):w.heap.size≤gb211));have GE211:=zq.mk ((by rw [hg];exact(zv bw):w.heap.size≤gb211));replace HB:=zq.mk (zb bw hb);clear hb hbox hg)|((with_reducible refine ql (N:=3) rfl ?_);refine qh ?hg (N:=3) ?hd (cs:=#[.int .i64 a1_0,.int .i64 a1_1,.string a1_2]) (t:=30) ?hr ?_;(case hd=>rfl);(case hg=>rfl);(case hr=>first|(go_simp;done)|(go_simp;rfl));intro gb212 hg w48 hbox hb;have BK212:=zq.mk (hbox);have GW212:=zq.mk ((by rw [hg];exact(zv bw):w.heap.size≤gb212));have GE212:=zq.mk ((by rw [hg];exact(zv bw):w.heap.size≤gb212));replace HB:=zq.mk (zb bw hb);have NB211_212:=zq.mk ((by rw [hg];exact Nat.ne_of_lt (qf (g:=gb211) (o:=.cells #[.int .i64 a0_0,.int .i64 a0_1,.string a0_2] 30 (0,0)) (up BK211.out)):gb211≠gb212));have NB212_211:=zq.mk ((by rw [hg];exact Nat.ne_of_gt (qf (g:=gb211) (o:=.cells #[.int .i64 a0_0,.int .i64 a0_1,.string a0_2] 30 (0,0)) (up BK211.out)):gb212≠gb211));replace BK211:=zq.mk (zf (g:=gb211) (o:=.cells #[.int .i64 a0_0,.int .i64 a0_1,.string a0_2] 30 (0,0)) (up BK211.out) hb);clear hb hbox hg;have hnb49:=NB211_212.out;have hnc49:=NB212_211.out;obtain ⟨hcz50_0,hcz50_1,hcz50_2,hfz50_0,hfz50_1,hfz50_2⟩:=zr BK211.out)|((with_reducible refine zs (f:=49) rfl ?_);refine qo (some 9) rfl rfl Tryd.func49 (by kernel_rfl) rfl #[.agg #[.int .i64 a0_0,.int .i64 a0_1,.string a0_2]] rfl gs ?_;(with_reducible refine(zw.calls k a0_0 a0_1 a0_2 t213 _ A3.out).mono ?_);rintro e w51 ⟨rfl,hb⟩;refine⟨_,rfl,?_⟩;replace BK211:=zq.mk (zf (g:=gb211) (o:=.cells #[.int .i64 a0_0,.int .i64 a0_1,.string a0_2] 30 (0,0)) (up BK211.out) hb);replace BK212:=zq.mk (zf (g:=gb212) (o:=.cells #[.int .i64 a1_0,.int .i64 a1_1,.string a1_2] 30 (0,0)) (up BK212.out) hb);replace HB:=zq.mk (zb bw hb);(try clear hb);(try clear hb2);(try clear hk);(try clear hi);obtain ⟨hcz52_0,hcz52_1,hcz52_2,hfz52_0,hfz52_1,hfz52_2⟩:=zr BK212.out)|((with_reducible refine zs (f:=49) rfl ?_);refine qo (some 14) rfl rfl Tryd.func49 (by kernel_rfl) rfl #[.agg #[.int .i64 a1_0,.int .i64 a1_1,.string a1_2]] rfl gs ?_;(with_reducible refine(zw.calls k a1_0 a1_1 a1_2 t214 _ A5.out).mono ?_);rintro e w53 ⟨rfl,hb⟩;refine⟨_,rfl,?_⟩;replace BK211:=zq.mk (zf (g:=gb211) (o:=.cells #[.int .i64 a0_0,.int .i64 a0_1,.string a0_2] 30 (0,0)) (up BK211.out) hb);replace BK212:=zq.mk (zf (g:=gb212) (o:=.cells #[.int .i64 a1_0,.int .i64 a1_1,.string a1_2] 30 (0,0)) (up BK212.out) hb);replace HB:=zq.mk (zb bw hb);(try clear hb);(try clear hb2);(try clear hk);(try clear hi)))
  go_ret2
  exact⟨by first|rfl|(simp [zk,zx] <;> rfl)|(simp [*,zk,zx] <;> rfl),bw⟩
 rw [if_neg c4] at H
 have c4b0:(t213 == 0)=false:=beq_eq_false_iff_ne.mpr c4
 have c4b1:(t213 != 0)=true:=bne_iff_ne.mpr c4
 simp only [Option.some.injEq,Prod.mk.injEq] at H
 obtain ⟨rfl,rfl⟩:=H
 go_enter Tryd.func110,Tryd.ntmps110
 go_wp2_with (first|((with_reducible refine ql (N:=2) rfl ?_);refine qh ?hg (N:=2) ?hd (cs:=#[.int .i64 a0_0,.int .i64 a0_1,.string a0_2]) (t:=30) ?hr ?_;(case hd=>rfl);(case hg=>rfl);(case hr=>first|(go_simp;done)|(go_simp;rfl));intro gb211 hg w54 hbox hb;have BK211:=zq.mk (hbox);have GW211:=zq.mk ((by rw [hg];exact(zv bw):w.heap.size≤gb211));have GE211:=zq.mk ((by rw [hg];exact(zv bw):w.heap.size≤gb211));replace HB:=zq.mk (zb bw hb);clear hb hbox hg)|((with_reducible refine ql (N:=3) rfl ?_);refine qh ?hg (N:=3) ?hd (cs:=#[.int .i64 a1_0,.int .i64 a1_1,.string a1_2]) (t:=30) ?hr ?_;(case hd=>rfl);(case hg=>rfl);(case hr=>first|(go_simp;done)|(go_simp;rfl));intro gb212 hg w55 hbox hb;have BK212:=zq.mk (hbox);have GW212:=zq.mk ((by rw [hg];exact(zv bw):w.heap.size≤gb212));have GE212:=zq.mk ((by rw [hg];exact(zv bw):w.heap.size≤gb212));replace HB:=zq.mk (zb bw hb);have NB211_212:=zq.mk ((by rw [hg];exact Nat.ne_of_lt (qf (g:=gb211) (o:=.cells #[.int .i64 a0_0,.int .i64 a0_1,.string a0_2] 30 (0,0)) (up BK211.out)):gb211≠gb212));have NB212_211:=zq.mk ((by rw [hg];exact Nat.ne_of_gt (qf (g:=gb211) (o:=.cells #[.int .i64 a0_0,.int .i64 a0_1,.string a0_2] 30 (0,0)) (up BK211.out)):gb212≠gb211));replace BK211:=zq.mk (zf (g:=gb211) (o:=.cells #[.int .i64 a0_0,.int .i64 a0_1,.string a0_2] 30 (0,0)) (up BK211.out) hb);clear hb hbox hg;have hnb56:=NB211_212.out;have hnc56:=NB212_211.out;obtain ⟨hcz57_0,hcz57_1,hcz57_2,hfz57_0,hfz57_1,hfz57_2⟩:=zr BK211.out)|((with_reducible refine zs (f:=49) rfl ?_);refine qo (some 9) rfl rfl Tryd.func49 (by kernel_rfl) rfl #[.agg #[.int .i64 a0_0,.int .i64 a0_1,.string a0_2]] rfl gs ?_;(with_reducible refine(zw.calls k a0_0 a0_1 a0_2 t213 _ A3.out).mono ?_);rintro e w58 ⟨rfl,hb⟩;refine⟨_,rfl,?_⟩;replace BK211:=zq.mk (zf (g:=gb211) (o:=.cells #[.int .i64 a0_0,.int .i64 a0_1,.string a0_2] 30 (0,0)) (up BK211.out) hb);replace BK212:=zq.mk (zf (g:=gb212) (o:=.cells #[.int .i64 a1_0,.int .i64 a1_1,.string a1_2] 30 (0,0)) (up BK212.out) hb);replace HB:=zq.mk (zb bw hb);(try clear hb);(try clear hb2);(try clear hk);(try clear hi)))
 go_ret2
 exact⟨by first|rfl|(simp [zk,zx] <;> rfl)|(simp [*,zk,zx] <;> rfl),bw⟩

end Go.Proofs.YtmfpaeajibeikaaDoor.PEvalHolds
