-- Written by wip/pp of this repo (over the kit's print, with additions of this session); Lean checks every line.
import Derived.Test.YthhejedfjgikdaaDoorPRelProjectsx15
namespace Go.Proofs.YthhejedfjgikdaaDoor.PRelProjects
open Go.RowKit Go.Proofs.YthhejedfjgikdaaDoorW.PrintWords Go.Proofs.YthhejedfjgikdaaDoorW.PrintLast Go.Proofs.YthhejedfjgikdaaDoorW.PrintMore
attribute [local go_sem] zjh zjf zjq zjp zq4 zq3 zjg zje   -- for this text's walks alone
set_option linter.unusedVariables false
set_option linter.unusedSimpArgs false

/-! ### qm: function 52 -/
def qm.l0:Nat→List (List (S38))→List (List (S38))→Int→Int→Option (Bool)
 | 0,_,_,_,_=>none
 | k+1,x0,x8,x9,x10=>if x10<x9 then(if 0≤x10 then(if x10<(x8.length:Int) then(if 0<(x0.length:Int) then(if((zqo x8 x10).length:Int)=((zqo x0 0).length:Int) then((qk.f k (zqo x8 x10)).bind fun t281=>(if t281=0 then(qm.l0 k x0 x8 x9 (wrap64 (x10+1))) else (some false))) else (some false)) else (none)) else (none)) else (none)) else (some true)
def qm.f (k:Nat) (l0:List (List (S38))):Option (Bool):=if(l0.length:Int) > 200 then(some false) else (qm.l0 k l0 l0 (l0.length:Int) 0)
theorem qm.mono_l:∀ k,(∀ y0 y1 y2 y3,LeO (qm.l0 k y0 y1 y2 y3) (qm.l0 (k+1) y0 y1 y2 y3))
 | 0=>fun _ _ _ _ r h=>by simp [qm.l0] at h
 | k+1=>by
  have ih0:=qm.mono_l k
  intro y0 y1 y2 y3
  unfold qm.l0
  repeat' first
  | (with_reducible first|exact ih0 _ _ _ _|exact qk.mono _ _|exact LeO.refl _|exact LeO.none _|refine LeO.ite ?_ ?_|refine LeO.bind ?_ (fun _=>?_))
  | exact ih0 _ _ _ _
  | exact qk.mono _ _
  | exact LeO.none _
  | refine LeO.ite ?_ ?_
  | refine LeO.bind ?_ (fun _=>?_)
theorem qm.mono:∀ a0 k,LeO (qm.f k a0) (qm.f (k+1) a0):=by
 intro a0 k
 have ih0:=qm.mono_l k
 unfold qm.f
 repeat' first
   | (with_reducible first|exact ih0 _ _ _ _|exact qk.mono _ _|exact LeO.refl _|exact LeO.none _|refine LeO.ite ?_ ?_|refine LeO.bind ?_ (fun _=>?_))
   | exact ih0 _ _ _ _
   | exact qk.mono _ _
   | exact LeO.none _
   | refine LeO.ite ?_ ?_
   | refine LeO.bind ?_ (fun _=>?_)
set_option maxHeartbeats 8000000 in
set_option maxRecDepth 100000 in
theorem qm.calls (k:Nat) (A0:Option Addr) (c0:Nat) (l0:List (List (S38))) (r:Bool) (w:World) (hr0:Kd.C (Kd.slice 38 k38) w A0 l0.length l0) (hc0:l0.length≤c0) (h:qm.f k l0=some r) :
  Calls Tryd.prog 52 #[.slice A0 l0.length c0] w fun e w'=>e = .returned (.bool r)∧Below w.heap.size w w':=by
 have HR0:=zq.mk hr0
 have HC0:=zq.mk hc0
 clear hr0 hc0
 have HB:=zq.mk (Below.refl w.heap.size w)
 have H:(if(l0.length:Int) > 200 then(some false) else (qm.l0 k l0 l0 (l0.length:Int) 0))=some r:=h
 clear h
 by_cases c2:(l0.length:Int) > 200
 ·rw [if_pos c2] at H
  have c2b0:=decide_eq_true c2
  have c2b1:decide (200<l0.length)=true:=decide_eq_true (by omega)
  clear c2
  obtain rfl:=Option.some.inj H
  go_enter Tryd.func52,Tryd.ntmps52
  go_wp2
  go_ret
  exact⟨by first|rfl|(simp [zx,zj] <;> rfl)|(simp [*,zx,zj] <;> rfl),bw⟩
 rw [if_neg c2] at H
 have c2b0:=decide_eq_false c2
 have c2b1:decide (200<l0.length)=false:=decide_eq_false (by omega)
 clear c2
 have H':=zq.mk H
 clear H
 go_enter Tryd.func52,Tryd.ntmps52
 go_wp2
 go_loopg [10] k (fun kq v10 w' => ∃ (x10_1:Int),v10 = .int .i64 x10_1∧zq (qm.l0 kq l0 l0 (l0.length:Int) x10_1=some r)∧zq (kq≤k)∧zq (Below w.heap.size w w'))
 case atStart=>exact⟨(0),vr,H',⟨Nat.le_refl _⟩,⟨bw⟩⟩
 case round=>
  clear H'
  (try clear c2);(try clear c2b0);(try clear c2b1)
  obtain ⟨x10_1,rfl,HA,HK1,HB⟩:=hrel
  cases gk with
  | zero=>exact absurd HA.out (by simp [qm.l0])
  | succ k1=>
   have H:=HA.out
   clear HA
   simp only [qm.l0] at H
   by_cases c3:x10_1<(l0.length:Int)
   ·rw [if_pos c3] at H
    have c3b0:=decide_eq_true c3
    clear c3
    by_cases c4:0≤x10_1
    ·rw [if_pos c4] at H
     have c4b0:=decide_eq_true c4
     clear c4
     by_cases c5:x10_1<(l0.length:Int)
     ·rw [if_pos c5] at H
      have c5b0:=decide_eq_true c5
      clear c5
      by_cases c6:0<(l0.length:Int)
      ·rw [if_pos c6] at H
       have c6b0:=decide_eq_true c6
       have c6b1:decide (0<l0.length)=true:=decide_eq_true (by omega)
       clear c6
       by_cases c7:((zqo l0 x10_1).length:Int)=((zqo l0 0).length:Int)
       ·rw [if_pos c7] at H
        have c7b0:(((zqo l0 x10_1).length:Int) == ((zqo l0 0).length:Int))=true:=beq_iff_eq.mpr c7
        have c7b1:(((zqo l0 x10_1).length:Int) != ((zqo l0 0).length:Int))=false:=bne_eq_false_iff_eq.mpr c7
        have c7b2:((zqo l0 x10_1).length == (zqo l0 0).length)=true:=by first|simpa using c7|(simp at c7 ⊢;omega)
        clear c7
        replace H:=Option.bind_eq_some_iff.mp H
        obtain ⟨t281,A80,H⟩:=H
        replace H:(if t281=0 then(qm.l0 k1 l0 l0 (l0.length:Int) (wrap64 (x10_1+1))) else (some false))=some r:=H
        have A8:=zq.mk A80
        clear A80
        by_cases c9:t281=0
        ·rw [if_pos c9] at H
         have c9b0:(t281 == 0)=true:=beq_iff_eq.mpr c9
         have c9b1:(t281 != 0)=false:=bne_eq_false_iff_eq.mpr c9
         clear c9
         have H':=zq.mk H
         clear H
         have p279:0≤(x10_1:Int):=dt
         have q279:x10_1<(l0.length:Int):=dt
         obtain ⟨ad279,A279_0,c279_0,e279,hx279_0,hl279_0,hi279_0⟩:=zxl HR0.out x10_1 p279 q279
         cases e279
         replace hx279_0:=(HB.out.cell (World.block_lt_of_cell? w _ hx279_0)).trans hx279_0
         have HR279_0:=zq.mk hi279_0
         have HC279_0:=zq.mk hl279_0
         clear hi279_0 hl279_0
         replace p279:=eq_true p279
         replace q279:=eq_true q279
         have p280:0≤(0:Int):=(by omega)
         have q280:0<(l0.length:Int):=dt
         obtain ⟨ad280,A280_0,c280_0,e280,hx280_0,hl280_0,hi280_0⟩:=zxl HR0.out 0 p280 q280
         obtain rfl:ad279=ad280:=(by injection e280)
         have qi280:(0<l0.length)=True:=eq_true (by omega)
         (try rw [show((0:Int)).toNat=0 from rfl] at hx280_0)
         (try rw [Addr.add_zero'] at hx280_0)
         replace hx280_0:=(HB.out.cell (World.block_lt_of_cell? w _ hx280_0)).trans hx280_0
         have HR280_0:=zq.mk hi280_0
         have HC280_0:=zq.mk hl280_0
         clear hi280_0 hl280_0
         replace p280:=eq_true p280
         replace q280:=eq_true q280
         go_wp2_with (first|(go_at_call 42;(with_reducible refine(qk.calls k1 _ _ (zqo l0 x10_1) t281 _ ?side1 ?side2 A8.out).mono ?_);(case side1=>exact Kd.cu (Kd.zqj HR279_0.out HB.out));(case side2=>exact HC279_0.out);rintro e w10 ⟨rfl,hb⟩;replace HB:=zq.mk (zt bw hb);(try clear hb);(try clear hb2);(try clear hk);(try clear hi)))
         go_roundg k1
         case measure=>have:=HK1.out;omega
         case rel=>exact⟨(wrap64 (x10_1+1)),vr,H',⟨by have:=HK1.out;omega⟩,⟨bw⟩⟩
        rw [if_neg c9] at H
        have c9b0:(t281 == 0)=false:=beq_eq_false_iff_ne.mpr c9
        have c9b1:(t281 != 0)=true:=bne_iff_ne.mpr c9
        obtain rfl:=Option.some.inj H
        have p279:0≤(x10_1:Int):=dt
        have q279:x10_1<(l0.length:Int):=dt
        obtain ⟨ad279,A279_0,c279_0,e279,hx279_0,hl279_0,hi279_0⟩:=zxl HR0.out x10_1 p279 q279
        cases e279
        replace hx279_0:=(HB.out.cell (World.block_lt_of_cell? w _ hx279_0)).trans hx279_0
        have HR279_0:=zq.mk hi279_0
        have HC279_0:=zq.mk hl279_0
        clear hi279_0 hl279_0
        replace p279:=eq_true p279
        replace q279:=eq_true q279
        have p280:0≤(0:Int):=(by omega)
        have q280:0<(l0.length:Int):=dt
        obtain ⟨ad280,A280_0,c280_0,e280,hx280_0,hl280_0,hi280_0⟩:=zxl HR0.out 0 p280 q280
        obtain rfl:ad279=ad280:=(by injection e280)
        have qi280:(0<l0.length)=True:=eq_true (by omega)
        (try rw [show((0:Int)).toNat=0 from rfl] at hx280_0)
        (try rw [Addr.add_zero'] at hx280_0)
        replace hx280_0:=(HB.out.cell (World.block_lt_of_cell? w _ hx280_0)).trans hx280_0
        have HR280_0:=zq.mk hi280_0
        have HC280_0:=zq.mk hl280_0
        clear hi280_0 hl280_0
        replace p280:=eq_true p280
        replace q280:=eq_true q280
        go_wp2_with (first|(go_at_call 42;(with_reducible refine(qk.calls k1 _ _ (zqo l0 x10_1) t281 _ ?side1 ?side2 A8.out).mono ?_);(case side1=>exact Kd.cu (Kd.zqj HR279_0.out HB.out));(case side2=>exact HC279_0.out);rintro e w11 ⟨rfl,hb⟩;replace HB:=zq.mk (zt bw hb);(try clear hb);(try clear hb2);(try clear hk);(try clear hi)))
        go_ret
        exact⟨by first|rfl|(simp [zx,zj] <;> rfl)|(simp [*,zx,zj] <;> rfl),bw⟩
       rw [if_neg c7] at H
       have c7b0:(((zqo l0 x10_1).length:Int) == ((zqo l0 0).length:Int))=false:=beq_eq_false_iff_ne.mpr c7
       have c7b1:(((zqo l0 x10_1).length:Int) != ((zqo l0 0).length:Int))=true:=bne_iff_ne.mpr c7
       have c7b2:((zqo l0 x10_1).length == (zqo l0 0).length)=false:=by first|simpa using c7|(simp at c7 ⊢;omega)
       obtain rfl:=Option.some.inj H
       have p279:0≤(x10_1:Int):=dt
       have q279:x10_1<(l0.length:Int):=dt
       obtain ⟨ad279,A279_0,c279_0,e279,hx279_0,hl279_0,hi279_0⟩:=zxl HR0.out x10_1 p279 q279
       cases e279
       replace hx279_0:=(HB.out.cell (World.block_lt_of_cell? w _ hx279_0)).trans hx279_0
       have HR279_0:=zq.mk hi279_0
       have HC279_0:=zq.mk hl279_0
       clear hi279_0 hl279_0
       replace p279:=eq_true p279
       replace q279:=eq_true q279
       have p280:0≤(0:Int):=(by omega)
       have q280:0<(l0.length:Int):=dt
       obtain ⟨ad280,A280_0,c280_0,e280,hx280_0,hl280_0,hi280_0⟩:=zxl HR0.out 0 p280 q280
       obtain rfl:ad279=ad280:=(by injection e280)
       have qi280:(0<l0.length)=True:=eq_true (by omega)
       (try rw [show((0:Int)).toNat=0 from rfl] at hx280_0)
       (try rw [Addr.add_zero'] at hx280_0)
       replace hx280_0:=(HB.out.cell (World.block_lt_of_cell? w _ hx280_0)).trans hx280_0
       have HR280_0:=zq.mk hi280_0
       have HC280_0:=zq.mk hl280_0
       clear hi280_0 hl280_0
       replace p280:=eq_true p280
       replace q280:=eq_true q280
       go_wp2
       go_ret
       exact⟨by first|rfl|(simp [zx,zj] <;> rfl)|(simp [*,zx,zj] <;> rfl),bw⟩
      rw [if_neg c6] at H
      exact absurd H (by simp)
     rw [if_neg c5] at H
     exact absurd H (by simp)
    rw [if_neg c4] at H
    exact absurd H (by simp)
   rw [if_neg c3] at H
   have c3b0:=decide_eq_false c3
   clear c3
   obtain rfl:=Option.some.inj H
   go_wp2
   go_ret
   exact⟨by first|rfl|(simp [zx,zj] <;> rfl)|(simp [*,zx,zj] <;> rfl),bw⟩

/-! ### zi: function 25 -/
mutual
def zi.l0:Nat→List (S41)→List (List (S38))→List (List (S38))→Int→Int→Option ((List (List (S38))) × Int)
 | 0,_,_,_,_,_=>none
 | k+1,x1,x6,x17,x18,x19=>if x19<x18 then(if 0≤x19 then(if x19<(x17.length:Int) then(zi.l1 k x1 x6 (zqo x17 x19) ([]:List (S38)) x17 x18 x19 x1 (x1.length:Int) 0) else (none)) else (none)) else (some (x6,0))
def zi.l1:Nat→List (S41)→List (List (S38))→List (S38)→List (S38)→List (List (S38))→Int→Int→List (S41)→Int→Int→Option ((List (List (S38))) × Int)
 | 0,_,_,_,_,_,_,_,_,_,_=>none
 | k+1,x1,x6,x8,x9,x17,x18,x19,x23,x24,x25=>if x25<x24 then(if 0≤x25 then(if x25<(x23.length:Int) then((zqk.f k ((zg x23 x25).f0) ((zg x23 x25).f1.f0) ((zg x23 x25).f1.f1) ((zg x23 x25).f1.f2) ((zg x23 x25).f2) ((zg x23 x25).f3) ((zg x23 x25).f4) ((zg x23 x25).f5) x8).bind fun bt286=>(if bt286.2.2.2=0 then(if x9.length<4398046511104 then(zi.l1 k x1 x6 x8 (x9 ++ [(⟨bt286.1,bt286.2.1,bt286.2.2.1⟩:S38)]) x17 x18 x19 x23 x24 (wrap64 (x25+1))) else (none)) else (some (([]:List (List (S38))),bt286.2.2.2)))) else (none)) else (none)) else (if x6.length<5864062014805 then(zi.l0 k x1 (x6 ++ [x9]) x17 x18 (wrap64 (x19+1))) else (none))
end
def zi.f (k:Nat) (l0:List (List (S38))) (l1:List (S41)):Option ((List (List (S38))) × Int):=(qm.f k l0).bind fun t282=>(if t282=true then(zi.l0 k l1 ([]:List (List (S38))) l0 (l0.length:Int) 0) else (some (([]:List (List (S38))),4)))
theorem zi.mono_l:∀ k,(∀ y0 y1 y2 y3 y4,LeO (zi.l0 k y0 y1 y2 y3 y4) (zi.l0 (k+1) y0 y1 y2 y3 y4))∧(∀ y0 y1 y2 y3 y4 y5 y6 y7 y8 y9,LeO (zi.l1 k y0 y1 y2 y3 y4 y5 y6 y7 y8 y9) (zi.l1 (k+1) y0 y1 y2 y3 y4 y5 y6 y7 y8 y9))
 | 0=>⟨fun _ _ _ _ _ r h=>by simp [zi.l0] at h,fun _ _ _ _ _ _ _ _ _ _ r h=>by simp [zi.l1] at h⟩
 | k+1=>by
  obtain ⟨ih0,ih1⟩:=zi.mono_l k
  refine⟨?_,?_⟩
  ·intro y0 y1 y2 y3 y4
   unfold zi.l0
   repeat' first
   | (with_reducible first|exact ih0 _ _ _ _ _|exact ih1 _ _ _ _ _ _ _ _ _ _|exact zqk.mono _ _ _ _ _ _ _ _ _ _|exact qm.mono _ _|exact LeO.refl _|exact LeO.none _|refine LeO.ite ?_ ?_|refine LeO.bind ?_ (fun _=>?_))
   | exact ih0 _ _ _ _ _
   | exact ih1 _ _ _ _ _ _ _ _ _ _
   | exact zqk.mono _ _ _ _ _ _ _ _ _ _
   | exact qm.mono _ _
   | exact LeO.none _
   | refine LeO.ite ?_ ?_
   | refine LeO.bind ?_ (fun _=>?_)
  intro y0 y1 y2 y3 y4 y5 y6 y7 y8 y9
  unfold zi.l1
  repeat' first
  | (with_reducible first|exact ih0 _ _ _ _ _|exact ih1 _ _ _ _ _ _ _ _ _ _|exact zqk.mono _ _ _ _ _ _ _ _ _ _|exact qm.mono _ _|exact LeO.refl _|exact LeO.none _|refine LeO.ite ?_ ?_|refine LeO.bind ?_ (fun _=>?_))
  | exact ih0 _ _ _ _ _
  | exact ih1 _ _ _ _ _ _ _ _ _ _
  | exact zqk.mono _ _ _ _ _ _ _ _ _ _
  | exact qm.mono _ _
  | exact LeO.none _
  | refine LeO.ite ?_ ?_
  | refine LeO.bind ?_ (fun _=>?_)
theorem zi.mono:∀ a0 a1 k,LeO (zi.f k a0 a1) (zi.f (k+1) a0 a1):=by
 intro a0 a1 k
 obtain ⟨ih0,ih1⟩:=zi.mono_l k
 unfold zi.f
 repeat' first
   | (with_reducible first|exact ih0 _ _ _ _ _|exact ih1 _ _ _ _ _ _ _ _ _ _|exact zqk.mono _ _ _ _ _ _ _ _ _ _|exact qm.mono _ _|exact LeO.refl _|exact LeO.none _|refine LeO.ite ?_ ?_|refine LeO.bind ?_ (fun _=>?_))
   | exact ih0 _ _ _ _ _
   | exact ih1 _ _ _ _ _ _ _ _ _ _
   | exact zqk.mono _ _ _ _ _ _ _ _ _ _
   | exact qm.mono _ _
   | exact LeO.none _
   | refine LeO.ite ?_ ?_
   | refine LeO.bind ?_ (fun _=>?_)
set_option maxHeartbeats 8000000 in
set_option maxRecDepth 100000 in
theorem zi.calls (k:Nat) (A0:Option Addr) (c0:Nat) (l0:List (List (S38))) (A1:Option Addr) (c1:Nat) (l1:List (S41)) (r1:List (List (S38))) (r2:Int) (w:World) (hr0:Kd.C (Kd.slice 38 k38) w A0 l0.length l0) (hc0:l0.length≤c0) (hr1:Kd.C k41 w A1 l1.length l1) (hc1:l1.length≤c1) (h:zi.f k l0 l1=some (r1,r2)) :
  Calls Tryd.prog 25 #[.slice A0 l0.length c0,.slice A1 l1.length c1] w fun e w' => ∃ v0_:Value,e = .returned (.tuple #[v0_,.int .i64 r2])∧Kd.S (Kd.slice 38 k38) 23 w' w.heap.size (fun _=>True) v0_ r1∧Below w.heap.size w w':=by
 have hu41:=Tryd.underlying41
 have hu38:=Tryd.underlying38
 have HR0:=zq.mk hr0
 have HC0:=zq.mk hc0
 clear hr0 hc0
 have HR1:=zq.mk hr1
 have HC1:=zq.mk hc1
 clear hr1 hc1
 have HB:=zq.mk (Below.refl w.heap.size w)
 have H:((qm.f k l0).bind fun t282=>(if t282=true then(zi.l0 k l1 ([]:List (List (S38))) l0 (l0.length:Int) 0) else (some (([]:List (List (S38))),4))))=some (r1,r2):=h
 clear h
 replace H:=Option.bind_eq_some_iff.mp H
 obtain ⟨t282,A30,H⟩:=H
 replace H:(if t282=true then(zi.l0 k l1 ([]:List (List (S38))) l0 (l0.length:Int) 0) else (some (([]:List (List (S38))),4)))=some (r1,r2):=H
 have A3:=zq.mk A30
 clear A30
 by_cases c4:t282=true
 ·subst c4
  rw [if_pos rfl] at H
  have H':=zq.mk H
  clear H
  go_enter Tryd.func25,Tryd.ntmps25
  go_wp2_with (first|((with_reducible refine zl (f:=52) rfl ?_);refine qu (some 15) rfl rfl Tryd.func52 (by kernel_rfl) rfl #[.slice A0 l0.length c0] rfl gs ?_;(with_reducible refine(qm.calls k _ _ l0 true _ ?side1 ?side2 A3.out).mono ?_);(case side1=>exact Kd.cu HR0.out);(case side2=>exact HC0.out);rintro e w5 ⟨rfl,hb⟩;refine⟨_,rfl,?_⟩;replace HB:=zq.mk (zt bw hb);(try clear hb);(try clear hb2);(try clear hk);(try clear hi)))
  go_loopg [6,19] k (fun kq v6 v19 w' => ∃ (x6_1:List (List (S38))) (x19_1:Int),v19 = .int .i64 x19_1∧zq (zi.l0 kq l1 x6_1 l0 (l0.length:Int) x19_1=some (r1,r2))∧zq (kq≤k)∧zq (Kd.S (Kd.slice 38 k38) 23 w' w.heap.size (fun _=>True) v6 x6_1)∧zq (Below w.heap.size w w'))
  case atStart=>exact⟨(([]:List (List (S38)))),(0),vr,H',⟨Nat.le_refl _⟩,⟨by first|exact Kd.S_nil _ _ _ _ _|exact Kd.N_nil _ _ _ _ _|exact Kd.V_nil _ _ _ _ _|exact Kd.Q_nil _ _ _ _ _|exact Kd.zx5 _ _ _ _ _⟩,⟨bw⟩⟩
  case round=>
   clear H'
   (try clear c1);(try clear c4)
   (try clear HO_6)
   obtain ⟨x6_1,x19_1,rfl,HA,HK1,HO_6,HB⟩:=hrel
   cases gk with
   | zero=>exact absurd HA.out (by simp [zi.l0])
   | succ k1=>
    have H:=HA.out
    clear HA
    simp only [zi.l0] at H
    by_cases c6:x19_1<(l0.length:Int)
    ·rw [if_pos c6] at H
     have c6b0:=decide_eq_true c6
     clear c6
     by_cases c7:0≤x19_1
     ·rw [if_pos c7] at H
      have c7b0:=decide_eq_true c7
      clear c7
      by_cases c8:x19_1<(l0.length:Int)
      ·rw [if_pos c8] at H
       have c8b0:=decide_eq_true c8
       clear c8
       have H':=zq.mk H
       clear H
       have p283:0≤(x19_1:Int):=dt
       have q283:x19_1<(l0.length:Int):=dt
       obtain ⟨ad283,A283_0,c283_0,e283,hx283_0,hl283_0,hi283_0⟩:=zxl HR0.out x19_1 p283 q283
       cases e283
       replace hx283_0:=(HB.out.cell (World.block_lt_of_cell? w _ hx283_0)).trans hx283_0
       have HR283_0:=zq.mk hi283_0
       have HC283_0:=zq.mk hl283_0
       clear hi283_0 hl283_0
       replace p283:=eq_true p283
       replace q283:=eq_true q283
       go_wp2
       go_loopg [9,25] k1 (fun kq v9 v25 w' => ∃ (x9_2:List (S38)) (x25_2:Int),v25 = .int .i64 x25_2∧zq (zi.l1 kq l1 x6_1 (zqo l0 x19_1) x9_2 l0 (l0.length:Int) x19_1 l1 (l1.length:Int) x25_2=some (r1,r2))∧zq (kq≤k1)∧zq (Kd.S (Kd.slice 38 k38) 23 w' w.heap.size (fun k_=>some k_≠(v9:Value).ownBlock) u6 x6_1)∧zq (Kd.R k38 38 w' w.heap.size (fun _=>True) v9 x9_2)∧zq (Below w.heap.size w w'))
       case atStart=>exact⟨(([]:List (S38))),(0),vr,H',⟨Nat.le_refl _⟩,⟨by(with_reducible repeat(first|apply Kd.zxj|apply Kd.zxi|apply Kd.zxv));exact Kd.zj7 HO_6.out (fun _ hk=>(by simp [Value.ownBlock]))⟩,⟨by first|exact Kd.zx5 _ _ _ _ _|exact Kd.N_nil _ _ _ _ _|exact Kd.V_nil _ _ _ _ _|exact Kd.Q_nil _ _ _ _ _|exact Kd.S_nil _ _ _ _ _⟩,⟨bw⟩⟩
       case round=>
        clear H'
        (try clear c1);(try clear c4);(try clear c6);(try clear c6b0);(try clear c7);(try clear c7b0);(try clear c8);(try clear c8b0);(try clear hx283_0);(try clear p283);(try clear q283)
        (try clear HO_6);(try clear HO_9)
        obtain ⟨x9_2,x25_2,rfl,HA,HK2,HO_6,HO_9,HB⟩:=hrel
        cases gk with
        | zero=>exact absurd HA.out (by simp [zi.l1])
        | succ k2=>
         have H:=HA.out
         clear HA
         simp only [zi.l1] at H
         by_cases c9:x25_2<(l1.length:Int)
         ·rw [if_pos c9] at H
          have c9b0:=decide_eq_true c9
          clear c9
          by_cases c10:0≤x25_2
          ·rw [if_pos c10] at H
           have c10b0:=decide_eq_true c10
           clear c10
           by_cases c11:x25_2<(l1.length:Int)
           ·rw [if_pos c11] at H
            have c11b0:=decide_eq_true c11
            clear c11
            replace H:=Option.bind_eq_some_iff.mp H
            obtain ⟨⟨t286,t287,t288,t289⟩,A120,H⟩:=H
            replace H:(if t289=0 then(if x9_2.length<4398046511104 then(zi.l1 k2 l1 x6_1 (zqo l0 x19_1) (x9_2 ++ [(⟨t286,t287,t288⟩:S38)]) l0 (l0.length:Int) x19_1 l1 (l1.length:Int) (wrap64 (x25_2+1))) else (none)) else (some (([]:List (List (S38))),t289)))=some (r1,r2):=H
            have A12:=zq.mk A120
            clear A120
            by_cases c13:t289=0
            ·rw [if_pos c13] at H
             have c13b0:(t289 == 0)=true:=beq_iff_eq.mpr c13
             have c13b1:(t289 != 0)=false:=bne_eq_false_iff_eq.mpr c13
             clear c13
             by_cases c14:x9_2.length<4398046511104
             ·rw [if_pos c14] at H
              have LMc14:=zq.mk c14
              clear c14
              obtain ⟨y291,hy291⟩:∃ y_:List (S38),y_=(x9_2 ++ [(⟨t286,t287,t288⟩:S38)]):=⟨_,rfl⟩
              replace H:(zi.l1 k2 l1 x6_1 (zqo l0 x19_1) y291 l0 (l0.length:Int) x19_1 l1 (l1.length:Int) (wrap64 (x25_2+1)))=some (r1,r2):=by first|(rw [hy291];with_reducible exact H)|(have H2_:=(Option.bind_some _ _).symm.trans H;rw [hy291];with_reducible exact H2_)|(have H2_:=(Option.bind_some _ _).symm.trans H;with_reducible exact H2_)|with_reducible exact H|(rw [hy291];exact H)|exact H
              have Ny291:=zq.mk hy291
              clear hy291
              have H':=zq.mk H
              clear H
              have p284:0≤(x25_2:Int):=dt
              have q284:x25_2<(l1.length:Int):=dt
              obtain ⟨ad284,A284_7,c284_7,e284,hx284_0,hx284_1,hx284_2,hx284_3,hx284_4,hx284_5,hx284_6,hx284_7,hl284_7,hi284_7⟩:=zxh HR1.out x25_2 p284 q284
              cases e284
              replace hx284_0:=(HB.out.cell (World.block_lt_of_cell? w _ hx284_0)).trans hx284_0
              replace hx284_1:=(HB.out.cell (World.block_lt_of_cell? w _ hx284_1)).trans hx284_1
              replace hx284_2:=(HB.out.cell (World.block_lt_of_cell? w _ hx284_2)).trans hx284_2
              replace hx284_3:=(HB.out.cell (World.block_lt_of_cell? w _ hx284_3)).trans hx284_3
              replace hx284_4:=(HB.out.cell (World.block_lt_of_cell? w _ hx284_4)).trans hx284_4
              replace hx284_5:=(HB.out.cell (World.block_lt_of_cell? w _ hx284_5)).trans hx284_5
              replace hx284_6:=(HB.out.cell (World.block_lt_of_cell? w _ hx284_6)).trans hx284_6
              replace hx284_7:=(HB.out.cell (World.block_lt_of_cell? w _ hx284_7)).trans hx284_7
              have HR284_7:=zq.mk hi284_7
              have HC284_7:=zq.mk hl284_7
              clear hi284_7 hl284_7
              replace p284:=eq_true p284
              replace q284:=eq_true q284
              go_wp2_with (first|((with_reducible refine qo (N:=11) rfl ?_);refine qd ?hg (N:=11) ?hd (cs:=#[.int .i64 0,.int .i64 0,.int .i64 0,.string (⟨#[]⟩:ByteArray),.string (⟨#[]⟩:ByteArray),.string (⟨#[]⟩:ByteArray),.int .i64 0,.slice none 0 0]) (t:=41) ?hr ?_;(case hd=>rfl);(case hg=>rfl);(case hr=>first|(go_simp;done)|(go_simp;rfl));intro gb285 hg w15 hbox hb;replace HO_6:=zq.mk (Kd.zjv (Kd.su HO_6.out) hb);replace HO_9:=zq.mk (Kd.zjl (Kd.ru HO_9.out) hb);have BK285:=zq.mk (hbox);have GW285:=zq.mk ((by rw [hg];exact(zy bw):w.heap.size≤gb285));have GE285:=zq.mk ((by rw [hg];exact(zy bw):w.heap.size≤gb285));replace HB:=zq.mk (zt bw hb);clear hb hbox hg;obtain ⟨hcz16_0,hcz16_1,hcz16_2,hcz16_3,hcz16_4,hcz16_5,hcz16_6,hcz16_7,hfz16_0,hfz16_1,hfz16_2,hfz16_3,hfz16_4,hfz16_5,hfz16_6,hfz16_7⟩:=zqv BK285.out)|((with_reducible refine zl (f:=18) rfl ?_);refine qu (some 32) rfl rfl Tryd.func18 (by kernel_rfl) rfl #[.agg #[.int .i64 ((zg l1 x25_2).f0),.int .i64 ((zg l1 x25_2).f1.f0),.int .i64 ((zg l1 x25_2).f1.f1),.string ((zg l1 x25_2).f1.f2),.string ((zg l1 x25_2).f2),.string ((zg l1 x25_2).f3),.int .i64 ((zg l1 x25_2).f4),.slice A284_7 ((zg l1 x25_2).f5).length c284_7],.slice A283_0 (zqo l0 x19_1).length c283_0] rfl gs ?_;(with_reducible refine(zqk.calls k2 ((zg l1 x25_2).f0) ((zg l1 x25_2).f1.f0) ((zg l1 x25_2).f1.f1) ((zg l1 x25_2).f1.f2) ((zg l1 x25_2).f2) ((zg l1 x25_2).f3) ((zg l1 x25_2).f4) _ _ ((zg l1 x25_2).f5) _ _ (zqo l0 x19_1) t286 t287 t288 t289 _ ?side1 ?side2 ?side3 ?side4 A12.out).mono ?_);(case side1=>exact Kd.zqj HR284_7.out bw);(case side2=>exact HC284_7.out);(case side3=>exact Kd.zqj HR283_0.out bw);(case side4=>exact HC283_0.out);rintro e w17 ⟨rfl,hb⟩;refine⟨_,rfl,?_⟩;replace HO_6:=zq.mk (Kd.zjv (Kd.su (Kd.zj7 (Kd.zjo (p:=⟨gb285,7,none⟩) (Kd.zjo (p:=⟨gb285,6,none⟩) (Kd.zjo (p:=⟨gb285,5,none⟩) (Kd.zjo (p:=⟨gb285,4,none⟩) (Kd.zjo (p:=⟨gb285,3,none⟩) (Kd.zjo (p:=⟨gb285,2,none⟩) (Kd.zjo (p:=⟨gb285,1,none⟩) (Kd.zjo (p:=⟨gb285,0,none⟩) (Kd.S_types HO_6.out BK285.out (by decide)) (fun _ hk=>hk.2) (.int .i64 ((zg l1 x25_2).f0))) (fun _ hk=>hk.2) (.int .i64 ((zg l1 x25_2).f1.f0))) (fun _ hk=>hk.2) (.int .i64 ((zg l1 x25_2).f1.f1))) (fun _ hk=>hk.2) (.string ((zg l1 x25_2).f1.f2))) (fun _ hk=>hk.2) (.string ((zg l1 x25_2).f2))) (fun _ hk=>hk.2) (.string ((zg l1 x25_2).f3))) (fun _ hk=>hk.2) (.int .i64 ((zg l1 x25_2).f4))) (fun _ hk=>hk.2) (.slice A284_7 ((zg l1 x25_2).f5).length c284_7)) (fun _ h_=>h_.1))) hb);replace HO_9:=zq.mk (Kd.zjl (Kd.ru (Kd.zjd (Kd.zjj (p:=⟨gb285,7,none⟩) (Kd.zjj (p:=⟨gb285,6,none⟩) (Kd.zjj (p:=⟨gb285,5,none⟩) (Kd.zjj (p:=⟨gb285,4,none⟩) (Kd.zjj (p:=⟨gb285,3,none⟩) (Kd.zjj (p:=⟨gb285,2,none⟩) (Kd.zjj (p:=⟨gb285,1,none⟩) (Kd.zjj (p:=⟨gb285,0,none⟩) (Kd.zx4 HO_9.out BK285.out (by decide)) (fun _ hk=>hk.2) (.int .i64 ((zg l1 x25_2).f0))) (fun _ hk=>hk.2) (.int .i64 ((zg l1 x25_2).f1.f0))) (fun _ hk=>hk.2) (.int .i64 ((zg l1 x25_2).f1.f1))) (fun _ hk=>hk.2) (.string ((zg l1 x25_2).f1.f2))) (fun _ hk=>hk.2) (.string ((zg l1 x25_2).f2))) (fun _ hk=>hk.2) (.string ((zg l1 x25_2).f3))) (fun _ hk=>hk.2) (.int .i64 ((zg l1 x25_2).f4))) (fun _ hk=>hk.2) (.slice A284_7 ((zg l1 x25_2).f5).length c284_7)) (fun _ h_=>h_.1))) hb);replace BK285:=zq.mk (za (g:=gb285) (o:=.cells #[.int .i64 ((zg l1 x25_2).f0),.int .i64 ((zg l1 x25_2).f1.f0),.int .i64 ((zg l1 x25_2).f1.f1),.string ((zg l1 x25_2).f1.f2),.string ((zg l1 x25_2).f2),.string ((zg l1 x25_2).f3),.int .i64 ((zg l1 x25_2).f4),.slice A284_7 ((zg l1 x25_2).f5).length c284_7] 41 (0,0)) (by(with_reducible repeat(first|refine zh ?_ _|refine zc ?_|refine zv ?_ _));refine zr (cs:=#[.int .i64 ((zg l1 x25_2).f0),.int .i64 ((zg l1 x25_2).f1.f0),.int .i64 ((zg l1 x25_2).f1.f1),.string ((zg l1 x25_2).f1.f2),.string ((zg l1 x25_2).f2),.string ((zg l1 x25_2).f3),.int .i64 ((zg l1 x25_2).f4),.slice none 0 0]) ?_ 7 _ rfl;(with_reducible repeat(first|refine zh ?_ _|refine zc ?_|refine zv ?_ _));refine zr (cs:=#[.int .i64 ((zg l1 x25_2).f0),.int .i64 ((zg l1 x25_2).f1.f0),.int .i64 ((zg l1 x25_2).f1.f1),.string ((zg l1 x25_2).f1.f2),.string ((zg l1 x25_2).f2),.string ((zg l1 x25_2).f3),.int .i64 0,.slice none 0 0]) ?_ 6 _ rfl;(with_reducible repeat(first|refine zh ?_ _|refine zc ?_|refine zv ?_ _));refine zr (cs:=#[.int .i64 ((zg l1 x25_2).f0),.int .i64 ((zg l1 x25_2).f1.f0),.int .i64 ((zg l1 x25_2).f1.f1),.string ((zg l1 x25_2).f1.f2),.string ((zg l1 x25_2).f2),.string (⟨#[]⟩:ByteArray),.int .i64 0,.slice none 0 0]) ?_ 5 _ rfl;(with_reducible repeat(first|refine zh ?_ _|refine zc ?_|refine zv ?_ _));refine zr (cs:=#[.int .i64 ((zg l1 x25_2).f0),.int .i64 ((zg l1 x25_2).f1.f0),.int .i64 ((zg l1 x25_2).f1.f1),.string ((zg l1 x25_2).f1.f2),.string (⟨#[]⟩:ByteArray),.string (⟨#[]⟩:ByteArray),.int .i64 0,.slice none 0 0]) ?_ 4 _ rfl;(with_reducible repeat(first|refine zh ?_ _|refine zc ?_|refine zv ?_ _));refine zr (cs:=#[.int .i64 ((zg l1 x25_2).f0),.int .i64 ((zg l1 x25_2).f1.f0),.int .i64 ((zg l1 x25_2).f1.f1),.string (⟨#[]⟩:ByteArray),.string (⟨#[]⟩:ByteArray),.string (⟨#[]⟩:ByteArray),.int .i64 0,.slice none 0 0]) ?_ 3 _ rfl;(with_reducible repeat(first|refine zh ?_ _|refine zc ?_|refine zv ?_ _));refine zr (cs:=#[.int .i64 ((zg l1 x25_2).f0),.int .i64 ((zg l1 x25_2).f1.f0),.int .i64 0,.string (⟨#[]⟩:ByteArray),.string (⟨#[]⟩:ByteArray),.string (⟨#[]⟩:ByteArray),.int .i64 0,.slice none 0 0]) ?_ 2 _ rfl;(with_reducible repeat(first|refine zh ?_ _|refine zc ?_|refine zv ?_ _));refine zr (cs:=#[.int .i64 ((zg l1 x25_2).f0),.int .i64 0,.int .i64 0,.string (⟨#[]⟩:ByteArray),.string (⟨#[]⟩:ByteArray),.string (⟨#[]⟩:ByteArray),.int .i64 0,.slice none 0 0]) ?_ 1 _ rfl;(with_reducible repeat(first|refine zh ?_ _|refine zc ?_|refine zv ?_ _));refine zr (cs:=#[.int .i64 0,.int .i64 0,.int .i64 0,.string (⟨#[]⟩:ByteArray),.string (⟨#[]⟩:ByteArray),.string (⟨#[]⟩:ByteArray),.int .i64 0,.slice none 0 0]) ?_ 0 _ rfl;(with_reducible repeat(first|refine zh ?_ _|refine zc ?_|refine zv ?_ _));exact BK285.out) hb);replace HB:=zq.mk (zt bw hb);(try clear hb);(try clear hb2);(try clear hk);(try clear hi))|((with_reducible refine qo (N:=12) rfl ?_);refine qd ?hg (N:=12) ?hd (cs:=#[.int .i64 0,.int .i64 0,.string (⟨#[]⟩:ByteArray)]) (t:=38) ?hr ?_;(case hd=>rfl);(case hg=>rfl);(case hr=>first|(go_simp;done)|(go_simp;rfl));intro gb290 hg w18 hbox hb;replace HO_6:=zq.mk (Kd.zjv (Kd.zxx (Kd.su HO_6.out) gb290 (Nat.le_of_eq hg.symm)) hb);replace HO_9:=zq.mk (Kd.zjl (Kd.zxd (Kd.ru HO_9.out) gb290 (Nat.le_of_eq hg.symm)) hb);have BK290:=zq.mk (hbox);have GW290:=zq.mk ((by rw [hg];exact(zy bw):w.heap.size≤gb290));have GE290:=zq.mk ((by rw [hg];exact(zy bw):w.heap.size≤gb290));replace HB:=zq.mk (zt bw hb);have NB285_290:=zq.mk ((by rw [hg];exact Nat.ne_of_lt (qi (g:=gb285) (o:=.cells #[.int .i64 ((zg l1 x25_2).f0),.int .i64 ((zg l1 x25_2).f1.f0),.int .i64 ((zg l1 x25_2).f1.f1),.string ((zg l1 x25_2).f1.f2),.string ((zg l1 x25_2).f2),.string ((zg l1 x25_2).f3),.int .i64 ((zg l1 x25_2).f4),.slice A284_7 ((zg l1 x25_2).f5).length c284_7] 41 (0,0)) (up BK285.out)):gb285≠gb290));have NB290_285:=zq.mk ((by rw [hg];exact Nat.ne_of_gt (qi (g:=gb285) (o:=.cells #[.int .i64 ((zg l1 x25_2).f0),.int .i64 ((zg l1 x25_2).f1.f0),.int .i64 ((zg l1 x25_2).f1.f1),.string ((zg l1 x25_2).f1.f2),.string ((zg l1 x25_2).f2),.string ((zg l1 x25_2).f3),.int .i64 ((zg l1 x25_2).f4),.slice A284_7 ((zg l1 x25_2).f5).length c284_7] 41 (0,0)) (up BK285.out)):gb290≠gb285));replace BK285:=zq.mk (za (g:=gb285) (o:=.cells #[.int .i64 ((zg l1 x25_2).f0),.int .i64 ((zg l1 x25_2).f1.f0),.int .i64 ((zg l1 x25_2).f1.f1),.string ((zg l1 x25_2).f1.f2),.string ((zg l1 x25_2).f2),.string ((zg l1 x25_2).f3),.int .i64 ((zg l1 x25_2).f4),.slice A284_7 ((zg l1 x25_2).f5).length c284_7] 41 (0,0)) (up BK285.out) hb);clear hb hbox hg;have hnb19:=NB290_285.out;have hnc19:=NB285_290.out;obtain ⟨hcz20_0,hcz20_1,hcz20_2,hfz20_0,hfz20_1,hfz20_2⟩:=zb BK290.out)|((with_reducible refine zxb (b:=.append) (xs:=#[.tmp 38,.tmp 40]) rfl ?_);at_builtin;refine Kd.R_append k38 (w0:=w) w.heap.size rfl (.tmp 38) (.tmp 40) 23 38 (.agg #[(.int .i64 0),(.int .i64 0),(.string ⟨#[]⟩)]) 32 rfl Tryd.underlying23 info38 rfl (by decide) (by omega) u9 x9_2 (⟨t286,t287,t288⟩:S38) [.int .i64 t286,.int .i64 t287,.string t288] (fun k_=>k_≠gb290) (fun _=>False) rfl (by first|(go_simp;done)|(go_simp;rfl)) ?aP (fun _ hk=>hk.elim) ?aF ?aO ?aB ?aS ?aL ?_;(case aP=>exact zx2 _ _ _ (⟨t286,t287,t288⟩:S38));(case aB=>exact bw);(case aF=>exact(fun k_ hk=>Kd.freshB (g:=gb290) (o:=.cells #[.int .i64 t286,.int .i64 t287,.string t288] 38 (0,0)) (by(with_reducible repeat(first|refine zh ?_ _|refine zc ?_|refine zv ?_ _));refine zr (cs:=#[.int .i64 t286,.int .i64 t287,.string (⟨#[]⟩:ByteArray)]) ?_ 2 _ rfl;(with_reducible repeat(first|refine zh ?_ _|refine zc ?_|refine zv ?_ _));refine zr (cs:=#[.int .i64 t286,.int .i64 0,.string (⟨#[]⟩:ByteArray)]) ?_ 1 _ rfl;(with_reducible repeat(first|refine zh ?_ _|refine zc ?_|refine zv ?_ _));refine zr (cs:=#[.int .i64 0,.int .i64 0,.string (⟨#[]⟩:ByteArray)]) ?_ 0 _ rfl;(with_reducible repeat(first|refine zh ?_ _|refine zc ?_|refine zv ?_ _));exact BK290.out) k_ hk));(case aO=>exact(Kd.ru (Kd.zjd (Kd.zjj (p:=⟨gb290,2,none⟩) (Kd.zjj (p:=⟨gb290,1,none⟩) (Kd.zjj (p:=⟨gb290,0,none⟩) (Kd.zjd HO_9.out (fun k_ hk=>(⟨hk,hk.2⟩:_∧k_≠gb290))) (fun _ hk=>hk.2) (.int .i64 t286)) (fun _ hk=>hk.2) (.int .i64 t287)) (fun _ hk=>hk.2) (.string t288)) (fun _ hk=>hk.1.2))));(case aS=>exact(zy bw));(case aL=>have:=LMc14.out;omega);intro v292 w21 ho hb hg hat;rw [← Ny291.out] at ho;replace HO_6:=zq.mk (Kd.S_after (ok:=(fun k_=>k_≠gb290)) (Kd.su (Kd.zj7 (Kd.zjo (p:=⟨gb290,2,none⟩) (Kd.zjo (p:=⟨gb290,1,none⟩) (Kd.zjo (p:=⟨gb290,0,none⟩) (Kd.zj7 HO_6.out (fun k_ hk=>(⟨hk,hk.2⟩:_∧k_≠gb290))) (fun _ hk=>hk.2) (.int .i64 t286)) (fun _ hk=>hk.2) (.int .i64 t287)) (fun _ hk=>hk.2) (.string t288)) (fun _ hk=>⟨hk.1.2,hk.1.1⟩))) hg hat);replace BK285:=zq.mk (zxp (g:=gb285) (o:=.cells #[.int .i64 ((zg l1 x25_2).f0),.int .i64 ((zg l1 x25_2).f1.f0),.int .i64 ((zg l1 x25_2).f1.f1),.string ((zg l1 x25_2).f1.f2),.string ((zg l1 x25_2).f2),.string ((zg l1 x25_2).f3),.int .i64 ((zg l1 x25_2).f4),.slice A284_7 ((zg l1 x25_2).f5).length c284_7] 41 (0,0)) (by(with_reducible repeat(first|refine zh ?_ _|refine zc ?_|refine zv ?_ _));refine zqy ?_ NB285_290.out _;(with_reducible repeat(first|refine zh ?_ _|refine zc ?_|refine zv ?_ _));refine zqy ?_ NB285_290.out _;(with_reducible repeat(first|refine zh ?_ _|refine zc ?_|refine zv ?_ _));refine zqy ?_ NB285_290.out _;(with_reducible repeat(first|refine zh ?_ _|refine zc ?_|refine zv ?_ _));exact BK285.out) hg (Kd.R_ne HO_9.out BK285.out (by decide)));replace BK290:=zq.mk (zxp (g:=gb290) (o:=.cells #[.int .i64 t286,.int .i64 t287,.string t288] 38 (0,0)) (by(with_reducible repeat(first|refine zh ?_ _|refine zc ?_|refine zv ?_ _));refine zr (cs:=#[.int .i64 t286,.int .i64 t287,.string (⟨#[]⟩:ByteArray)]) ?_ 2 _ rfl;(with_reducible repeat(first|refine zh ?_ _|refine zc ?_|refine zv ?_ _));refine zr (cs:=#[.int .i64 t286,.int .i64 0,.string (⟨#[]⟩:ByteArray)]) ?_ 1 _ rfl;(with_reducible repeat(first|refine zh ?_ _|refine zc ?_|refine zv ?_ _));refine zr (cs:=#[.int .i64 0,.int .i64 0,.string (⟨#[]⟩:ByteArray)]) ?_ 0 _ rfl;(with_reducible repeat(first|refine zh ?_ _|refine zc ?_|refine zv ?_ _));exact BK290.out) hg (Kd.R_away HO_9.out (fun _ hk=>hk.2)));replace HB:=zq.mk (hb);have HO293:=zq.mk (ho);clear HO_9 ho hb hg hat))
              go_roundg k2
              case measure=>have:=HK1.out;have:=HK2.out;omega
              case rel=>exact⟨(y291),(wrap64 (x25_2+1)),vr,H',⟨by have:=HK1.out;have:=HK2.out;omega⟩,⟨by(with_reducible repeat(first|apply Kd.zxj|apply Kd.zxi|apply Kd.zxv));exact Kd.zj7 HO_6.out (fun _ hk=>hk.2)⟩,⟨by(with_reducible repeat(first|apply Kd.zx7|apply Kd.zx6|apply Kd.R_drew));exact Kd.zjd HO293.out (fun _ hk=>trivial)⟩,⟨bw⟩⟩
             rw [if_neg c14] at H
             exact absurd H (by simp)
            rw [if_neg c13] at H
            have c13b0:(t289 == 0)=false:=beq_eq_false_iff_ne.mpr c13
            have c13b1:(t289 != 0)=true:=bne_iff_ne.mpr c13
            simp only [Option.some.injEq,Prod.mk.injEq] at H
            obtain ⟨rfl,rfl⟩:=H
            have p284:0≤(x25_2:Int):=dt
            have q284:x25_2<(l1.length:Int):=dt
            obtain ⟨ad284,A284_7,c284_7,e284,hx284_0,hx284_1,hx284_2,hx284_3,hx284_4,hx284_5,hx284_6,hx284_7,hl284_7,hi284_7⟩:=zxh HR1.out x25_2 p284 q284
            cases e284
            replace hx284_0:=(HB.out.cell (World.block_lt_of_cell? w _ hx284_0)).trans hx284_0
            replace hx284_1:=(HB.out.cell (World.block_lt_of_cell? w _ hx284_1)).trans hx284_1
            replace hx284_2:=(HB.out.cell (World.block_lt_of_cell? w _ hx284_2)).trans hx284_2
            replace hx284_3:=(HB.out.cell (World.block_lt_of_cell? w _ hx284_3)).trans hx284_3
            replace hx284_4:=(HB.out.cell (World.block_lt_of_cell? w _ hx284_4)).trans hx284_4
            replace hx284_5:=(HB.out.cell (World.block_lt_of_cell? w _ hx284_5)).trans hx284_5
            replace hx284_6:=(HB.out.cell (World.block_lt_of_cell? w _ hx284_6)).trans hx284_6
            replace hx284_7:=(HB.out.cell (World.block_lt_of_cell? w _ hx284_7)).trans hx284_7
            have HR284_7:=zq.mk hi284_7
            have HC284_7:=zq.mk hl284_7
            clear hi284_7 hl284_7
            replace p284:=eq_true p284
            replace q284:=eq_true q284
            go_wp2_with (first|((with_reducible refine qo (N:=11) rfl ?_);refine qd ?hg (N:=11) ?hd (cs:=#[.int .i64 0,.int .i64 0,.int .i64 0,.string (⟨#[]⟩:ByteArray),.string (⟨#[]⟩:ByteArray),.string (⟨#[]⟩:ByteArray),.int .i64 0,.slice none 0 0]) (t:=41) ?hr ?_;(case hd=>rfl);(case hg=>rfl);(case hr=>first|(go_simp;done)|(go_simp;rfl));intro gb285 hg w22 hbox hb;replace HO_6:=zq.mk (Kd.zjv (Kd.su HO_6.out) hb);replace HO_9:=zq.mk (Kd.zjl (Kd.ru HO_9.out) hb);have BK285:=zq.mk (hbox);have GW285:=zq.mk ((by rw [hg];exact(zy bw):w.heap.size≤gb285));have GE285:=zq.mk ((by rw [hg];exact(zy bw):w.heap.size≤gb285));replace HB:=zq.mk (zt bw hb);clear hb hbox hg;obtain ⟨hcz23_0,hcz23_1,hcz23_2,hcz23_3,hcz23_4,hcz23_5,hcz23_6,hcz23_7,hfz23_0,hfz23_1,hfz23_2,hfz23_3,hfz23_4,hfz23_5,hfz23_6,hfz23_7⟩:=zqv BK285.out)|((with_reducible refine zl (f:=18) rfl ?_);refine qu (some 32) rfl rfl Tryd.func18 (by kernel_rfl) rfl #[.agg #[.int .i64 ((zg l1 x25_2).f0),.int .i64 ((zg l1 x25_2).f1.f0),.int .i64 ((zg l1 x25_2).f1.f1),.string ((zg l1 x25_2).f1.f2),.string ((zg l1 x25_2).f2),.string ((zg l1 x25_2).f3),.int .i64 ((zg l1 x25_2).f4),.slice A284_7 ((zg l1 x25_2).f5).length c284_7],.slice A283_0 (zqo l0 x19_1).length c283_0] rfl gs ?_;(with_reducible refine(zqk.calls k2 ((zg l1 x25_2).f0) ((zg l1 x25_2).f1.f0) ((zg l1 x25_2).f1.f1) ((zg l1 x25_2).f1.f2) ((zg l1 x25_2).f2) ((zg l1 x25_2).f3) ((zg l1 x25_2).f4) _ _ ((zg l1 x25_2).f5) _ _ (zqo l0 x19_1) t286 t287 t288 t289 _ ?side1 ?side2 ?side3 ?side4 A12.out).mono ?_);(case side1=>exact Kd.zqj HR284_7.out bw);(case side2=>exact HC284_7.out);(case side3=>exact Kd.zqj HR283_0.out bw);(case side4=>exact HC283_0.out);rintro e w24 ⟨rfl,hb⟩;refine⟨_,rfl,?_⟩;replace HO_6:=zq.mk (Kd.zjv (Kd.su (Kd.zj7 (Kd.zjo (p:=⟨gb285,7,none⟩) (Kd.zjo (p:=⟨gb285,6,none⟩) (Kd.zjo (p:=⟨gb285,5,none⟩) (Kd.zjo (p:=⟨gb285,4,none⟩) (Kd.zjo (p:=⟨gb285,3,none⟩) (Kd.zjo (p:=⟨gb285,2,none⟩) (Kd.zjo (p:=⟨gb285,1,none⟩) (Kd.zjo (p:=⟨gb285,0,none⟩) (Kd.S_types HO_6.out BK285.out (by decide)) (fun _ hk=>hk.2) (.int .i64 ((zg l1 x25_2).f0))) (fun _ hk=>hk.2) (.int .i64 ((zg l1 x25_2).f1.f0))) (fun _ hk=>hk.2) (.int .i64 ((zg l1 x25_2).f1.f1))) (fun _ hk=>hk.2) (.string ((zg l1 x25_2).f1.f2))) (fun _ hk=>hk.2) (.string ((zg l1 x25_2).f2))) (fun _ hk=>hk.2) (.string ((zg l1 x25_2).f3))) (fun _ hk=>hk.2) (.int .i64 ((zg l1 x25_2).f4))) (fun _ hk=>hk.2) (.slice A284_7 ((zg l1 x25_2).f5).length c284_7)) (fun _ h_=>h_.1))) hb);replace HO_9:=zq.mk (Kd.zjl (Kd.ru (Kd.zjd (Kd.zjj (p:=⟨gb285,7,none⟩) (Kd.zjj (p:=⟨gb285,6,none⟩) (Kd.zjj (p:=⟨gb285,5,none⟩) (Kd.zjj (p:=⟨gb285,4,none⟩) (Kd.zjj (p:=⟨gb285,3,none⟩) (Kd.zjj (p:=⟨gb285,2,none⟩) (Kd.zjj (p:=⟨gb285,1,none⟩) (Kd.zjj (p:=⟨gb285,0,none⟩) (Kd.zx4 HO_9.out BK285.out (by decide)) (fun _ hk=>hk.2) (.int .i64 ((zg l1 x25_2).f0))) (fun _ hk=>hk.2) (.int .i64 ((zg l1 x25_2).f1.f0))) (fun _ hk=>hk.2) (.int .i64 ((zg l1 x25_2).f1.f1))) (fun _ hk=>hk.2) (.string ((zg l1 x25_2).f1.f2))) (fun _ hk=>hk.2) (.string ((zg l1 x25_2).f2))) (fun _ hk=>hk.2) (.string ((zg l1 x25_2).f3))) (fun _ hk=>hk.2) (.int .i64 ((zg l1 x25_2).f4))) (fun _ hk=>hk.2) (.slice A284_7 ((zg l1 x25_2).f5).length c284_7)) (fun _ h_=>h_.1))) hb);replace BK285:=zq.mk (za (g:=gb285) (o:=.cells #[.int .i64 ((zg l1 x25_2).f0),.int .i64 ((zg l1 x25_2).f1.f0),.int .i64 ((zg l1 x25_2).f1.f1),.string ((zg l1 x25_2).f1.f2),.string ((zg l1 x25_2).f2),.string ((zg l1 x25_2).f3),.int .i64 ((zg l1 x25_2).f4),.slice A284_7 ((zg l1 x25_2).f5).length c284_7] 41 (0,0)) (by(with_reducible repeat(first|refine zh ?_ _|refine zc ?_|refine zv ?_ _));refine zr (cs:=#[.int .i64 ((zg l1 x25_2).f0),.int .i64 ((zg l1 x25_2).f1.f0),.int .i64 ((zg l1 x25_2).f1.f1),.string ((zg l1 x25_2).f1.f2),.string ((zg l1 x25_2).f2),.string ((zg l1 x25_2).f3),.int .i64 ((zg l1 x25_2).f4),.slice none 0 0]) ?_ 7 _ rfl;(with_reducible repeat(first|refine zh ?_ _|refine zc ?_|refine zv ?_ _));refine zr (cs:=#[.int .i64 ((zg l1 x25_2).f0),.int .i64 ((zg l1 x25_2).f1.f0),.int .i64 ((zg l1 x25_2).f1.f1),.string ((zg l1 x25_2).f1.f2),.string ((zg l1 x25_2).f2),.string ((zg l1 x25_2).f3),.int .i64 0,.slice none 0 0]) ?_ 6 _ rfl;(with_reducible repeat(first|refine zh ?_ _|refine zc ?_|refine zv ?_ _));refine zr (cs:=#[.int .i64 ((zg l1 x25_2).f0),.int .i64 ((zg l1 x25_2).f1.f0),.int .i64 ((zg l1 x25_2).f1.f1),.string ((zg l1 x25_2).f1.f2),.string ((zg l1 x25_2).f2),.string (⟨#[]⟩:ByteArray),.int .i64 0,.slice none 0 0]) ?_ 5 _ rfl;(with_reducible repeat(first|refine zh ?_ _|refine zc ?_|refine zv ?_ _));refine zr (cs:=#[.int .i64 ((zg l1 x25_2).f0),.int .i64 ((zg l1 x25_2).f1.f0),.int .i64 ((zg l1 x25_2).f1.f1),.string ((zg l1 x25_2).f1.f2),.string (⟨#[]⟩:ByteArray),.string (⟨#[]⟩:ByteArray),.int .i64 0,.slice none 0 0]) ?_ 4 _ rfl;(with_reducible repeat(first|refine zh ?_ _|refine zc ?_|refine zv ?_ _));refine zr (cs:=#[.int .i64 ((zg l1 x25_2).f0),.int .i64 ((zg l1 x25_2).f1.f0),.int .i64 ((zg l1 x25_2).f1.f1),.string (⟨#[]⟩:ByteArray),.string (⟨#[]⟩:ByteArray),.string (⟨#[]⟩:ByteArray),.int .i64 0,.slice none 0 0]) ?_ 3 _ rfl;(with_reducible repeat(first|refine zh ?_ _|refine zc ?_|refine zv ?_ _));refine zr (cs:=#[.int .i64 ((zg l1 x25_2).f0),.int .i64 ((zg l1 x25_2).f1.f0),.int .i64 0,.string (⟨#[]⟩:ByteArray),.string (⟨#[]⟩:ByteArray),.string (⟨#[]⟩:ByteArray),.int .i64 0,.slice none 0 0]) ?_ 2 _ rfl;(with_reducible repeat(first|refine zh ?_ _|refine zc ?_|refine zv ?_ _));refine zr (cs:=#[.int .i64 ((zg l1 x25_2).f0),.int .i64 0,.int .i64 0,.string (⟨#[]⟩:ByteArray),.string (⟨#[]⟩:ByteArray),.string (⟨#[]⟩:ByteArray),.int .i64 0,.slice none 0 0]) ?_ 1 _ rfl;(with_reducible repeat(first|refine zh ?_ _|refine zc ?_|refine zv ?_ _));refine zr (cs:=#[.int .i64 0,.int .i64 0,.int .i64 0,.string (⟨#[]⟩:ByteArray),.string (⟨#[]⟩:ByteArray),.string (⟨#[]⟩:ByteArray),.int .i64 0,.slice none 0 0]) ?_ 0 _ rfl;(with_reducible repeat(first|refine zh ?_ _|refine zc ?_|refine zv ?_ _));exact BK285.out) hb);replace HB:=zq.mk (zt bw hb);(try clear hb);(try clear hb2);(try clear hk);(try clear hi))|((with_reducible refine qo (N:=12) rfl ?_);refine qd ?hg (N:=12) ?hd (cs:=#[.int .i64 0,.int .i64 0,.string (⟨#[]⟩:ByteArray)]) (t:=38) ?hr ?_;(case hd=>rfl);(case hg=>rfl);(case hr=>first|(go_simp;done)|(go_simp;rfl));intro gb290 hg w25 hbox hb;replace HO_6:=zq.mk (Kd.zjv (Kd.zxx (Kd.su HO_6.out) gb290 (Nat.le_of_eq hg.symm)) hb);replace HO_9:=zq.mk (Kd.zjl (Kd.zxd (Kd.ru HO_9.out) gb290 (Nat.le_of_eq hg.symm)) hb);have BK290:=zq.mk (hbox);have GW290:=zq.mk ((by rw [hg];exact(zy bw):w.heap.size≤gb290));have GE290:=zq.mk ((by rw [hg];exact(zy bw):w.heap.size≤gb290));replace HB:=zq.mk (zt bw hb);have NB285_290:=zq.mk ((by rw [hg];exact Nat.ne_of_lt (qi (g:=gb285) (o:=.cells #[.int .i64 ((zg l1 x25_2).f0),.int .i64 ((zg l1 x25_2).f1.f0),.int .i64 ((zg l1 x25_2).f1.f1),.string ((zg l1 x25_2).f1.f2),.string ((zg l1 x25_2).f2),.string ((zg l1 x25_2).f3),.int .i64 ((zg l1 x25_2).f4),.slice A284_7 ((zg l1 x25_2).f5).length c284_7] 41 (0,0)) (up BK285.out)):gb285≠gb290));have NB290_285:=zq.mk ((by rw [hg];exact Nat.ne_of_gt (qi (g:=gb285) (o:=.cells #[.int .i64 ((zg l1 x25_2).f0),.int .i64 ((zg l1 x25_2).f1.f0),.int .i64 ((zg l1 x25_2).f1.f1),.string ((zg l1 x25_2).f1.f2),.string ((zg l1 x25_2).f2),.string ((zg l1 x25_2).f3),.int .i64 ((zg l1 x25_2).f4),.slice A284_7 ((zg l1 x25_2).f5).length c284_7] 41 (0,0)) (up BK285.out)):gb290≠gb285));replace BK285:=zq.mk (za (g:=gb285) (o:=.cells #[.int .i64 ((zg l1 x25_2).f0),.int .i64 ((zg l1 x25_2).f1.f0),.int .i64 ((zg l1 x25_2).f1.f1),.string ((zg l1 x25_2).f1.f2),.string ((zg l1 x25_2).f2),.string ((zg l1 x25_2).f3),.int .i64 ((zg l1 x25_2).f4),.slice A284_7 ((zg l1 x25_2).f5).length c284_7] 41 (0,0)) (up BK285.out) hb);clear hb hbox hg;have hnb26:=NB290_285.out;have hnc26:=NB285_290.out;obtain ⟨hcz27_0,hcz27_1,hcz27_2,hfz27_0,hfz27_1,hfz27_2⟩:=zb BK290.out))
            go_ret2
            exact⟨_,by first|rfl|(simp [zx,zj] <;> rfl)|(simp [*,zx,zj] <;> rfl),by first|exact Kd.S_nil _ _ _ _ _|exact Kd.N_nil _ _ _ _ _|exact Kd.V_nil _ _ _ _ _|exact Kd.Q_nil _ _ _ _ _|exact Kd.zx5 _ _ _ _ _,bw⟩
           rw [if_neg c11] at H
           exact absurd H (by simp)
          rw [if_neg c10] at H
          exact absurd H (by simp)
         rw [if_neg c9] at H
         have c9b0:=decide_eq_false c9
         clear c9
         by_cases c28:x6_1.length<5864062014805
         ·rw [if_pos c28] at H
          have LMc28:=zq.mk c28
          clear c28
          obtain ⟨y294,hy294⟩:∃ y_:List (List (S38)),y_=(x6_1 ++ [x9_2]):=⟨_,rfl⟩
          replace H:(zi.l0 k2 l1 y294 l0 (l0.length:Int) (wrap64 (x19_1+1)))=some (r1,r2):=by first|(rw [hy294];with_reducible exact H)|(have H2_:=(Option.bind_some _ _).symm.trans H;rw [hy294];with_reducible exact H2_)|(have H2_:=(Option.bind_some _ _).symm.trans H;with_reducible exact H2_)|with_reducible exact H|(rw [hy294];exact H)|exact H
          have Ny294:=zq.mk hy294
          clear hy294
          have H':=zq.mk H
          clear H
          obtain ⟨Ao30,co30,eo30⟩:=Kd.R_slice HO_9.out
          subst eo30
          go_wp2_with (first|((with_reducible refine zxb (b:=.append) (xs:=#[.tmp 43,.tmp 45]) rfl ?_);at_builtin;refine Kd.S_append (Kd.slice 38 k38) (w0:=w) w.heap.size rfl (.tmp 43) (.tmp 45) 48 23 (.slice none 0 0) 24 rfl Tryd.underlying48 info23 rfl (by decide) (by omega) u6 x6_1 x9_2 [.slice Ao30 x9_2.length co30] (fun _=>True) (fun k_=>some k_=(.slice Ao30 x9_2.length co30:Value).ownBlock) rfl rfl ?aP (fun k_ hk_=>((Kd.zjd (ok':=fun k_=>((fun _=>True)) k_∧some k_≠(u6:Value).ownBlock) (Kd.zxy (HO_9.out) (Kd.S_typed HO_6.out) (by decide)) (fun k_ hk=>⟨trivial,hk.2⟩))).1 k_ hk_.symm) ?aF ?aO ?aB ?aS ?aL ?_;(case aP=>exact Kd.M_row (Kd.zjd (Kd.R_tight rfl (Kd.zjd (ok':=fun k_=>((fun _=>True)) k_∧some k_≠(u6:Value).ownBlock) (Kd.zxy (HO_9.out) (Kd.S_typed HO_6.out) (by decide)) (fun k_ hk=>⟨trivial,hk.2⟩))) (fun _ h_=>h_)));(case aB=>exact bw);(case aF=>exact(fun _ _=>trivial));(case aO=>exact(Kd.su (Kd.zj7 HO_6.out (fun k_ hk=>⟨trivial,fun e_=>hk e_⟩))));(case aS=>exact(zy bw));(case aL=>have:=LMc28.out;omega);intro v295 w29 ho hb hg hat;rw [← Ny294.out] at ho;replace HB:=zq.mk (hb);have HO296:=zq.mk (ho);clear HO_6 HO_9 ho hb hg hat))
          go_roundg k2
          case measure=>have:=HK1.out;have:=HK2.out;omega
          case rel=>exact⟨(y294),(wrap64 (x19_1+1)),vr,H',⟨by have:=HK1.out;have:=HK2.out;omega⟩,⟨by(with_reducible repeat(first|apply Kd.zxj|apply Kd.zxi|apply Kd.zxv));exact HO296.out⟩,⟨bw⟩⟩
         rw [if_neg c28] at H
         exact absurd H (by simp)
      rw [if_neg c8] at H
      exact absurd H (by simp)
     rw [if_neg c7] at H
     exact absurd H (by simp)
    rw [if_neg c6] at H
    have c6b0:=decide_eq_false c6
    clear c6
    simp only [Option.some.injEq,Prod.mk.injEq] at H
    obtain ⟨rfl,rfl⟩:=H
    go_wp2
    go_ret2
    exact⟨_,by first|rfl|(simp [zx,zj] <;> rfl)|(simp [*,zx,zj] <;> rfl),by(with_reducible repeat(first|apply Kd.zxj|apply Kd.zxi|apply Kd.zxv));exact HO_6.out,bw⟩
 replace c4:=Bool.eq_false_iff.mpr c4
 subst c4
 rw [if_neg (show ¬ (false=true) by decide)] at H
 simp only [Option.some.injEq,Prod.mk.injEq] at H
 obtain ⟨rfl,rfl⟩:=H
 go_enter Tryd.func25,Tryd.ntmps25
 go_wp2_with (first|((with_reducible refine zl (f:=52) rfl ?_);refine qu (some 15) rfl rfl Tryd.func52 (by kernel_rfl) rfl #[.slice A0 l0.length c0] rfl gs ?_;(with_reducible refine(qm.calls k _ _ l0 false _ ?side1 ?side2 A3.out).mono ?_);(case side1=>exact Kd.cu HR0.out);(case side2=>exact HC0.out);rintro e w31 ⟨rfl,hb⟩;refine⟨_,rfl,?_⟩;replace HB:=zq.mk (zt bw hb);(try clear hb);(try clear hb2);(try clear hk);(try clear hi)))
 go_ret2
 exact⟨_,by first|rfl|(simp [zx,zj] <;> rfl)|(simp [*,zx,zj] <;> rfl),by first|exact Kd.S_nil _ _ _ _ _|exact Kd.N_nil _ _ _ _ _|exact Kd.V_nil _ _ _ _ _|exact Kd.Q_nil _ _ _ _ _|exact Kd.zx5 _ _ _ _ _,bw⟩

/-! ### commonholdlaw_RelProjects: function 8 -/
def commonholdlaw_RelProjects.f (k:Nat) (l0:List (List (S38))) (l1:List (S41)):Option (Bool):=(zqg.f k l0 l1).bind fun bt297=>((zi.f k l0 l1).bind fun bt301=>((qn.f k bt297.1 bt301.1).bind fun t305=>(if t305=true then(some (bt297.2 == bt301.2)) else (some false))))
theorem commonholdlaw_RelProjects.mono:∀ a0 a1 k,LeO (commonholdlaw_RelProjects.f k a0 a1) (commonholdlaw_RelProjects.f (k+1) a0 a1):=by
 intro a0 a1 k
 unfold commonholdlaw_RelProjects.f
 repeat' first
   | (with_reducible first|exact qn.mono _ _ _|exact zi.mono _ _ _|exact zqg.mono _ _ _|exact LeO.refl _|exact LeO.none _|refine LeO.ite ?_ ?_|refine LeO.bind ?_ (fun _=>?_))
   | exact qn.mono _ _ _
   | exact zi.mono _ _ _
   | exact zqg.mono _ _ _
   | exact LeO.none _
   | refine LeO.ite ?_ ?_
   | refine LeO.bind ?_ (fun _=>?_)
set_option maxHeartbeats 8000000 in
set_option maxRecDepth 100000 in
theorem commonholdlaw_RelProjects.calls (k:Nat) (A0:Option Addr) (c0:Nat) (l0:List (List (S38))) (A1:Option Addr) (c1:Nat) (l1:List (S41)) (r:Bool) (w:World) (hr0:Kd.C (Kd.slice 38 k38) w A0 l0.length l0) (hc0:l0.length≤c0) (hr1:Kd.C k41 w A1 l1.length l1) (hc1:l1.length≤c1) (hL:LD w) (h:commonholdlaw_RelProjects.f k l0 l1=some r) :
  Calls Tryd.prog 8 #[.slice A0 l0.length c0,.slice A1 l1.length c1] w fun e w'=>e = .returned (.bool r)∧Below w.heap.size w w':=by
 have HLD:=zq.mk hL
 clear hL
 have HR0:=zq.mk hr0
 have HC0:=zq.mk hc0
 clear hr0 hc0
 have HR1:=zq.mk hr1
 have HC1:=zq.mk hc1
 clear hr1 hc1
 have HB:=zq.mk (Below.refl w.heap.size w)
 have H:((zqg.f k l0 l1).bind fun bt297=>((zi.f k l0 l1).bind fun bt301=>((qn.f k bt297.1 bt301.1).bind fun t305=>(if t305=true then(some (bt297.2 == bt301.2)) else (some false)))))=some r:=h
 clear h
 replace H:=Option.bind_eq_some_iff.mp H
 obtain ⟨⟨t297,t298⟩,A30,H⟩:=H
 replace H:((zi.f k l0 l1).bind fun bt301=>((qn.f k t297 bt301.1).bind fun t305=>(if t305=true then(some (t298 == bt301.2)) else (some false))))=some r:=H
 have A3:=zq.mk A30
 clear A30
 replace H:=Option.bind_eq_some_iff.mp H
 obtain ⟨⟨t301,t302⟩,A40,H⟩:=H
 replace H:((qn.f k t297 t301).bind fun t305=>(if t305=true then(some (t298 == t302)) else (some false)))=some r:=H
 have A4:=zq.mk A40
 clear A40
 replace H:=Option.bind_eq_some_iff.mp H
 obtain ⟨t305,A50,H⟩:=H
 replace H:(if t305=true then(some (t298 == t302)) else (some false))=some r:=H
 have A5:=zq.mk A50
 clear A50
 by_cases c6:t305=true
 ·subst c6
  rw [if_pos rfl] at H
  obtain rfl:=Option.some.inj H
  go_enter Tryd.func8,Tryd.ntmps8
  go_wp2_with (first|((with_reducible refine zl (f:=24) rfl ?_);refine qu (some 12) rfl rfl Tryd.func24 (by kernel_rfl) rfl #[.slice A0 l0.length c0,.slice A1 l1.length c1] rfl gs ?_;(with_reducible refine(zqg.calls k _ _ l0 _ _ l1 t297 t298 _ ?side1 ?side2 ?side3 ?side4 ?side5 A3.out).mono ?_);(case side1=>exact Kd.cu HR0.out);(case side2=>exact HC0.out);(case side3=>exact Kd.cu HR1.out);(case side4=>exact HC1.out);(case side5=>exact LD.below HLD.out (by first|(with_reducible exact Below.refl _ _)|((repeat(first|(with_reducible exact Below.refl _ _)|(with_reducible apply zp)|(with_reducible apply qc)|(with_reducible apply zqa)));done)|exact bw));rintro e w7 ⟨v299,rfl,ho0,hb⟩;refine⟨_,rfl,?_⟩;have HO300:=zq.mk (Kd.S_lower ho0 (zy bw));replace HB:=zq.mk (zt bw hb);(try clear hb);(try clear hb2);(try clear hk);(try clear hi);(try clear ho0))|((with_reducible refine zl (f:=25) rfl ?_);refine qu (some 18) rfl rfl Tryd.func25 (by kernel_rfl) rfl #[.slice A0 l0.length c0,.slice A1 l1.length c1] rfl gs ?_;(with_reducible refine(zi.calls k _ _ l0 _ _ l1 t301 t302 _ ?side1 ?side2 ?side3 ?side4 A4.out).mono ?_);(case side1=>exact Kd.cu (Kd.zqj HR0.out HB.out));(case side2=>exact HC0.out);(case side3=>exact Kd.cu (Kd.zqj HR1.out HB.out));(case side4=>exact HC1.out);rintro e w8 ⟨v303,rfl,ho0,hb⟩;refine⟨_,rfl,?_⟩;have HO304:=zq.mk (Kd.S_lower (Kd.S_new' ho0 (Kd.S_lt (Kd.su HO300.out))) (zy bw));replace HO300:=zq.mk (Kd.S_elder' (Kd.su HO300.out) (Kd.S_base ho0) hb);replace HB:=zq.mk (zt bw hb);(try clear hb);(try clear hb2);(try clear hk);(try clear hi);(try clear ho0);obtain ⟨Ao9,co9,eo9⟩:=Kd.S_slice HO300.out;subst eo9;obtain ⟨Ao10,co10,eo10⟩:=Kd.S_slice HO304.out;subst eo10)|((with_reducible refine zl (f:=23) rfl ?_);refine qu (some 23) rfl rfl Tryd.func23 (by kernel_rfl) rfl #[.slice Ao9 t297.length co9,.slice Ao10 t301.length co10] rfl gs ?_;(with_reducible refine(qn.calls k _ _ t297 _ _ t301 true _ ?side1 ?side2 ?side3 ?side4 A5.out).mono ?_);(case side1=>exact Kd.cu (Kd.zxc HO300.out).2.2);(case side2=>exact(Kd.zxc HO300.out).2.1);(case side3=>exact Kd.cu (Kd.zxc HO304.out).2.2);(case side4=>exact(Kd.zxc HO304.out).2.1);rintro e w' ⟨rfl,⟨nd,rfl⟩⟩;refine⟨_,rfl,?_⟩))
  go_ret
  exact⟨by first|rfl|(simp [zx,zj] <;> rfl)|(simp [*,zx,zj] <;> rfl),bw⟩
 replace c6:=Bool.eq_false_iff.mpr c6
 subst c6
 rw [if_neg (show ¬ (false=true) by decide)] at H
 obtain rfl:=Option.some.inj H
 go_enter Tryd.func8,Tryd.ntmps8
 go_wp2_with (first|((with_reducible refine zl (f:=24) rfl ?_);refine qu (some 12) rfl rfl Tryd.func24 (by kernel_rfl) rfl #[.slice A0 l0.length c0,.slice A1 l1.length c1] rfl gs ?_;(with_reducible refine(zqg.calls k _ _ l0 _ _ l1 t297 t298 _ ?side1 ?side2 ?side3 ?side4 ?side5 A3.out).mono ?_);(case side1=>exact Kd.cu HR0.out);(case side2=>exact HC0.out);(case side3=>exact Kd.cu HR1.out);(case side4=>exact HC1.out);(case side5=>exact LD.below HLD.out (by first|(with_reducible exact Below.refl _ _)|((repeat(first|(with_reducible exact Below.refl _ _)|(with_reducible apply zp)|(with_reducible apply qc)|(with_reducible apply zqa)));done)|exact bw));rintro e w11 ⟨v299,rfl,ho0,hb⟩;refine⟨_,rfl,?_⟩;have HO300:=zq.mk (Kd.S_lower ho0 (zy bw));replace HB:=zq.mk (zt bw hb);(try clear hb);(try clear hb2);(try clear hk);(try clear hi);(try clear ho0))|((with_reducible refine zl (f:=25) rfl ?_);refine qu (some 18) rfl rfl Tryd.func25 (by kernel_rfl) rfl #[.slice A0 l0.length c0,.slice A1 l1.length c1] rfl gs ?_;(with_reducible refine(zi.calls k _ _ l0 _ _ l1 t301 t302 _ ?side1 ?side2 ?side3 ?side4 A4.out).mono ?_);(case side1=>exact Kd.cu (Kd.zqj HR0.out HB.out));(case side2=>exact HC0.out);(case side3=>exact Kd.cu (Kd.zqj HR1.out HB.out));(case side4=>exact HC1.out);rintro e w12 ⟨v303,rfl,ho0,hb⟩;refine⟨_,rfl,?_⟩;have HO304:=zq.mk (Kd.S_lower (Kd.S_new' ho0 (Kd.S_lt (Kd.su HO300.out))) (zy bw));replace HO300:=zq.mk (Kd.S_elder' (Kd.su HO300.out) (Kd.S_base ho0) hb);replace HB:=zq.mk (zt bw hb);(try clear hb);(try clear hb2);(try clear hk);(try clear hi);(try clear ho0);obtain ⟨Ao13,co13,eo13⟩:=Kd.S_slice HO300.out;subst eo13;obtain ⟨Ao14,co14,eo14⟩:=Kd.S_slice HO304.out;subst eo14)|((with_reducible refine zl (f:=23) rfl ?_);refine qu (some 23) rfl rfl Tryd.func23 (by kernel_rfl) rfl #[.slice Ao13 t297.length co13,.slice Ao14 t301.length co14] rfl gs ?_;(with_reducible refine(qn.calls k _ _ t297 _ _ t301 false _ ?side1 ?side2 ?side3 ?side4 A5.out).mono ?_);(case side1=>exact Kd.cu (Kd.zxc HO300.out).2.2);(case side2=>exact(Kd.zxc HO300.out).2.1);(case side3=>exact Kd.cu (Kd.zxc HO304.out).2.2);(case side4=>exact(Kd.zxc HO304.out).2.1);rintro e w' ⟨rfl,⟨nd,rfl⟩⟩;refine⟨_,rfl,?_⟩))
 go_ret
 exact⟨by first|rfl|(simp [zx,zj] <;> rfl)|(simp [*,zx,zj] <;> rfl),bw⟩

def gd38 (x_:S38):Prop:=(fun n_:Int=>(Lit.int .i64 n_).wf=true) x_.f0∧(fun n_:Int=>(Lit.int .i64 n_).wf=true) x_.f1∧(fun s_:ByteArray=>s_.size≤9223372036854775807) x_.f2
def zd38 (x_:S38):Prop:=(fun _:Int=>True) x_.f0∧(fun _:Int=>True) x_.f1∧(fun s_:ByteArray=>s_.size≤140737488351232) x_.f2
def bd38 (x_:S38):Nat:=((fun _:Int=>1) x_.f0+((fun _:Int=>1) x_.f1+(fun s_:ByteArray=>s_.size+1) x_.f2))+1
inductive gd41:S41→Prop
 | mk (x_:S41):(fun n_:Int=>(Lit.int .i64 n_).wf=true) x_.f0→gd38 x_.f1→(fun s_:ByteArray=>s_.size≤9223372036854775807) x_.f2→(fun s_:ByteArray=>s_.size≤9223372036854775807) x_.f3→(fun n_:Int=>(Lit.int .i64 n_).wf=true) x_.f4→x_.f5.length≤9223372036854775807→(∀ y_ ∈ x_.f5,gd41 y_)→gd41 x_
inductive zd41:S41→Prop
 | mk (x_:S41):(fun _:Int=>True) x_.f0→zd38 x_.f1→(fun s_:ByteArray=>s_.size≤140737488351232) x_.f2→(fun s_:ByteArray=>s_.size≤140737488351232) x_.f3→(fun _:Int=>True) x_.f4→x_.f5.length * 104≤140737488351232→(∀ y_ ∈ x_.f5,zd41 y_)→zd41 x_
def bd41 (x_:S41):Nat:=((fun _:Int=>1) x_.f0+(bd38 x_.f1+((fun s_:ByteArray=>s_.size+1) x_.f2+((fun s_:ByteArray=>s_.size+1) x_.f3+((fun _:Int=>1) x_.f4+((x_.f5.attach.map fun y_=>bd41 y_.1).sum+1))))))+1
termination_by SizeOf.sizeOf x_
decreasing_by all_goals (have h_:=List.sizeOf_lt_of_mem y_.2;cases x_;simp at h_ ⊢;omega)
theorem bd41_eq (x_:S41):bd41 x_=((fun _:Int=>1) x_.f0+(bd38 x_.f1+((fun s_:ByteArray=>s_.size+1) x_.f2+((fun s_:ByteArray=>s_.size+1) x_.f3+((fun _:Int=>1) x_.f4+((x_.f5.map bd41).sum+1))))))+1:=by
 rw [bd41]
 simp
def commonholdlaw_RelProjects.Pure:Prop := ∀ (a0:List (List (S38))) (a1:List (S41)),(fun xs_:List (List (S38))=>xs_.length≤9223372036854775807 ∧ ∀ x_ ∈ xs_,(fun xs_:List (S38)=>xs_.length≤9223372036854775807 ∧ ∀ x_ ∈ xs_,gd38 x_) x_) a0→(fun xs_:List (S41)=>xs_.length≤9223372036854775807 ∧ ∀ x_ ∈ xs_,gd41 x_) a1→(fun xs_:List (List (S38))=>xs_.length * 24≤140737488351232 ∧ ∀ x_ ∈ xs_,(fun xs_:List (S38)=>xs_.length * 32≤140737488351232 ∧ ∀ x_ ∈ xs_,zd38 x_) x_) a0→(fun xs_:List (S41)=>xs_.length * 104≤140737488351232 ∧ ∀ x_ ∈ xs_,zd41 x_) a1 → ∃ k,commonholdlaw_RelProjects.f k a0 a1=some true

end Go.Proofs.YthhejedfjgikdaaDoor.PRelProjects
