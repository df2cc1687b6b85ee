-- Written by wip/pp of this repo (over the kit's print, with additions of this session); Lean checks every line.
import Derived.Test.YthhejedfjgikdaaDoorPRowEntriesx12
import Derived.Test.YthhejedfjgikdaaDoorPRowEntriesx13
namespace Go.Proofs.YthhejedfjgikdaaDoor.PRowEntries
open Go.RowKit Go.Proofs.YthhejedfjgikdaaDoorW.PrintWords Go.Proofs.YthhejedfjgikdaaDoorW.PrintLast Go.Proofs.YthhejedfjgikdaaDoorW.PrintMore
attribute [local go_sem] zxq zxo zx0 zxz zxg zxf zxp zxn   -- for this text's walks alone
set_option linter.unusedVariables false
set_option linter.unusedSimpArgs false

/-! ### zjb: function 60 -/
mutual
def zjb.j0:Nat→Int→Bool→ByteArray→List (S90)→List Int→List (S96)→Option (Bool)
 | 0,_,_,_,_,_,_=>none
 | k+1,x3,x31,x216000,x216001,x216002,x216003=>if x31=true then(some false) else (zjb.l0 k x3 x216001 (x216001.length:Int) 0 x216000 x216001 x216002 x216003)
def zjb.l0:Nat→Int→List (S90)→Int→Int→ByteArray→List (S90)→List Int→List (S96)→Option (Bool)
 | 0,_,_,_,_,_,_,_,_=>none
 | k+1,x3,x33,x34,x35,x216000,x216001,x216002,x216003=>if x35<x34 then(if 0≤x35 then(if x35<(x33.length:Int) then((zjm.f k ((zqp x33 x35).f0)).bind fun t219=>(if t219=true then(if((zqp x33 x35).f1)=1 then(zjb.j2 k x3 x35 x33 x34 x35 false x216000 x216001 x216002 x216003 ((zqp x33 x35).f0) ((zqp x33 x35).f1) ((zqp x33 x35).f2)) else (if((zqp x33 x35).f1)=2 then(zjb.j2 k x3 x35 x33 x34 x35 false x216000 x216001 x216002 x216003 ((zqp x33 x35).f0) ((zqp x33 x35).f1) ((zqp x33 x35).f2)) else (zjb.j2 k x3 x35 x33 x34 x35 (((zqp x33 x35).f1) != 3) x216000 x216001 x216002 x216003 ((zqp x33 x35).f0) ((zqp x33 x35).f1) ((zqp x33 x35).f2)))) else (zjb.j2 k x3 x35 x33 x34 x35 true x216000 x216001 x216002 x216003 ((zqp x33 x35).f0) ((zqp x33 x35).f1) ((zqp x33 x35).f2)))) else (none)) else (none)) else ((zje.f k x216002 x3).bind fun t221=>(if t221=true then(zjb.l2 k x3 0 x216000 x216001 x216002 x216003) else (some false)))
def zjb.j2:Nat→Int→Int→List (S90)→Int→Int→Bool→ByteArray→List (S90)→List Int→List (S96)→ByteArray→Int→Bool→Option (Bool)
 | 0,_,_,_,_,_,_,_,_,_,_,_,_,_=>none
 | k+1,x3,x4,x33,x34,x35,x58,x216000,x216001,x216002,x216003,x219000,x219001,x219002=>if x58=true then(some false) else (zjb.l1 k x3 x4 0 x33 x34 x35 x216000 x216001 x216002 x216003 x219000 x219001 x219002)
def zjb.l1:Nat→Int→Int→Int→List (S90)→Int→Int→ByteArray→List (S90)→List Int→List (S96)→ByteArray→Int→Bool→Option (Bool)
 | 0,_,_,_,_,_,_,_,_,_,_,_,_,_=>none
 | k+1,x3,x4,x6,x33,x34,x35,x216000,x216001,x216002,x216003,x219000,x219001,x219002=>if x6<x4 then(if 0≤x6 then(if x6<(x216001.length:Int) then(if((zqp x216001 x6).f0).toList=x219000.toList then(some false) else (zjb.l1 k x3 x4 (wrap64 (x6+1)) x33 x34 x35 x216000 x216001 x216002 x216003 x219000 x219001 x219002)) else (none)) else (none)) else (zjb.l0 k x3 x33 x34 (wrap64 (x35+1)) x216000 x216001 x216002 x216003)
def zjb.l2:Nat→Int→Int→ByteArray→List (S90)→List Int→List (S96)→Option (Bool)
 | 0,_,_,_,_,_,_=>none
 | k+1,x3,x7,x216000,x216001,x216002,x216003=>if x7<(x216002.length:Int) then(if 0≤x7 then(if 0≤(rd x216002 x7) then(if(rd x216002 x7)<(x216001.length:Int) then(if((zqp x216001 (rd x216002 x7)).f2=true) then(zjb.l2 k x3 (wrap64 (x7+1)) x216000 x216001 x216002 x216003) else (some false)) else (none)) else (none)) else (none)) else (zjb.l3 k x3 x216003 (x216003.length:Int) 0 x216000 x216001 x216002 x216003)
def zjb.l3:Nat→Int→List (S96)→Int→Int→ByteArray→List (S90)→List Int→List (S96)→Option (Bool)
 | 0,_,_,_,_,_,_,_,_=>none
 | k+1,x3,x98,x99,x100,x216000,x216001,x216002,x216003=>if x100<x99 then(if 0≤x100 then(if x100<(x98.length:Int) then((zjm.f k ((zq0 x98 x100).f0)).bind fun t226=>(if t226=true then((zje.f k ((zq0 x98 x100).f1) x3).bind fun t227=>(zjb.j6 k x3 x100 x98 x99 x100 (!t227) x216000 x216001 x216002 x216003 ((zq0 x98 x100).f0) ((zq0 x98 x100).f1))) else (zjb.j6 k x3 x100 x98 x99 x100 true x216000 x216001 x216002 x216003 ((zq0 x98 x100).f0) ((zq0 x98 x100).f1)))) else (none)) else (none)) else (some true)
def zjb.j6:Nat→Int→Int→List (S96)→Int→Int→Bool→ByteArray→List (S90)→List Int→List (S96)→ByteArray→List Int→Option (Bool)
 | 0,_,_,_,_,_,_,_,_,_,_,_,_=>none
 | k+1,x3,x8,x98,x99,x100,x115,x216000,x216001,x216002,x216003,x226000,x226001=>if x115=true then(some false) else (zjb.l4 k x3 x8 0 x98 x99 x100 x216000 x216001 x216002 x216003 x226000 x226001)
def zjb.l4:Nat→Int→Int→Int→List (S96)→Int→Int→ByteArray→List (S90)→List Int→List (S96)→ByteArray→List Int→Option (Bool)
 | 0,_,_,_,_,_,_,_,_,_,_,_,_=>none
 | k+1,x3,x8,x10,x98,x99,x100,x216000,x216001,x216002,x216003,x226000,x226001=>if x10<x8 then(if 0≤x10 then(if x10<(x216003.length:Int) then(if((zq0 x216003 x10).f0).toList=x226000.toList then(some false) else (zjb.l4 k x3 x8 (wrap64 (x10+1)) x98 x99 x100 x216000 x216001 x216002 x216003 x226000 x226001)) else (none)) else (none)) else (zjb.l3 k x3 x98 x99 (wrap64 (x100+1)) x216000 x216001 x216002 x216003)
end
def zjb.f (k:Nat) (a0_0:ByteArray) (l0_1:List (S90)) (l0_2:List Int) (l0_3:List (S96)):Option (Bool):=(zjm.f k a0_0).bind fun t216=>(if t216=true then(if(l0_1.length:Int)=0 then(zjb.j0 k (l0_1.length:Int) true a0_0 l0_1 l0_2 l0_3) else (if(l0_1.length:Int) > 6 then(zjb.j0 k (l0_1.length:Int) true a0_0 l0_1 l0_2 l0_3) else (zjb.j0 k (l0_1.length:Int) (decide ((l0_3.length:Int) > 2)) a0_0 l0_1 l0_2 l0_3))) else (zjb.j0 k (l0_1.length:Int) true a0_0 l0_1 l0_2 l0_3))
theorem zjb.mono_l:∀ k,(∀ y0 y1 y2 y3 y4 y5,LeO (zjb.j0 k y0 y1 y2 y3 y4 y5) (zjb.j0 (k+1) y0 y1 y2 y3 y4 y5))∧(∀ y0 y1 y2 y3 y4 y5 y6 y7,LeO (zjb.l0 k y0 y1 y2 y3 y4 y5 y6 y7) (zjb.l0 (k+1) y0 y1 y2 y3 y4 y5 y6 y7))∧(∀ y0 y1 y2 y3 y4 y5 y6 y7 y8 y9 y10 y11 y12,LeO (zjb.j2 k y0 y1 y2 y3 y4 y5 y6 y7 y8 y9 y10 y11 y12) (zjb.j2 (k+1) y0 y1 y2 y3 y4 y5 y6 y7 y8 y9 y10 y11 y12))∧(∀ y0 y1 y2 y3 y4 y5 y6 y7 y8 y9 y10 y11 y12,LeO (zjb.l1 k y0 y1 y2 y3 y4 y5 y6 y7 y8 y9 y10 y11 y12) (zjb.l1 (k+1) y0 y1 y2 y3 y4 y5 y6 y7 y8 y9 y10 y11 y12))∧(∀ y0 y1 y2 y3 y4 y5,LeO (zjb.l2 k y0 y1 y2 y3 y4 y5) (zjb.l2 (k+1) y0 y1 y2 y3 y4 y5))∧(∀ y0 y1 y2 y3 y4 y5 y6 y7,LeO (zjb.l3 k y0 y1 y2 y3 y4 y5 y6 y7) (zjb.l3 (k+1) y0 y1 y2 y3 y4 y5 y6 y7))∧(∀ y0 y1 y2 y3 y4 y5 y6 y7 y8 y9 y10 y11,LeO (zjb.j6 k y0 y1 y2 y3 y4 y5 y6 y7 y8 y9 y10 y11) (zjb.j6 (k+1) y0 y1 y2 y3 y4 y5 y6 y7 y8 y9 y10 y11))∧(∀ y0 y1 y2 y3 y4 y5 y6 y7 y8 y9 y10 y11,LeO (zjb.l4 k y0 y1 y2 y3 y4 y5 y6 y7 y8 y9 y10 y11) (zjb.l4 (k+1) y0 y1 y2 y3 y4 y5 y6 y7 y8 y9 y10 y11))
 | 0=>⟨fun _ _ _ _ _ _ r h=>by simp [zjb.j0] at h,fun _ _ _ _ _ _ _ _ r h=>by simp [zjb.l0] at h,fun _ _ _ _ _ _ _ _ _ _ _ _ _ r h=>by simp [zjb.j2] at h,fun _ _ _ _ _ _ _ _ _ _ _ _ _ r h=>by simp [zjb.l1] at h,fun _ _ _ _ _ _ r h=>by simp [zjb.l2] at h,fun _ _ _ _ _ _ _ _ r h=>by simp [zjb.l3] at h,fun _ _ _ _ _ _ _ _ _ _ _ _ r h=>by simp [zjb.j6] at h,fun _ _ _ _ _ _ _ _ _ _ _ _ r h=>by simp [zjb.l4] at h⟩
 | k+1=>by
  obtain ⟨ih0,ih1,ih2,ih3,ih4,ih5,ih6,ih7⟩:=zjb.mono_l k
  refine⟨?_,?_,?_,?_,?_,?_,?_,?_⟩
  ·intro y0 y1 y2 y3 y4 y5
   unfold zjb.j0
   repeat' first
   | (with_reducible first|exact ih0 _ _ _ _ _ _|exact ih1 _ _ _ _ _ _ _ _|exact ih2 _ _ _ _ _ _ _ _ _ _ _ _ _|exact ih3 _ _ _ _ _ _ _ _ _ _ _ _ _|exact ih4 _ _ _ _ _ _|exact ih5 _ _ _ _ _ _ _ _|exact ih6 _ _ _ _ _ _ _ _ _ _ _ _|exact ih7 _ _ _ _ _ _ _ _ _ _ _ _|exact zjm.mono _ _|exact zje.mono _ _ _|exact LeO.refl _|exact LeO.none _|refine LeO.ite ?_ ?_|refine LeO.bind ?_ (fun _=>?_))
   | exact ih0 _ _ _ _ _ _
   | exact ih1 _ _ _ _ _ _ _ _
   | exact ih2 _ _ _ _ _ _ _ _ _ _ _ _ _
   | exact ih3 _ _ _ _ _ _ _ _ _ _ _ _ _
   | exact ih4 _ _ _ _ _ _
   | exact ih5 _ _ _ _ _ _ _ _
   | exact ih6 _ _ _ _ _ _ _ _ _ _ _ _
   | exact ih7 _ _ _ _ _ _ _ _ _ _ _ _
   | exact zjm.mono _ _
   | exact zje.mono _ _ _
   | exact LeO.none _
   | refine LeO.ite ?_ ?_
   | refine LeO.bind ?_ (fun _=>?_)
  ·intro y0 y1 y2 y3 y4 y5 y6 y7
   unfold zjb.l0
   repeat' first
   | (with_reducible first|exact ih0 _ _ _ _ _ _|exact ih1 _ _ _ _ _ _ _ _|exact ih2 _ _ _ _ _ _ _ _ _ _ _ _ _|exact ih3 _ _ _ _ _ _ _ _ _ _ _ _ _|exact ih4 _ _ _ _ _ _|exact ih5 _ _ _ _ _ _ _ _|exact ih6 _ _ _ _ _ _ _ _ _ _ _ _|exact ih7 _ _ _ _ _ _ _ _ _ _ _ _|exact zjm.mono _ _|exact zje.mono _ _ _|exact LeO.refl _|exact LeO.none _|refine LeO.ite ?_ ?_|refine LeO.bind ?_ (fun _=>?_))
   | exact ih0 _ _ _ _ _ _
   | exact ih1 _ _ _ _ _ _ _ _
   | exact ih2 _ _ _ _ _ _ _ _ _ _ _ _ _
   | exact ih3 _ _ _ _ _ _ _ _ _ _ _ _ _
   | exact ih4 _ _ _ _ _ _
   | exact ih5 _ _ _ _ _ _ _ _
   | exact ih6 _ _ _ _ _ _ _ _ _ _ _ _
   | exact ih7 _ _ _ _ _ _ _ _ _ _ _ _
   | exact zjm.mono _ _
   | exact zje.mono _ _ _
   | exact LeO.none _
   | refine LeO.ite ?_ ?_
   | refine LeO.bind ?_ (fun _=>?_)
  ·intro y0 y1 y2 y3 y4 y5 y6 y7 y8 y9 y10 y11 y12
   unfold zjb.j2
   repeat' first
   | (with_reducible first|exact ih0 _ _ _ _ _ _|exact ih1 _ _ _ _ _ _ _ _|exact ih2 _ _ _ _ _ _ _ _ _ _ _ _ _|exact ih3 _ _ _ _ _ _ _ _ _ _ _ _ _|exact ih4 _ _ _ _ _ _|exact ih5 _ _ _ _ _ _ _ _|exact ih6 _ _ _ _ _ _ _ _ _ _ _ _|exact ih7 _ _ _ _ _ _ _ _ _ _ _ _|exact zjm.mono _ _|exact zje.mono _ _ _|exact LeO.refl _|exact LeO.none _|refine LeO.ite ?_ ?_|refine LeO.bind ?_ (fun _=>?_))
   | exact ih0 _ _ _ _ _ _
   | exact ih1 _ _ _ _ _ _ _ _
   | exact ih2 _ _ _ _ _ _ _ _ _ _ _ _ _
   | exact ih3 _ _ _ _ _ _ _ _ _ _ _ _ _
   | exact ih4 _ _ _ _ _ _
   | exact ih5 _ _ _ _ _ _ _ _
   | exact ih6 _ _ _ _ _ _ _ _ _ _ _ _
   | exact ih7 _ _ _ _ _ _ _ _ _ _ _ _
   | exact zjm.mono _ _
   | exact zje.mono _ _ _
   | exact LeO.none _
   | refine LeO.ite ?_ ?_
   | refine LeO.bind ?_ (fun _=>?_)
  ·intro y0 y1 y2 y3 y4 y5 y6 y7 y8 y9 y10 y11 y12
   unfold zjb.l1
   repeat' first
   | (with_reducible first|exact ih0 _ _ _ _ _ _|exact ih1 _ _ _ _ _ _ _ _|exact ih2 _ _ _ _ _ _ _ _ _ _ _ _ _|exact ih3 _ _ _ _ _ _ _ _ _ _ _ _ _|exact ih4 _ _ _ _ _ _|exact ih5 _ _ _ _ _ _ _ _|exact ih6 _ _ _ _ _ _ _ _ _ _ _ _|exact ih7 _ _ _ _ _ _ _ _ _ _ _ _|exact zjm.mono _ _|exact zje.mono _ _ _|exact LeO.refl _|exact LeO.none _|refine LeO.ite ?_ ?_|refine LeO.bind ?_ (fun _=>?_))
   | exact ih0 _ _ _ _ _ _
   | exact ih1 _ _ _ _ _ _ _ _
   | exact ih2 _ _ _ _ _ _ _ _ _ _ _ _ _
   | exact ih3 _ _ _ _ _ _ _ _ _ _ _ _ _
   | exact ih4 _ _ _ _ _ _
   | exact ih5 _ _ _ _ _ _ _ _
   | exact ih6 _ _ _ _ _ _ _ _ _ _ _ _
   | exact ih7 _ _ _ _ _ _ _ _ _ _ _ _
   | exact zjm.mono _ _
   | exact zje.mono _ _ _
   | exact LeO.none _
   | refine LeO.ite ?_ ?_
   | refine LeO.bind ?_ (fun _=>?_)
  ·intro y0 y1 y2 y3 y4 y5
   unfold zjb.l2
   repeat' first
   | (with_reducible first|exact ih0 _ _ _ _ _ _|exact ih1 _ _ _ _ _ _ _ _|exact ih2 _ _ _ _ _ _ _ _ _ _ _ _ _|exact ih3 _ _ _ _ _ _ _ _ _ _ _ _ _|exact ih4 _ _ _ _ _ _|exact ih5 _ _ _ _ _ _ _ _|exact ih6 _ _ _ _ _ _ _ _ _ _ _ _|exact ih7 _ _ _ _ _ _ _ _ _ _ _ _|exact zjm.mono _ _|exact zje.mono _ _ _|exact LeO.refl _|exact LeO.none _|refine LeO.ite ?_ ?_|refine LeO.bind ?_ (fun _=>?_))
   | exact ih0 _ _ _ _ _ _
   | exact ih1 _ _ _ _ _ _ _ _
   | exact ih2 _ _ _ _ _ _ _ _ _ _ _ _ _
   | exact ih3 _ _ _ _ _ _ _ _ _ _ _ _ _
   | exact ih4 _ _ _ _ _ _
   | exact ih5 _ _ _ _ _ _ _ _
   | exact ih6 _ _ _ _ _ _ _ _ _ _ _ _
   | exact ih7 _ _ _ _ _ _ _ _ _ _ _ _
   | exact zjm.mono _ _
   | exact zje.mono _ _ _
   | exact LeO.none _
   | refine LeO.ite ?_ ?_
   | refine LeO.bind ?_ (fun _=>?_)
  ·intro y0 y1 y2 y3 y4 y5 y6 y7
   unfold zjb.l3
   repeat' first
   | (with_reducible first|exact ih0 _ _ _ _ _ _|exact ih1 _ _ _ _ _ _ _ _|exact ih2 _ _ _ _ _ _ _ _ _ _ _ _ _|exact ih3 _ _ _ _ _ _ _ _ _ _ _ _ _|exact ih4 _ _ _ _ _ _|exact ih5 _ _ _ _ _ _ _ _|exact ih6 _ _ _ _ _ _ _ _ _ _ _ _|exact ih7 _ _ _ _ _ _ _ _ _ _ _ _|exact zjm.mono _ _|exact zje.mono _ _ _|exact LeO.refl _|exact LeO.none _|refine LeO.ite ?_ ?_|refine LeO.bind ?_ (fun _=>?_))
   | exact ih0 _ _ _ _ _ _
   | exact ih1 _ _ _ _ _ _ _ _
   | exact ih2 _ _ _ _ _ _ _ _ _ _ _ _ _
   | exact ih3 _ _ _ _ _ _ _ _ _ _ _ _ _
   | exact ih4 _ _ _ _ _ _
   | exact ih5 _ _ _ _ _ _ _ _
   | exact ih6 _ _ _ _ _ _ _ _ _ _ _ _
   | exact ih7 _ _ _ _ _ _ _ _ _ _ _ _
   | exact zjm.mono _ _
   | exact zje.mono _ _ _
   | exact LeO.none _
   | refine LeO.ite ?_ ?_
   | refine LeO.bind ?_ (fun _=>?_)
  ·intro y0 y1 y2 y3 y4 y5 y6 y7 y8 y9 y10 y11
   unfold zjb.j6
   repeat' first
   | (with_reducible first|exact ih0 _ _ _ _ _ _|exact ih1 _ _ _ _ _ _ _ _|exact ih2 _ _ _ _ _ _ _ _ _ _ _ _ _|exact ih3 _ _ _ _ _ _ _ _ _ _ _ _ _|exact ih4 _ _ _ _ _ _|exact ih5 _ _ _ _ _ _ _ _|exact ih6 _ _ _ _ _ _ _ _ _ _ _ _|exact ih7 _ _ _ _ _ _ _ _ _ _ _ _|exact zjm.mono _ _|exact zje.mono _ _ _|exact LeO.refl _|exact LeO.none _|refine LeO.ite ?_ ?_|refine LeO.bind ?_ (fun _=>?_))
   | exact ih0 _ _ _ _ _ _
   | exact ih1 _ _ _ _ _ _ _ _
   | exact ih2 _ _ _ _ _ _ _ _ _ _ _ _ _
   | exact ih3 _ _ _ _ _ _ _ _ _ _ _ _ _
   | exact ih4 _ _ _ _ _ _
   | exact ih5 _ _ _ _ _ _ _ _
   | exact ih6 _ _ _ _ _ _ _ _ _ _ _ _
   | exact ih7 _ _ _ _ _ _ _ _ _ _ _ _
   | exact zjm.mono _ _
   | exact zje.mono _ _ _
   | exact LeO.none _
   | refine LeO.ite ?_ ?_
   | refine LeO.bind ?_ (fun _=>?_)
  ·intro y0 y1 y2 y3 y4 y5 y6 y7 y8 y9 y10 y11
   unfold zjb.l4
   repeat' first
   | (with_reducible first|exact ih0 _ _ _ _ _ _|exact ih1 _ _ _ _ _ _ _ _|exact ih2 _ _ _ _ _ _ _ _ _ _ _ _ _|exact ih3 _ _ _ _ _ _ _ _ _ _ _ _ _|exact ih4 _ _ _ _ _ _|exact ih5 _ _ _ _ _ _ _ _|exact ih6 _ _ _ _ _ _ _ _ _ _ _ _|exact ih7 _ _ _ _ _ _ _ _ _ _ _ _|exact zjm.mono _ _|exact zje.mono _ _ _|exact LeO.refl _|exact LeO.none _|refine LeO.ite ?_ ?_|refine LeO.bind ?_ (fun _=>?_))
   | exact ih0 _ _ _ _ _ _
   | exact ih1 _ _ _ _ _ _ _ _
   | exact ih2 _ _ _ _ _ _ _ _ _ _ _ _ _
   | exact ih3 _ _ _ _ _ _ _ _ _ _ _ _ _
   | exact ih4 _ _ _ _ _ _
   | exact ih5 _ _ _ _ _ _ _ _
   | exact ih6 _ _ _ _ _ _ _ _ _ _ _ _
   | exact ih7 _ _ _ _ _ _ _ _ _ _ _ _
   | exact zjm.mono _ _
   | exact zje.mono _ _ _
   | exact LeO.none _
   | refine LeO.ite ?_ ?_
   | refine LeO.bind ?_ (fun _=>?_)
theorem zjb.mono:∀ a0 a1 a2 a3 k,LeO (zjb.f k a0 a1 a2 a3) (zjb.f (k+1) a0 a1 a2 a3):=by
 intro a0 a1 a2 a3 k
 obtain ⟨ih0,ih1,ih2,ih3,ih4,ih5,ih6,ih7⟩:=zjb.mono_l k
 unfold zjb.f
 repeat' first
   | (with_reducible first|exact ih0 _ _ _ _ _ _|exact ih1 _ _ _ _ _ _ _ _|exact ih2 _ _ _ _ _ _ _ _ _ _ _ _ _|exact ih3 _ _ _ _ _ _ _ _ _ _ _ _ _|exact ih4 _ _ _ _ _ _|exact ih5 _ _ _ _ _ _ _ _|exact ih6 _ _ _ _ _ _ _ _ _ _ _ _|exact ih7 _ _ _ _ _ _ _ _ _ _ _ _|exact zjm.mono _ _|exact zje.mono _ _ _|exact LeO.refl _|exact LeO.none _|refine LeO.ite ?_ ?_|refine LeO.bind ?_ (fun _=>?_))
   | exact ih0 _ _ _ _ _ _
   | exact ih1 _ _ _ _ _ _ _ _
   | exact ih2 _ _ _ _ _ _ _ _ _ _ _ _ _
   | exact ih3 _ _ _ _ _ _ _ _ _ _ _ _ _
   | exact ih4 _ _ _ _ _ _
   | exact ih5 _ _ _ _ _ _ _ _
   | exact ih6 _ _ _ _ _ _ _ _ _ _ _ _
   | exact ih7 _ _ _ _ _ _ _ _ _ _ _ _
   | exact zjm.mono _ _
   | exact zje.mono _ _ _
   | exact LeO.none _
   | refine LeO.ite ?_ ?_
   | refine LeO.bind ?_ (fun _=>?_)
set_option maxHeartbeats 8000000 in
set_option maxRecDepth 100000 in
theorem zjb.calls (k:Nat) (a0_0:ByteArray) (A0_1:Option Addr) (c0_1:Nat) (l0_1:List (S90)) (A0_2:Option Addr) (c0_2:Nat) (l0_2:List Int) (A0_3:Option Addr) (c0_3:Nat) (l0_3:List (S96)) (r:Bool) (w:World) (hr0_1:Kd.C k90 w A0_1 l0_1.length l0_1) (hc0_1:l0_1.length≤c0_1) (hr0_2:Kd.C (Kd.int .i64) w A0_2 l0_2.length l0_2) (hc0_2:l0_2.length≤c0_2) (hr0_3:Kd.C k96 w A0_3 l0_3.length l0_3) (hc0_3:l0_3.length≤c0_3) (h:zjb.f k a0_0 l0_1 l0_2 l0_3=some r) :
  Calls Tryd.prog 60 #[.agg #[.string a0_0,.slice A0_1 l0_1.length c0_1,.slice A0_2 l0_2.length c0_2,.slice A0_3 l0_3.length c0_3]] w fun e w'=>e = .returned (.bool r)∧Below w.heap.size w w':=by
 have hu61:=Tryd.underlying61
 have hu90:=Tryd.underlying90
 have hu96:=Tryd.underlying96
 have HR0_1:=zqd.mk hr0_1
 have HC0_1:=zqd.mk hc0_1
 clear hr0_1 hc0_1
 have HR0_2:=zqd.mk hr0_2
 have HC0_2:=zqd.mk hc0_2
 clear hr0_2 hc0_2
 have HR0_3:=zqd.mk hr0_3
 have HC0_3:=zqd.mk hc0_3
 clear hr0_3 hc0_3
 have HB:=zqd.mk (Below.refl w.heap.size w)
 have H:((zjm.f k a0_0).bind fun t216=>(if t216=true then(if(l0_1.length:Int)=0 then(zjb.j0 k (l0_1.length:Int) true a0_0 l0_1 l0_2 l0_3) else (if(l0_1.length:Int) > 6 then(zjb.j0 k (l0_1.length:Int) true a0_0 l0_1 l0_2 l0_3) else (zjb.j0 k (l0_1.length:Int) (decide ((l0_3.length:Int) > 2)) a0_0 l0_1 l0_2 l0_3))) else (zjb.j0 k (l0_1.length:Int) true a0_0 l0_1 l0_2 l0_3)))=some r:=h
 clear h
 have HC2:=zqd.mk H
 clear H
 go_enter Tryd.func60,Tryd.ntmps60
 go_upto_region 2 with (first|((with_reducible refine zqx (N:=1) rfl ?_);(try(refine zqz (by rfl) ?_;dsimp only));refine zqt ?hg (N:=1) ?hd (cs:=#[.string a0_0,.slice A0_1 l0_1.length c0_1,.slice A0_2 l0_2.length c0_2,.slice A0_3 l0_3.length c0_3]) (t:=61) ?hr ?_;(case hd=>rfl);(case hg=>rfl);(case hr=>first|(go_simp;done)|(go_simp;rfl));intro gb215 hg w3 hbox hb;have n0_:=zqd.mk (zqn (by repeat(first|(with_reducible first|exact HB.out|apply zqb|apply zqa|apply zqc)|exact HB.out)) hb);have n1_:=zqd.mk (hbox);have n2_:=zqd.mk ((by rw [hg];exact(zqk (by repeat(first|(with_reducible first|exact HB.out|apply zqb|apply zqa|apply zqc)|exact HB.out))):w.heap.size≤gb215));have n3_:=zqd.mk ((by rw [hg];exact(zqk (by repeat(first|(with_reducible first|exact HB.out|apply zqb|apply zqa|apply zqc)|exact HB.out))):w.heap.size≤gb215));clear HB;have HB:=n0_;have BK215:=n1_;have GW215:=n2_;have GE215:=n3_;clear n0_ n1_ n2_ n3_ hb hbox hg;have hcz4_0:w3.cell? ⟨gb215,0,none⟩=some (.string a0_0):=(zqf BK215.out 0).trans rfl;have hcz4_1:w3.cell? ⟨gb215,1,none⟩=some (.slice A0_1 l0_1.length c0_1):=(zqf BK215.out 1).trans rfl;have hcz4_2:w3.cell? ⟨gb215,2,none⟩=some (.slice A0_2 l0_2.length c0_2):=(zqf BK215.out 2).trans rfl;have hcz4_3:w3.cell? ⟨gb215,3,none⟩=some (.slice A0_3 l0_3.length c0_3):=(zqf BK215.out 3).trans rfl;have hfz4_0:=zqe BK215.out 0;have hfz4_1:=zqe BK215.out 1;have hfz4_2:=zqe BK215.out 2;have hfz4_3:=zqe BK215.out 3))
 repeat(go_quiet (first|((with_reducible refine zqx (N:=1) rfl ?_);(try(refine zqz (by rfl) ?_;dsimp only));refine zqt ?hg (N:=1) ?hd (cs:=#[.string a0_0,.slice A0_1 l0_1.length c0_1,.slice A0_2 l0_2.length c0_2,.slice A0_3 l0_3.length c0_3]) (t:=61) ?hr ?_;(case hd=>rfl);(case hg=>rfl);(case hr=>first|(go_simp;done)|(go_simp;rfl));intro gb215 hg w3 hbox hb;have n0_:=zqd.mk (zqn (by repeat(first|(with_reducible first|exact HB.out|apply zqb|apply zqa|apply zqc)|exact HB.out)) hb);have n1_:=zqd.mk (hbox);have n2_:=zqd.mk ((by rw [hg];exact(zqk (by repeat(first|(with_reducible first|exact HB.out|apply zqb|apply zqa|apply zqc)|exact HB.out))):w.heap.size≤gb215));have n3_:=zqd.mk ((by rw [hg];exact(zqk (by repeat(first|(with_reducible first|exact HB.out|apply zqb|apply zqa|apply zqc)|exact HB.out))):w.heap.size≤gb215));clear HB;have HB:=n0_;have BK215:=n1_;have GW215:=n2_;have GE215:=n3_;clear n0_ n1_ n2_ n3_ hb hbox hg;have hcz4_0:w3.cell? ⟨gb215,0,none⟩=some (.string a0_0):=(zqf BK215.out 0).trans rfl;have hcz4_1:w3.cell? ⟨gb215,1,none⟩=some (.slice A0_1 l0_1.length c0_1):=(zqf BK215.out 1).trans rfl;have hcz4_2:w3.cell? ⟨gb215,2,none⟩=some (.slice A0_2 l0_2.length c0_2):=(zqf BK215.out 2).trans rfl;have hcz4_3:w3.cell? ⟨gb215,3,none⟩=some (.slice A0_3 l0_3.length c0_3):=(zqf BK215.out 3).trans rfl;have hfz4_0:=zqe BK215.out 0;have hfz4_1:=zqe BK215.out 1;have hfz4_2:=zqe BK215.out 2;have hfz4_3:=zqe BK215.out 3));go_upto_region 2 with (first|((with_reducible refine zqx (N:=1) rfl ?_);(try(refine zqz (by rfl) ?_;dsimp only));refine zqt ?hg (N:=1) ?hd (cs:=#[.string a0_0,.slice A0_1 l0_1.length c0_1,.slice A0_2 l0_2.length c0_2,.slice A0_3 l0_3.length c0_3]) (t:=61) ?hr ?_;(case hd=>rfl);(case hg=>rfl);(case hr=>first|(go_simp;done)|(go_simp;rfl));intro gb215 hg w3 hbox hb;have n0_:=zqd.mk (zqn (by repeat(first|(with_reducible first|exact HB.out|apply zqb|apply zqa|apply zqc)|exact HB.out)) hb);have n1_:=zqd.mk (hbox);have n2_:=zqd.mk ((by rw [hg];exact(zqk (by repeat(first|(with_reducible first|exact HB.out|apply zqb|apply zqa|apply zqc)|exact HB.out))):w.heap.size≤gb215));have n3_:=zqd.mk ((by rw [hg];exact(zqk (by repeat(first|(with_reducible first|exact HB.out|apply zqb|apply zqa|apply zqc)|exact HB.out))):w.heap.size≤gb215));clear HB;have HB:=n0_;have BK215:=n1_;have GW215:=n2_;have GE215:=n3_;clear n0_ n1_ n2_ n3_ hb hbox hg;have hcz4_0:w3.cell? ⟨gb215,0,none⟩=some (.string a0_0):=(zqf BK215.out 0).trans rfl;have hcz4_1:w3.cell? ⟨gb215,1,none⟩=some (.slice A0_1 l0_1.length c0_1):=(zqf BK215.out 1).trans rfl;have hcz4_2:w3.cell? ⟨gb215,2,none⟩=some (.slice A0_2 l0_2.length c0_2):=(zqf BK215.out 2).trans rfl;have hcz4_3:w3.cell? ⟨gb215,3,none⟩=some (.slice A0_3 l0_3.length c0_3):=(zqf BK215.out 3).trans rfl;have hfz4_0:=zqe BK215.out 0;have hfz4_1:=zqe BK215.out 1;have hfz4_2:=zqe BK215.out 2;have hfz4_3:=zqe BK215.out 3)))
 (try simp only [Act.put,List.setIfInBounds_toArray,List.set_cons_zero,List.set_cons_succ])
 go_cut [31] (fun v31 wc => ∃ (kq:Nat) (x31_1:Bool),v31 = .bool x31_1∧zqd (zjb.j0 kq (l0_1.length:Int) x31_1 a0_0 l0_1 l0_2 l0_3=some r)∧zqd (kq≤k)∧zqd (wc.heap[gb215]? = some (.cells #[.string a0_0,(.slice A0_1 l0_1.length c0_1),(.slice A0_2 l0_2.length c0_2),(.slice A0_3 l0_3.length c0_3)] 61 (0,0)))∧zqd (Below w.heap.size w wc))
 case first=>
  have H:=HC2.out
  clear HC2
  replace H:=Option.bind_eq_some_iff.mp H
  obtain ⟨t216,A50,H⟩:=H
  replace H:(if t216=true then(if(l0_1.length:Int)=0 then(zjb.j0 k (l0_1.length:Int) true a0_0 l0_1 l0_2 l0_3) else (if(l0_1.length:Int) > 6 then(zjb.j0 k (l0_1.length:Int) true a0_0 l0_1 l0_2 l0_3) else (zjb.j0 k (l0_1.length:Int) (decide ((l0_3.length:Int) > 2)) a0_0 l0_1 l0_2 l0_3))) else (zjb.j0 k (l0_1.length:Int) true a0_0 l0_1 l0_2 l0_3))=some r:=H
  have A5:=zqd.mk A50
  clear A50
  by_cases c6:t216=true
  ·subst c6
   have H1:(if(l0_1.length:Int)=0 then(zjb.j0 k (l0_1.length:Int) true a0_0 l0_1 l0_2 l0_3) else (if(l0_1.length:Int) > 6 then(zjb.j0 k (l0_1.length:Int) true a0_0 l0_1 l0_2 l0_3) else (zjb.j0 k (l0_1.length:Int) (decide ((l0_3.length:Int) > 2)) a0_0 l0_1 l0_2 l0_3)))=some r:=by rw [if_pos rfl] at H;exact H
   clear H
   have H:=H1
   clear H1
   by_cases c7:(l0_1.length:Int)=0
   ·rw [if_pos c7] at H
    have c7b0:((l0_1.length:Int) == 0)=true:=beq_iff_eq.mpr c7
    have c7b1:((l0_1.length:Int) != 0)=false:=bne_eq_false_iff_eq.mpr c7
    clear c7
    (first|rw [c7b0]|(simp only [zx6,zx8];rw [c7b0])|skip)
    have H':=zqd.mk H
    clear H
    have hcz8_0:w3.cell? ⟨gb215,0,none⟩=some (.string a0_0):=(zqf BK215.out 0).trans rfl
    have hcz8_1:w3.cell? ⟨gb215,1,none⟩=some (.slice A0_1 l0_1.length c0_1):=(zqf BK215.out 1).trans rfl
    have hcz8_2:w3.cell? ⟨gb215,2,none⟩=some (.slice A0_2 l0_2.length c0_2):=(zqf BK215.out 2).trans rfl
    have hcz8_3:w3.cell? ⟨gb215,3,none⟩=some (.slice A0_3 l0_3.length c0_3):=(zqf BK215.out 3).trans rfl
    have hfz8_0:=zqe BK215.out 0
    have hfz8_1:=zqe BK215.out 1
    have hfz8_2:=zqe BK215.out 2
    have hfz8_3:=zqe BK215.out 3
    go_wp2_with (first|(go_at_call 100;(with_reducible refine(zjm.calls k a0_0 true _ A5.out).mono ?_);rintro e w9 ⟨rfl,hb⟩;have n0_:=zqd.mk (zqr (g:=gb215) (o:=.cells #[.string a0_0,.slice A0_1 l0_1.length c0_1,.slice A0_2 l0_2.length c0_2,.slice A0_3 l0_3.length c0_3] 61 (0,0)) (by(with_reducible repeat(first|refine zqg ?_ _|refine zqj ?_|refine zqh ?_ _));exact BK215.out) hb);have n1_:=zqd.mk (zqn (by repeat(first|(with_reducible first|exact HB.out|apply zqb|apply zqa|apply zqc|refine zqi ?_ GE215.out)|exact HB.out)) hb);clear BK215 HB;have BK215:=n0_;have HB:=n1_;clear n0_ n1_;(try clear hb);(try clear hb2);(try clear hk);(try clear hi)))
    repeat(go_quiet (first|(go_at_call 100;(with_reducible refine(zjm.calls k a0_0 true _ A5.out).mono ?_);rintro e w9 ⟨rfl,hb⟩;have n0_:=zqd.mk (zqr (g:=gb215) (o:=.cells #[.string a0_0,.slice A0_1 l0_1.length c0_1,.slice A0_2 l0_2.length c0_2,.slice A0_3 l0_3.length c0_3] 61 (0,0)) (by(with_reducible repeat(first|refine zqg ?_ _|refine zqj ?_|refine zqh ?_ _));exact BK215.out) hb);have n1_:=zqd.mk (zqn (by repeat(first|(with_reducible first|exact HB.out|apply zqb|apply zqa|apply zqc|refine zqi ?_ GE215.out)|exact HB.out)) hb);clear BK215 HB;have BK215:=n0_;have HB:=n1_;clear n0_ n1_;(try clear hb);(try clear hb2);(try clear hk);(try clear hi)));try go_wp2_with (first|(go_at_call 100;(with_reducible refine(zjm.calls k a0_0 true _ A5.out).mono ?_);rintro e w9 ⟨rfl,hb⟩;have n0_:=zqd.mk (zqr (g:=gb215) (o:=.cells #[.string a0_0,.slice A0_1 l0_1.length c0_1,.slice A0_2 l0_2.length c0_2,.slice A0_3 l0_3.length c0_3] 61 (0,0)) (by(with_reducible repeat(first|refine zqg ?_ _|refine zqj ?_|refine zqh ?_ _));exact BK215.out) hb);have n1_:=zqd.mk (zqn (by repeat(first|(with_reducible first|exact HB.out|apply zqb|apply zqa|apply zqc|refine zqi ?_ GE215.out)|exact HB.out)) hb);clear BK215 HB;have BK215:=n0_;have HB:=n1_;clear n0_ n1_;(try clear hb);(try clear hb2);(try clear hk);(try clear hi))))
    go_meet
    case rel=>exact⟨_,(true),(by first|rfl|(simp;done)|(simp [*];done)|(generalize ByteArray.toList _=q_;cases q_ <;> rfl)),H',⟨by first|omega|exact Nat.le_refl _⟩,⟨by(with_reducible repeat(first|refine zqg ?_ _|refine zqj ?_|refine zqh ?_ _));exact BK215.out⟩,⟨by repeat(first|(with_reducible first|exact HB.out|apply zqb|apply zqa|apply zqc|refine zqi ?_ GE215.out)|exact HB.out)⟩⟩
   ·rw [if_neg c7] at H
    have c7b0:((l0_1.length:Int) == 0)=false:=beq_eq_false_iff_ne.mpr c7
    have c7b1:((l0_1.length:Int) != 0)=true:=bne_iff_ne.mpr c7
    have c7b2:¬ (l0_1 = []):=fun h_=>c7 (by rw [h_];rfl)
    (first|rw [c7b0]|(simp only [zx6,zx8];rw [c7b0])|skip)
    by_cases c10:(l0_1.length:Int) > 6
    ·rw [if_pos c10] at H
     have c10b0:decide (6<(l0_1.length:Int))=true:=decide_eq_true c10
     have c10b1:decide (6<l0_1.length)=true:=decide_eq_true (by omega)
     clear c10
     have H':=zqd.mk H
     clear H
     have hcz11_0:w3.cell? ⟨gb215,0,none⟩=some (.string a0_0):=(zqf BK215.out 0).trans rfl
     have hcz11_1:w3.cell? ⟨gb215,1,none⟩=some (.slice A0_1 l0_1.length c0_1):=(zqf BK215.out 1).trans rfl
     have hcz11_2:w3.cell? ⟨gb215,2,none⟩=some (.slice A0_2 l0_2.length c0_2):=(zqf BK215.out 2).trans rfl
     have hcz11_3:w3.cell? ⟨gb215,3,none⟩=some (.slice A0_3 l0_3.length c0_3):=(zqf BK215.out 3).trans rfl
     have hfz11_0:=zqe BK215.out 0
     have hfz11_1:=zqe BK215.out 1
     have hfz11_2:=zqe BK215.out 2
     have hfz11_3:=zqe BK215.out 3
     go_wp2_with (first|(go_at_call 100;(with_reducible refine(zjm.calls k a0_0 true _ A5.out).mono ?_);rintro e w12 ⟨rfl,hb⟩;have n0_:=zqd.mk (zqr (g:=gb215) (o:=.cells #[.string a0_0,.slice A0_1 l0_1.length c0_1,.slice A0_2 l0_2.length c0_2,.slice A0_3 l0_3.length c0_3] 61 (0,0)) (by(with_reducible repeat(first|refine zqg ?_ _|refine zqj ?_|refine zqh ?_ _));exact BK215.out) hb);have n1_:=zqd.mk (zqn (by repeat(first|(with_reducible first|exact HB.out|apply zqb|apply zqa|apply zqc|refine zqi ?_ GE215.out)|exact HB.out)) hb);clear BK215 HB;have BK215:=n0_;have HB:=n1_;clear n0_ n1_;(try clear hb);(try clear hb2);(try clear hk);(try clear hi)))
     repeat(go_quiet (first|(go_at_call 100;(with_reducible refine(zjm.calls k a0_0 true _ A5.out).mono ?_);rintro e w12 ⟨rfl,hb⟩;have n0_:=zqd.mk (zqr (g:=gb215) (o:=.cells #[.string a0_0,.slice A0_1 l0_1.length c0_1,.slice A0_2 l0_2.length c0_2,.slice A0_3 l0_3.length c0_3] 61 (0,0)) (by(with_reducible repeat(first|refine zqg ?_ _|refine zqj ?_|refine zqh ?_ _));exact BK215.out) hb);have n1_:=zqd.mk (zqn (by repeat(first|(with_reducible first|exact HB.out|apply zqb|apply zqa|apply zqc|refine zqi ?_ GE215.out)|exact HB.out)) hb);clear BK215 HB;have BK215:=n0_;have HB:=n1_;clear n0_ n1_;(try clear hb);(try clear hb2);(try clear hk);(try clear hi)));try go_wp2_with (first|(go_at_call 100;(with_reducible refine(zjm.calls k a0_0 true _ A5.out).mono ?_);rintro e w12 ⟨rfl,hb⟩;have n0_:=zqd.mk (zqr (g:=gb215) (o:=.cells #[.string a0_0,.slice A0_1 l0_1.length c0_1,.slice A0_2 l0_2.length c0_2,.slice A0_3 l0_3.length c0_3] 61 (0,0)) (by(with_reducible repeat(first|refine zqg ?_ _|refine zqj ?_|refine zqh ?_ _));exact BK215.out) hb);have n1_:=zqd.mk (zqn (by repeat(first|(with_reducible first|exact HB.out|apply zqb|apply zqa|apply zqc|refine zqi ?_ GE215.out)|exact HB.out)) hb);clear BK215 HB;have BK215:=n0_;have HB:=n1_;clear n0_ n1_;(try clear hb);(try clear hb2);(try clear hk);(try clear hi))))
     go_meet
     case rel=>exact⟨_,(true),(by first|rfl|(simp;done)|(simp [*];done)|(generalize ByteArray.toList _=q_;cases q_ <;> rfl)),H',⟨by first|omega|exact Nat.le_refl _⟩,⟨by(with_reducible repeat(first|refine zqg ?_ _|refine zqj ?_|refine zqh ?_ _));exact BK215.out⟩,⟨by repeat(first|(with_reducible first|exact HB.out|apply zqb|apply zqa|apply zqc|refine zqi ?_ GE215.out)|exact HB.out)⟩⟩
    ·rw [if_neg c10] at H
     have c10b0:decide (6<(l0_1.length:Int))=false:=decide_eq_false c10
     have c10b1:decide (6<l0_1.length)=false:=decide_eq_false (by omega)
     clear c10
     have H':=zqd.mk H
     clear H
     have hcz13_0:w3.cell? ⟨gb215,0,none⟩=some (.string a0_0):=(zqf BK215.out 0).trans rfl
     have hcz13_1:w3.cell? ⟨gb215,1,none⟩=some (.slice A0_1 l0_1.length c0_1):=(zqf BK215.out 1).trans rfl
     have hcz13_2:w3.cell? ⟨gb215,2,none⟩=some (.slice A0_2 l0_2.length c0_2):=(zqf BK215.out 2).trans rfl
     have hcz13_3:w3.cell? ⟨gb215,3,none⟩=some (.slice A0_3 l0_3.length c0_3):=(zqf BK215.out 3).trans rfl
     have hfz13_0:=zqe BK215.out 0
     have hfz13_1:=zqe BK215.out 1
     have hfz13_2:=zqe BK215.out 2
     have hfz13_3:=zqe BK215.out 3
     go_wp2_with (first|(go_at_call 100;(with_reducible refine(zjm.calls k a0_0 true _ A5.out).mono ?_);rintro e w14 ⟨rfl,hb⟩;have n0_:=zqd.mk (zqr (g:=gb215) (o:=.cells #[.string a0_0,.slice A0_1 l0_1.length c0_1,.slice A0_2 l0_2.length c0_2,.slice A0_3 l0_3.length c0_3] 61 (0,0)) (by(with_reducible repeat(first|refine zqg ?_ _|refine zqj ?_|refine zqh ?_ _));exact BK215.out) hb);have n1_:=zqd.mk (zqn (by repeat(first|(with_reducible first|exact HB.out|apply zqb|apply zqa|apply zqc|refine zqi ?_ GE215.out)|exact HB.out)) hb);clear BK215 HB;have BK215:=n0_;have HB:=n1_;clear n0_ n1_;(try clear hb);(try clear hb2);(try clear hk);(try clear hi);have hcz15_0:w14.cell? ⟨gb215,0,none⟩=some (.string a0_0):=(zqf BK215.out 0).trans rfl;have hcz15_1:w14.cell? ⟨gb215,1,none⟩=some (.slice A0_1 l0_1.length c0_1):=(zqf BK215.out 1).trans rfl;have hcz15_2:w14.cell? ⟨gb215,2,none⟩=some (.slice A0_2 l0_2.length c0_2):=(zqf BK215.out 2).trans rfl;have hcz15_3:w14.cell? ⟨gb215,3,none⟩=some (.slice A0_3 l0_3.length c0_3):=(zqf BK215.out 3).trans rfl;have hfz15_0:=zqe BK215.out 0;have hfz15_1:=zqe BK215.out 1;have hfz15_2:=zqe BK215.out 2;have hfz15_3:=zqe BK215.out 3))
     repeat(go_quiet (first|(go_at_call 100;(with_reducible refine(zjm.calls k a0_0 true _ A5.out).mono ?_);rintro e w14 ⟨rfl,hb⟩;have n0_:=zqd.mk (zqr (g:=gb215) (o:=.cells #[.string a0_0,.slice A0_1 l0_1.length c0_1,.slice A0_2 l0_2.length c0_2,.slice A0_3 l0_3.length c0_3] 61 (0,0)) (by(with_reducible repeat(first|refine zqg ?_ _|refine zqj ?_|refine zqh ?_ _));exact BK215.out) hb);have n1_:=zqd.mk (zqn (by repeat(first|(with_reducible first|exact HB.out|apply zqb|apply zqa|apply zqc|refine zqi ?_ GE215.out)|exact HB.out)) hb);clear BK215 HB;have BK215:=n0_;have HB:=n1_;clear n0_ n1_;(try clear hb);(try clear hb2);(try clear hk);(try clear hi);have hcz15_0:w14.cell? ⟨gb215,0,none⟩=some (.string a0_0):=(zqf BK215.out 0).trans rfl;have hcz15_1:w14.cell? ⟨gb215,1,none⟩=some (.slice A0_1 l0_1.length c0_1):=(zqf BK215.out 1).trans rfl;have hcz15_2:w14.cell? ⟨gb215,2,none⟩=some (.slice A0_2 l0_2.length c0_2):=(zqf BK215.out 2).trans rfl;have hcz15_3:w14.cell? ⟨gb215,3,none⟩=some (.slice A0_3 l0_3.length c0_3):=(zqf BK215.out 3).trans rfl;have hfz15_0:=zqe BK215.out 0;have hfz15_1:=zqe BK215.out 1;have hfz15_2:=zqe BK215.out 2;have hfz15_3:=zqe BK215.out 3));try go_wp2_with (first|(go_at_call 100;(with_reducible refine(zjm.calls k a0_0 true _ A5.out).mono ?_);rintro e w14 ⟨rfl,hb⟩;have n0_:=zqd.mk (zqr (g:=gb215) (o:=.cells #[.string a0_0,.slice A0_1 l0_1.length c0_1,.slice A0_2 l0_2.length c0_2,.slice A0_3 l0_3.length c0_3] 61 (0,0)) (by(with_reducible repeat(first|refine zqg ?_ _|refine zqj ?_|refine zqh ?_ _));exact BK215.out) hb);have n1_:=zqd.mk (zqn (by repeat(first|(with_reducible first|exact HB.out|apply zqb|apply zqa|apply zqc|refine zqi ?_ GE215.out)|exact HB.out)) hb);clear BK215 HB;have BK215:=n0_;have HB:=n1_;clear n0_ n1_;(try clear hb);(try clear hb2);(try clear hk);(try clear hi);have hcz15_0:w14.cell? ⟨gb215,0,none⟩=some (.string a0_0):=(zqf BK215.out 0).trans rfl;have hcz15_1:w14.cell? ⟨gb215,1,none⟩=some (.slice A0_1 l0_1.length c0_1):=(zqf BK215.out 1).trans rfl;have hcz15_2:w14.cell? ⟨gb215,2,none⟩=some (.slice A0_2 l0_2.length c0_2):=(zqf BK215.out 2).trans rfl;have hcz15_3:w14.cell? ⟨gb215,3,none⟩=some (.slice A0_3 l0_3.length c0_3):=(zqf BK215.out 3).trans rfl;have hfz15_0:=zqe BK215.out 0;have hfz15_1:=zqe BK215.out 1;have hfz15_2:=zqe BK215.out 2;have hfz15_3:=zqe BK215.out 3)))
     go_meet
     case rel=>exact⟨_,(decide ((l0_3.length:Int) > 2)),(by first|rfl|(simp;done)|(simp [*];done)|(generalize ByteArray.toList _=q_;cases q_ <;> rfl)),H',⟨by first|omega|exact Nat.le_refl _⟩,⟨by(with_reducible repeat(first|refine zqg ?_ _|refine zqj ?_|refine zqh ?_ _));exact BK215.out⟩,⟨by repeat(first|(with_reducible first|exact HB.out|apply zqb|apply zqa|apply zqc|refine zqi ?_ GE215.out)|exact HB.out)⟩⟩
  ·replace c6:=Bool.eq_false_iff.mpr c6
   subst c6
   have H1:(zjb.j0 k (l0_1.length:Int) true a0_0 l0_1 l0_2 l0_3)=some r:=by rw [if_neg (show ¬ (false=true) by decide)] at H;exact H
   clear H
   have H:=H1
   clear H1
   have H':=zqd.mk H
   clear H
   have hcz16_0:w3.cell? ⟨gb215,0,none⟩=some (.string a0_0):=(zqf BK215.out 0).trans rfl
   have hcz16_1:w3.cell? ⟨gb215,1,none⟩=some (.slice A0_1 l0_1.length c0_1):=(zqf BK215.out 1).trans rfl
   have hcz16_2:w3.cell? ⟨gb215,2,none⟩=some (.slice A0_2 l0_2.length c0_2):=(zqf BK215.out 2).trans rfl
   have hcz16_3:w3.cell? ⟨gb215,3,none⟩=some (.slice A0_3 l0_3.length c0_3):=(zqf BK215.out 3).trans rfl
   have hfz16_0:=zqe BK215.out 0
   have hfz16_1:=zqe BK215.out 1
   have hfz16_2:=zqe BK215.out 2
   have hfz16_3:=zqe BK215.out 3
   go_wp2_with (first|(go_at_call 100;(with_reducible refine(zjm.calls k a0_0 false _ A5.out).mono ?_);rintro e w17 ⟨rfl,hb⟩;have n0_:=zqd.mk (zqr (g:=gb215) (o:=.cells #[.string a0_0,.slice A0_1 l0_1.length c0_1,.slice A0_2 l0_2.length c0_2,.slice A0_3 l0_3.length c0_3] 61 (0,0)) (by(with_reducible repeat(first|refine zqg ?_ _|refine zqj ?_|refine zqh ?_ _));exact BK215.out) hb);have n1_:=zqd.mk (zqn (by repeat(first|(with_reducible first|exact HB.out|apply zqb|apply zqa|apply zqc|refine zqi ?_ GE215.out)|exact HB.out)) hb);clear BK215 HB;have BK215:=n0_;have HB:=n1_;clear n0_ n1_;(try clear hb);(try clear hb2);(try clear hk);(try clear hi)))
   repeat(go_quiet (first|(go_at_call 100;(with_reducible refine(zjm.calls k a0_0 false _ A5.out).mono ?_);rintro e w17 ⟨rfl,hb⟩;have n0_:=zqd.mk (zqr (g:=gb215) (o:=.cells #[.string a0_0,.slice A0_1 l0_1.length c0_1,.slice A0_2 l0_2.length c0_2,.slice A0_3 l0_3.length c0_3] 61 (0,0)) (by(with_reducible repeat(first|refine zqg ?_ _|refine zqj ?_|refine zqh ?_ _));exact BK215.out) hb);have n1_:=zqd.mk (zqn (by repeat(first|(with_reducible first|exact HB.out|apply zqb|apply zqa|apply zqc|refine zqi ?_ GE215.out)|exact HB.out)) hb);clear BK215 HB;have BK215:=n0_;have HB:=n1_;clear n0_ n1_;(try clear hb);(try clear hb2);(try clear hk);(try clear hi)));try go_wp2_with (first|(go_at_call 100;(with_reducible refine(zjm.calls k a0_0 false _ A5.out).mono ?_);rintro e w17 ⟨rfl,hb⟩;have n0_:=zqd.mk (zqr (g:=gb215) (o:=.cells #[.string a0_0,.slice A0_1 l0_1.length c0_1,.slice A0_2 l0_2.length c0_2,.slice A0_3 l0_3.length c0_3] 61 (0,0)) (by(with_reducible repeat(first|refine zqg ?_ _|refine zqj ?_|refine zqh ?_ _));exact BK215.out) hb);have n1_:=zqd.mk (zqn (by repeat(first|(with_reducible first|exact HB.out|apply zqb|apply zqa|apply zqc|refine zqi ?_ GE215.out)|exact HB.out)) hb);clear BK215 HB;have BK215:=n0_;have HB:=n1_;clear n0_ n1_;(try clear hb);(try clear hb2);(try clear hk);(try clear hi))))
   go_meet
   case rel=>exact⟨_,(true),(by first|rfl|(simp;done)|(simp [*];done)|(generalize ByteArray.toList _=q_;cases q_ <;> rfl)),H',⟨by first|omega|exact Nat.le_refl _⟩,⟨by(with_reducible repeat(first|refine zqg ?_ _|refine zqj ?_|refine zqh ?_ _));exact BK215.out⟩,⟨by repeat(first|(with_reducible first|exact HB.out|apply zqb|apply zqa|apply zqc|refine zqi ?_ GE215.out)|exact HB.out)⟩⟩
 case rest=>
  clear HC2
  try clear c1
  try clear p2
  try clear c6
  try clear c7
  try clear c7b0
  try clear c7b1
  try clear c7b2
  try clear c10
  try clear c10b0
  try clear c10b1
  try clear hcz11_0
  try clear hcz11_1
  try clear hcz11_2
  try clear hcz11_3
  try clear hcz13_0
  try clear hcz13_1
  try clear hcz13_2
  try clear hcz13_3
  try clear hcz15_0
  try clear hcz15_1
  try clear hcz15_2
  try clear hcz15_3
  try clear hcz16_0
  try clear hcz16_1
  try clear hcz16_2
  try clear hcz16_3
  try clear hcz4_0
  try clear hcz4_1
  try clear hcz4_2
  try clear hcz4_3
  try clear hcz8_0
  try clear hcz8_1
  try clear hcz8_2
  try clear hcz8_3
  try clear hfz11_0
  try clear hfz11_1
  try clear hfz11_2
  try clear hfz11_3
  try clear hfz13_0
  try clear hfz13_1
  try clear hfz13_2
  try clear hfz13_3
  try clear hfz15_0
  try clear hfz15_1
  try clear hfz15_2
  try clear hfz15_3
  try clear hfz16_0
  try clear hfz16_1
  try clear hfz16_2
  try clear hfz16_3
  try clear hfz4_0
  try clear hfz4_1
  try clear hfz4_2
  try clear hfz4_3
  try clear hfz8_0
  try clear hfz8_1
  try clear hfz8_2
  try clear hfz8_3
  obtain ⟨kq,x31_1,rfl,HA,HJ1,BK215,HB⟩:=hcut
  cases kq with
  | zero=>exact absurd HA.out (by simp [zjb.j0])
  | succ kj1=>
   have H:=HA.out
   clear HA
   simp only [zjb.j0] at H
   by_cases c18:x31_1=true
   ·subst c18
    have H1:(some false)=some r:=by rw [if_pos rfl] at H;exact H
    clear H
    have H:=H1
    clear H1
    obtain rfl:=Option.some.inj H
    go_wp2
    repeat(go_quiet (fail);try go_wp2)
    go_ret
    exact⟨by first|rfl|(simp [zqm,zql] <;> rfl)|(simp [*,zqm,zql] <;> rfl),by repeat(first|(with_reducible first|exact HB.out|apply zqb|apply zqa|apply zqc|refine zqi ?_ GE215.out)|exact HB.out)⟩
   ·replace c18:=Bool.eq_false_iff.mpr c18
    subst c18
    have H1:(zjb.l0 kj1 (l0_1.length:Int) l0_1 (l0_1.length:Int) 0 a0_0 l0_1 l0_2 l0_3)=some r:=by rw [if_neg (show ¬ (false=true) by decide)] at H;exact H
    clear H
    have H:=H1
    clear H1
    have H':=zqd.mk H
    clear H
    have hcz19_0:wc.cell? ⟨gb215,0,none⟩=some (.string a0_0):=(zqf BK215.out 0).trans rfl
    have hcz19_1:wc.cell? ⟨gb215,1,none⟩=some (.slice A0_1 l0_1.length c0_1):=(zqf BK215.out 1).trans rfl
    have hcz19_2:wc.cell? ⟨gb215,2,none⟩=some (.slice A0_2 l0_2.length c0_2):=(zqf BK215.out 2).trans rfl
    have hcz19_3:wc.cell? ⟨gb215,3,none⟩=some (.slice A0_3 l0_3.length c0_3):=(zqf BK215.out 3).trans rfl
    have hfz19_0:=zqe BK215.out 0
    have hfz19_1:=zqe BK215.out 1
    have hfz19_2:=zqe BK215.out 2
    have hfz19_3:=zqe BK215.out 3
    go_wp2
    repeat(go_quiet (fail);try go_wp2)
    go_loopg [35] kj1 (fun kq v35 w' => ∃ (x35_2:Int),v35 = .int .i64 x35_2∧zqd (zjb.l0 kq (l0_1.length:Int) l0_1 (l0_1.length:Int) x35_2 a0_0 l0_1 l0_2 l0_3=some r)∧zqd (kq≤kj1)∧zqd (w'.heap[gb215]? = some (.cells #[.string a0_0,(.slice A0_1 l0_1.length c0_1),(.slice A0_2 l0_2.length c0_2),(.slice A0_3 l0_3.length c0_3)] 61 (0,0)))∧zqd (Below w.heap.size w w'))
    case atStart=>exact⟨(0),(by first|rfl|(simp;done)|(simp [*];done)|(generalize ByteArray.toList _=q_;cases q_ <;> rfl)),H',⟨Nat.le_refl _⟩,⟨by(with_reducible repeat(first|refine zqg ?_ _|refine zqj ?_|refine zqh ?_ _));exact BK215.out⟩,⟨by repeat(first|(with_reducible first|exact HB.out|apply zqb|apply zqa|apply zqc|refine zqi ?_ GE215.out)|exact HB.out)⟩⟩
    case round=>
     clear H'
     try clear c1
     try clear p2
     try clear c6
     try clear c7
     try clear c7b0
     try clear c7b1
     try clear c7b2
     try clear c10
     try clear c10b0
     try clear c10b1
     try clear c18
     try clear hcz11_0
     try clear hcz11_1
     try clear hcz11_2
     try clear hcz11_3
     try clear hcz13_0
     try clear hcz13_1
     try clear hcz13_2
     try clear hcz13_3
     try clear hcz15_0
     try clear hcz15_1
     try clear hcz15_2
     try clear hcz15_3
     try clear hcz16_0
     try clear hcz16_1
     try clear hcz16_2
     try clear hcz16_3
     try clear hcz19_0
     try clear hcz19_1
     try clear hcz19_2
     try clear hcz19_3
     try clear hcz4_0
     try clear hcz4_1
     try clear hcz4_2
     try clear hcz4_3
     try clear hcz8_0
     try clear hcz8_1
     try clear hcz8_2
     try clear hcz8_3
     try clear hfz11_0
     try clear hfz11_1
     try clear hfz11_2
     try clear hfz11_3
     try clear hfz13_0
     try clear hfz13_1
     try clear hfz13_2
     try clear hfz13_3
     try clear hfz15_0
     try clear hfz15_1
     try clear hfz15_2
     try clear hfz15_3
     try clear hfz16_0
     try clear hfz16_1
     try clear hfz16_2
     try clear hfz16_3
     try clear hfz19_0
     try clear hfz19_1
     try clear hfz19_2
     try clear hfz19_3
     try clear hfz4_0
     try clear hfz4_1
     try clear hfz4_2
     try clear hfz4_3
     try clear hfz8_0
     try clear hfz8_1
     try clear hfz8_2
     try clear hfz8_3
     try clear p2
     obtain ⟨x35_2,rfl,HA,HK2,BK215,HB⟩:=hrel
     cases gk with
     | zero=>exact absurd HA.out (by simp [zjb.l0])
     | succ k2=>
      have H:=HA.out
      clear HA
      simp only [zjb.l0] at H
      by_cases c20:x35_2<(l0_1.length:Int)
      ·rw [if_pos c20] at H
       have c20b0:decide (x35_2<(l0_1.length:Int))=true:=decide_eq_true c20
       clear c20
       by_cases c21:0≤x35_2
       ·rw [if_pos c21] at H
        have c21b0:decide (0≤x35_2)=true:=decide_eq_true c21
        clear c21
        by_cases c22:x35_2<(l0_1.length:Int)
        ·rw [if_pos c22] at H
         have c22b0:decide (x35_2<(l0_1.length:Int))=true:=decide_eq_true c22
         clear c22
         have HC23:=zqd.mk H
         clear H
         have p217:0≤(x35_2:Int):=of_decide_eq_true (by first|(with_reducible assumption)|assumption)
         have q217:x35_2<(l0_1.length:Int):=of_decide_eq_true (by first|(with_reducible assumption)|assumption)
         obtain ⟨ad217,e217,hx217_0,hx217_1,hx217_2⟩:=at_T90 HR0_1.out x35_2 p217 q217
         cases e217
         replace hx217_0:=(HB.out.cell (World.block_lt_of_cell? w _ hx217_0)).trans hx217_0
         replace hx217_1:=(HB.out.cell (World.block_lt_of_cell? w _ hx217_1)).trans hx217_1
         replace hx217_2:=(HB.out.cell (World.block_lt_of_cell? w _ hx217_2)).trans hx217_2
         replace p217:=eq_true p217
         replace q217:=eq_true q217
         go_upto_region 7 with (first|((with_reducible refine zqx (N:=5) rfl ?_);(try(refine zqz (by rfl) ?_;dsimp only));refine zqt ?hg (N:=5) ?hd (cs:=#[.string (⟨#[]⟩:ByteArray),.int .i64 0,.bool false]) (t:=90) ?hr ?_;(case hd=>rfl);(case hg=>rfl);(case hr=>first|(go_simp;done)|(go_simp;rfl));intro gb218 hg w24 hbox hb;have n0_:=zqd.mk (zqr (g:=gb215) (o:=.cells #[.string a0_0,.slice (some ad217) l0_1.length c0_1,.slice A0_2 l0_2.length c0_2,.slice A0_3 l0_3.length c0_3] 61 (0,0)) (by(with_reducible repeat(first|refine zqg ?_ _|refine zqj ?_|refine zqh ?_ _));exact BK215.out) hb);have n1_:=zqd.mk (zqn (by repeat(first|(with_reducible first|exact HB.out|apply zqb|apply zqa|apply zqc|refine zqi ?_ GE215.out)|exact HB.out)) hb);have n2_:=zqd.mk (hbox);have n3_:=zqd.mk ((by rw [hg];exact(zqk (by repeat(first|(with_reducible first|exact HB.out|apply zqb|apply zqa|apply zqc|refine zqi ?_ GE215.out)|exact HB.out))):w.heap.size≤gb218));have n4_:=zqd.mk ((by rw [hg];exact(zqk (by repeat(first|(with_reducible first|exact HB.out|apply zqb|apply zqa|apply zqc|refine zqi ?_ GE215.out)|exact HB.out))):w.heap.size≤gb218));have n5_:=zqd.mk ((by rw [hg];exact Nat.ne_of_lt (zxh (g:=gb215) (o:=.cells #[.string a0_0,.slice (some ad217) l0_1.length c0_1,.slice A0_2 l0_2.length c0_2,.slice A0_3 l0_3.length c0_3] 61 (0,0)) (by(with_reducible repeat(first|refine zqg ?_ _|refine zqj ?_|refine zqh ?_ _));exact BK215.out)):gb215≠gb218));have n6_:=zqd.mk ((by rw [hg];exact Nat.ne_of_gt (zxh (g:=gb215) (o:=.cells #[.string a0_0,.slice (some ad217) l0_1.length c0_1,.slice A0_2 l0_2.length c0_2,.slice A0_3 l0_3.length c0_3] 61 (0,0)) (by(with_reducible repeat(first|refine zqg ?_ _|refine zqj ?_|refine zqh ?_ _));exact BK215.out)):gb218≠gb215));clear BK215 HB;have BK215:=n0_;have HB:=n1_;have BK218:=n2_;have GW218:=n3_;have GE218:=n4_;have NB215_218:=n5_;have NB218_215:=n6_;clear n0_ n1_ n2_ n3_ n4_ n5_ n6_ hb hbox hg;have hnb25:=NB218_215.out;have hnc25:=NB215_218.out;have hcz26_0:w24.cell? ⟨gb218,0,none⟩=some (.string (⟨#[]⟩:ByteArray)):=(zqf BK218.out 0).trans rfl;have hcz26_1:w24.cell? ⟨gb218,1,none⟩=some (.int .i64 0):=(zqf BK218.out 1).trans rfl;have hcz26_2:w24.cell? ⟨gb218,2,none⟩=some (.bool false):=(zqf BK218.out 2).trans rfl;have hfz26_0:=zqe BK218.out 0;have hfz26_1:=zqe BK218.out 1;have hfz26_2:=zqe BK218.out 2))
         repeat(go_quiet (first|((with_reducible refine zqx (N:=5) rfl ?_);(try(refine zqz (by rfl) ?_;dsimp only));refine zqt ?hg (N:=5) ?hd (cs:=#[.string (⟨#[]⟩:ByteArray),.int .i64 0,.bool false]) (t:=90) ?hr ?_;(case hd=>rfl);(case hg=>rfl);(case hr=>first|(go_simp;done)|(go_simp;rfl));intro gb218 hg w24 hbox hb;have n0_:=zqd.mk (zqr (g:=gb215) (o:=.cells #[.string a0_0,.slice (some ad217) l0_1.length c0_1,.slice A0_2 l0_2.length c0_2,.slice A0_3 l0_3.length c0_3] 61 (0,0)) (by(with_reducible repeat(first|refine zqg ?_ _|refine zqj ?_|refine zqh ?_ _));exact BK215.out) hb);have n1_:=zqd.mk (zqn (by repeat(first|(with_reducible first|exact HB.out|apply zqb|apply zqa|apply zqc|refine zqi ?_ GE215.out)|exact HB.out)) hb);have n2_:=zqd.mk (hbox);have n3_:=zqd.mk ((by rw [hg];exact(zqk (by repeat(first|(with_reducible first|exact HB.out|apply zqb|apply zqa|apply zqc|refine zqi ?_ GE215.out)|exact HB.out))):w.heap.size≤gb218));have n4_:=zqd.mk ((by rw [hg];exact(zqk (by repeat(first|(with_reducible first|exact HB.out|apply zqb|apply zqa|apply zqc|refine zqi ?_ GE215.out)|exact HB.out))):w.heap.size≤gb218));have n5_:=zqd.mk ((by rw [hg];exact Nat.ne_of_lt (zxh (g:=gb215) (o:=.cells #[.string a0_0,.slice (some ad217) l0_1.length c0_1,.slice A0_2 l0_2.length c0_2,.slice A0_3 l0_3.length c0_3] 61 (0,0)) (by(with_reducible repeat(first|refine zqg ?_ _|refine zqj ?_|refine zqh ?_ _));exact BK215.out)):gb215≠gb218));have n6_:=zqd.mk ((by rw [hg];exact Nat.ne_of_gt (zxh (g:=gb215) (o:=.cells #[.string a0_0,.slice (some ad217) l0_1.length c0_1,.slice A0_2 l0_2.length c0_2,.slice A0_3 l0_3.length c0_3] 61 (0,0)) (by(with_reducible repeat(first|refine zqg ?_ _|refine zqj ?_|refine zqh ?_ _));exact BK215.out)):gb218≠gb215));clear BK215 HB;have BK215:=n0_;have HB:=n1_;have BK218:=n2_;have GW218:=n3_;have GE218:=n4_;have NB215_218:=n5_;have NB218_215:=n6_;clear n0_ n1_ n2_ n3_ n4_ n5_ n6_ hb hbox hg;have hnb25:=NB218_215.out;have hnc25:=NB215_218.out;have hcz26_0:w24.cell? ⟨gb218,0,none⟩=some (.string (⟨#[]⟩:ByteArray)):=(zqf BK218.out 0).trans rfl;have hcz26_1:w24.cell? ⟨gb218,1,none⟩=some (.int .i64 0):=(zqf BK218.out 1).trans rfl;have hcz26_2:w24.cell? ⟨gb218,2,none⟩=some (.bool false):=(zqf BK218.out 2).trans rfl;have hfz26_0:=zqe BK218.out 0;have hfz26_1:=zqe BK218.out 1;have hfz26_2:=zqe BK218.out 2));go_upto_region 7 with (first|((with_reducible refine zqx (N:=5) rfl ?_);(try(refine zqz (by rfl) ?_;dsimp only));refine zqt ?hg (N:=5) ?hd (cs:=#[.string (⟨#[]⟩:ByteArray),.int .i64 0,.bool false]) (t:=90) ?hr ?_;(case hd=>rfl);(case hg=>rfl);(case hr=>first|(go_simp;done)|(go_simp;rfl));intro gb218 hg w24 hbox hb;have n0_:=zqd.mk (zqr (g:=gb215) (o:=.cells #[.string a0_0,.slice (some ad217) l0_1.length c0_1,.slice A0_2 l0_2.length c0_2,.slice A0_3 l0_3.length c0_3] 61 (0,0)) (by(with_reducible repeat(first|refine zqg ?_ _|refine zqj ?_|refine zqh ?_ _));exact BK215.out) hb);have n1_:=zqd.mk (zqn (by repeat(first|(with_reducible first|exact HB.out|apply zqb|apply zqa|apply zqc|refine zqi ?_ GE215.out)|exact HB.out)) hb);have n2_:=zqd.mk (hbox);have n3_:=zqd.mk ((by rw [hg];exact(zqk (by repeat(first|(with_reducible first|exact HB.out|apply zqb|apply zqa|apply zqc|refine zqi ?_ GE215.out)|exact HB.out))):w.heap.size≤gb218));have n4_:=zqd.mk ((by rw [hg];exact(zqk (by repeat(first|(with_reducible first|exact HB.out|apply zqb|apply zqa|apply zqc|refine zqi ?_ GE215.out)|exact HB.out))):w.heap.size≤gb218));have n5_:=zqd.mk ((by rw [hg];exact Nat.ne_of_lt (zxh (g:=gb215) (o:=.cells #[.string a0_0,.slice (some ad217) l0_1.length c0_1,.slice A0_2 l0_2.length c0_2,.slice A0_3 l0_3.length c0_3] 61 (0,0)) (by(with_reducible repeat(first|refine zqg ?_ _|refine zqj ?_|refine zqh ?_ _));exact BK215.out)):gb215≠gb218));have n6_:=zqd.mk ((by rw [hg];exact Nat.ne_of_gt (zxh (g:=gb215) (o:=.cells #[.string a0_0,.slice (some ad217) l0_1.length c0_1,.slice A0_2 l0_2.length c0_2,.slice A0_3 l0_3.length c0_3] 61 (0,0)) (by(with_reducible repeat(first|refine zqg ?_ _|refine zqj ?_|refine zqh ?_ _));exact BK215.out)):gb218≠gb215));clear BK215 HB;have BK215:=n0_;have HB:=n1_;have BK218:=n2_;have GW218:=n3_;have GE218:=n4_;have NB215_218:=n5_;have NB218_215:=n6_;clear n0_ n1_ n2_ n3_ n4_ n5_ n6_ hb hbox hg;have hnb25:=NB218_215.out;have hnc25:=NB215_218.out;have hcz26_0:w24.cell? ⟨gb218,0,none⟩=some (.string (⟨#[]⟩:ByteArray)):=(zqf BK218.out 0).trans rfl;have hcz26_1:w24.cell? ⟨gb218,1,none⟩=some (.int .i64 0):=(zqf BK218.out 1).trans rfl;have hcz26_2:w24.cell? ⟨gb218,2,none⟩=some (.bool false):=(zqf BK218.out 2).trans rfl;have hfz26_0:=zqe BK218.out 0;have hfz26_1:=zqe BK218.out 1;have hfz26_2:=zqe BK218.out 2)))
         (try simp only [Act.put,List.setIfInBounds_toArray,List.set_cons_zero,List.set_cons_succ])
         go_cut [58] (fun v58 wc => ∃ (kq:Nat) (x58_22:Bool),v58 = .bool x58_22∧zqd (zjb.j2 kq (l0_1.length:Int) x35_2 l0_1 (l0_1.length:Int) x35_2 x58_22 a0_0 l0_1 l0_2 l0_3 ((zqp l0_1 x35_2).f0) ((zqp l0_1 x35_2).f1) ((zqp l0_1 x35_2).f2)=some r)∧zqd (kq≤k2)∧zqd (wc.heap[gb215]? = some (.cells #[.string a0_0,(.slice (some ad217) l0_1.length c0_1),(.slice A0_2 l0_2.length c0_2),(.slice A0_3 l0_3.length c0_3)] 61 (0,0)))∧zqd (wc.heap[gb218]? = some (.cells #[.string ((zqp l0_1 x35_2).f0),.int .i64 ((zqp l0_1 x35_2).f1),.bool ((zqp l0_1 x35_2).f2)] 90 (0,0)))∧zqd (Below w.heap.size w wc))
         case first=>
          have H:=HC23.out
          clear HC23
          replace H:=Option.bind_eq_some_iff.mp H
          obtain ⟨t219,A270,H⟩:=H
          replace H:(if t219=true then(if((zqp l0_1 x35_2).f1)=1 then(zjb.j2 k2 (l0_1.length:Int) x35_2 l0_1 (l0_1.length:Int) x35_2 false a0_0 l0_1 l0_2 l0_3 ((zqp l0_1 x35_2).f0) ((zqp l0_1 x35_2).f1) ((zqp l0_1 x35_2).f2)) else (if((zqp l0_1 x35_2).f1)=2 then(zjb.j2 k2 (l0_1.length:Int) x35_2 l0_1 (l0_1.length:Int) x35_2 false a0_0 l0_1 l0_2 l0_3 ((zqp l0_1 x35_2).f0) ((zqp l0_1 x35_2).f1) ((zqp l0_1 x35_2).f2)) else (zjb.j2 k2 (l0_1.length:Int) x35_2 l0_1 (l0_1.length:Int) x35_2 (((zqp l0_1 x35_2).f1) != 3) a0_0 l0_1 l0_2 l0_3 ((zqp l0_1 x35_2).f0) ((zqp l0_1 x35_2).f1) ((zqp l0_1 x35_2).f2)))) else (zjb.j2 k2 (l0_1.length:Int) x35_2 l0_1 (l0_1.length:Int) x35_2 true a0_0 l0_1 l0_2 l0_3 ((zqp l0_1 x35_2).f0) ((zqp l0_1 x35_2).f1) ((zqp l0_1 x35_2).f2)))=some r:=H
          have A27:=zqd.mk A270
          clear A270
          by_cases c28:t219=true
          ·subst c28
           have H1:(if((zqp l0_1 x35_2).f1)=1 then(zjb.j2 k2 (l0_1.length:Int) x35_2 l0_1 (l0_1.length:Int) x35_2 false a0_0 l0_1 l0_2 l0_3 ((zqp l0_1 x35_2).f0) ((zqp l0_1 x35_2).f1) ((zqp l0_1 x35_2).f2)) else (if((zqp l0_1 x35_2).f1)=2 then(zjb.j2 k2 (l0_1.length:Int) x35_2 l0_1 (l0_1.length:Int) x35_2 false a0_0 l0_1 l0_2 l0_3 ((zqp l0_1 x35_2).f0) ((zqp l0_1 x35_2).f1) ((zqp l0_1 x35_2).f2)) else (zjb.j2 k2 (l0_1.length:Int) x35_2 l0_1 (l0_1.length:Int) x35_2 (((zqp l0_1 x35_2).f1) != 3) a0_0 l0_1 l0_2 l0_3 ((zqp l0_1 x35_2).f0) ((zqp l0_1 x35_2).f1) ((zqp l0_1 x35_2).f2))))=some r:=by rw [if_pos rfl] at H;exact H
           clear H
           have H:=H1
           clear H1
           by_cases c29:((zqp l0_1 x35_2).f1)=1
           ·rw [if_pos c29] at H
            have c29b0:(((zqp l0_1 x35_2).f1) == 1)=true:=beq_iff_eq.mpr c29
            have c29b1:(((zqp l0_1 x35_2).f1) != 1)=false:=bne_eq_false_iff_eq.mpr c29
            clear c29
            (first|rw [c29b0]|(simp only [zx6,zx8];rw [c29b0])|skip)
            have H':=zqd.mk H
            clear H
            have hnb30:=NB218_215.out
            have hnc30:=NB215_218.out
            have hcz31_0:w24.cell? ⟨gb218,0,none⟩=some (.string (⟨#[]⟩:ByteArray)):=(zqf BK218.out 0).trans rfl
            have hcz31_1:w24.cell? ⟨gb218,1,none⟩=some (.int .i64 0):=(zqf BK218.out 1).trans rfl
            have hcz31_2:w24.cell? ⟨gb218,2,none⟩=some (.bool false):=(zqf BK218.out 2).trans rfl
            have hfz31_0:=zqe BK218.out 0
            have hfz31_1:=zqe BK218.out 1
            have hfz31_2:=zqe BK218.out 2
            go_wp2_with (first|(go_at_call 100;(with_reducible refine(zjm.calls k2 ((zqp l0_1 x35_2).f0) true _ A27.out).mono ?_);rintro e w32 ⟨rfl,hb⟩;have n0_:=zqd.mk (zqr (g:=gb215) (o:=.cells #[.string a0_0,.slice (some ad217) l0_1.length c0_1,.slice A0_2 l0_2.length c0_2,.slice A0_3 l0_3.length c0_3] 61 (0,0)) (by(with_reducible repeat(first|refine zqg ?_ _|refine zqj ?_|refine zqh ?_ _));refine zq1 ?_ NB215_218.out _;(with_reducible repeat(first|refine zqg ?_ _|refine zqj ?_|refine zqh ?_ _));refine zq1 ?_ NB215_218.out _;(with_reducible repeat(first|refine zqg ?_ _|refine zqj ?_|refine zqh ?_ _));refine zq1 ?_ NB215_218.out _;(with_reducible repeat(first|refine zqg ?_ _|refine zqj ?_|refine zqh ?_ _));exact BK215.out) hb);have n1_:=zqd.mk (zqr (g:=gb218) (o:=.cells #[.string ((zqp l0_1 x35_2).f0),.int .i64 ((zqp l0_1 x35_2).f1),.bool ((zqp l0_1 x35_2).f2)] 90 (0,0)) (by(with_reducible repeat(first|refine zqg ?_ _|refine zqj ?_|refine zqh ?_ _));refine zqu (cs:=#[.string ((zqp l0_1 x35_2).f0),.int .i64 ((zqp l0_1 x35_2).f1),.bool false]) ?_ 2 _ rfl;(with_reducible repeat(first|refine zqg ?_ _|refine zqj ?_|refine zqh ?_ _));refine zqu (cs:=#[.string ((zqp l0_1 x35_2).f0),.int .i64 0,.bool false]) ?_ 1 _ rfl;(with_reducible repeat(first|refine zqg ?_ _|refine zqj ?_|refine zqh ?_ _));refine zqu (cs:=#[.string (⟨#[]⟩:ByteArray),.int .i64 0,.bool false]) ?_ 0 _ rfl;(with_reducible repeat(first|refine zqg ?_ _|refine zqj ?_|refine zqh ?_ _));exact BK218.out) hb);have n2_:=zqd.mk (zqn (by repeat(first|(with_reducible first|exact HB.out|apply zqb|apply zqa|apply zqc|refine zqi ?_ GE215.out|refine zqi ?_ GE218.out)|exact HB.out)) hb);clear BK215 BK218 HB;have BK215:=n0_;have BK218:=n1_;have HB:=n2_;clear n0_ n1_ n2_;(try clear hb);(try clear hb2);(try clear hk);(try clear hi);have hcz33_0:w32.cell? ⟨gb218,0,none⟩=some (.string ((zqp l0_1 x35_2).f0)):=(zqf BK218.out 0).trans rfl;have hcz33_1:w32.cell? ⟨gb218,1,none⟩=some (.int .i64 ((zqp l0_1 x35_2).f1)):=(zqf BK218.out 1).trans rfl;have hcz33_2:w32.cell? ⟨gb218,2,none⟩=some (.bool ((zqp l0_1 x35_2).f2)):=(zqf BK218.out 2).trans rfl;have hfz33_0:=zqe BK218.out 0;have hfz33_1:=zqe BK218.out 1;have hfz33_2:=zqe BK218.out 2))
            repeat(go_quiet (first|(go_at_call 100;(with_reducible refine(zjm.calls k2 ((zqp l0_1 x35_2).f0) true _ A27.out).mono ?_);rintro e w32 ⟨rfl,hb⟩;have n0_:=zqd.mk (zqr (g:=gb215) (o:=.cells #[.string a0_0,.slice (some ad217) l0_1.length c0_1,.slice A0_2 l0_2.length c0_2,.slice A0_3 l0_3.length c0_3] 61 (0,0)) (by(with_reducible repeat(first|refine zqg ?_ _|refine zqj ?_|refine zqh ?_ _));refine zq1 ?_ NB215_218.out _;(with_reducible repeat(first|refine zqg ?_ _|refine zqj ?_|refine zqh ?_ _));refine zq1 ?_ NB215_218.out _;(with_reducible repeat(first|refine zqg ?_ _|refine zqj ?_|refine zqh ?_ _));refine zq1 ?_ NB215_218.out _;(with_reducible repeat(first|refine zqg ?_ _|refine zqj ?_|refine zqh ?_ _));exact BK215.out) hb);have n1_:=zqd.mk (zqr (g:=gb218) (o:=.cells #[.string ((zqp l0_1 x35_2).f0),.int .i64 ((zqp l0_1 x35_2).f1),.bool ((zqp l0_1 x35_2).f2)] 90 (0,0)) (by(with_reducible repeat(first|refine zqg ?_ _|refine zqj ?_|refine zqh ?_ _));refine zqu (cs:=#[.string ((zqp l0_1 x35_2).f0),.int .i64 ((zqp l0_1 x35_2).f1),.bool false]) ?_ 2 _ rfl;(with_reducible repeat(first|refine zqg ?_ _|refine zqj ?_|refine zqh ?_ _));refine zqu (cs:=#[.string ((zqp l0_1 x35_2).f0),.int .i64 0,.bool false]) ?_ 1 _ rfl;(with_reducible repeat(first|refine zqg ?_ _|refine zqj ?_|refine zqh ?_ _));refine zqu (cs:=#[.string (⟨#[]⟩:ByteArray),.int .i64 0,.bool false]) ?_ 0 _ rfl;(with_reducible repeat(first|refine zqg ?_ _|refine zqj ?_|refine zqh ?_ _));exact BK218.out) hb);have n2_:=zqd.mk (zqn (by repeat(first|(with_reducible first|exact HB.out|apply zqb|apply zqa|apply zqc|refine zqi ?_ GE215.out|refine zqi ?_ GE218.out)|exact HB.out)) hb);clear BK215 BK218 HB;have BK215:=n0_;have BK218:=n1_;have HB:=n2_;clear n0_ n1_ n2_;(try clear hb);(try clear hb2);(try clear hk);(try clear hi);have hcz33_0:w32.cell? ⟨gb218,0,none⟩=some (.string ((zqp l0_1 x35_2).f0)):=(zqf BK218.out 0).trans rfl;have hcz33_1:w32.cell? ⟨gb218,1,none⟩=some (.int .i64 ((zqp l0_1 x35_2).f1)):=(zqf BK218.out 1).trans rfl;have hcz33_2:w32.cell? ⟨gb218,2,none⟩=some (.bool ((zqp l0_1 x35_2).f2)):=(zqf BK218.out 2).trans rfl;have hfz33_0:=zqe BK218.out 0;have hfz33_1:=zqe BK218.out 1;have hfz33_2:=zqe BK218.out 2));try go_wp2_with (first|(go_at_call 100;(with_reducible refine(zjm.calls k2 ((zqp l0_1 x35_2).f0) true _ A27.out).mono ?_);rintro e w32 ⟨rfl,hb⟩;have n0_:=zqd.mk (zqr (g:=gb215) (o:=.cells #[.string a0_0,.slice (some ad217) l0_1.length c0_1,.slice A0_2 l0_2.length c0_2,.slice A0_3 l0_3.length c0_3] 61 (0,0)) (by(with_reducible repeat(first|refine zqg ?_ _|refine zqj ?_|refine zqh ?_ _));refine zq1 ?_ NB215_218.out _;(with_reducible repeat(first|refine zqg ?_ _|refine zqj ?_|refine zqh ?_ _));refine zq1 ?_ NB215_218.out _;(with_reducible repeat(first|refine zqg ?_ _|refine zqj ?_|refine zqh ?_ _));refine zq1 ?_ NB215_218.out _;(with_reducible repeat(first|refine zqg ?_ _|refine zqj ?_|refine zqh ?_ _));exact BK215.out) hb);have n1_:=zqd.mk (zqr (g:=gb218) (o:=.cells #[.string ((zqp l0_1 x35_2).f0),.int .i64 ((zqp l0_1 x35_2).f1),.bool ((zqp l0_1 x35_2).f2)] 90 (0,0)) (by(with_reducible repeat(first|refine zqg ?_ _|refine zqj ?_|refine zqh ?_ _));refine zqu (cs:=#[.string ((zqp l0_1 x35_2).f0),.int .i64 ((zqp l0_1 x35_2).f1),.bool false]) ?_ 2 _ rfl;(with_reducible repeat(first|refine zqg ?_ _|refine zqj ?_|refine zqh ?_ _));refine zqu (cs:=#[.string ((zqp l0_1 x35_2).f0),.int .i64 0,.bool false]) ?_ 1 _ rfl;(with_reducible repeat(first|refine zqg ?_ _|refine zqj ?_|refine zqh ?_ _));refine zqu (cs:=#[.string (⟨#[]⟩:ByteArray),.int .i64 0,.bool false]) ?_ 0 _ rfl;(with_reducible repeat(first|refine zqg ?_ _|refine zqj ?_|refine zqh ?_ _));exact BK218.out) hb);have n2_:=zqd.mk (zqn (by repeat(first|(with_reducible first|exact HB.out|apply zqb|apply zqa|apply zqc|refine zqi ?_ GE215.out|refine zqi ?_ GE218.out)|exact HB.out)) hb);clear BK215 BK218 HB;have BK215:=n0_;have BK218:=n1_;have HB:=n2_;clear n0_ n1_ n2_;(try clear hb);(try clear hb2);(try clear hk);(try clear hi);have hcz33_0:w32.cell? ⟨gb218,0,none⟩=some (.string ((zqp l0_1 x35_2).f0)):=(zqf BK218.out 0).trans rfl;have hcz33_1:w32.cell? ⟨gb218,1,none⟩=some (.int .i64 ((zqp l0_1 x35_2).f1)):=(zqf BK218.out 1).trans rfl;have hcz33_2:w32.cell? ⟨gb218,2,none⟩=some (.bool ((zqp l0_1 x35_2).f2)):=(zqf BK218.out 2).trans rfl;have hfz33_0:=zqe BK218.out 0;have hfz33_1:=zqe BK218.out 1;have hfz33_2:=zqe BK218.out 2)))
            go_meet
            case rel=>exact⟨_,(false),(by first|rfl|(simp;done)|(simp [*];done)|(generalize ByteArray.toList _=q_;cases q_ <;> rfl)),H',⟨by have:=HJ1.out;have:=HK2.out;first|omega|exact Nat.le_refl _⟩,⟨by(with_reducible repeat(first|refine zqg ?_ _|refine zqj ?_|refine zqh ?_ _));exact BK215.out⟩,⟨by(with_reducible repeat(first|refine zqg ?_ _|refine zqj ?_|refine zqh ?_ _));exact BK218.out⟩,⟨by repeat(first|(with_reducible first|exact HB.out|apply zqb|apply zqa|apply zqc|refine zqi ?_ GE215.out|refine zqi ?_ GE218.out)|exact HB.out)⟩⟩
           ·rw [if_neg c29] at H
            have c29b0:(((zqp l0_1 x35_2).f1) == 1)=false:=beq_eq_false_iff_ne.mpr c29
            have c29b1:(((zqp l0_1 x35_2).f1) != 1)=true:=bne_iff_ne.mpr c29
            (first|rw [c29b0]|(simp only [zx6,zx8];rw [c29b0])|skip)
            by_cases c34:((zqp l0_1 x35_2).f1)=2
            ·rw [if_pos c34] at H
             have c34b0:(((zqp l0_1 x35_2).f1) == 2)=true:=beq_iff_eq.mpr c34
             have c34b1:(((zqp l0_1 x35_2).f1) != 2)=false:=bne_eq_false_iff_eq.mpr c34
             clear c34
             have H':=zqd.mk H
             clear H
             have hnb35:=NB218_215.out
             have hnc35:=NB215_218.out
             have hcz36_0:w24.cell? ⟨gb218,0,none⟩=some (.string (⟨#[]⟩:ByteArray)):=(zqf BK218.out 0).trans rfl
             have hcz36_1:w24.cell? ⟨gb218,1,none⟩=some (.int .i64 0):=(zqf BK218.out 1).trans rfl
             have hcz36_2:w24.cell? ⟨gb218,2,none⟩=some (.bool false):=(zqf BK218.out 2).trans rfl
             have hfz36_0:=zqe BK218.out 0
             have hfz36_1:=zqe BK218.out 1
             have hfz36_2:=zqe BK218.out 2
             go_wp2_with (first|(go_at_call 100;(with_reducible refine(zjm.calls k2 ((zqp l0_1 x35_2).f0) true _ A27.out).mono ?_);rintro e w37 ⟨rfl,hb⟩;have n0_:=zqd.mk (zqr (g:=gb215) (o:=.cells #[.string a0_0,.slice (some ad217) l0_1.length c0_1,.slice A0_2 l0_2.length c0_2,.slice A0_3 l0_3.length c0_3] 61 (0,0)) (by(with_reducible repeat(first|refine zqg ?_ _|refine zqj ?_|refine zqh ?_ _));refine zq1 ?_ NB215_218.out _;(with_reducible repeat(first|refine zqg ?_ _|refine zqj ?_|refine zqh ?_ _));refine zq1 ?_ NB215_218.out _;(with_reducible repeat(first|refine zqg ?_ _|refine zqj ?_|refine zqh ?_ _));refine zq1 ?_ NB215_218.out _;(with_reducible repeat(first|refine zqg ?_ _|refine zqj ?_|refine zqh ?_ _));exact BK215.out) hb);have n1_:=zqd.mk (zqr (g:=gb218) (o:=.cells #[.string ((zqp l0_1 x35_2).f0),.int .i64 ((zqp l0_1 x35_2).f1),.bool ((zqp l0_1 x35_2).f2)] 90 (0,0)) (by(with_reducible repeat(first|refine zqg ?_ _|refine zqj ?_|refine zqh ?_ _));refine zqu (cs:=#[.string ((zqp l0_1 x35_2).f0),.int .i64 ((zqp l0_1 x35_2).f1),.bool false]) ?_ 2 _ rfl;(with_reducible repeat(first|refine zqg ?_ _|refine zqj ?_|refine zqh ?_ _));refine zqu (cs:=#[.string ((zqp l0_1 x35_2).f0),.int .i64 0,.bool false]) ?_ 1 _ rfl;(with_reducible repeat(first|refine zqg ?_ _|refine zqj ?_|refine zqh ?_ _));refine zqu (cs:=#[.string (⟨#[]⟩:ByteArray),.int .i64 0,.bool false]) ?_ 0 _ rfl;(with_reducible repeat(first|refine zqg ?_ _|refine zqj ?_|refine zqh ?_ _));exact BK218.out) hb);have n2_:=zqd.mk (zqn (by repeat(first|(with_reducible first|exact HB.out|apply zqb|apply zqa|apply zqc|refine zqi ?_ GE215.out|refine zqi ?_ GE218.out)|exact HB.out)) hb);clear BK215 BK218 HB;have BK215:=n0_;have BK218:=n1_;have HB:=n2_;clear n0_ n1_ n2_;(try clear hb);(try clear hb2);(try clear hk);(try clear hi);have hcz38_0:w37.cell? ⟨gb218,0,none⟩=some (.string ((zqp l0_1 x35_2).f0)):=(zqf BK218.out 0).trans rfl;have hcz38_1:w37.cell? ⟨gb218,1,none⟩=some (.int .i64 ((zqp l0_1 x35_2).f1)):=(zqf BK218.out 1).trans rfl;have hcz38_2:w37.cell? ⟨gb218,2,none⟩=some (.bool ((zqp l0_1 x35_2).f2)):=(zqf BK218.out 2).trans rfl;have hfz38_0:=zqe BK218.out 0;have hfz38_1:=zqe BK218.out 1;have hfz38_2:=zqe BK218.out 2))
             repeat(go_quiet (first|(go_at_call 100;(with_reducible refine(zjm.calls k2 ((zqp l0_1 x35_2).f0) true _ A27.out).mono ?_);rintro e w37 ⟨rfl,hb⟩;have n0_:=zqd.mk (zqr (g:=gb215) (o:=.cells #[.string a0_0,.slice (some ad217) l0_1.length c0_1,.slice A0_2 l0_2.length c0_2,.slice A0_3 l0_3.length c0_3] 61 (0,0)) (by(with_reducible repeat(first|refine zqg ?_ _|refine zqj ?_|refine zqh ?_ _));refine zq1 ?_ NB215_218.out _;(with_reducible repeat(first|refine zqg ?_ _|refine zqj ?_|refine zqh ?_ _));refine zq1 ?_ NB215_218.out _;(with_reducible repeat(first|refine zqg ?_ _|refine zqj ?_|refine zqh ?_ _));refine zq1 ?_ NB215_218.out _;(with_reducible repeat(first|refine zqg ?_ _|refine zqj ?_|refine zqh ?_ _));exact BK215.out) hb);have n1_:=zqd.mk (zqr (g:=gb218) (o:=.cells #[.string ((zqp l0_1 x35_2).f0),.int .i64 ((zqp l0_1 x35_2).f1),.bool ((zqp l0_1 x35_2).f2)] 90 (0,0)) (by(with_reducible repeat(first|refine zqg ?_ _|refine zqj ?_|refine zqh ?_ _));refine zqu (cs:=#[.string ((zqp l0_1 x35_2).f0),.int .i64 ((zqp l0_1 x35_2).f1),.bool false]) ?_ 2 _ rfl;(with_reducible repeat(first|refine zqg ?_ _|refine zqj ?_|refine zqh ?_ _));refine zqu (cs:=#[.string ((zqp l0_1 x35_2).f0),.int .i64 0,.bool false]) ?_ 1 _ rfl;(with_reducible repeat(first|refine zqg ?_ _|refine zqj ?_|refine zqh ?_ _));refine zqu (cs:=#[.string (⟨#[]⟩:ByteArray),.int .i64 0,.bool false]) ?_ 0 _ rfl;(with_reducible repeat(first|refine zqg ?_ _|refine zqj ?_|refine zqh ?_ _));exact BK218.out) hb);have n2_:=zqd.mk (zqn (by repeat(first|(with_reducible first|exact HB.out|apply zqb|apply zqa|apply zqc|refine zqi ?_ GE215.out|refine zqi ?_ GE218.out)|exact HB.out)) hb);clear BK215 BK218 HB;have BK215:=n0_;have BK218:=n1_;have HB:=n2_;clear n0_ n1_ n2_;(try clear hb);(try clear hb2);(try clear hk);(try clear hi);have hcz38_0:w37.cell? ⟨gb218,0,none⟩=some (.string ((zqp l0_1 x35_2).f0)):=(zqf BK218.out 0).trans rfl;have hcz38_1:w37.cell? ⟨gb218,1,none⟩=some (.int .i64 ((zqp l0_1 x35_2).f1)):=(zqf BK218.out 1).trans rfl;have hcz38_2:w37.cell? ⟨gb218,2,none⟩=some (.bool ((zqp l0_1 x35_2).f2)):=(zqf BK218.out 2).trans rfl;have hfz38_0:=zqe BK218.out 0;have hfz38_1:=zqe BK218.out 1;have hfz38_2:=zqe BK218.out 2));try go_wp2_with (first|(go_at_call 100;(with_reducible refine(zjm.calls k2 ((zqp l0_1 x35_2).f0) true _ A27.out).mono ?_);rintro e w37 ⟨rfl,hb⟩;have n0_:=zqd.mk (zqr (g:=gb215) (o:=.cells #[.string a0_0,.slice (some ad217) l0_1.length c0_1,.slice A0_2 l0_2.length c0_2,.slice A0_3 l0_3.length c0_3] 61 (0,0)) (by(with_reducible repeat(first|refine zqg ?_ _|refine zqj ?_|refine zqh ?_ _));refine zq1 ?_ NB215_218.out _;(with_reducible repeat(first|refine zqg ?_ _|refine zqj ?_|refine zqh ?_ _));refine zq1 ?_ NB215_218.out _;(with_reducible repeat(first|refine zqg ?_ _|refine zqj ?_|refine zqh ?_ _));refine zq1 ?_ NB215_218.out _;(with_reducible repeat(first|refine zqg ?_ _|refine zqj ?_|refine zqh ?_ _));exact BK215.out) hb);have n1_:=zqd.mk (zqr (g:=gb218) (o:=.cells #[.string ((zqp l0_1 x35_2).f0),.int .i64 ((zqp l0_1 x35_2).f1),.bool ((zqp l0_1 x35_2).f2)] 90 (0,0)) (by(with_reducible repeat(first|refine zqg ?_ _|refine zqj ?_|refine zqh ?_ _));refine zqu (cs:=#[.string ((zqp l0_1 x35_2).f0),.int .i64 ((zqp l0_1 x35_2).f1),.bool false]) ?_ 2 _ rfl;(with_reducible repeat(first|refine zqg ?_ _|refine zqj ?_|refine zqh ?_ _));refine zqu (cs:=#[.string ((zqp l0_1 x35_2).f0),.int .i64 0,.bool false]) ?_ 1 _ rfl;(with_reducible repeat(first|refine zqg ?_ _|refine zqj ?_|refine zqh ?_ _));refine zqu (cs:=#[.string (⟨#[]⟩:ByteArray),.int .i64 0,.bool false]) ?_ 0 _ rfl;(with_reducible repeat(first|refine zqg ?_ _|refine zqj ?_|refine zqh ?_ _));exact BK218.out) hb);have n2_:=zqd.mk (zqn (by repeat(first|(with_reducible first|exact HB.out|apply zqb|apply zqa|apply zqc|refine zqi ?_ GE215.out|refine zqi ?_ GE218.out)|exact HB.out)) hb);clear BK215 BK218 HB;have BK215:=n0_;have BK218:=n1_;have HB:=n2_;clear n0_ n1_ n2_;(try clear hb);(try clear hb2);(try clear hk);(try clear hi);have hcz38_0:w37.cell? ⟨gb218,0,none⟩=some (.string ((zqp l0_1 x35_2).f0)):=(zqf BK218.out 0).trans rfl;have hcz38_1:w37.cell? ⟨gb218,1,none⟩=some (.int .i64 ((zqp l0_1 x35_2).f1)):=(zqf BK218.out 1).trans rfl;have hcz38_2:w37.cell? ⟨gb218,2,none⟩=some (.bool ((zqp l0_1 x35_2).f2)):=(zqf BK218.out 2).trans rfl;have hfz38_0:=zqe BK218.out 0;have hfz38_1:=zqe BK218.out 1;have hfz38_2:=zqe BK218.out 2)))
             go_meet
             case rel=>exact⟨_,(false),(by first|rfl|(simp;done)|(simp [*];done)|(generalize ByteArray.toList _=q_;cases q_ <;> rfl)),H',⟨by have:=HJ1.out;have:=HK2.out;first|omega|exact Nat.le_refl _⟩,⟨by(with_reducible repeat(first|refine zqg ?_ _|refine zqj ?_|refine zqh ?_ _));exact BK215.out⟩,⟨by(with_reducible repeat(first|refine zqg ?_ _|refine zqj ?_|refine zqh ?_ _));exact BK218.out⟩,⟨by repeat(first|(with_reducible first|exact HB.out|apply zqb|apply zqa|apply zqc|refine zqi ?_ GE215.out|refine zqi ?_ GE218.out)|exact HB.out)⟩⟩
            ·rw [if_neg c34] at H
             have c34b0:(((zqp l0_1 x35_2).f1) == 2)=false:=beq_eq_false_iff_ne.mpr c34
             have c34b1:(((zqp l0_1 x35_2).f1) != 2)=true:=bne_iff_ne.mpr c34
             have H':=zqd.mk H
             clear H
             have hnb39:=NB218_215.out
             have hnc39:=NB215_218.out
             have hcz40_0:w24.cell? ⟨gb218,0,none⟩=some (.string (⟨#[]⟩:ByteArray)):=(zqf BK218.out 0).trans rfl
             have hcz40_1:w24.cell? ⟨gb218,1,none⟩=some (.int .i64 0):=(zqf BK218.out 1).trans rfl
             have hcz40_2:w24.cell? ⟨gb218,2,none⟩=some (.bool false):=(zqf BK218.out 2).trans rfl
             have hfz40_0:=zqe BK218.out 0
             have hfz40_1:=zqe BK218.out 1
             have hfz40_2:=zqe BK218.out 2
             go_wp2_with (first|(go_at_call 100;(with_reducible refine(zjm.calls k2 ((zqp l0_1 x35_2).f0) true _ A27.out).mono ?_);rintro e w41 ⟨rfl,hb⟩;have n0_:=zqd.mk (zqr (g:=gb215) (o:=.cells #[.string a0_0,.slice (some ad217) l0_1.length c0_1,.slice A0_2 l0_2.length c0_2,.slice A0_3 l0_3.length c0_3] 61 (0,0)) (by(with_reducible repeat(first|refine zqg ?_ _|refine zqj ?_|refine zqh ?_ _));refine zq1 ?_ NB215_218.out _;(with_reducible repeat(first|refine zqg ?_ _|refine zqj ?_|refine zqh ?_ _));refine zq1 ?_ NB215_218.out _;(with_reducible repeat(first|refine zqg ?_ _|refine zqj ?_|refine zqh ?_ _));refine zq1 ?_ NB215_218.out _;(with_reducible repeat(first|refine zqg ?_ _|refine zqj ?_|refine zqh ?_ _));exact BK215.out) hb);have n1_:=zqd.mk (zqr (g:=gb218) (o:=.cells #[.string ((zqp l0_1 x35_2).f0),.int .i64 ((zqp l0_1 x35_2).f1),.bool ((zqp l0_1 x35_2).f2)] 90 (0,0)) (by(with_reducible repeat(first|refine zqg ?_ _|refine zqj ?_|refine zqh ?_ _));refine zqu (cs:=#[.string ((zqp l0_1 x35_2).f0),.int .i64 ((zqp l0_1 x35_2).f1),.bool false]) ?_ 2 _ rfl;(with_reducible repeat(first|refine zqg ?_ _|refine zqj ?_|refine zqh ?_ _));refine zqu (cs:=#[.string ((zqp l0_1 x35_2).f0),.int .i64 0,.bool false]) ?_ 1 _ rfl;(with_reducible repeat(first|refine zqg ?_ _|refine zqj ?_|refine zqh ?_ _));refine zqu (cs:=#[.string (⟨#[]⟩:ByteArray),.int .i64 0,.bool false]) ?_ 0 _ rfl;(with_reducible repeat(first|refine zqg ?_ _|refine zqj ?_|refine zqh ?_ _));exact BK218.out) hb);have n2_:=zqd.mk (zqn (by repeat(first|(with_reducible first|exact HB.out|apply zqb|apply zqa|apply zqc|refine zqi ?_ GE215.out|refine zqi ?_ GE218.out)|exact HB.out)) hb);clear BK215 BK218 HB;have BK215:=n0_;have BK218:=n1_;have HB:=n2_;clear n0_ n1_ n2_;(try clear hb);(try clear hb2);(try clear hk);(try clear hi);have hcz42_0:w41.cell? ⟨gb218,0,none⟩=some (.string ((zqp l0_1 x35_2).f0)):=(zqf BK218.out 0).trans rfl;have hcz42_1:w41.cell? ⟨gb218,1,none⟩=some (.int .i64 ((zqp l0_1 x35_2).f1)):=(zqf BK218.out 1).trans rfl;have hcz42_2:w41.cell? ⟨gb218,2,none⟩=some (.bool ((zqp l0_1 x35_2).f2)):=(zqf BK218.out 2).trans rfl;have hfz42_0:=zqe BK218.out 0;have hfz42_1:=zqe BK218.out 1;have hfz42_2:=zqe BK218.out 2))
             repeat(go_quiet (first|(go_at_call 100;(with_reducible refine(zjm.calls k2 ((zqp l0_1 x35_2).f0) true _ A27.out).mono ?_);rintro e w41 ⟨rfl,hb⟩;have n0_:=zqd.mk (zqr (g:=gb215) (o:=.cells #[.string a0_0,.slice (some ad217) l0_1.length c0_1,.slice A0_2 l0_2.length c0_2,.slice A0_3 l0_3.length c0_3] 61 (0,0)) (by(with_reducible repeat(first|refine zqg ?_ _|refine zqj ?_|refine zqh ?_ _));refine zq1 ?_ NB215_218.out _;(with_reducible repeat(first|refine zqg ?_ _|refine zqj ?_|refine zqh ?_ _));refine zq1 ?_ NB215_218.out _;(with_reducible repeat(first|refine zqg ?_ _|refine zqj ?_|refine zqh ?_ _));refine zq1 ?_ NB215_218.out _;(with_reducible repeat(first|refine zqg ?_ _|refine zqj ?_|refine zqh ?_ _));exact BK215.out) hb);have n1_:=zqd.mk (zqr (g:=gb218) (o:=.cells #[.string ((zqp l0_1 x35_2).f0),.int .i64 ((zqp l0_1 x35_2).f1),.bool ((zqp l0_1 x35_2).f2)] 90 (0,0)) (by(with_reducible repeat(first|refine zqg ?_ _|refine zqj ?_|refine zqh ?_ _));refine zqu (cs:=#[.string ((zqp l0_1 x35_2).f0),.int .i64 ((zqp l0_1 x35_2).f1),.bool false]) ?_ 2 _ rfl;(with_reducible repeat(first|refine zqg ?_ _|refine zqj ?_|refine zqh ?_ _));refine zqu (cs:=#[.string ((zqp l0_1 x35_2).f0),.int .i64 0,.bool false]) ?_ 1 _ rfl;(with_reducible repeat(first|refine zqg ?_ _|refine zqj ?_|refine zqh ?_ _));refine zqu (cs:=#[.string (⟨#[]⟩:ByteArray),.int .i64 0,.bool false]) ?_ 0 _ rfl;(with_reducible repeat(first|refine zqg ?_ _|refine zqj ?_|refine zqh ?_ _));exact BK218.out) hb);have n2_:=zqd.mk (zqn (by repeat(first|(with_reducible first|exact HB.out|apply zqb|apply zqa|apply zqc|refine zqi ?_ GE215.out|refine zqi ?_ GE218.out)|exact HB.out)) hb);clear BK215 BK218 HB;have BK215:=n0_;have BK218:=n1_;have HB:=n2_;clear n0_ n1_ n2_;(try clear hb);(try clear hb2);(try clear hk);(try clear hi);have hcz42_0:w41.cell? ⟨gb218,0,none⟩=some (.string ((zqp l0_1 x35_2).f0)):=(zqf BK218.out 0).trans rfl;have hcz42_1:w41.cell? ⟨gb218,1,none⟩=some (.int .i64 ((zqp l0_1 x35_2).f1)):=(zqf BK218.out 1).trans rfl;have hcz42_2:w41.cell? ⟨gb218,2,none⟩=some (.bool ((zqp l0_1 x35_2).f2)):=(zqf BK218.out 2).trans rfl;have hfz42_0:=zqe BK218.out 0;have hfz42_1:=zqe BK218.out 1;have hfz42_2:=zqe BK218.out 2));try go_wp2_with (first|(go_at_call 100;(with_reducible refine(zjm.calls k2 ((zqp l0_1 x35_2).f0) true _ A27.out).mono ?_);rintro e w41 ⟨rfl,hb⟩;have n0_:=zqd.mk (zqr (g:=gb215) (o:=.cells #[.string a0_0,.slice (some ad217) l0_1.length c0_1,.slice A0_2 l0_2.length c0_2,.slice A0_3 l0_3.length c0_3] 61 (0,0)) (by(with_reducible repeat(first|refine zqg ?_ _|refine zqj ?_|refine zqh ?_ _));refine zq1 ?_ NB215_218.out _;(with_reducible repeat(first|refine zqg ?_ _|refine zqj ?_|refine zqh ?_ _));refine zq1 ?_ NB215_218.out _;(with_reducible repeat(first|refine zqg ?_ _|refine zqj ?_|refine zqh ?_ _));refine zq1 ?_ NB215_218.out _;(with_reducible repeat(first|refine zqg ?_ _|refine zqj ?_|refine zqh ?_ _));exact BK215.out) hb);have n1_:=zqd.mk (zqr (g:=gb218) (o:=.cells #[.string ((zqp l0_1 x35_2).f0),.int .i64 ((zqp l0_1 x35_2).f1),.bool ((zqp l0_1 x35_2).f2)] 90 (0,0)) (by(with_reducible repeat(first|refine zqg ?_ _|refine zqj ?_|refine zqh ?_ _));refine zqu (cs:=#[.string ((zqp l0_1 x35_2).f0),.int .i64 ((zqp l0_1 x35_2).f1),.bool false]) ?_ 2 _ rfl;(with_reducible repeat(first|refine zqg ?_ _|refine zqj ?_|refine zqh ?_ _));refine zqu (cs:=#[.string ((zqp l0_1 x35_2).f0),.int .i64 0,.bool false]) ?_ 1 _ rfl;(with_reducible repeat(first|refine zqg ?_ _|refine zqj ?_|refine zqh ?_ _));refine zqu (cs:=#[.string (⟨#[]⟩:ByteArray),.int .i64 0,.bool false]) ?_ 0 _ rfl;(with_reducible repeat(first|refine zqg ?_ _|refine zqj ?_|refine zqh ?_ _));exact BK218.out) hb);have n2_:=zqd.mk (zqn (by repeat(first|(with_reducible first|exact HB.out|apply zqb|apply zqa|apply zqc|refine zqi ?_ GE215.out|refine zqi ?_ GE218.out)|exact HB.out)) hb);clear BK215 BK218 HB;have BK215:=n0_;have BK218:=n1_;have HB:=n2_;clear n0_ n1_ n2_;(try clear hb);(try clear hb2);(try clear hk);(try clear hi);have hcz42_0:w41.cell? ⟨gb218,0,none⟩=some (.string ((zqp l0_1 x35_2).f0)):=(zqf BK218.out 0).trans rfl;have hcz42_1:w41.cell? ⟨gb218,1,none⟩=some (.int .i64 ((zqp l0_1 x35_2).f1)):=(zqf BK218.out 1).trans rfl;have hcz42_2:w41.cell? ⟨gb218,2,none⟩=some (.bool ((zqp l0_1 x35_2).f2)):=(zqf BK218.out 2).trans rfl;have hfz42_0:=zqe BK218.out 0;have hfz42_1:=zqe BK218.out 1;have hfz42_2:=zqe BK218.out 2)))
             go_meet
             case rel=>exact⟨_,((((zqp l0_1 x35_2).f1) != 3)),(by first|rfl|(simp;done)|(simp [*];done)|(generalize ByteArray.toList _=q_;cases q_ <;> rfl)),H',⟨by have:=HJ1.out;have:=HK2.out;first|omega|exact Nat.le_refl _⟩,⟨by(with_reducible repeat(first|refine zqg ?_ _|refine zqj ?_|refine zqh ?_ _));exact BK215.out⟩,⟨by(with_reducible repeat(first|refine zqg ?_ _|refine zqj ?_|refine zqh ?_ _));exact BK218.out⟩,⟨by repeat(first|(with_reducible first|exact HB.out|apply zqb|apply zqa|apply zqc|refine zqi ?_ GE215.out|refine zqi ?_ GE218.out)|exact HB.out)⟩⟩
          ·replace c28:=Bool.eq_false_iff.mpr c28
           subst c28
           have H1:(zjb.j2 k2 (l0_1.length:Int) x35_2 l0_1 (l0_1.length:Int) x35_2 true a0_0 l0_1 l0_2 l0_3 ((zqp l0_1 x35_2).f0) ((zqp l0_1 x35_2).f1) ((zqp l0_1 x35_2).f2))=some r:=by rw [if_neg (show ¬ (false=true) by decide)] at H;exact H
           clear H
           have H:=H1
           clear H1
           have H':=zqd.mk H
           clear H
           have hnb43:=NB218_215.out
           have hnc43:=NB215_218.out
           have hcz44_0:w24.cell? ⟨gb218,0,none⟩=some (.string (⟨#[]⟩:ByteArray)):=(zqf BK218.out 0).trans rfl
           have hcz44_1:w24.cell? ⟨gb218,1,none⟩=some (.int .i64 0):=(zqf BK218.out 1).trans rfl
           have hcz44_2:w24.cell? ⟨gb218,2,none⟩=some (.bool false):=(zqf BK218.out 2).trans rfl
           have hfz44_0:=zqe BK218.out 0
           have hfz44_1:=zqe BK218.out 1
           have hfz44_2:=zqe BK218.out 2
           go_wp2_with (first|(go_at_call 100;(with_reducible refine(zjm.calls k2 ((zqp l0_1 x35_2).f0) false _ A27.out).mono ?_);rintro e w45 ⟨rfl,hb⟩;have n0_:=zqd.mk (zqr (g:=gb215) (o:=.cells #[.string a0_0,.slice (some ad217) l0_1.length c0_1,.slice A0_2 l0_2.length c0_2,.slice A0_3 l0_3.length c0_3] 61 (0,0)) (by(with_reducible repeat(first|refine zqg ?_ _|refine zqj ?_|refine zqh ?_ _));refine zq1 ?_ NB215_218.out _;(with_reducible repeat(first|refine zqg ?_ _|refine zqj ?_|refine zqh ?_ _));refine zq1 ?_ NB215_218.out _;(with_reducible repeat(first|refine zqg ?_ _|refine zqj ?_|refine zqh ?_ _));refine zq1 ?_ NB215_218.out _;(with_reducible repeat(first|refine zqg ?_ _|refine zqj ?_|refine zqh ?_ _));exact BK215.out) hb);have n1_:=zqd.mk (zqr (g:=gb218) (o:=.cells #[.string ((zqp l0_1 x35_2).f0),.int .i64 ((zqp l0_1 x35_2).f1),.bool ((zqp l0_1 x35_2).f2)] 90 (0,0)) (by(with_reducible repeat(first|refine zqg ?_ _|refine zqj ?_|refine zqh ?_ _));refine zqu (cs:=#[.string ((zqp l0_1 x35_2).f0),.int .i64 ((zqp l0_1 x35_2).f1),.bool false]) ?_ 2 _ rfl;(with_reducible repeat(first|refine zqg ?_ _|refine zqj ?_|refine zqh ?_ _));refine zqu (cs:=#[.string ((zqp l0_1 x35_2).f0),.int .i64 0,.bool false]) ?_ 1 _ rfl;(with_reducible repeat(first|refine zqg ?_ _|refine zqj ?_|refine zqh ?_ _));refine zqu (cs:=#[.string (⟨#[]⟩:ByteArray),.int .i64 0,.bool false]) ?_ 0 _ rfl;(with_reducible repeat(first|refine zqg ?_ _|refine zqj ?_|refine zqh ?_ _));exact BK218.out) hb);have n2_:=zqd.mk (zqn (by repeat(first|(with_reducible first|exact HB.out|apply zqb|apply zqa|apply zqc|refine zqi ?_ GE215.out|refine zqi ?_ GE218.out)|exact HB.out)) hb);clear BK215 BK218 HB;have BK215:=n0_;have BK218:=n1_;have HB:=n2_;clear n0_ n1_ n2_;(try clear hb);(try clear hb2);(try clear hk);(try clear hi)))
           repeat(go_quiet (first|(go_at_call 100;(with_reducible refine(zjm.calls k2 ((zqp l0_1 x35_2).f0) false _ A27.out).mono ?_);rintro e w45 ⟨rfl,hb⟩;have n0_:=zqd.mk (zqr (g:=gb215) (o:=.cells #[.string a0_0,.slice (some ad217) l0_1.length c0_1,.slice A0_2 l0_2.length c0_2,.slice A0_3 l0_3.length c0_3] 61 (0,0)) (by(with_reducible repeat(first|refine zqg ?_ _|refine zqj ?_|refine zqh ?_ _));refine zq1 ?_ NB215_218.out _;(with_reducible repeat(first|refine zqg ?_ _|refine zqj ?_|refine zqh ?_ _));refine zq1 ?_ NB215_218.out _;(with_reducible repeat(first|refine zqg ?_ _|refine zqj ?_|refine zqh ?_ _));refine zq1 ?_ NB215_218.out _;(with_reducible repeat(first|refine zqg ?_ _|refine zqj ?_|refine zqh ?_ _));exact BK215.out) hb);have n1_:=zqd.mk (zqr (g:=gb218) (o:=.cells #[.string ((zqp l0_1 x35_2).f0),.int .i64 ((zqp l0_1 x35_2).f1),.bool ((zqp l0_1 x35_2).f2)] 90 (0,0)) (by(with_reducible repeat(first|refine zqg ?_ _|refine zqj ?_|refine zqh ?_ _));refine zqu (cs:=#[.string ((zqp l0_1 x35_2).f0),.int .i64 ((zqp l0_1 x35_2).f1),.bool false]) ?_ 2 _ rfl;(with_reducible repeat(first|refine zqg ?_ _|refine zqj ?_|refine zqh ?_ _));refine zqu (cs:=#[.string ((zqp l0_1 x35_2).f0),.int .i64 0,.bool false]) ?_ 1 _ rfl;(with_reducible repeat(first|refine zqg ?_ _|refine zqj ?_|refine zqh ?_ _));refine zqu (cs:=#[.string (⟨#[]⟩:ByteArray),.int .i64 0,.bool false]) ?_ 0 _ rfl;(with_reducible repeat(first|refine zqg ?_ _|refine zqj ?_|refine zqh ?_ _));exact BK218.out) hb);have n2_:=zqd.mk (zqn (by repeat(first|(with_reducible first|exact HB.out|apply zqb|apply zqa|apply zqc|refine zqi ?_ GE215.out|refine zqi ?_ GE218.out)|exact HB.out)) hb);clear BK215 BK218 HB;have BK215:=n0_;have BK218:=n1_;have HB:=n2_;clear n0_ n1_ n2_;(try clear hb);(try clear hb2);(try clear hk);(try clear hi)));try go_wp2_with (first|(go_at_call 100;(with_reducible refine(zjm.calls k2 ((zqp l0_1 x35_2).f0) false _ A27.out).mono ?_);rintro e w45 ⟨rfl,hb⟩;have n0_:=zqd.mk (zqr (g:=gb215) (o:=.cells #[.string a0_0,.slice (some ad217) l0_1.length c0_1,.slice A0_2 l0_2.length c0_2,.slice A0_3 l0_3.length c0_3] 61 (0,0)) (by(with_reducible repeat(first|refine zqg ?_ _|refine zqj ?_|refine zqh ?_ _));refine zq1 ?_ NB215_218.out _;(with_reducible repeat(first|refine zqg ?_ _|refine zqj ?_|refine zqh ?_ _));refine zq1 ?_ NB215_218.out _;(with_reducible repeat(first|refine zqg ?_ _|refine zqj ?_|refine zqh ?_ _));refine zq1 ?_ NB215_218.out _;(with_reducible repeat(first|refine zqg ?_ _|refine zqj ?_|refine zqh ?_ _));exact BK215.out) hb);have n1_:=zqd.mk (zqr (g:=gb218) (o:=.cells #[.string ((zqp l0_1 x35_2).f0),.int .i64 ((zqp l0_1 x35_2).f1),.bool ((zqp l0_1 x35_2).f2)] 90 (0,0)) (by(with_reducible repeat(first|refine zqg ?_ _|refine zqj ?_|refine zqh ?_ _));refine zqu (cs:=#[.string ((zqp l0_1 x35_2).f0),.int .i64 ((zqp l0_1 x35_2).f1),.bool false]) ?_ 2 _ rfl;(with_reducible repeat(first|refine zqg ?_ _|refine zqj ?_|refine zqh ?_ _));refine zqu (cs:=#[.string ((zqp l0_1 x35_2).f0),.int .i64 0,.bool false]) ?_ 1 _ rfl;(with_reducible repeat(first|refine zqg ?_ _|refine zqj ?_|refine zqh ?_ _));refine zqu (cs:=#[.string (⟨#[]⟩:ByteArray),.int .i64 0,.bool false]) ?_ 0 _ rfl;(with_reducible repeat(first|refine zqg ?_ _|refine zqj ?_|refine zqh ?_ _));exact BK218.out) hb);have n2_:=zqd.mk (zqn (by repeat(first|(with_reducible first|exact HB.out|apply zqb|apply zqa|apply zqc|refine zqi ?_ GE215.out|refine zqi ?_ GE218.out)|exact HB.out)) hb);clear BK215 BK218 HB;have BK215:=n0_;have BK218:=n1_;have HB:=n2_;clear n0_ n1_ n2_;(try clear hb);(try clear hb2);(try clear hk);(try clear hi))))
           go_meet
           case rel=>exact⟨_,(true),(by first|rfl|(simp;done)|(simp [*];done)|(generalize ByteArray.toList _=q_;cases q_ <;> rfl)),H',⟨by have:=HJ1.out;have:=HK2.out;first|omega|exact Nat.le_refl _⟩,⟨by(with_reducible repeat(first|refine zqg ?_ _|refine zqj ?_|refine zqh ?_ _));exact BK215.out⟩,⟨by(with_reducible repeat(first|refine zqg ?_ _|refine zqj ?_|refine zqh ?_ _));exact BK218.out⟩,⟨by repeat(first|(with_reducible first|exact HB.out|apply zqb|apply zqa|apply zqc|refine zqi ?_ GE215.out|refine zqi ?_ GE218.out)|exact HB.out)⟩⟩
         case rest=>
          clear HC23
          try clear c1
          try clear c2
          try clear p2
          try clear q2
          try clear hx2
          try clear c3
          try clear c4
          try clear c6
          try clear c7
          try clear c7b0
          try clear c7b1
          try clear c7b2
          try clear c10
          try clear c10b0
          try clear c10b1
          try clear c18
          try clear c20
          try clear c20b0
          try clear c21
          try clear c21b0
          try clear p21
          try clear q21
          try clear hx21
          try clear c22
          try clear c22b0
          try clear c25
          try clear c28
          try clear c29
          try clear c29b0
          try clear c29b1
          try clear c30
          try clear c34
          try clear c34b0
          try clear c34b1
          try clear c35
          try clear c39
          try clear c43
          try clear hcz11_0
          try clear hcz11_1
          try clear hcz11_2
          try clear hcz11_3
          try clear hcz13_0
          try clear hcz13_1
          try clear hcz13_2
          try clear hcz13_3
          try clear hcz15_0
          try clear hcz15_1
          try clear hcz15_2
          try clear hcz15_3
          try clear hcz16_0
          try clear hcz16_1
          try clear hcz16_2
          try clear hcz16_3
          try clear hcz19_0
          try clear hcz19_1
          try clear hcz19_2
          try clear hcz19_3
          try clear hcz26_0
          try clear hcz26_1
          try clear hcz26_2
          try clear hcz31_0
          try clear hcz31_1
          try clear hcz31_2
          try clear hcz33_0
          try clear hcz33_1
          try clear hcz33_2
          try clear hcz36_0
          try clear hcz36_1
          try clear hcz36_2
          try clear hcz38_0
          try clear hcz38_1
          try clear hcz38_2
          try clear hcz40_0
          try clear hcz40_1
          try clear hcz40_2
          try clear hcz42_0
          try clear hcz42_1
          try clear hcz42_2
          try clear hcz44_0
          try clear hcz44_1
          try clear hcz44_2
          try clear hcz4_0
          try clear hcz4_1
          try clear hcz4_2
          try clear hcz4_3
          try clear hcz8_0
          try clear hcz8_1
          try clear hcz8_2
          try clear hcz8_3
          try clear hfz11_0
          try clear hfz11_1
          try clear hfz11_2
          try clear hfz11_3
          try clear hfz13_0
          try clear hfz13_1
          try clear hfz13_2
          try clear hfz13_3
          try clear hfz15_0
          try clear hfz15_1
          try clear hfz15_2
          try clear hfz15_3
          try clear hfz16_0
          try clear hfz16_1
          try clear hfz16_2
          try clear hfz16_3
          try clear hfz19_0
          try clear hfz19_1
          try clear hfz19_2
          try clear hfz19_3
          try clear hfz26_0
          try clear hfz26_1
          try clear hfz26_2
          try clear hfz31_0
          try clear hfz31_1
          try clear hfz31_2
          try clear hfz33_0
          try clear hfz33_1
          try clear hfz33_2
          try clear hfz36_0
          try clear hfz36_1
          try clear hfz36_2
          try clear hfz38_0
          try clear hfz38_1
          try clear hfz38_2
          try clear hfz40_0
          try clear hfz40_1
          try clear hfz40_2
          try clear hfz42_0
          try clear hfz42_1
          try clear hfz42_2
          try clear hfz44_0
          try clear hfz44_1
          try clear hfz44_2
          try clear hfz4_0
          try clear hfz4_1
          try clear hfz4_2
          try clear hfz4_3
          try clear hfz8_0
          try clear hfz8_1
          try clear hfz8_2
          try clear hfz8_3
          try clear hx217_0
          try clear hx217_1
          try clear hx217_2
          try clear p2
          try clear p217
          try clear q217
          obtain ⟨kq,x58_22,rfl,HA,HJ22,BK215,BK218,HB⟩:=hcut
          cases kq with
          | zero=>exact absurd HA.out (by simp [zjb.j2])
          | succ kj22=>
           have H:=HA.out
           clear HA
           simp only [zjb.j2] at H
           by_cases c46:x58_22=true
           ·subst c46
            have H1:(some false)=some r:=by rw [if_pos rfl] at H;exact H
            clear H
            have H:=H1
            clear H1
            obtain rfl:=Option.some.inj H
            go_wp2
            repeat(go_quiet (fail);try go_wp2)
            go_ret
            exact⟨by first|rfl|(simp [zqm,zql] <;> rfl)|(simp [*,zqm,zql] <;> rfl),by repeat(first|(with_reducible first|exact HB.out|apply zqb|apply zqa|apply zqc|refine zqi ?_ GE215.out|refine zqi ?_ GE218.out)|exact HB.out)⟩
           ·replace c46:=Bool.eq_false_iff.mpr c46
            subst c46
            have H1:(zjb.l1 kj22 (l0_1.length:Int) x35_2 0 l0_1 (l0_1.length:Int) x35_2 a0_0 l0_1 l0_2 l0_3 ((zqp l0_1 x35_2).f0) ((zqp l0_1 x35_2).f1) ((zqp l0_1 x35_2).f2))=some r:=by rw [if_neg (show ¬ (false=true) by decide)] at H;exact H
            clear H
            have H:=H1
            clear H1
            have H':=zqd.mk H
            clear H
            go_wp2
            repeat(go_quiet (fail);try go_wp2)
            go_loopg [6] kj22 (fun kq v6 w' => ∃ (x6_4:Int),v6 = .int .i64 x6_4∧zqd (zjb.l1 kq (l0_1.length:Int) x35_2 x6_4 l0_1 (l0_1.length:Int) x35_2 a0_0 l0_1 l0_2 l0_3 ((zqp l0_1 x35_2).f0) ((zqp l0_1 x35_2).f1) ((zqp l0_1 x35_2).f2)=some r)∧zqd (kq≤kj22)∧zqd (w'.heap[gb215]? = some (.cells #[.string a0_0,(.slice (some ad217) l0_1.length c0_1),(.slice A0_2 l0_2.length c0_2),(.slice A0_3 l0_3.length c0_3)] 61 (0,0)))∧zqd (w'.heap[gb218]? = some (.cells #[.string ((zqp l0_1 x35_2).f0),.int .i64 ((zqp l0_1 x35_2).f1),.bool ((zqp l0_1 x35_2).f2)] 90 (0,0)))∧zqd (Below w.heap.size w w'))
            case atStart=>exact⟨(0),(by first|rfl|(simp;done)|(simp [*];done)|(generalize ByteArray.toList _=q_;cases q_ <;> rfl)),H',⟨Nat.le_refl _⟩,⟨by(with_reducible repeat(first|refine zqg ?_ _|refine zqj ?_|refine zqh ?_ _));exact BK215.out⟩,⟨by(with_reducible repeat(first|refine zqg ?_ _|refine zqj ?_|refine zqh ?_ _));exact BK218.out⟩,⟨by repeat(first|(with_reducible first|exact HB.out|apply zqb|apply zqa|apply zqc|refine zqi ?_ GE215.out|refine zqi ?_ GE218.out)|exact HB.out)⟩⟩
            case round=>
             clear H'
             try clear c1
             try clear c2
             try clear p2
             try clear q2
             try clear hx2
             try clear c3
             try clear c4
             try clear c6
             try clear c7
             try clear c7b0
             try clear c7b1
             try clear c7b2
             try clear c10
             try clear c10b0
             try clear c10b1
             try clear c18
             try clear c20
             try clear c20b0
             try clear c21
             try clear c21b0
             try clear p21
             try clear q21
             try clear hx21
             try clear c22
             try clear c22b0
             try clear c25
             try clear c28
             try clear c29
             try clear c29b0
             try clear c29b1
             try clear c30
             try clear c34
             try clear c34b0
             try clear c34b1
             try clear c35
             try clear c39
             try clear c43
             try clear c46
             try clear hcz11_0
             try clear hcz11_1
             try clear hcz11_2
             try clear hcz11_3
             try clear hcz13_0
             try clear hcz13_1
             try clear hcz13_2
             try clear hcz13_3
             try clear hcz15_0
             try clear hcz15_1
             try clear hcz15_2
             try clear hcz15_3
             try clear hcz16_0
             try clear hcz16_1
             try clear hcz16_2
             try clear hcz16_3
             try clear hcz19_0
             try clear hcz19_1
             try clear hcz19_2
             try clear hcz19_3
             try clear hcz26_0
             try clear hcz26_1
             try clear hcz26_2
             try clear hcz31_0
             try clear hcz31_1
             try clear hcz31_2
             try clear hcz33_0
             try clear hcz33_1
             try clear hcz33_2
             try clear hcz36_0
             try clear hcz36_1
             try clear hcz36_2
             try clear hcz38_0
             try clear hcz38_1
             try clear hcz38_2
             try clear hcz40_0
             try clear hcz40_1
             try clear hcz40_2
             try clear hcz42_0
             try clear hcz42_1
             try clear hcz42_2
             try clear hcz44_0
             try clear hcz44_1
             try clear hcz44_2
             try clear hcz4_0
             try clear hcz4_1
             try clear hcz4_2
             try clear hcz4_3
             try clear hcz8_0
             try clear hcz8_1
             try clear hcz8_2
             try clear hcz8_3
             try clear hfz11_0
             try clear hfz11_1
             try clear hfz11_2
             try clear hfz11_3
             try clear hfz13_0
             try clear hfz13_1
             try clear hfz13_2
             try clear hfz13_3
             try clear hfz15_0
             try clear hfz15_1
             try clear hfz15_2
             try clear hfz15_3
             try clear hfz16_0
             try clear hfz16_1
             try clear hfz16_2
             try clear hfz16_3
             try clear hfz19_0
             try clear hfz19_1
             try clear hfz19_2
             try clear hfz19_3
             try clear hfz26_0
             try clear hfz26_1
             try clear hfz26_2
             try clear hfz31_0
             try clear hfz31_1
             try clear hfz31_2
             try clear hfz33_0
             try clear hfz33_1
             try clear hfz33_2
             try clear hfz36_0
             try clear hfz36_1
             try clear hfz36_2
             try clear hfz38_0
             try clear hfz38_1
             try clear hfz38_2
             try clear hfz40_0
             try clear hfz40_1
             try clear hfz40_2
             try clear hfz42_0
             try clear hfz42_1
             try clear hfz42_2
             try clear hfz44_0
             try clear hfz44_1
             try clear hfz44_2
             try clear hfz4_0
             try clear hfz4_1
             try clear hfz4_2
             try clear hfz4_3
             try clear hfz8_0
             try clear hfz8_1
             try clear hfz8_2
             try clear hfz8_3
             try clear hx217_0
             try clear hx217_1
             try clear hx217_2
             try clear p2
             try clear p21
             try clear p217
             try clear q2
             try clear q21
             try clear q217
             obtain ⟨x6_4,rfl,HA,HK4,BK215,BK218,HB⟩:=hrel
             cases gk with
             | zero=>exact absurd HA.out (by simp [zjb.l1])
             | succ k4=>
              have H:=HA.out
              clear HA
              simp only [zjb.l1] at H
              by_cases c47:x6_4<x35_2
              ·rw [if_pos c47] at H
               have c47b0:decide (x6_4<x35_2)=true:=decide_eq_true c47
               clear c47
               by_cases c48:0≤x6_4
               ·rw [if_pos c48] at H
                have c48b0:decide (0≤x6_4)=true:=decide_eq_true c48
                clear c48
                by_cases c49:x6_4<(l0_1.length:Int)
                ·rw [if_pos c49] at H
                 have c49b0:decide (x6_4<(l0_1.length:Int))=true:=decide_eq_true c49
                 clear c49
                 by_cases c50:((zqp l0_1 x6_4).f0).toList=((zqp l0_1 x35_2).f0).toList
                 ·rw [if_pos c50] at H
                  have c50b0:(((zqp l0_1 x6_4).f0).toList == ((zqp l0_1 x35_2).f0).toList)=true:=beq_iff_eq.mpr c50
                  have c50b1:(((zqp l0_1 x6_4).f0).toList != ((zqp l0_1 x35_2).f0).toList)=false:=bne_eq_false_iff_eq.mpr c50
                  clear c50
                  obtain rfl:=Option.some.inj H
                  have hnb51:=NB215_218.out
                  have hnc51:=NB218_215.out
                  have hcz52_0:wr.cell? ⟨gb215,0,none⟩=some (.string a0_0):=(zqf BK215.out 0).trans rfl
                  have hcz52_1:wr.cell? ⟨gb215,1,none⟩=some (.slice (some ad217) l0_1.length c0_1):=(zqf BK215.out 1).trans rfl
                  have hcz52_2:wr.cell? ⟨gb215,2,none⟩=some (.slice A0_2 l0_2.length c0_2):=(zqf BK215.out 2).trans rfl
                  have hcz52_3:wr.cell? ⟨gb215,3,none⟩=some (.slice A0_3 l0_3.length c0_3):=(zqf BK215.out 3).trans rfl
                  have hfz52_0:=zqe BK215.out 0
                  have hfz52_1:=zqe BK215.out 1
                  have hfz52_2:=zqe BK215.out 2
                  have hfz52_3:=zqe BK215.out 3
                  have p220:0≤(x6_4:Int):=of_decide_eq_true (by first|(with_reducible assumption)|assumption)
                  have q220:x6_4<(l0_1.length:Int):=of_decide_eq_true (by first|(with_reducible assumption)|assumption)
                  obtain ⟨ad220,e220,hx220_0,hx220_1,hx220_2⟩:=at_T90 HR0_1.out x6_4 p220 q220
                  obtain rfl:ad217=ad220:=(by injection e220)
                  replace hx220_0:=(HB.out.cell (World.block_lt_of_cell? w _ hx220_0)).trans hx220_0
                  replace hx220_1:=(HB.out.cell (World.block_lt_of_cell? w _ hx220_1)).trans hx220_1
                  replace hx220_2:=(HB.out.cell (World.block_lt_of_cell? w _ hx220_2)).trans hx220_2
                  replace p220:=eq_true p220
                  replace q220:=eq_true q220
                  have hcz53_0:wr.cell? ⟨gb218,0,none⟩=some (.string ((zqp l0_1 x35_2).f0)):=(zqf BK218.out 0).trans rfl
                  have hcz53_1:wr.cell? ⟨gb218,1,none⟩=some (.int .i64 ((zqp l0_1 x35_2).f1)):=(zqf BK218.out 1).trans rfl
                  have hcz53_2:wr.cell? ⟨gb218,2,none⟩=some (.bool ((zqp l0_1 x35_2).f2)):=(zqf BK218.out 2).trans rfl
                  have hfz53_0:=zqe BK218.out 0
                  have hfz53_1:=zqe BK218.out 1
                  have hfz53_2:=zqe BK218.out 2
                  go_wp2
                  repeat(go_quiet (fail);try go_wp2)
                  go_ret
                  exact⟨by first|rfl|(simp [zqm,zql] <;> rfl)|(simp [*,zqm,zql] <;> rfl),by repeat(first|(with_reducible first|exact HB.out|apply zqb|apply zqa|apply zqc|refine zqi ?_ GE215.out|refine zqi ?_ GE218.out)|exact HB.out)⟩
                 ·rw [if_neg c50] at H
                  have c50b0:(((zqp l0_1 x6_4).f0).toList == ((zqp l0_1 x35_2).f0).toList)=false:=beq_eq_false_iff_ne.mpr c50
                  have c50b1:(((zqp l0_1 x6_4).f0).toList != ((zqp l0_1 x35_2).f0).toList)=true:=bne_iff_ne.mpr c50
                  have H':=zqd.mk H
                  clear H
                  have hnb54:=NB215_218.out
                  have hnc54:=NB218_215.out
                  have hcz55_0:wr.cell? ⟨gb215,0,none⟩=some (.string a0_0):=(zqf BK215.out 0).trans rfl
                  have hcz55_1:wr.cell? ⟨gb215,1,none⟩=some (.slice (some ad217) l0_1.length c0_1):=(zqf BK215.out 1).trans rfl
                  have hcz55_2:wr.cell? ⟨gb215,2,none⟩=some (.slice A0_2 l0_2.length c0_2):=(zqf BK215.out 2).trans rfl
                  have hcz55_3:wr.cell? ⟨gb215,3,none⟩=some (.slice A0_3 l0_3.length c0_3):=(zqf BK215.out 3).trans rfl
                  have hfz55_0:=zqe BK215.out 0
                  have hfz55_1:=zqe BK215.out 1
                  have hfz55_2:=zqe BK215.out 2
                  have hfz55_3:=zqe BK215.out 3
                  have p220:0≤(x6_4:Int):=of_decide_eq_true (by first|(with_reducible assumption)|assumption)
                  have q220:x6_4<(l0_1.length:Int):=of_decide_eq_true (by first|(with_reducible assumption)|assumption)
                  obtain ⟨ad220,e220,hx220_0,hx220_1,hx220_2⟩:=at_T90 HR0_1.out x6_4 p220 q220
                  obtain rfl:ad217=ad220:=(by injection e220)
                  replace hx220_0:=(HB.out.cell (World.block_lt_of_cell? w _ hx220_0)).trans hx220_0
                  replace hx220_1:=(HB.out.cell (World.block_lt_of_cell? w _ hx220_1)).trans hx220_1
                  replace hx220_2:=(HB.out.cell (World.block_lt_of_cell? w _ hx220_2)).trans hx220_2
                  replace p220:=eq_true p220
                  replace q220:=eq_true q220
                  have hcz56_0:wr.cell? ⟨gb218,0,none⟩=some (.string ((zqp l0_1 x35_2).f0)):=(zqf BK218.out 0).trans rfl
                  have hcz56_1:wr.cell? ⟨gb218,1,none⟩=some (.int .i64 ((zqp l0_1 x35_2).f1)):=(zqf BK218.out 1).trans rfl
                  have hcz56_2:wr.cell? ⟨gb218,2,none⟩=some (.bool ((zqp l0_1 x35_2).f2)):=(zqf BK218.out 2).trans rfl
                  have hfz56_0:=zqe BK218.out 0
                  have hfz56_1:=zqe BK218.out 1
                  have hfz56_2:=zqe BK218.out 2
                  go_wp2
                  repeat(go_quiet (fail);try go_wp2)
                  go_roundg k4
                  case measure=>have:=HJ1.out;have:=HK2.out;have:=HJ22.out;have:=HK4.out;omega
                  case rel=>exact⟨(wrap64 (x6_4+1)),(by first|rfl|(simp;done)|(simp [*];done)|(generalize ByteArray.toList _=q_;cases q_ <;> rfl)),H',⟨by have:=HJ1.out;have:=HK2.out;have:=HJ22.out;have:=HK4.out;omega⟩,⟨by(with_reducible repeat(first|refine zqg ?_ _|refine zqj ?_|refine zqh ?_ _));exact BK215.out⟩,⟨by(with_reducible repeat(first|refine zqg ?_ _|refine zqj ?_|refine zqh ?_ _));exact BK218.out⟩,⟨by repeat(first|(with_reducible first|exact HB.out|apply zqb|apply zqa|apply zqc|refine zqi ?_ GE215.out|refine zqi ?_ GE218.out)|exact HB.out)⟩⟩
                ·rw [if_neg c49] at H
                 exact absurd H (by simp)
               ·rw [if_neg c48] at H
                exact absurd H (by simp)
              ·rw [if_neg c47] at H
               have c47b0:decide (x6_4<x35_2)=false:=decide_eq_false c47
               clear c47
               have H':=zqd.mk H
               clear H
               go_wp2
               repeat(go_quiet (fail);try go_wp2)
               go_roundg k4
               case measure=>have:=HJ1.out;have:=HK2.out;have:=HJ22.out;have:=HK4.out;omega
               case rel=>exact⟨(wrap64 (x35_2+1)),(by first|rfl|(simp;done)|(simp [*];done)|(generalize ByteArray.toList _=q_;cases q_ <;> rfl)),H',⟨by have:=HJ1.out;have:=HK2.out;have:=HJ22.out;have:=HK4.out;omega⟩,⟨by(with_reducible repeat(first|refine zqg ?_ _|refine zqj ?_|refine zqh ?_ _));exact BK215.out⟩,⟨by repeat(first|(with_reducible first|exact HB.out|apply zqb|apply zqa|apply zqc|refine zqi ?_ GE215.out|refine zqi ?_ GE218.out)|exact HB.out)⟩⟩
        ·rw [if_neg c22] at H
         exact absurd H (by simp)
       ·rw [if_neg c21] at H
        exact absurd H (by simp)
      ·rw [if_neg c20] at H
       have c20b0:decide (x35_2<(l0_1.length:Int))=false:=decide_eq_false c20
       clear c20
       replace H:=Option.bind_eq_some_iff.mp H
       obtain ⟨t221,A570,H⟩:=H
       replace H:(if t221=true then(zjb.l2 k2 (l0_1.length:Int) 0 a0_0 l0_1 l0_2 l0_3) else (some false))=some r:=H
       have A57:=zqd.mk A570
       clear A570
       by_cases c58:t221=true
       ·subst c58
        have H1:(zjb.l2 k2 (l0_1.length:Int) 0 a0_0 l0_1 l0_2 l0_3)=some r:=by rw [if_pos rfl] at H;exact H
        clear H
        have H:=H1
        clear H1
        have H':=zqd.mk H
        clear H
        have hcz59_0:wr.cell? ⟨gb215,0,none⟩=some (.string a0_0):=(zqf BK215.out 0).trans rfl
        have hcz59_1:wr.cell? ⟨gb215,1,none⟩=some (.slice A0_1 l0_1.length c0_1):=(zqf BK215.out 1).trans rfl
        have hcz59_2:wr.cell? ⟨gb215,2,none⟩=some (.slice A0_2 l0_2.length c0_2):=(zqf BK215.out 2).trans rfl
        have hcz59_3:wr.cell? ⟨gb215,3,none⟩=some (.slice A0_3 l0_3.length c0_3):=(zqf BK215.out 3).trans rfl
        have hfz59_0:=zqe BK215.out 0
        have hfz59_1:=zqe BK215.out 1
        have hfz59_2:=zqe BK215.out 2
        have hfz59_3:=zqe BK215.out 3
        go_wp2_with (first|(go_at_call 101;(with_reducible refine(zje.calls k2 _ _ l0_2 (l0_1.length:Int) true _ ?side1 ?side2 A57.out).mono ?_);(case side1=>repeat(first|exact(Kd.zq3 HR0_2.out HB.out)|(with_reducible refine Kd.zqw ?_ _)|(with_reducible refine Kd.zqy ?_ _)|(with_reducible refine Kd.zq2 ?_)));(case side2=>exact HC0_2.out);rintro e w' ⟨rfl,⟨nd,rfl⟩⟩;(try first|exact⟨rfl,_,World.drewN_drewN _ _ _⟩|exact⟨rfl,_,Eq.trans (World.drewN_drewN _ _ _) (congrArg (World.drewN _) (Nat.add_assoc _ _ _))⟩)))
        repeat(go_quiet (first|(go_at_call 101;(with_reducible refine(zje.calls k2 _ _ l0_2 (l0_1.length:Int) true _ ?side1 ?side2 A57.out).mono ?_);(case side1=>repeat(first|exact(Kd.zq3 HR0_2.out HB.out)|(with_reducible refine Kd.zqw ?_ _)|(with_reducible refine Kd.zqy ?_ _)|(with_reducible refine Kd.zq2 ?_)));(case side2=>exact HC0_2.out);rintro e w' ⟨rfl,⟨nd,rfl⟩⟩;(try first|exact⟨rfl,_,World.drewN_drewN _ _ _⟩|exact⟨rfl,_,Eq.trans (World.drewN_drewN _ _ _) (congrArg (World.drewN _) (Nat.add_assoc _ _ _))⟩)));try go_wp2_with (first|(go_at_call 101;(with_reducible refine(zje.calls k2 _ _ l0_2 (l0_1.length:Int) true _ ?side1 ?side2 A57.out).mono ?_);(case side1=>repeat(first|exact(Kd.zq3 HR0_2.out HB.out)|(with_reducible refine Kd.zqw ?_ _)|(with_reducible refine Kd.zqy ?_ _)|(with_reducible refine Kd.zq2 ?_)));(case side2=>exact HC0_2.out);rintro e w' ⟨rfl,⟨nd,rfl⟩⟩;(try first|exact⟨rfl,_,World.drewN_drewN _ _ _⟩|exact⟨rfl,_,Eq.trans (World.drewN_drewN _ _ _) (congrArg (World.drewN _) (Nat.add_assoc _ _ _))⟩))))
        go_loopg [7] k2 (fun kq v7 w' => ∃ (x7_3:Int),v7 = .int .i64 x7_3∧zqd (zjb.l2 kq (l0_1.length:Int) x7_3 a0_0 l0_1 l0_2 l0_3=some r)∧zqd (kq≤k2)∧zqd (w'.heap[gb215]? = some (.cells #[.string a0_0,(.slice A0_1 l0_1.length c0_1),(.slice A0_2 l0_2.length c0_2),(.slice A0_3 l0_3.length c0_3)] 61 (0,0)))∧zqd (Below w.heap.size w w'))
        case atStart=>exact⟨(0),(by first|rfl|(simp;done)|(simp [*];done)|(generalize ByteArray.toList _=q_;cases q_ <;> rfl)),H',⟨Nat.le_refl _⟩,⟨by(with_reducible repeat(first|refine zqg ?_ _|refine zqj ?_|refine zqh ?_ _));exact BK215.out⟩,⟨by repeat(first|(with_reducible first|exact HB.out|apply zqb|apply zqa|apply zqc|refine zqi ?_ GE215.out)|exact HB.out)⟩⟩
        case round=>
         clear H'
         try clear c1
         try clear c2
         try clear p2
         try clear q2
         try clear hx2
         try clear c3
         try clear c4
         try clear c5
         try clear c6
         try clear p6
         try clear c7
         try clear c7b0
         try clear c7b1
         try clear c7b2
         try clear c10
         try clear c10b0
         try clear c10b1
         try clear c18
         try clear c20
         try clear c20b0
         try clear c21
         try clear c21b0
         try clear p21
         try clear q21
         try clear hx21
         try clear c22
         try clear c22b0
         try clear p22
         try clear q22
         try clear hx22
         try clear c25
         try clear c28
         try clear c29
         try clear c29b0
         try clear c29b1
         try clear c30
         try clear c34
         try clear c34b0
         try clear c34b1
         try clear c35
         try clear c39
         try clear c43
         try clear c46
         try clear c47
         try clear c47b0
         try clear c48
         try clear c48b0
         try clear c49
         try clear c49b0
         try clear c50
         try clear c50b0
         try clear c50b1
         try clear c51
         try clear c54
         try clear c58
         try clear hcz11_0
         try clear hcz11_1
         try clear hcz11_2
         try clear hcz11_3
         try clear hcz13_0
         try clear hcz13_1
         try clear hcz13_2
         try clear hcz13_3
         try clear hcz15_0
         try clear hcz15_1
         try clear hcz15_2
         try clear hcz15_3
         try clear hcz16_0
         try clear hcz16_1
         try clear hcz16_2
         try clear hcz16_3
         try clear hcz19_0
         try clear hcz19_1
         try clear hcz19_2
         try clear hcz19_3
         try clear hcz26_0
         try clear hcz26_1
         try clear hcz26_2
         try clear hcz31_0
         try clear hcz31_1
         try clear hcz31_2
         try clear hcz33_0
         try clear hcz33_1
         try clear hcz33_2
         try clear hcz36_0
         try clear hcz36_1
         try clear hcz36_2
         try clear hcz38_0
         try clear hcz38_1
         try clear hcz38_2
         try clear hcz40_0
         try clear hcz40_1
         try clear hcz40_2
         try clear hcz42_0
         try clear hcz42_1
         try clear hcz42_2
         try clear hcz44_0
         try clear hcz44_1
         try clear hcz44_2
         try clear hcz4_0
         try clear hcz4_1
         try clear hcz4_2
         try clear hcz4_3
         try clear hcz52_0
         try clear hcz52_1
         try clear hcz52_2
         try clear hcz52_3
         try clear hcz53_0
         try clear hcz53_1
         try clear hcz53_2
         try clear hcz55_0
         try clear hcz55_1
         try clear hcz55_2
         try clear hcz55_3
         try clear hcz56_0
         try clear hcz56_1
         try clear hcz56_2
         try clear hcz59_0
         try clear hcz59_1
         try clear hcz59_2
         try clear hcz59_3
         try clear hcz8_0
         try clear hcz8_1
         try clear hcz8_2
         try clear hcz8_3
         try clear hfz11_0
         try clear hfz11_1
         try clear hfz11_2
         try clear hfz11_3
         try clear hfz13_0
         try clear hfz13_1
         try clear hfz13_2
         try clear hfz13_3
         try clear hfz15_0
         try clear hfz15_1
         try clear hfz15_2
         try clear hfz15_3
         try clear hfz16_0
         try clear hfz16_1
         try clear hfz16_2
         try clear hfz16_3
         try clear hfz19_0
         try clear hfz19_1
         try clear hfz19_2
         try clear hfz19_3
         try clear hfz26_0
         try clear hfz26_1
         try clear hfz26_2
         try clear hfz31_0
         try clear hfz31_1
         try clear hfz31_2
         try clear hfz33_0
         try clear hfz33_1
         try clear hfz33_2
         try clear hfz36_0
         try clear hfz36_1
         try clear hfz36_2
         try clear hfz38_0
         try clear hfz38_1
         try clear hfz38_2
         try clear hfz40_0
         try clear hfz40_1
         try clear hfz40_2
         try clear hfz42_0
         try clear hfz42_1
         try clear hfz42_2
         try clear hfz44_0
         try clear hfz44_1
         try clear hfz44_2
         try clear hfz4_0
         try clear hfz4_1
         try clear hfz4_2
         try clear hfz4_3
         try clear hfz52_0
         try clear hfz52_1
         try clear hfz52_2
         try clear hfz52_3
         try clear hfz53_0
         try clear hfz53_1
         try clear hfz53_2
         try clear hfz55_0
         try clear hfz55_1
         try clear hfz55_2
         try clear hfz55_3
         try clear hfz56_0
         try clear hfz56_1
         try clear hfz56_2
         try clear hfz59_0
         try clear hfz59_1
         try clear hfz59_2
         try clear hfz59_3
         try clear hfz8_0
         try clear hfz8_1
         try clear hfz8_2
         try clear hfz8_3
         try clear hx217_0
         try clear hx217_1
         try clear hx217_2
         try clear hx220_0
         try clear hx220_1
         try clear hx220_2
         try clear p2
         try clear p21
         try clear p217
         try clear p220
         try clear q2
         try clear q21
         try clear q217
         try clear q220
         obtain ⟨x7_3,rfl,HA,HK3,BK215,HB⟩:=hrel
         cases gk with
         | zero=>exact absurd HA.out (by simp [zjb.l2])
         | succ k3=>
          have H:=HA.out
          clear HA
          simp only [zjb.l2] at H
          by_cases c60:x7_3<(l0_2.length:Int)
          ·rw [if_pos c60] at H
           have c60b0:decide (x7_3<(l0_2.length:Int))=true:=decide_eq_true c60
           clear c60
           by_cases c61:0≤x7_3
           ·rw [if_pos c61] at H
            have c61b0:decide (0≤x7_3)=true:=decide_eq_true c61
            clear c61
            by_cases c62:0≤(rd l0_2 x7_3)
            ·rw [if_pos c62] at H
             have c62b0:decide (0≤(rd l0_2 x7_3))=true:=decide_eq_true c62
             clear c62
             by_cases c63:(rd l0_2 x7_3)<(l0_1.length:Int)
             ·rw [if_pos c63] at H
              have c63b0:decide ((rd l0_2 x7_3)<(l0_1.length:Int))=true:=decide_eq_true c63
              clear c63
              obtain ⟨bq64,hbq64⟩:∃ b_:Bool,b_=((zqp l0_1 (rd l0_2 x7_3)).f2):=⟨_,rfl⟩
              replace H:(if(bq64=true) then(zjb.l2 k3 (l0_1.length:Int) (wrap64 (x7_3+1)) a0_0 l0_1 l0_2 l0_3) else (some false))=some r:=by rw [← hbq64] at H;exact H
              have Nbq64:=zqd.mk hbq64
              clear hbq64
              by_cases c65:(bq64=true)
              ·subst c65
               have H1:(zjb.l2 k3 (l0_1.length:Int) (wrap64 (x7_3+1)) a0_0 l0_1 l0_2 l0_3)=some r:=by rw [if_pos rfl] at H;exact H
               clear H
               have H:=H1
               clear H1
               (try rw [← Nbq64.out] at hx217_0)
               (try rw [← Nbq64.out] at hx217_1)
               (try rw [← Nbq64.out] at hx217_2)
               (try rw [← Nbq64.out] at hx220_0)
               (try rw [← Nbq64.out] at hx220_1)
               (try rw [← Nbq64.out] at hx220_2)
               (try rw [← Nbq64.out])
               have H':=zqd.mk H
               clear H
               have hcz66_0:wr.cell? ⟨gb215,0,none⟩=some (.string a0_0):=(zqf BK215.out 0).trans rfl
               have hcz66_1:wr.cell? ⟨gb215,1,none⟩=some (.slice A0_1 l0_1.length c0_1):=(zqf BK215.out 1).trans rfl
               have hcz66_2:wr.cell? ⟨gb215,2,none⟩=some (.slice A0_2 l0_2.length c0_2):=(zqf BK215.out 2).trans rfl
               have hcz66_3:wr.cell? ⟨gb215,3,none⟩=some (.slice A0_3 l0_3.length c0_3):=(zqf BK215.out 3).trans rfl
               have hfz66_0:=zqe BK215.out 0
               have hfz66_1:=zqe BK215.out 1
               have hfz66_2:=zqe BK215.out 2
               have hfz66_3:=zqe BK215.out 3
               have p222:0≤(x7_3:Int):=of_decide_eq_true (by first|(with_reducible assumption)|assumption)
               have q222:x7_3<(l0_2.length:Int):=of_decide_eq_true (by first|(with_reducible assumption)|assumption)
               obtain ⟨ad222,e222,hx222_0⟩:=Kd.zke HR0_2.out x7_3 p222 q222
               cases e222
               replace hx222_0:=(HB.out.cell (World.block_lt_of_cell? w _ hx222_0)).trans hx222_0
               replace p222:=eq_true p222
               replace q222:=eq_true q222
               have p223:0≤((rd l0_2 x7_3):Int):=of_decide_eq_true (by first|(with_reducible assumption)|assumption)
               have q223:(rd l0_2 x7_3)<(l0_1.length:Int):=of_decide_eq_true (by first|(with_reducible assumption)|assumption)
               obtain ⟨ad223,e223,hx223_0,hx223_1,hx223_2⟩:=at_T90 HR0_1.out (rd l0_2 x7_3) p223 q223
               (try rw [← Nbq64.out] at hx223_2)
               cases e223
               replace hx223_0:=(HB.out.cell (World.block_lt_of_cell? w _ hx223_0)).trans hx223_0
               replace hx223_1:=(HB.out.cell (World.block_lt_of_cell? w _ hx223_1)).trans hx223_1
               replace hx223_2:=(HB.out.cell (World.block_lt_of_cell? w _ hx223_2)).trans hx223_2
               replace p223:=eq_true p223
               replace q223:=eq_true q223
               go_wp2
               repeat(go_quiet (fail);try go_wp2)
               go_roundg k3
               case measure=>have:=HJ1.out;have:=HK2.out;have:=HK3.out;omega
               case rel=>first|(exact⟨(wrap64 (x7_3+1)),(by first|rfl|(simp;done)|(simp [*];done)|(generalize ByteArray.toList _=q_;cases q_ <;> rfl)),H',⟨by have:=HJ1.out;have:=HK2.out;have:=HK3.out;omega⟩,⟨by(with_reducible repeat(first|refine zqg ?_ _|refine zqj ?_|refine zqh ?_ _));exact BK215.out⟩,⟨by repeat(first|(with_reducible first|exact HB.out|apply zqb|apply zqa|apply zqc|refine zqi ?_ GE215.out)|exact HB.out)⟩⟩)|(simp only [← Nbq64.out];exact⟨(wrap64 (x7_3+1)),(by first|rfl|(simp;done)|(simp [*];done)|(generalize ByteArray.toList _=q_;cases q_ <;> rfl)),H',⟨by have:=HJ1.out;have:=HK2.out;have:=HK3.out;omega⟩,⟨by(with_reducible repeat(first|refine zqg ?_ _|refine zqj ?_|refine zqh ?_ _));exact BK215.out⟩,⟨by repeat(first|(with_reducible first|exact HB.out|apply zqb|apply zqa|apply zqc|refine zqi ?_ GE215.out)|exact HB.out)⟩⟩)
              ·replace c65:=Bool.eq_false_iff.mpr c65
               subst c65
               have H1:(some false)=some r:=by rw [if_neg (show ¬ (false=true) by decide)] at H;exact H
               clear H
               have H:=H1
               clear H1
               (try rw [← Nbq64.out] at hx220_0)
               (try rw [← Nbq64.out] at hx220_1)
               (try rw [← Nbq64.out] at hx220_2)
               (try rw [← Nbq64.out] at hx217_0)
               (try rw [← Nbq64.out] at hx217_1)
               (try rw [← Nbq64.out] at hx217_2)
               (try rw [← Nbq64.out] at hx222_0)
               (try rw [← Nbq64.out] at hx223_0)
               (try rw [← Nbq64.out] at hx223_1)
               (try rw [← Nbq64.out] at hx223_2)
               (try rw [← Nbq64.out])
               obtain rfl:=Option.some.inj H
               have hcz67_0:wr.cell? ⟨gb215,0,none⟩=some (.string a0_0):=(zqf BK215.out 0).trans rfl
               have hcz67_1:wr.cell? ⟨gb215,1,none⟩=some (.slice A0_1 l0_1.length c0_1):=(zqf BK215.out 1).trans rfl
               have hcz67_2:wr.cell? ⟨gb215,2,none⟩=some (.slice A0_2 l0_2.length c0_2):=(zqf BK215.out 2).trans rfl
               have hcz67_3:wr.cell? ⟨gb215,3,none⟩=some (.slice A0_3 l0_3.length c0_3):=(zqf BK215.out 3).trans rfl
               have hfz67_0:=zqe BK215.out 0
               have hfz67_1:=zqe BK215.out 1
               have hfz67_2:=zqe BK215.out 2
               have hfz67_3:=zqe BK215.out 3
               have p222:0≤(x7_3:Int):=of_decide_eq_true (by first|(with_reducible assumption)|assumption)
               have q222:x7_3<(l0_2.length:Int):=of_decide_eq_true (by first|(with_reducible assumption)|assumption)
               obtain ⟨ad222,e222,hx222_0⟩:=Kd.zke HR0_2.out x7_3 p222 q222
               cases e222
               replace hx222_0:=(HB.out.cell (World.block_lt_of_cell? w _ hx222_0)).trans hx222_0
               replace p222:=eq_true p222
               replace q222:=eq_true q222
               have p223:0≤((rd l0_2 x7_3):Int):=of_decide_eq_true (by first|(with_reducible assumption)|assumption)
               have q223:(rd l0_2 x7_3)<(l0_1.length:Int):=of_decide_eq_true (by first|(with_reducible assumption)|assumption)
               obtain ⟨ad223,e223,hx223_0,hx223_1,hx223_2⟩:=at_T90 HR0_1.out (rd l0_2 x7_3) p223 q223
               (try rw [← Nbq64.out] at hx223_2)
               cases e223
               replace hx223_0:=(HB.out.cell (World.block_lt_of_cell? w _ hx223_0)).trans hx223_0
               replace hx223_1:=(HB.out.cell (World.block_lt_of_cell? w _ hx223_1)).trans hx223_1
               replace hx223_2:=(HB.out.cell (World.block_lt_of_cell? w _ hx223_2)).trans hx223_2
               replace p223:=eq_true p223
               replace q223:=eq_true q223
               go_wp2
               repeat(go_quiet (fail);try go_wp2)
               go_ret
               exact⟨by first|rfl|(simp [zqm,zql] <;> rfl)|(simp [*,zqm,zql] <;> rfl),by repeat(first|(with_reducible first|exact HB.out|apply zqb|apply zqa|apply zqc|refine zqi ?_ GE215.out)|exact HB.out)⟩
             ·rw [if_neg c63] at H
              exact absurd H (by simp)
            ·rw [if_neg c62] at H
             exact absurd H (by simp)
           ·rw [if_neg c61] at H
            exact absurd H (by simp)
          ·rw [if_neg c60] at H
           have c60b0:decide (x7_3<(l0_2.length:Int))=false:=decide_eq_false c60
           clear c60
           have H':=zqd.mk H
           clear H
           have hcz68_0:wr.cell? ⟨gb215,0,none⟩=some (.string a0_0):=(zqf BK215.out 0).trans rfl
           have hcz68_1:wr.cell? ⟨gb215,1,none⟩=some (.slice A0_1 l0_1.length c0_1):=(zqf BK215.out 1).trans rfl
           have hcz68_2:wr.cell? ⟨gb215,2,none⟩=some (.slice A0_2 l0_2.length c0_2):=(zqf BK215.out 2).trans rfl
           have hcz68_3:wr.cell? ⟨gb215,3,none⟩=some (.slice A0_3 l0_3.length c0_3):=(zqf BK215.out 3).trans rfl
           have hfz68_0:=zqe BK215.out 0
           have hfz68_1:=zqe BK215.out 1
           have hfz68_2:=zqe BK215.out 2
           have hfz68_3:=zqe BK215.out 3
           go_wp2
           repeat(go_quiet (fail);try go_wp2)
           go_loopg [100] k3 (fun kq v100 w' => ∃ (x100_4:Int),v100 = .int .i64 x100_4∧zqd (zjb.l3 kq (l0_1.length:Int) l0_3 (l0_3.length:Int) x100_4 a0_0 l0_1 l0_2 l0_3=some r)∧zqd (kq≤k3)∧zqd (w'.heap[gb215]? = some (.cells #[.string a0_0,(.slice A0_1 l0_1.length c0_1),(.slice A0_2 l0_2.length c0_2),(.slice A0_3 l0_3.length c0_3)] 61 (0,0)))∧zqd (Below w.heap.size w w'))
           case atStart=>exact⟨(0),(by first|rfl|(simp;done)|(simp [*];done)|(generalize ByteArray.toList _=q_;cases q_ <;> rfl)),H',⟨Nat.le_refl _⟩,⟨by(with_reducible repeat(first|refine zqg ?_ _|refine zqj ?_|refine zqh ?_ _));exact BK215.out⟩,⟨by repeat(first|(with_reducible first|exact HB.out|apply zqb|apply zqa|apply zqc|refine zqi ?_ GE215.out)|exact HB.out)⟩⟩
           case round=>
            clear H'
            try clear c1
            try clear c2
            try clear p2
            try clear q2
            try clear hx2
            try clear c3
            try clear c4
            try clear c5
            try clear c6
            try clear p6
            try clear q6
            try clear c7
            try clear c7b0
            try clear c7b1
            try clear c7b2
            try clear c10
            try clear c10b0
            try clear c10b1
            try clear c18
            try clear c20
            try clear c20b0
            try clear c21
            try clear c21b0
            try clear p21
            try clear q21
            try clear hx21
            try clear c22
            try clear c22b0
            try clear p22
            try clear q22
            try clear hx22
            try clear c25
            try clear c28
            try clear c29
            try clear c29b0
            try clear c29b1
            try clear c30
            try clear c34
            try clear c34b0
            try clear c34b1
            try clear c35
            try clear c39
            try clear c43
            try clear c46
            try clear c47
            try clear c47b0
            try clear c48
            try clear c48b0
            try clear c49
            try clear c49b0
            try clear c50
            try clear c50b0
            try clear c50b1
            try clear c51
            try clear c54
            try clear c58
            try clear c60
            try clear c60b0
            try clear c61
            try clear c61b0
            try clear c62
            try clear c62b0
            try clear c63
            try clear c63b0
            try clear p64
            try clear q64
            try clear c65
            try clear hcz11_0
            try clear hcz11_1
            try clear hcz11_2
            try clear hcz11_3
            try clear hcz13_0
            try clear hcz13_1
            try clear hcz13_2
            try clear hcz13_3
            try clear hcz15_0
            try clear hcz15_1
            try clear hcz15_2
            try clear hcz15_3
            try clear hcz16_0
            try clear hcz16_1
            try clear hcz16_2
            try clear hcz16_3
            try clear hcz19_0
            try clear hcz19_1
            try clear hcz19_2
            try clear hcz19_3
            try clear hcz26_0
            try clear hcz26_1
            try clear hcz26_2
            try clear hcz31_0
            try clear hcz31_1
            try clear hcz31_2
            try clear hcz33_0
            try clear hcz33_1
            try clear hcz33_2
            try clear hcz36_0
            try clear hcz36_1
            try clear hcz36_2
            try clear hcz38_0
            try clear hcz38_1
            try clear hcz38_2
            try clear hcz40_0
            try clear hcz40_1
            try clear hcz40_2
            try clear hcz42_0
            try clear hcz42_1
            try clear hcz42_2
            try clear hcz44_0
            try clear hcz44_1
            try clear hcz44_2
            try clear hcz4_0
            try clear hcz4_1
            try clear hcz4_2
            try clear hcz4_3
            try clear hcz52_0
            try clear hcz52_1
            try clear hcz52_2
            try clear hcz52_3
            try clear hcz53_0
            try clear hcz53_1
            try clear hcz53_2
            try clear hcz55_0
            try clear hcz55_1
            try clear hcz55_2
            try clear hcz55_3
            try clear hcz56_0
            try clear hcz56_1
            try clear hcz56_2
            try clear hcz59_0
            try clear hcz59_1
            try clear hcz59_2
            try clear hcz59_3
            try clear hcz66_0
            try clear hcz66_1
            try clear hcz66_2
            try clear hcz66_3
            try clear hcz67_0
            try clear hcz67_1
            try clear hcz67_2
            try clear hcz67_3
            try clear hcz68_0
            try clear hcz68_1
            try clear hcz68_2
            try clear hcz68_3
            try clear hcz8_0
            try clear hcz8_1
            try clear hcz8_2
            try clear hcz8_3
            try clear hfz11_0
            try clear hfz11_1
            try clear hfz11_2
            try clear hfz11_3
            try clear hfz13_0
            try clear hfz13_1
            try clear hfz13_2
            try clear hfz13_3
            try clear hfz15_0
            try clear hfz15_1
            try clear hfz15_2
            try clear hfz15_3
            try clear hfz16_0
            try clear hfz16_1
            try clear hfz16_2
            try clear hfz16_3
            try clear hfz19_0
            try clear hfz19_1
            try clear hfz19_2
            try clear hfz19_3
            try clear hfz26_0
            try clear hfz26_1
            try clear hfz26_2
            try clear hfz31_0
            try clear hfz31_1
            try clear hfz31_2
            try clear hfz33_0
            try clear hfz33_1
            try clear hfz33_2
            try clear hfz36_0
            try clear hfz36_1
            try clear hfz36_2
            try clear hfz38_0
            try clear hfz38_1
            try clear hfz38_2
            try clear hfz40_0
            try clear hfz40_1
            try clear hfz40_2
            try clear hfz42_0
            try clear hfz42_1
            try clear hfz42_2
            try clear hfz44_0
            try clear hfz44_1
            try clear hfz44_2
            try clear hfz4_0
            try clear hfz4_1
            try clear hfz4_2
            try clear hfz4_3
            try clear hfz52_0
            try clear hfz52_1
            try clear hfz52_2
            try clear hfz52_3
            try clear hfz53_0
            try clear hfz53_1
            try clear hfz53_2
            try clear hfz55_0
            try clear hfz55_1
            try clear hfz55_2
            try clear hfz55_3
            try clear hfz56_0
            try clear hfz56_1
            try clear hfz56_2
            try clear hfz59_0
            try clear hfz59_1
            try clear hfz59_2
            try clear hfz59_3
            try clear hfz66_0
            try clear hfz66_1
            try clear hfz66_2
            try clear hfz66_3
            try clear hfz67_0
            try clear hfz67_1
            try clear hfz67_2
            try clear hfz67_3
            try clear hfz68_0
            try clear hfz68_1
            try clear hfz68_2
            try clear hfz68_3
            try clear hfz8_0
            try clear hfz8_1
            try clear hfz8_2
            try clear hfz8_3
            try clear hx217_0
            try clear hx217_1
            try clear hx217_2
            try clear hx220_0
            try clear hx220_1
            try clear hx220_2
            try clear hx222_0
            try clear hx223_0
            try clear hx223_1
            try clear hx223_2
            try clear p2
            try clear p21
            try clear p217
            try clear p22
            try clear p220
            try clear p222
            try clear p223
            try clear p6
            try clear q2
            try clear q21
            try clear q217
            try clear q22
            try clear q220
            try clear q222
            try clear q223
            obtain ⟨x100_4,rfl,HA,HK4,BK215,HB⟩:=hrel
            cases gk with
            | zero=>exact absurd HA.out (by simp [zjb.l3])
            | succ k4=>
             have H:=HA.out
             clear HA
             simp only [zjb.l3] at H
             by_cases c69:x100_4<(l0_3.length:Int)
             ·rw [if_pos c69] at H
              have c69b0:decide (x100_4<(l0_3.length:Int))=true:=decide_eq_true c69
              clear c69
              by_cases c70:0≤x100_4
              ·rw [if_pos c70] at H
               have c70b0:decide (0≤x100_4)=true:=decide_eq_true c70
               clear c70
               by_cases c71:x100_4<(l0_3.length:Int)
               ·rw [if_pos c71] at H
                have c71b0:decide (x100_4<(l0_3.length:Int))=true:=decide_eq_true c71
                clear c71
                have HC72:=zqd.mk H
                clear H
                have p224:0≤(x100_4:Int):=of_decide_eq_true (by first|(with_reducible assumption)|assumption)
                have q224:x100_4<(l0_3.length:Int):=of_decide_eq_true (by first|(with_reducible assumption)|assumption)
                obtain ⟨ad224,A224_1,c224_1,e224,hx224_0,hx224_1,hl224_1,hi224_1⟩:=at_T96 HR0_3.out x100_4 p224 q224
                cases e224
                replace hx224_0:=(HB.out.cell (World.block_lt_of_cell? w _ hx224_0)).trans hx224_0
                replace hx224_1:=(HB.out.cell (World.block_lt_of_cell? w _ hx224_1)).trans hx224_1
                have HR224_1:=zqd.mk hi224_1
                have HC224_1:=zqd.mk hl224_1
                clear hi224_1 hl224_1
                replace p224:=eq_true p224
                replace q224:=eq_true q224
                go_upto_region 25 with (first|((with_reducible refine zqx (N:=9) rfl ?_);(try(refine zqz (by rfl) ?_;dsimp only));refine zqt ?hg (N:=9) ?hd (cs:=#[.string (⟨#[]⟩:ByteArray),.slice none 0 0]) (t:=96) ?hr ?_;(case hd=>rfl);(case hg=>rfl);(case hr=>first|(go_simp;done)|(go_simp;rfl));intro gb225 hg w73 hbox hb;have n0_:=zqd.mk (zqr (g:=gb215) (o:=.cells #[.string a0_0,.slice A0_1 l0_1.length c0_1,.slice A0_2 l0_2.length c0_2,.slice (some ad224) l0_3.length c0_3] 61 (0,0)) (by(with_reducible repeat(first|refine zqg ?_ _|refine zqj ?_|refine zqh ?_ _));exact BK215.out) hb);have n1_:=zqd.mk (zqn (by repeat(first|(with_reducible first|exact HB.out|apply zqb|apply zqa|apply zqc|refine zqi ?_ GE215.out)|exact HB.out)) hb);have n2_:=zqd.mk (hbox);have n3_:=zqd.mk ((by rw [hg];exact(zqk (by repeat(first|(with_reducible first|exact HB.out|apply zqb|apply zqa|apply zqc|refine zqi ?_ GE215.out)|exact HB.out))):w.heap.size≤gb225));have n4_:=zqd.mk ((by rw [hg];exact(zqk (by repeat(first|(with_reducible first|exact HB.out|apply zqb|apply zqa|apply zqc|refine zqi ?_ GE215.out)|exact HB.out))):w.heap.size≤gb225));have n5_:=zqd.mk ((by rw [hg];exact Nat.ne_of_lt (zxh (g:=gb215) (o:=.cells #[.string a0_0,.slice A0_1 l0_1.length c0_1,.slice A0_2 l0_2.length c0_2,.slice (some ad224) l0_3.length c0_3] 61 (0,0)) (by(with_reducible repeat(first|refine zqg ?_ _|refine zqj ?_|refine zqh ?_ _));exact BK215.out)):gb215≠gb225));have n6_:=zqd.mk ((by rw [hg];exact Nat.ne_of_gt (zxh (g:=gb215) (o:=.cells #[.string a0_0,.slice A0_1 l0_1.length c0_1,.slice A0_2 l0_2.length c0_2,.slice (some ad224) l0_3.length c0_3] 61 (0,0)) (by(with_reducible repeat(first|refine zqg ?_ _|refine zqj ?_|refine zqh ?_ _));exact BK215.out)):gb225≠gb215));clear BK215 HB;have BK215:=n0_;have HB:=n1_;have BK225:=n2_;have GW225:=n3_;have GE225:=n4_;have NB215_225:=n5_;have NB225_215:=n6_;clear n0_ n1_ n2_ n3_ n4_ n5_ n6_ hb hbox hg;have hnb74:=NB225_215.out;have hnc74:=NB215_225.out;have hcz75_0:w73.cell? ⟨gb225,0,none⟩=some (.string (⟨#[]⟩:ByteArray)):=(zqf BK225.out 0).trans rfl;have hcz75_1:w73.cell? ⟨gb225,1,none⟩=some (.slice none 0 0):=(zqf BK225.out 1).trans rfl;have hfz75_0:=zqe BK225.out 0;have hfz75_1:=zqe BK225.out 1))
                repeat(go_quiet (first|((with_reducible refine zqx (N:=9) rfl ?_);(try(refine zqz (by rfl) ?_;dsimp only));refine zqt ?hg (N:=9) ?hd (cs:=#[.string (⟨#[]⟩:ByteArray),.slice none 0 0]) (t:=96) ?hr ?_;(case hd=>rfl);(case hg=>rfl);(case hr=>first|(go_simp;done)|(go_simp;rfl));intro gb225 hg w73 hbox hb;have n0_:=zqd.mk (zqr (g:=gb215) (o:=.cells #[.string a0_0,.slice A0_1 l0_1.length c0_1,.slice A0_2 l0_2.length c0_2,.slice (some ad224) l0_3.length c0_3] 61 (0,0)) (by(with_reducible repeat(first|refine zqg ?_ _|refine zqj ?_|refine zqh ?_ _));exact BK215.out) hb);have n1_:=zqd.mk (zqn (by repeat(first|(with_reducible first|exact HB.out|apply zqb|apply zqa|apply zqc|refine zqi ?_ GE215.out)|exact HB.out)) hb);have n2_:=zqd.mk (hbox);have n3_:=zqd.mk ((by rw [hg];exact(zqk (by repeat(first|(with_reducible first|exact HB.out|apply zqb|apply zqa|apply zqc|refine zqi ?_ GE215.out)|exact HB.out))):w.heap.size≤gb225));have n4_:=zqd.mk ((by rw [hg];exact(zqk (by repeat(first|(with_reducible first|exact HB.out|apply zqb|apply zqa|apply zqc|refine zqi ?_ GE215.out)|exact HB.out))):w.heap.size≤gb225));have n5_:=zqd.mk ((by rw [hg];exact Nat.ne_of_lt (zxh (g:=gb215) (o:=.cells #[.string a0_0,.slice A0_1 l0_1.length c0_1,.slice A0_2 l0_2.length c0_2,.slice (some ad224) l0_3.length c0_3] 61 (0,0)) (by(with_reducible repeat(first|refine zqg ?_ _|refine zqj ?_|refine zqh ?_ _));exact BK215.out)):gb215≠gb225));have n6_:=zqd.mk ((by rw [hg];exact Nat.ne_of_gt (zxh (g:=gb215) (o:=.cells #[.string a0_0,.slice A0_1 l0_1.length c0_1,.slice A0_2 l0_2.length c0_2,.slice (some ad224) l0_3.length c0_3] 61 (0,0)) (by(with_reducible repeat(first|refine zqg ?_ _|refine zqj ?_|refine zqh ?_ _));exact BK215.out)):gb225≠gb215));clear BK215 HB;have BK215:=n0_;have HB:=n1_;have BK225:=n2_;have GW225:=n3_;have GE225:=n4_;have NB215_225:=n5_;have NB225_215:=n6_;clear n0_ n1_ n2_ n3_ n4_ n5_ n6_ hb hbox hg;have hnb74:=NB225_215.out;have hnc74:=NB215_225.out;have hcz75_0:w73.cell? ⟨gb225,0,none⟩=some (.string (⟨#[]⟩:ByteArray)):=(zqf BK225.out 0).trans rfl;have hcz75_1:w73.cell? ⟨gb225,1,none⟩=some (.slice none 0 0):=(zqf BK225.out 1).trans rfl;have hfz75_0:=zqe BK225.out 0;have hfz75_1:=zqe BK225.out 1));go_upto_region 25 with (first|((with_reducible refine zqx (N:=9) rfl ?_);(try(refine zqz (by rfl) ?_;dsimp only));refine zqt ?hg (N:=9) ?hd (cs:=#[.string (⟨#[]⟩:ByteArray),.slice none 0 0]) (t:=96) ?hr ?_;(case hd=>rfl);(case hg=>rfl);(case hr=>first|(go_simp;done)|(go_simp;rfl));intro gb225 hg w73 hbox hb;have n0_:=zqd.mk (zqr (g:=gb215) (o:=.cells #[.string a0_0,.slice A0_1 l0_1.length c0_1,.slice A0_2 l0_2.length c0_2,.slice (some ad224) l0_3.length c0_3] 61 (0,0)) (by(with_reducible repeat(first|refine zqg ?_ _|refine zqj ?_|refine zqh ?_ _));exact BK215.out) hb);have n1_:=zqd.mk (zqn (by repeat(first|(with_reducible first|exact HB.out|apply zqb|apply zqa|apply zqc|refine zqi ?_ GE215.out)|exact HB.out)) hb);have n2_:=zqd.mk (hbox);have n3_:=zqd.mk ((by rw [hg];exact(zqk (by repeat(first|(with_reducible first|exact HB.out|apply zqb|apply zqa|apply zqc|refine zqi ?_ GE215.out)|exact HB.out))):w.heap.size≤gb225));have n4_:=zqd.mk ((by rw [hg];exact(zqk (by repeat(first|(with_reducible first|exact HB.out|apply zqb|apply zqa|apply zqc|refine zqi ?_ GE215.out)|exact HB.out))):w.heap.size≤gb225));have n5_:=zqd.mk ((by rw [hg];exact Nat.ne_of_lt (zxh (g:=gb215) (o:=.cells #[.string a0_0,.slice A0_1 l0_1.length c0_1,.slice A0_2 l0_2.length c0_2,.slice (some ad224) l0_3.length c0_3] 61 (0,0)) (by(with_reducible repeat(first|refine zqg ?_ _|refine zqj ?_|refine zqh ?_ _));exact BK215.out)):gb215≠gb225));have n6_:=zqd.mk ((by rw [hg];exact Nat.ne_of_gt (zxh (g:=gb215) (o:=.cells #[.string a0_0,.slice A0_1 l0_1.length c0_1,.slice A0_2 l0_2.length c0_2,.slice (some ad224) l0_3.length c0_3] 61 (0,0)) (by(with_reducible repeat(first|refine zqg ?_ _|refine zqj ?_|refine zqh ?_ _));exact BK215.out)):gb225≠gb215));clear BK215 HB;have BK215:=n0_;have HB:=n1_;have BK225:=n2_;have GW225:=n3_;have GE225:=n4_;have NB215_225:=n5_;have NB225_215:=n6_;clear n0_ n1_ n2_ n3_ n4_ n5_ n6_ hb hbox hg;have hnb74:=NB225_215.out;have hnc74:=NB215_225.out;have hcz75_0:w73.cell? ⟨gb225,0,none⟩=some (.string (⟨#[]⟩:ByteArray)):=(zqf BK225.out 0).trans rfl;have hcz75_1:w73.cell? ⟨gb225,1,none⟩=some (.slice none 0 0):=(zqf BK225.out 1).trans rfl;have hfz75_0:=zqe BK225.out 0;have hfz75_1:=zqe BK225.out 1)))
                (try simp only [Act.put,List.setIfInBounds_toArray,List.set_cons_zero,List.set_cons_succ])
                go_cut [115] (fun v115 wc => ∃ (kq:Nat) (x115_71:Bool),v115 = .bool x115_71∧zqd (zjb.j6 kq (l0_1.length:Int) x100_4 l0_3 (l0_3.length:Int) x100_4 x115_71 a0_0 l0_1 l0_2 l0_3 ((zq0 l0_3 x100_4).f0) ((zq0 l0_3 x100_4).f1)=some r)∧zqd (kq≤k4)∧zqd (wc.heap[gb215]? = some (.cells #[.string a0_0,(.slice A0_1 l0_1.length c0_1),(.slice A0_2 l0_2.length c0_2),(.slice (some ad224) l0_3.length c0_3)] 61 (0,0)))∧zqd (wc.heap[gb225]? = some (.cells #[.string ((zq0 l0_3 x100_4).f0),(.slice A224_1 ((zq0 l0_3 x100_4).f1).length c224_1)] 96 (0,0)))∧zqd (Below w.heap.size w wc))
                case first=>
                 have H:=HC72.out
                 clear HC72
                 replace H:=Option.bind_eq_some_iff.mp H
                 obtain ⟨t226,A760,H⟩:=H
                 replace H:(if t226=true then((zje.f k4 ((zq0 l0_3 x100_4).f1) (l0_1.length:Int)).bind fun t227=>(zjb.j6 k4 (l0_1.length:Int) x100_4 l0_3 (l0_3.length:Int) x100_4 (!t227) a0_0 l0_1 l0_2 l0_3 ((zq0 l0_3 x100_4).f0) ((zq0 l0_3 x100_4).f1))) else (zjb.j6 k4 (l0_1.length:Int) x100_4 l0_3 (l0_3.length:Int) x100_4 true a0_0 l0_1 l0_2 l0_3 ((zq0 l0_3 x100_4).f0) ((zq0 l0_3 x100_4).f1)))=some r:=H
                 have A76:=zqd.mk A760
                 clear A760
                 by_cases c77:t226=true
                 ·subst c77
                  have H1:((zje.f k4 ((zq0 l0_3 x100_4).f1) (l0_1.length:Int)).bind fun t227=>(zjb.j6 k4 (l0_1.length:Int) x100_4 l0_3 (l0_3.length:Int) x100_4 (!t227) a0_0 l0_1 l0_2 l0_3 ((zq0 l0_3 x100_4).f0) ((zq0 l0_3 x100_4).f1)))=some r:=by rw [if_pos rfl] at H;exact H
                  clear H
                  have H:=H1
                  clear H1
                  replace H:=Option.bind_eq_some_iff.mp H
                  obtain ⟨t227,A780,H⟩:=H
                  replace H:(zjb.j6 k4 (l0_1.length:Int) x100_4 l0_3 (l0_3.length:Int) x100_4 (!t227) a0_0 l0_1 l0_2 l0_3 ((zq0 l0_3 x100_4).f0) ((zq0 l0_3 x100_4).f1))=some r:=H
                  have A78:=zqd.mk A780
                  clear A780
                  have H':=zqd.mk H
                  clear H
                  have hnb79:=NB225_215.out
                  have hnc79:=NB215_225.out
                  have hcz80_0:w73.cell? ⟨gb225,0,none⟩=some (.string (⟨#[]⟩:ByteArray)):=(zqf BK225.out 0).trans rfl
                  have hcz80_1:w73.cell? ⟨gb225,1,none⟩=some (.slice none 0 0):=(zqf BK225.out 1).trans rfl
                  have hfz80_0:=zqe BK225.out 0
                  have hfz80_1:=zqe BK225.out 1
                  go_wp2_with (first|(go_at_call 100;(with_reducible refine(zjm.calls k4 ((zq0 l0_3 x100_4).f0) true _ A76.out).mono ?_);rintro e w81 ⟨rfl,hb⟩;have n0_:=zqd.mk (zqr (g:=gb215) (o:=.cells #[.string a0_0,.slice A0_1 l0_1.length c0_1,.slice A0_2 l0_2.length c0_2,.slice (some ad224) l0_3.length c0_3] 61 (0,0)) (by(with_reducible repeat(first|refine zqg ?_ _|refine zqj ?_|refine zqh ?_ _));refine zq1 ?_ NB215_225.out _;(with_reducible repeat(first|refine zqg ?_ _|refine zqj ?_|refine zqh ?_ _));refine zq1 ?_ NB215_225.out _;(with_reducible repeat(first|refine zqg ?_ _|refine zqj ?_|refine zqh ?_ _));exact BK215.out) hb);have n1_:=zqd.mk (zqr (g:=gb225) (o:=.cells #[.string ((zq0 l0_3 x100_4).f0),.slice A224_1 ((zq0 l0_3 x100_4).f1).length c224_1] 96 (0,0)) (by(with_reducible repeat(first|refine zqg ?_ _|refine zqj ?_|refine zqh ?_ _));refine zqu (cs:=#[.string ((zq0 l0_3 x100_4).f0),.slice none 0 0]) ?_ 1 _ rfl;(with_reducible repeat(first|refine zqg ?_ _|refine zqj ?_|refine zqh ?_ _));refine zqu (cs:=#[.string (⟨#[]⟩:ByteArray),.slice none 0 0]) ?_ 0 _ rfl;(with_reducible repeat(first|refine zqg ?_ _|refine zqj ?_|refine zqh ?_ _));exact BK225.out) hb);have n2_:=zqd.mk (zqn (by repeat(first|(with_reducible first|exact HB.out|apply zqb|apply zqa|apply zqc|refine zqi ?_ GE215.out|refine zqi ?_ GE225.out)|exact HB.out)) hb);clear BK215 BK225 HB;have BK215:=n0_;have BK225:=n1_;have HB:=n2_;clear n0_ n1_ n2_;(try clear hb);(try clear hb2);(try clear hk);(try clear hi);have hcz82_0:w81.cell? ⟨gb225,0,none⟩=some (.string ((zq0 l0_3 x100_4).f0)):=(zqf BK225.out 0).trans rfl;have hcz82_1:w81.cell? ⟨gb225,1,none⟩=some (.slice A224_1 ((zq0 l0_3 x100_4).f1).length c224_1):=(zqf BK225.out 1).trans rfl;have hfz82_0:=zqe BK225.out 0;have hfz82_1:=zqe BK225.out 1)|(go_at_call 101;(with_reducible refine(zje.calls k4 _ _ ((zq0 l0_3 x100_4).f1) (l0_1.length:Int) t227 _ ?side1 ?side2 A78.out).mono ?_);(case side1=>repeat(first|exact(Kd.zq3 HR224_1.out HB.out)|(with_reducible refine Kd.zqw ?_ _)|(with_reducible refine Kd.zqy ?_ _)|(with_reducible refine Kd.zq2 ?_)));(case side2=>exact HC224_1.out);rintro e w' ⟨rfl,⟨nd,rfl⟩⟩;(try first|exact⟨rfl,_,World.drewN_drewN _ _ _⟩|exact⟨rfl,_,Eq.trans (World.drewN_drewN _ _ _) (congrArg (World.drewN _) (Nat.add_assoc _ _ _))⟩)))
                  repeat(go_quiet (first|(go_at_call 100;(with_reducible refine(zjm.calls k4 ((zq0 l0_3 x100_4).f0) true _ A76.out).mono ?_);rintro e w81 ⟨rfl,hb⟩;have n0_:=zqd.mk (zqr (g:=gb215) (o:=.cells #[.string a0_0,.slice A0_1 l0_1.length c0_1,.slice A0_2 l0_2.length c0_2,.slice (some ad224) l0_3.length c0_3] 61 (0,0)) (by(with_reducible repeat(first|refine zqg ?_ _|refine zqj ?_|refine zqh ?_ _));refine zq1 ?_ NB215_225.out _;(with_reducible repeat(first|refine zqg ?_ _|refine zqj ?_|refine zqh ?_ _));refine zq1 ?_ NB215_225.out _;(with_reducible repeat(first|refine zqg ?_ _|refine zqj ?_|refine zqh ?_ _));exact BK215.out) hb);have n1_:=zqd.mk (zqr (g:=gb225) (o:=.cells #[.string ((zq0 l0_3 x100_4).f0),.slice A224_1 ((zq0 l0_3 x100_4).f1).length c224_1] 96 (0,0)) (by(with_reducible repeat(first|refine zqg ?_ _|refine zqj ?_|refine zqh ?_ _));refine zqu (cs:=#[.string ((zq0 l0_3 x100_4).f0),.slice none 0 0]) ?_ 1 _ rfl;(with_reducible repeat(first|refine zqg ?_ _|refine zqj ?_|refine zqh ?_ _));refine zqu (cs:=#[.string (⟨#[]⟩:ByteArray),.slice none 0 0]) ?_ 0 _ rfl;(with_reducible repeat(first|refine zqg ?_ _|refine zqj ?_|refine zqh ?_ _));exact BK225.out) hb);have n2_:=zqd.mk (zqn (by repeat(first|(with_reducible first|exact HB.out|apply zqb|apply zqa|apply zqc|refine zqi ?_ GE215.out|refine zqi ?_ GE225.out)|exact HB.out)) hb);clear BK215 BK225 HB;have BK215:=n0_;have BK225:=n1_;have HB:=n2_;clear n0_ n1_ n2_;(try clear hb);(try clear hb2);(try clear hk);(try clear hi);have hcz82_0:w81.cell? ⟨gb225,0,none⟩=some (.string ((zq0 l0_3 x100_4).f0)):=(zqf BK225.out 0).trans rfl;have hcz82_1:w81.cell? ⟨gb225,1,none⟩=some (.slice A224_1 ((zq0 l0_3 x100_4).f1).length c224_1):=(zqf BK225.out 1).trans rfl;have hfz82_0:=zqe BK225.out 0;have hfz82_1:=zqe BK225.out 1)|(go_at_call 101;(with_reducible refine(zje.calls k4 _ _ ((zq0 l0_3 x100_4).f1) (l0_1.length:Int) t227 _ ?side1 ?side2 A78.out).mono ?_);(case side1=>repeat(first|exact(Kd.zq3 HR224_1.out HB.out)|(with_reducible refine Kd.zqw ?_ _)|(with_reducible refine Kd.zqy ?_ _)|(with_reducible refine Kd.zq2 ?_)));(case side2=>exact HC224_1.out);rintro e w' ⟨rfl,⟨nd,rfl⟩⟩;(try first|exact⟨rfl,_,World.drewN_drewN _ _ _⟩|exact⟨rfl,_,Eq.trans (World.drewN_drewN _ _ _) (congrArg (World.drewN _) (Nat.add_assoc _ _ _))⟩)));try go_wp2_with (first|(go_at_call 100;(with_reducible refine(zjm.calls k4 ((zq0 l0_3 x100_4).f0) true _ A76.out).mono ?_);rintro e w81 ⟨rfl,hb⟩;have n0_:=zqd.mk (zqr (g:=gb215) (o:=.cells #[.string a0_0,.slice A0_1 l0_1.length c0_1,.slice A0_2 l0_2.length c0_2,.slice (some ad224) l0_3.length c0_3] 61 (0,0)) (by(with_reducible repeat(first|refine zqg ?_ _|refine zqj ?_|refine zqh ?_ _));refine zq1 ?_ NB215_225.out _;(with_reducible repeat(first|refine zqg ?_ _|refine zqj ?_|refine zqh ?_ _));refine zq1 ?_ NB215_225.out _;(with_reducible repeat(first|refine zqg ?_ _|refine zqj ?_|refine zqh ?_ _));exact BK215.out) hb);have n1_:=zqd.mk (zqr (g:=gb225) (o:=.cells #[.string ((zq0 l0_3 x100_4).f0),.slice A224_1 ((zq0 l0_3 x100_4).f1).length c224_1] 96 (0,0)) (by(with_reducible repeat(first|refine zqg ?_ _|refine zqj ?_|refine zqh ?_ _));refine zqu (cs:=#[.string ((zq0 l0_3 x100_4).f0),.slice none 0 0]) ?_ 1 _ rfl;(with_reducible repeat(first|refine zqg ?_ _|refine zqj ?_|refine zqh ?_ _));refine zqu (cs:=#[.string (⟨#[]⟩:ByteArray),.slice none 0 0]) ?_ 0 _ rfl;(with_reducible repeat(first|refine zqg ?_ _|refine zqj ?_|refine zqh ?_ _));exact BK225.out) hb);have n2_:=zqd.mk (zqn (by repeat(first|(with_reducible first|exact HB.out|apply zqb|apply zqa|apply zqc|refine zqi ?_ GE215.out|refine zqi ?_ GE225.out)|exact HB.out)) hb);clear BK215 BK225 HB;have BK215:=n0_;have BK225:=n1_;have HB:=n2_;clear n0_ n1_ n2_;(try clear hb);(try clear hb2);(try clear hk);(try clear hi);have hcz82_0:w81.cell? ⟨gb225,0,none⟩=some (.string ((zq0 l0_3 x100_4).f0)):=(zqf BK225.out 0).trans rfl;have hcz82_1:w81.cell? ⟨gb225,1,none⟩=some (.slice A224_1 ((zq0 l0_3 x100_4).f1).length c224_1):=(zqf BK225.out 1).trans rfl;have hfz82_0:=zqe BK225.out 0;have hfz82_1:=zqe BK225.out 1)|(go_at_call 101;(with_reducible refine(zje.calls k4 _ _ ((zq0 l0_3 x100_4).f1) (l0_1.length:Int) t227 _ ?side1 ?side2 A78.out).mono ?_);(case side1=>repeat(first|exact(Kd.zq3 HR224_1.out HB.out)|(with_reducible refine Kd.zqw ?_ _)|(with_reducible refine Kd.zqy ?_ _)|(with_reducible refine Kd.zq2 ?_)));(case side2=>exact HC224_1.out);rintro e w' ⟨rfl,⟨nd,rfl⟩⟩;(try first|exact⟨rfl,_,World.drewN_drewN _ _ _⟩|exact⟨rfl,_,Eq.trans (World.drewN_drewN _ _ _) (congrArg (World.drewN _) (Nat.add_assoc _ _ _))⟩))))
                  go_meet
                  case rel=>exact⟨_,(!t227),(by first|rfl|(simp;done)|(simp [*];done)|(generalize ByteArray.toList _=q_;cases q_ <;> rfl)),H',⟨by have:=HJ1.out;have:=HK2.out;have:=HK3.out;have:=HK4.out;first|omega|exact Nat.le_refl _⟩,⟨by(with_reducible repeat(first|refine zqg ?_ _|refine zqj ?_|refine zqh ?_ _));exact BK215.out⟩,⟨by(with_reducible repeat(first|refine zqg ?_ _|refine zqj ?_|refine zqh ?_ _));exact BK225.out⟩,⟨by repeat(first|(with_reducible first|exact HB.out|apply zqb|apply zqa|apply zqc|refine zqi ?_ GE215.out|refine zqi ?_ GE225.out)|exact HB.out)⟩⟩
                 ·replace c77:=Bool.eq_false_iff.mpr c77
                  subst c77
                  have H1:(zjb.j6 k4 (l0_1.length:Int) x100_4 l0_3 (l0_3.length:Int) x100_4 true a0_0 l0_1 l0_2 l0_3 ((zq0 l0_3 x100_4).f0) ((zq0 l0_3 x100_4).f1))=some r:=by rw [if_neg (show ¬ (false=true) by decide)] at H;exact H
                  clear H
                  have H:=H1
                  clear H1
                  have H':=zqd.mk H
                  clear H
                  have hnb83:=NB225_215.out
                  have hnc83:=NB215_225.out
                  have hcz84_0:w73.cell? ⟨gb225,0,none⟩=some (.string (⟨#[]⟩:ByteArray)):=(zqf BK225.out 0).trans rfl
                  have hcz84_1:w73.cell? ⟨gb225,1,none⟩=some (.slice none 0 0):=(zqf BK225.out 1).trans rfl
                  have hfz84_0:=zqe BK225.out 0
                  have hfz84_1:=zqe BK225.out 1
                  go_wp2_with (first|(go_at_call 100;(with_reducible refine(zjm.calls k4 ((zq0 l0_3 x100_4).f0) false _ A76.out).mono ?_);rintro e w85 ⟨rfl,hb⟩;have n0_:=zqd.mk (zqr (g:=gb215) (o:=.cells #[.string a0_0,.slice A0_1 l0_1.length c0_1,.slice A0_2 l0_2.length c0_2,.slice (some ad224) l0_3.length c0_3] 61 (0,0)) (by(with_reducible repeat(first|refine zqg ?_ _|refine zqj ?_|refine zqh ?_ _));refine zq1 ?_ NB215_225.out _;(with_reducible repeat(first|refine zqg ?_ _|refine zqj ?_|refine zqh ?_ _));refine zq1 ?_ NB215_225.out _;(with_reducible repeat(first|refine zqg ?_ _|refine zqj ?_|refine zqh ?_ _));exact BK215.out) hb);have n1_:=zqd.mk (zqr (g:=gb225) (o:=.cells #[.string ((zq0 l0_3 x100_4).f0),.slice A224_1 ((zq0 l0_3 x100_4).f1).length c224_1] 96 (0,0)) (by(with_reducible repeat(first|refine zqg ?_ _|refine zqj ?_|refine zqh ?_ _));refine zqu (cs:=#[.string ((zq0 l0_3 x100_4).f0),.slice none 0 0]) ?_ 1 _ rfl;(with_reducible repeat(first|refine zqg ?_ _|refine zqj ?_|refine zqh ?_ _));refine zqu (cs:=#[.string (⟨#[]⟩:ByteArray),.slice none 0 0]) ?_ 0 _ rfl;(with_reducible repeat(first|refine zqg ?_ _|refine zqj ?_|refine zqh ?_ _));exact BK225.out) hb);have n2_:=zqd.mk (zqn (by repeat(first|(with_reducible first|exact HB.out|apply zqb|apply zqa|apply zqc|refine zqi ?_ GE215.out|refine zqi ?_ GE225.out)|exact HB.out)) hb);clear BK215 BK225 HB;have BK215:=n0_;have BK225:=n1_;have HB:=n2_;clear n0_ n1_ n2_;(try clear hb);(try clear hb2);(try clear hk);(try clear hi)))
                  repeat(go_quiet (first|(go_at_call 100;(with_reducible refine(zjm.calls k4 ((zq0 l0_3 x100_4).f0) false _ A76.out).mono ?_);rintro e w85 ⟨rfl,hb⟩;have n0_:=zqd.mk (zqr (g:=gb215) (o:=.cells #[.string a0_0,.slice A0_1 l0_1.length c0_1,.slice A0_2 l0_2.length c0_2,.slice (some ad224) l0_3.length c0_3] 61 (0,0)) (by(with_reducible repeat(first|refine zqg ?_ _|refine zqj ?_|refine zqh ?_ _));refine zq1 ?_ NB215_225.out _;(with_reducible repeat(first|refine zqg ?_ _|refine zqj ?_|refine zqh ?_ _));refine zq1 ?_ NB215_225.out _;(with_reducible repeat(first|refine zqg ?_ _|refine zqj ?_|refine zqh ?_ _));exact BK215.out) hb);have n1_:=zqd.mk (zqr (g:=gb225) (o:=.cells #[.string ((zq0 l0_3 x100_4).f0),.slice A224_1 ((zq0 l0_3 x100_4).f1).length c224_1] 96 (0,0)) (by(with_reducible repeat(first|refine zqg ?_ _|refine zqj ?_|refine zqh ?_ _));refine zqu (cs:=#[.string ((zq0 l0_3 x100_4).f0),.slice none 0 0]) ?_ 1 _ rfl;(with_reducible repeat(first|refine zqg ?_ _|refine zqj ?_|refine zqh ?_ _));refine zqu (cs:=#[.string (⟨#[]⟩:ByteArray),.slice none 0 0]) ?_ 0 _ rfl;(with_reducible repeat(first|refine zqg ?_ _|refine zqj ?_|refine zqh ?_ _));exact BK225.out) hb);have n2_:=zqd.mk (zqn (by repeat(first|(with_reducible first|exact HB.out|apply zqb|apply zqa|apply zqc|refine zqi ?_ GE215.out|refine zqi ?_ GE225.out)|exact HB.out)) hb);clear BK215 BK225 HB;have BK215:=n0_;have BK225:=n1_;have HB:=n2_;clear n0_ n1_ n2_;(try clear hb);(try clear hb2);(try clear hk);(try clear hi)));try go_wp2_with (first|(go_at_call 100;(with_reducible refine(zjm.calls k4 ((zq0 l0_3 x100_4).f0) false _ A76.out).mono ?_);rintro e w85 ⟨rfl,hb⟩;have n0_:=zqd.mk (zqr (g:=gb215) (o:=.cells #[.string a0_0,.slice A0_1 l0_1.length c0_1,.slice A0_2 l0_2.length c0_2,.slice (some ad224) l0_3.length c0_3] 61 (0,0)) (by(with_reducible repeat(first|refine zqg ?_ _|refine zqj ?_|refine zqh ?_ _));refine zq1 ?_ NB215_225.out _;(with_reducible repeat(first|refine zqg ?_ _|refine zqj ?_|refine zqh ?_ _));refine zq1 ?_ NB215_225.out _;(with_reducible repeat(first|refine zqg ?_ _|refine zqj ?_|refine zqh ?_ _));exact BK215.out) hb);have n1_:=zqd.mk (zqr (g:=gb225) (o:=.cells #[.string ((zq0 l0_3 x100_4).f0),.slice A224_1 ((zq0 l0_3 x100_4).f1).length c224_1] 96 (0,0)) (by(with_reducible repeat(first|refine zqg ?_ _|refine zqj ?_|refine zqh ?_ _));refine zqu (cs:=#[.string ((zq0 l0_3 x100_4).f0),.slice none 0 0]) ?_ 1 _ rfl;(with_reducible repeat(first|refine zqg ?_ _|refine zqj ?_|refine zqh ?_ _));refine zqu (cs:=#[.string (⟨#[]⟩:ByteArray),.slice none 0 0]) ?_ 0 _ rfl;(with_reducible repeat(first|refine zqg ?_ _|refine zqj ?_|refine zqh ?_ _));exact BK225.out) hb);have n2_:=zqd.mk (zqn (by repeat(first|(with_reducible first|exact HB.out|apply zqb|apply zqa|apply zqc|refine zqi ?_ GE215.out|refine zqi ?_ GE225.out)|exact HB.out)) hb);clear BK215 BK225 HB;have BK215:=n0_;have BK225:=n1_;have HB:=n2_;clear n0_ n1_ n2_;(try clear hb);(try clear hb2);(try clear hk);(try clear hi))))
                  go_meet
                  case rel=>exact⟨_,(true),(by first|rfl|(simp;done)|(simp [*];done)|(generalize ByteArray.toList _=q_;cases q_ <;> rfl)),H',⟨by have:=HJ1.out;have:=HK2.out;have:=HK3.out;have:=HK4.out;first|omega|exact Nat.le_refl _⟩,⟨by(with_reducible repeat(first|refine zqg ?_ _|refine zqj ?_|refine zqh ?_ _));exact BK215.out⟩,⟨by(with_reducible repeat(first|refine zqg ?_ _|refine zqj ?_|refine zqh ?_ _));exact BK225.out⟩,⟨by repeat(first|(with_reducible first|exact HB.out|apply zqb|apply zqa|apply zqc|refine zqi ?_ GE215.out|refine zqi ?_ GE225.out)|exact HB.out)⟩⟩
                case rest=>
                 clear HC72
                 try clear c1
                 try clear c2
                 try clear p2
                 try clear q2
                 try clear hx2
                 try clear c3
                 try clear c4
                 try clear c5
                 try clear c6
                 try clear p6
                 try clear q6
                 try clear c7
                 try clear c7b0
                 try clear c7b1
                 try clear c7b2
                 try clear c8
                 try clear c10
                 try clear c10b0
                 try clear c10b1
                 try clear c18
                 try clear c20
                 try clear c20b0
                 try clear c21
                 try clear c21b0
                 try clear p21
                 try clear q21
                 try clear hx21
                 try clear c22
                 try clear c22b0
                 try clear p22
                 try clear q22
                 try clear hx22
                 try clear c25
                 try clear c28
                 try clear c29
                 try clear c29b0
                 try clear c29b1
                 try clear c30
                 try clear c34
                 try clear c34b0
                 try clear c34b1
                 try clear c35
                 try clear c39
                 try clear c43
                 try clear c46
                 try clear c47
                 try clear c47b0
                 try clear c48
                 try clear c48b0
                 try clear c49
                 try clear c49b0
                 try clear c50
                 try clear c50b0
                 try clear c50b1
                 try clear c51
                 try clear c54
                 try clear c58
                 try clear c60
                 try clear c60b0
                 try clear c61
                 try clear c61b0
                 try clear c62
                 try clear c62b0
                 try clear c63
                 try clear c63b0
                 try clear p64
                 try clear q64
                 try clear c65
                 try clear c69
                 try clear c69b0
                 try clear c70
                 try clear c70b0
                 try clear c71
                 try clear c71b0
                 try clear c74
                 try clear c77
                 try clear c79
                 try clear c83
                 try clear hcz11_0
                 try clear hcz11_1
                 try clear hcz11_2
                 try clear hcz11_3
                 try clear hcz13_0
                 try clear hcz13_1
                 try clear hcz13_2
                 try clear hcz13_3
                 try clear hcz15_0
                 try clear hcz15_1
                 try clear hcz15_2
                 try clear hcz15_3
                 try clear hcz16_0
                 try clear hcz16_1
                 try clear hcz16_2
                 try clear hcz16_3
                 try clear hcz19_0
                 try clear hcz19_1
                 try clear hcz19_2
                 try clear hcz19_3
                 try clear hcz26_0
                 try clear hcz26_1
                 try clear hcz26_2
                 try clear hcz31_0
                 try clear hcz31_1
                 try clear hcz31_2
                 try clear hcz33_0
                 try clear hcz33_1
                 try clear hcz33_2
                 try clear hcz36_0
                 try clear hcz36_1
                 try clear hcz36_2
                 try clear hcz38_0
                 try clear hcz38_1
                 try clear hcz38_2
                 try clear hcz40_0
                 try clear hcz40_1
                 try clear hcz40_2
                 try clear hcz42_0
                 try clear hcz42_1
                 try clear hcz42_2
                 try clear hcz44_0
                 try clear hcz44_1
                 try clear hcz44_2
                 try clear hcz4_0
                 try clear hcz4_1
                 try clear hcz4_2
                 try clear hcz4_3
                 try clear hcz52_0
                 try clear hcz52_1
                 try clear hcz52_2
                 try clear hcz52_3
                 try clear hcz53_0
                 try clear hcz53_1
                 try clear hcz53_2
                 try clear hcz55_0
                 try clear hcz55_1
                 try clear hcz55_2
                 try clear hcz55_3
                 try clear hcz56_0
                 try clear hcz56_1
                 try clear hcz56_2
                 try clear hcz59_0
                 try clear hcz59_1
                 try clear hcz59_2
                 try clear hcz59_3
                 try clear hcz66_0
                 try clear hcz66_1
                 try clear hcz66_2
                 try clear hcz66_3
                 try clear hcz67_0
                 try clear hcz67_1
                 try clear hcz67_2
                 try clear hcz67_3
                 try clear hcz68_0
                 try clear hcz68_1
                 try clear hcz68_2
                 try clear hcz68_3
                 try clear hcz75_0
                 try clear hcz75_1
                 try clear hcz80_0
                 try clear hcz80_1
                 try clear hcz82_0
                 try clear hcz82_1
                 try clear hcz84_0
                 try clear hcz84_1
                 try clear hcz8_0
                 try clear hcz8_1
                 try clear hcz8_2
                 try clear hcz8_3
                 try clear hfz11_0
                 try clear hfz11_1
                 try clear hfz11_2
                 try clear hfz11_3
                 try clear hfz13_0
                 try clear hfz13_1
                 try clear hfz13_2
                 try clear hfz13_3
                 try clear hfz15_0
                 try clear hfz15_1
                 try clear hfz15_2
                 try clear hfz15_3
                 try clear hfz16_0
                 try clear hfz16_1
                 try clear hfz16_2
                 try clear hfz16_3
                 try clear hfz19_0
                 try clear hfz19_1
                 try clear hfz19_2
                 try clear hfz19_3
                 try clear hfz26_0
                 try clear hfz26_1
                 try clear hfz26_2
                 try clear hfz31_0
                 try clear hfz31_1
                 try clear hfz31_2
                 try clear hfz33_0
                 try clear hfz33_1
                 try clear hfz33_2
                 try clear hfz36_0
                 try clear hfz36_1
                 try clear hfz36_2
                 try clear hfz38_0
                 try clear hfz38_1
                 try clear hfz38_2
                 try clear hfz40_0
                 try clear hfz40_1
                 try clear hfz40_2
                 try clear hfz42_0
                 try clear hfz42_1
                 try clear hfz42_2
                 try clear hfz44_0
                 try clear hfz44_1
                 try clear hfz44_2
                 try clear hfz4_0
                 try clear hfz4_1
                 try clear hfz4_2
                 try clear hfz4_3
                 try clear hfz52_0
                 try clear hfz52_1
                 try clear hfz52_2
                 try clear hfz52_3
                 try clear hfz53_0
                 try clear hfz53_1
                 try clear hfz53_2
                 try clear hfz55_0
                 try clear hfz55_1
                 try clear hfz55_2
                 try clear hfz55_3
                 try clear hfz56_0
                 try clear hfz56_1
                 try clear hfz56_2
                 try clear hfz59_0
                 try clear hfz59_1
                 try clear hfz59_2
                 try clear hfz59_3
                 try clear hfz66_0
                 try clear hfz66_1
                 try clear hfz66_2
                 try clear hfz66_3
                 try clear hfz67_0
                 try clear hfz67_1
                 try clear hfz67_2
                 try clear hfz67_3
                 try clear hfz68_0
                 try clear hfz68_1
                 try clear hfz68_2
                 try clear hfz68_3
                 try clear hfz75_0
                 try clear hfz75_1
                 try clear hfz80_0
                 try clear hfz80_1
                 try clear hfz82_0
                 try clear hfz82_1
                 try clear hfz84_0
                 try clear hfz84_1
                 try clear hfz8_0
                 try clear hfz8_1
                 try clear hfz8_2
                 try clear hfz8_3
                 try clear hx217_0
                 try clear hx217_1
                 try clear hx217_2
                 try clear hx220_0
                 try clear hx220_1
                 try clear hx220_2
                 try clear hx222_0
                 try clear hx223_0
                 try clear hx223_1
                 try clear hx223_2
                 try clear hx224_0
                 try clear hx224_1
                 try clear p2
                 try clear p21
                 try clear p217
                 try clear p22
                 try clear p220
                 try clear p222
                 try clear p223
                 try clear p224
                 try clear p6
                 try clear p64
                 try clear q2
                 try clear q21
                 try clear q217
                 try clear q22
                 try clear q220
                 try clear q222
                 try clear q223
                 try clear q224
                 try clear q6
                 try clear q64
                 obtain ⟨kq,x115_71,rfl,HA,HJ71,BK215,BK225,HB⟩:=hcut
                 cases kq with
                 | zero=>exact absurd HA.out (by simp [zjb.j6])
                 | succ kj71=>
                  have H:=HA.out
                  clear HA
                  simp only [zjb.j6] at H
                  by_cases c86:x115_71=true
                  ·subst c86
                   have H1:(some false)=some r:=by rw [if_pos rfl] at H;exact H
                   clear H
                   have H:=H1
                   clear H1
                   obtain rfl:=Option.some.inj H
                   go_wp2
                   repeat(go_quiet (fail);try go_wp2)
                   go_ret
                   exact⟨by first|rfl|(simp [zqm,zql] <;> rfl)|(simp [*,zqm,zql] <;> rfl),by repeat(first|(with_reducible first|exact HB.out|apply zqb|apply zqa|apply zqc|refine zqi ?_ GE215.out|refine zqi ?_ GE225.out)|exact HB.out)⟩
                  ·replace c86:=Bool.eq_false_iff.mpr c86
                   subst c86
                   have H1:(zjb.l4 kj71 (l0_1.length:Int) x100_4 0 l0_3 (l0_3.length:Int) x100_4 a0_0 l0_1 l0_2 l0_3 ((zq0 l0_3 x100_4).f0) ((zq0 l0_3 x100_4).f1))=some r:=by rw [if_neg (show ¬ (false=true) by decide)] at H;exact H
                   clear H
                   have H:=H1
                   clear H1
                   have H':=zqd.mk H
                   clear H
                   go_wp2
                   repeat(go_quiet (fail);try go_wp2)
                   go_loopg [10] kj71 (fun kq v10 w' => ∃ (x10_6:Int),v10 = .int .i64 x10_6∧zqd (zjb.l4 kq (l0_1.length:Int) x100_4 x10_6 l0_3 (l0_3.length:Int) x100_4 a0_0 l0_1 l0_2 l0_3 ((zq0 l0_3 x100_4).f0) ((zq0 l0_3 x100_4).f1)=some r)∧zqd (kq≤kj71)∧zqd (w'.heap[gb215]? = some (.cells #[.string a0_0,(.slice A0_1 l0_1.length c0_1),(.slice A0_2 l0_2.length c0_2),(.slice (some ad224) l0_3.length c0_3)] 61 (0,0)))∧zqd (w'.heap[gb225]? = some (.cells #[.string ((zq0 l0_3 x100_4).f0),(.slice A224_1 ((zq0 l0_3 x100_4).f1).length c224_1)] 96 (0,0)))∧zqd (Below w.heap.size w w'))
                   case atStart=>exact⟨(0),(by first|rfl|(simp;done)|(simp [*];done)|(generalize ByteArray.toList _=q_;cases q_ <;> rfl)),H',⟨Nat.le_refl _⟩,⟨by(with_reducible repeat(first|refine zqg ?_ _|refine zqj ?_|refine zqh ?_ _));exact BK215.out⟩,⟨by(with_reducible repeat(first|refine zqg ?_ _|refine zqj ?_|refine zqh ?_ _));exact BK225.out⟩,⟨by repeat(first|(with_reducible first|exact HB.out|apply zqb|apply zqa|apply zqc|refine zqi ?_ GE215.out|refine zqi ?_ GE225.out)|exact HB.out)⟩⟩
                   case round=>
                    clear H'
                    try clear c1
                    try clear c2
                    try clear p2
                    try clear q2
                    try clear hx2
                    try clear c3
                    try clear c4
                    try clear c5
                    try clear c6
                    try clear p6
                    try clear q6
                    try clear c7
                    try clear c7b0
                    try clear c7b1
                    try clear c7b2
                    try clear c8
                    try clear c10
                    try clear c10b0
                    try clear c10b1
                    try clear c18
                    try clear c20
                    try clear c20b0
                    try clear c21
                    try clear c21b0
                    try clear p21
                    try clear q21
                    try clear hx21
                    try clear c22
                    try clear c22b0
                    try clear p22
                    try clear q22
                    try clear hx22
                    try clear c25
                    try clear c28
                    try clear c29
                    try clear c29b0
                    try clear c29b1
                    try clear c30
                    try clear c34
                    try clear c34b0
                    try clear c34b1
                    try clear c35
                    try clear c39
                    try clear c43
                    try clear c46
                    try clear c47
                    try clear c47b0
                    try clear c48
                    try clear c48b0
                    try clear c49
                    try clear c49b0
                    try clear c50
                    try clear c50b0
                    try clear c50b1
                    try clear c51
                    try clear c54
                    try clear c58
                    try clear c60
                    try clear c60b0
                    try clear c61
                    try clear c61b0
                    try clear c62
                    try clear c62b0
                    try clear c63
                    try clear c63b0
                    try clear p64
                    try clear q64
                    try clear c65
                    try clear c69
                    try clear c69b0
                    try clear c70
                    try clear c70b0
                    try clear c71
                    try clear c71b0
                    try clear c74
                    try clear c77
                    try clear c79
                    try clear c83
                    try clear c86
                    try clear hcz11_0
                    try clear hcz11_1
                    try clear hcz11_2
                    try clear hcz11_3
                    try clear hcz13_0
                    try clear hcz13_1
                    try clear hcz13_2
                    try clear hcz13_3
                    try clear hcz15_0
                    try clear hcz15_1
                    try clear hcz15_2
                    try clear hcz15_3
                    try clear hcz16_0
                    try clear hcz16_1
                    try clear hcz16_2
                    try clear hcz16_3
                    try clear hcz19_0
                    try clear hcz19_1
                    try clear hcz19_2
                    try clear hcz19_3
                    try clear hcz26_0
                    try clear hcz26_1
                    try clear hcz26_2
                    try clear hcz31_0
                    try clear hcz31_1
                    try clear hcz31_2
                    try clear hcz33_0
                    try clear hcz33_1
                    try clear hcz33_2
                    try clear hcz36_0
                    try clear hcz36_1
                    try clear hcz36_2
                    try clear hcz38_0
                    try clear hcz38_1
                    try clear hcz38_2
                    try clear hcz40_0
                    try clear hcz40_1
                    try clear hcz40_2
                    try clear hcz42_0
                    try clear hcz42_1
                    try clear hcz42_2
                    try clear hcz44_0
                    try clear hcz44_1
                    try clear hcz44_2
                    try clear hcz4_0
                    try clear hcz4_1
                    try clear hcz4_2
                    try clear hcz4_3
                    try clear hcz52_0
                    try clear hcz52_1
                    try clear hcz52_2
                    try clear hcz52_3
                    try clear hcz53_0
                    try clear hcz53_1
                    try clear hcz53_2
                    try clear hcz55_0
                    try clear hcz55_1
                    try clear hcz55_2
                    try clear hcz55_3
                    try clear hcz56_0
                    try clear hcz56_1
                    try clear hcz56_2
                    try clear hcz59_0
                    try clear hcz59_1
                    try clear hcz59_2
                    try clear hcz59_3
                    try clear hcz66_0
                    try clear hcz66_1
                    try clear hcz66_2
                    try clear hcz66_3
                    try clear hcz67_0
                    try clear hcz67_1
                    try clear hcz67_2
                    try clear hcz67_3
                    try clear hcz68_0
                    try clear hcz68_1
                    try clear hcz68_2
                    try clear hcz68_3
                    try clear hcz75_0
                    try clear hcz75_1
                    try clear hcz80_0
                    try clear hcz80_1
                    try clear hcz82_0
                    try clear hcz82_1
                    try clear hcz84_0
                    try clear hcz84_1
                    try clear hcz8_0
                    try clear hcz8_1
                    try clear hcz8_2
                    try clear hcz8_3
                    try clear hfz11_0
                    try clear hfz11_1
                    try clear hfz11_2
                    try clear hfz11_3
                    try clear hfz13_0
                    try clear hfz13_1
                    try clear hfz13_2
                    try clear hfz13_3
                    try clear hfz15_0
                    try clear hfz15_1
                    try clear hfz15_2
                    try clear hfz15_3
                    try clear hfz16_0
                    try clear hfz16_1
                    try clear hfz16_2
                    try clear hfz16_3
                    try clear hfz19_0
                    try clear hfz19_1
                    try clear hfz19_2
                    try clear hfz19_3
                    try clear hfz26_0
                    try clear hfz26_1
                    try clear hfz26_2
                    try clear hfz31_0
                    try clear hfz31_1
                    try clear hfz31_2
                    try clear hfz33_0
                    try clear hfz33_1
                    try clear hfz33_2
                    try clear hfz36_0
                    try clear hfz36_1
                    try clear hfz36_2
                    try clear hfz38_0
                    try clear hfz38_1
                    try clear hfz38_2
                    try clear hfz40_0
                    try clear hfz40_1
                    try clear hfz40_2
                    try clear hfz42_0
                    try clear hfz42_1
                    try clear hfz42_2
                    try clear hfz44_0
                    try clear hfz44_1
                    try clear hfz44_2
                    try clear hfz4_0
                    try clear hfz4_1
                    try clear hfz4_2
                    try clear hfz4_3
                    try clear hfz52_0
                    try clear hfz52_1
                    try clear hfz52_2
                    try clear hfz52_3
                    try clear hfz53_0
                    try clear hfz53_1
                    try clear hfz53_2
                    try clear hfz55_0
                    try clear hfz55_1
                    try clear hfz55_2
                    try clear hfz55_3
                    try clear hfz56_0
                    try clear hfz56_1
                    try clear hfz56_2
                    try clear hfz59_0
                    try clear hfz59_1
                    try clear hfz59_2
                    try clear hfz59_3
                    try clear hfz66_0
                    try clear hfz66_1
                    try clear hfz66_2
                    try clear hfz66_3
                    try clear hfz67_0
                    try clear hfz67_1
                    try clear hfz67_2
                    try clear hfz67_3
                    try clear hfz68_0
                    try clear hfz68_1
                    try clear hfz68_2
                    try clear hfz68_3
                    try clear hfz75_0
                    try clear hfz75_1
                    try clear hfz80_0
                    try clear hfz80_1
                    try clear hfz82_0
                    try clear hfz82_1
                    try clear hfz84_0
                    try clear hfz84_1
                    try clear hfz8_0
                    try clear hfz8_1
                    try clear hfz8_2
                    try clear hfz8_3
                    try clear hx217_0
                    try clear hx217_1
                    try clear hx217_2
                    try clear hx220_0
                    try clear hx220_1
                    try clear hx220_2
                    try clear hx222_0
                    try clear hx223_0
                    try clear hx223_1
                    try clear hx223_2
                    try clear hx224_0
                    try clear hx224_1
                    try clear p2
                    try clear p21
                    try clear p217
                    try clear p22
                    try clear p220
                    try clear p222
                    try clear p223
                    try clear p224
                    try clear p6
                    try clear p64
                    try clear q2
                    try clear q21
                    try clear q217
                    try clear q22
                    try clear q220
                    try clear q222
                    try clear q223
                    try clear q224
                    try clear q6
                    try clear q64
                    obtain ⟨x10_6,rfl,HA,HK6,BK215,BK225,HB⟩:=hrel
                    cases gk with
                    | zero=>exact absurd HA.out (by simp [zjb.l4])
                    | succ k6=>
                     have H:=HA.out
                     clear HA
                     simp only [zjb.l4] at H
                     by_cases c87:x10_6<x100_4
                     ·rw [if_pos c87] at H
                      have c87b0:decide (x10_6<x100_4)=true:=decide_eq_true c87
                      clear c87
                      by_cases c88:0≤x10_6
                      ·rw [if_pos c88] at H
                       have c88b0:decide (0≤x10_6)=true:=decide_eq_true c88
                       clear c88
                       by_cases c89:x10_6<(l0_3.length:Int)
                       ·rw [if_pos c89] at H
                        have c89b0:decide (x10_6<(l0_3.length:Int))=true:=decide_eq_true c89
                        clear c89
                        by_cases c90:((zq0 l0_3 x10_6).f0).toList=((zq0 l0_3 x100_4).f0).toList
                        ·rw [if_pos c90] at H
                         have c90b0:(((zq0 l0_3 x10_6).f0).toList == ((zq0 l0_3 x100_4).f0).toList)=true:=beq_iff_eq.mpr c90
                         have c90b1:(((zq0 l0_3 x10_6).f0).toList != ((zq0 l0_3 x100_4).f0).toList)=false:=bne_eq_false_iff_eq.mpr c90
                         clear c90
                         obtain rfl:=Option.some.inj H
                         have hnb91:=NB215_225.out
                         have hnc91:=NB225_215.out
                         have hcz92_0:wr.cell? ⟨gb215,0,none⟩=some (.string a0_0):=(zqf BK215.out 0).trans rfl
                         have hcz92_1:wr.cell? ⟨gb215,1,none⟩=some (.slice A0_1 l0_1.length c0_1):=(zqf BK215.out 1).trans rfl
                         have hcz92_2:wr.cell? ⟨gb215,2,none⟩=some (.slice A0_2 l0_2.length c0_2):=(zqf BK215.out 2).trans rfl
                         have hcz92_3:wr.cell? ⟨gb215,3,none⟩=some (.slice (some ad224) l0_3.length c0_3):=(zqf BK215.out 3).trans rfl
                         have hfz92_0:=zqe BK215.out 0
                         have hfz92_1:=zqe BK215.out 1
                         have hfz92_2:=zqe BK215.out 2
                         have hfz92_3:=zqe BK215.out 3
                         have p228:0≤(x10_6:Int):=of_decide_eq_true (by first|(with_reducible assumption)|assumption)
                         have q228:x10_6<(l0_3.length:Int):=of_decide_eq_true (by first|(with_reducible assumption)|assumption)
                         obtain ⟨ad228,A228_1,c228_1,e228,hx228_0,hx228_1,hl228_1,hi228_1⟩:=at_T96 HR0_3.out x10_6 p228 q228
                         obtain rfl:ad224=ad228:=(by injection e228)
                         replace hx228_0:=(HB.out.cell (World.block_lt_of_cell? w _ hx228_0)).trans hx228_0
                         replace hx228_1:=(HB.out.cell (World.block_lt_of_cell? w _ hx228_1)).trans hx228_1
                         have HR228_1:=zqd.mk hi228_1
                         have HC228_1:=zqd.mk hl228_1
                         clear hi228_1 hl228_1
                         replace p228:=eq_true p228
                         replace q228:=eq_true q228
                         have hcz93_0:wr.cell? ⟨gb225,0,none⟩=some (.string ((zq0 l0_3 x100_4).f0)):=(zqf BK225.out 0).trans rfl
                         have hcz93_1:wr.cell? ⟨gb225,1,none⟩=some (.slice A224_1 ((zq0 l0_3 x100_4).f1).length c224_1):=(zqf BK225.out 1).trans rfl
                         have hfz93_0:=zqe BK225.out 0
                         have hfz93_1:=zqe BK225.out 1
                         go_wp2
                         repeat(go_quiet (fail);try go_wp2)
                         go_ret
                         exact⟨by first|rfl|(simp [zqm,zql] <;> rfl)|(simp [*,zqm,zql] <;> rfl),by repeat(first|(with_reducible first|exact HB.out|apply zqb|apply zqa|apply zqc|refine zqi ?_ GE215.out|refine zqi ?_ GE225.out)|exact HB.out)⟩
                        ·rw [if_neg c90] at H
                         have c90b0:(((zq0 l0_3 x10_6).f0).toList == ((zq0 l0_3 x100_4).f0).toList)=false:=beq_eq_false_iff_ne.mpr c90
                         have c90b1:(((zq0 l0_3 x10_6).f0).toList != ((zq0 l0_3 x100_4).f0).toList)=true:=bne_iff_ne.mpr c90
                         have H':=zqd.mk H
                         clear H
                         have hnb94:=NB215_225.out
                         have hnc94:=NB225_215.out
                         have hcz95_0:wr.cell? ⟨gb215,0,none⟩=some (.string a0_0):=(zqf BK215.out 0).trans rfl
                         have hcz95_1:wr.cell? ⟨gb215,1,none⟩=some (.slice A0_1 l0_1.length c0_1):=(zqf BK215.out 1).trans rfl
                         have hcz95_2:wr.cell? ⟨gb215,2,none⟩=some (.slice A0_2 l0_2.length c0_2):=(zqf BK215.out 2).trans rfl
                         have hcz95_3:wr.cell? ⟨gb215,3,none⟩=some (.slice (some ad224) l0_3.length c0_3):=(zqf BK215.out 3).trans rfl
                         have hfz95_0:=zqe BK215.out 0
                         have hfz95_1:=zqe BK215.out 1
                         have hfz95_2:=zqe BK215.out 2
                         have hfz95_3:=zqe BK215.out 3
                         have p228:0≤(x10_6:Int):=of_decide_eq_true (by first|(with_reducible assumption)|assumption)
                         have q228:x10_6<(l0_3.length:Int):=of_decide_eq_true (by first|(with_reducible assumption)|assumption)
                         obtain ⟨ad228,A228_1,c228_1,e228,hx228_0,hx228_1,hl228_1,hi228_1⟩:=at_T96 HR0_3.out x10_6 p228 q228
                         obtain rfl:ad224=ad228:=(by injection e228)
                         replace hx228_0:=(HB.out.cell (World.block_lt_of_cell? w _ hx228_0)).trans hx228_0
                         replace hx228_1:=(HB.out.cell (World.block_lt_of_cell? w _ hx228_1)).trans hx228_1
                         have HR228_1:=zqd.mk hi228_1
                         have HC228_1:=zqd.mk hl228_1
                         clear hi228_1 hl228_1
                         replace p228:=eq_true p228
                         replace q228:=eq_true q228
                         have hcz96_0:wr.cell? ⟨gb225,0,none⟩=some (.string ((zq0 l0_3 x100_4).f0)):=(zqf BK225.out 0).trans rfl
                         have hcz96_1:wr.cell? ⟨gb225,1,none⟩=some (.slice A224_1 ((zq0 l0_3 x100_4).f1).length c224_1):=(zqf BK225.out 1).trans rfl
                         have hfz96_0:=zqe BK225.out 0
                         have hfz96_1:=zqe BK225.out 1
                         go_wp2
                         repeat(go_quiet (fail);try go_wp2)
                         go_roundg k6
                         case measure=>have:=HJ1.out;have:=HK2.out;have:=HK3.out;have:=HK4.out;have:=HJ71.out;have:=HK6.out;omega
                         case rel=>exact⟨(wrap64 (x10_6+1)),(by first|rfl|(simp;done)|(simp [*];done)|(generalize ByteArray.toList _=q_;cases q_ <;> rfl)),H',⟨by have:=HJ1.out;have:=HK2.out;have:=HK3.out;have:=HK4.out;have:=HJ71.out;have:=HK6.out;omega⟩,⟨by(with_reducible repeat(first|refine zqg ?_ _|refine zqj ?_|refine zqh ?_ _));exact BK215.out⟩,⟨by(with_reducible repeat(first|refine zqg ?_ _|refine zqj ?_|refine zqh ?_ _));exact BK225.out⟩,⟨by repeat(first|(with_reducible first|exact HB.out|apply zqb|apply zqa|apply zqc|refine zqi ?_ GE215.out|refine zqi ?_ GE225.out)|exact HB.out)⟩⟩
                       ·rw [if_neg c89] at H
                        exact absurd H (by simp)
                      ·rw [if_neg c88] at H
                       exact absurd H (by simp)
                     ·rw [if_neg c87] at H
                      have c87b0:decide (x10_6<x100_4)=false:=decide_eq_false c87
                      clear c87
                      have H':=zqd.mk H
                      clear H
                      go_wp2
                      repeat(go_quiet (fail);try go_wp2)
                      go_roundg k6
                      case measure=>have:=HJ1.out;have:=HK2.out;have:=HK3.out;have:=HK4.out;have:=HJ71.out;have:=HK6.out;omega
                      case rel=>exact⟨(wrap64 (x100_4+1)),(by first|rfl|(simp;done)|(simp [*];done)|(generalize ByteArray.toList _=q_;cases q_ <;> rfl)),H',⟨by have:=HJ1.out;have:=HK2.out;have:=HK3.out;have:=HK4.out;have:=HJ71.out;have:=HK6.out;omega⟩,⟨by(with_reducible repeat(first|refine zqg ?_ _|refine zqj ?_|refine zqh ?_ _));exact BK215.out⟩,⟨by repeat(first|(with_reducible first|exact HB.out|apply zqb|apply zqa|apply zqc|refine zqi ?_ GE215.out|refine zqi ?_ GE225.out)|exact HB.out)⟩⟩
               ·rw [if_neg c71] at H
                exact absurd H (by simp)
              ·rw [if_neg c70] at H
               exact absurd H (by simp)
             ·rw [if_neg c69] at H
              have c69b0:decide (x100_4<(l0_3.length:Int))=false:=decide_eq_false c69
              clear c69
              obtain rfl:=Option.some.inj H
              go_wp2
              repeat(go_quiet (fail);try go_wp2)
              go_ret
              exact⟨by first|rfl|(simp [zqm,zql] <;> rfl)|(simp [*,zqm,zql] <;> rfl),by repeat(first|(with_reducible first|exact HB.out|apply zqb|apply zqa|apply zqc|refine zqi ?_ GE215.out)|exact HB.out)⟩
       ·replace c58:=Bool.eq_false_iff.mpr c58
        subst c58
        have H1:(some false)=some r:=by rw [if_neg (show ¬ (false=true) by decide)] at H;exact H
        clear H
        have H:=H1
        clear H1
        obtain rfl:=Option.some.inj H
        have hcz97_0:wr.cell? ⟨gb215,0,none⟩=some (.string a0_0):=(zqf BK215.out 0).trans rfl
        have hcz97_1:wr.cell? ⟨gb215,1,none⟩=some (.slice A0_1 l0_1.length c0_1):=(zqf BK215.out 1).trans rfl
        have hcz97_2:wr.cell? ⟨gb215,2,none⟩=some (.slice A0_2 l0_2.length c0_2):=(zqf BK215.out 2).trans rfl
        have hcz97_3:wr.cell? ⟨gb215,3,none⟩=some (.slice A0_3 l0_3.length c0_3):=(zqf BK215.out 3).trans rfl
        have hfz97_0:=zqe BK215.out 0
        have hfz97_1:=zqe BK215.out 1
        have hfz97_2:=zqe BK215.out 2
        have hfz97_3:=zqe BK215.out 3
        go_wp2_with (first|(go_at_call 101;(with_reducible refine(zje.calls k2 _ _ l0_2 (l0_1.length:Int) false _ ?side1 ?side2 A57.out).mono ?_);(case side1=>repeat(first|exact(Kd.zq3 HR0_2.out HB.out)|(with_reducible refine Kd.zqw ?_ _)|(with_reducible refine Kd.zqy ?_ _)|(with_reducible refine Kd.zq2 ?_)));(case side2=>exact HC0_2.out);rintro e w' ⟨rfl,⟨nd,rfl⟩⟩;(try first|exact⟨rfl,_,World.drewN_drewN _ _ _⟩|exact⟨rfl,_,Eq.trans (World.drewN_drewN _ _ _) (congrArg (World.drewN _) (Nat.add_assoc _ _ _))⟩)))
        repeat(go_quiet (first|(go_at_call 101;(with_reducible refine(zje.calls k2 _ _ l0_2 (l0_1.length:Int) false _ ?side1 ?side2 A57.out).mono ?_);(case side1=>repeat(first|exact(Kd.zq3 HR0_2.out HB.out)|(with_reducible refine Kd.zqw ?_ _)|(with_reducible refine Kd.zqy ?_ _)|(with_reducible refine Kd.zq2 ?_)));(case side2=>exact HC0_2.out);rintro e w' ⟨rfl,⟨nd,rfl⟩⟩;(try first|exact⟨rfl,_,World.drewN_drewN _ _ _⟩|exact⟨rfl,_,Eq.trans (World.drewN_drewN _ _ _) (congrArg (World.drewN _) (Nat.add_assoc _ _ _))⟩)));try go_wp2_with (first|(go_at_call 101;(with_reducible refine(zje.calls k2 _ _ l0_2 (l0_1.length:Int) false _ ?side1 ?side2 A57.out).mono ?_);(case side1=>repeat(first|exact(Kd.zq3 HR0_2.out HB.out)|(with_reducible refine Kd.zqw ?_ _)|(with_reducible refine Kd.zqy ?_ _)|(with_reducible refine Kd.zq2 ?_)));(case side2=>exact HC0_2.out);rintro e w' ⟨rfl,⟨nd,rfl⟩⟩;(try first|exact⟨rfl,_,World.drewN_drewN _ _ _⟩|exact⟨rfl,_,Eq.trans (World.drewN_drewN _ _ _) (congrArg (World.drewN _) (Nat.add_assoc _ _ _))⟩))))
        go_ret
        exact⟨by first|rfl|(simp [zqm,zql] <;> rfl)|(simp [*,zqm,zql] <;> rfl),by repeat(first|(with_reducible first|exact HB.out|apply zqb|apply zqa|apply zqc|refine zqi ?_ GE215.out)|exact HB.out)⟩

end Go.Proofs.YthhejedfjgikdaaDoor.PRowEntries
