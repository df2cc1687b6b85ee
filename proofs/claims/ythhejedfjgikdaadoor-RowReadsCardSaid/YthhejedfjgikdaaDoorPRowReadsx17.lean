-- Written by wip/pp of this repo (over the kit's print, with additions of this session); Lean checks every line.
import Derived.Test.YthhejedfjgikdaaDoorPRowReadsx15
import Derived.Test.YthhejedfjgikdaaDoorPRowReadsx16
namespace Go.Proofs.YthhejedfjgikdaaDoor.PRowReads
open Go.RowKit Go.Proofs.YthhejedfjgikdaaDoorW.PrintWords Go.Proofs.YthhejedfjgikdaaDoorW.PrintLast Go.Proofs.YthhejedfjgikdaaDoorW.PrintMore
attribute [local go_sem] zjo zjm zjw zjv zja zq9 zjn zjl   -- for this text's walks alone
set_option linter.unusedVariables false
set_option linter.unusedSimpArgs false

/-! ### zv: function 60 -/
mutual
def zv.j0:Nat→Int→Bool→ByteArray→List (S90)→List Int→List (S96)→Option (Bool)
 | 0,_,_,_,_,_,_=>none
 | k+1,x3,x31,x276000,x276001,x276002,x276003=>if x31=true then(some false) else (zv.l0 k x3 x276001 (x276001.length:Int) 0 x276000 x276001 x276002 x276003)
def zv.l0:Nat→Int→List (S90)→Int→Int→ByteArray→List (S90)→List Int→List (S96)→Option (Bool)
 | 0,_,_,_,_,_,_,_,_=>none
 | k+1,x3,x33,x34,x35,x276000,x276001,x276002,x276003=>if x35<x34 then(if 0≤x35 then(if x35<(x33.length:Int) then((zf.f k ((qg x33 x35).f0)).bind fun t279=>(if t279=true then(if((qg x33 x35).f1)=1 then(zv.j2 k x3 x35 x33 x34 x35 false x276000 x276001 x276002 x276003 ((qg x33 x35).f0) ((qg x33 x35).f1) ((qg x33 x35).f2)) else (if((qg x33 x35).f1)=2 then(zv.j2 k x3 x35 x33 x34 x35 false x276000 x276001 x276002 x276003 ((qg x33 x35).f0) ((qg x33 x35).f1) ((qg x33 x35).f2)) else (zv.j2 k x3 x35 x33 x34 x35 (((qg x33 x35).f1) != 3) x276000 x276001 x276002 x276003 ((qg x33 x35).f0) ((qg x33 x35).f1) ((qg x33 x35).f2)))) else (zv.j2 k x3 x35 x33 x34 x35 true x276000 x276001 x276002 x276003 ((qg x33 x35).f0) ((qg x33 x35).f1) ((qg x33 x35).f2)))) else (none)) else (none)) else ((zh.f k x276002 x3).bind fun t281=>(if t281=true then(zv.l2 k x3 0 x276000 x276001 x276002 x276003) else (some false)))
def zv.j2:Nat→Int→Int→List (S90)→Int→Int→Bool→ByteArray→List (S90)→List Int→List (S96)→ByteArray→Int→Bool→Option (Bool)
 | 0,_,_,_,_,_,_,_,_,_,_,_,_,_=>none
 | k+1,x3,x4,x33,x34,x35,x58,x276000,x276001,x276002,x276003,x279000,x279001,x279002=>if x58=true then(some false) else (zv.l1 k x3 x4 0 x33 x34 x35 x276000 x276001 x276002 x276003 x279000 x279001 x279002)
def zv.l1:Nat→Int→Int→Int→List (S90)→Int→Int→ByteArray→List (S90)→List Int→List (S96)→ByteArray→Int→Bool→Option (Bool)
 | 0,_,_,_,_,_,_,_,_,_,_,_,_,_=>none
 | k+1,x3,x4,x6,x33,x34,x35,x276000,x276001,x276002,x276003,x279000,x279001,x279002=>if x6<x4 then(if 0≤x6 then(if x6<(x276001.length:Int) then(if((qg x276001 x6).f0).toList=x279000.toList then(some false) else (zv.l1 k x3 x4 (wrap64 (x6+1)) x33 x34 x35 x276000 x276001 x276002 x276003 x279000 x279001 x279002)) else (none)) else (none)) else (zv.l0 k x3 x33 x34 (wrap64 (x35+1)) x276000 x276001 x276002 x276003)
def zv.l2:Nat→Int→Int→ByteArray→List (S90)→List Int→List (S96)→Option (Bool)
 | 0,_,_,_,_,_,_=>none
 | k+1,x3,x7,x276000,x276001,x276002,x276003=>if x7<(x276002.length:Int) then(if 0≤x7 then(if 0≤(rd x276002 x7) then(if(rd x276002 x7)<(x276001.length:Int) then(if((qg x276001 (rd x276002 x7)).f2=true) then(zv.l2 k x3 (wrap64 (x7+1)) x276000 x276001 x276002 x276003) else (some false)) else (none)) else (none)) else (none)) else (zv.l3 k x3 x276003 (x276003.length:Int) 0 x276000 x276001 x276002 x276003)
def zv.l3:Nat→Int→List (S96)→Int→Int→ByteArray→List (S90)→List Int→List (S96)→Option (Bool)
 | 0,_,_,_,_,_,_,_,_=>none
 | k+1,x3,x98,x99,x100,x276000,x276001,x276002,x276003=>if x100<x99 then(if 0≤x100 then(if x100<(x98.length:Int) then((zf.f k ((zqi x98 x100).f0)).bind fun t286=>(if t286=true then((zh.f k ((zqi x98 x100).f1) x3).bind fun t287=>(zv.j6 k x3 x100 x98 x99 x100 (!t287) x276000 x276001 x276002 x276003 ((zqi x98 x100).f0) ((zqi x98 x100).f1))) else (zv.j6 k x3 x100 x98 x99 x100 true x276000 x276001 x276002 x276003 ((zqi x98 x100).f0) ((zqi x98 x100).f1)))) else (none)) else (none)) else (some true)
def zv.j6:Nat→Int→Int→List (S96)→Int→Int→Bool→ByteArray→List (S90)→List Int→List (S96)→ByteArray→List Int→Option (Bool)
 | 0,_,_,_,_,_,_,_,_,_,_,_,_=>none
 | k+1,x3,x8,x98,x99,x100,x115,x276000,x276001,x276002,x276003,x286000,x286001=>if x115=true then(some false) else (zv.l4 k x3 x8 0 x98 x99 x100 x276000 x276001 x276002 x276003 x286000 x286001)
def zv.l4:Nat→Int→Int→Int→List (S96)→Int→Int→ByteArray→List (S90)→List Int→List (S96)→ByteArray→List Int→Option (Bool)
 | 0,_,_,_,_,_,_,_,_,_,_,_,_=>none
 | k+1,x3,x8,x10,x98,x99,x100,x276000,x276001,x276002,x276003,x286000,x286001=>if x10<x8 then(if 0≤x10 then(if x10<(x276003.length:Int) then(if((zqi x276003 x10).f0).toList=x286000.toList then(some false) else (zv.l4 k x3 x8 (wrap64 (x10+1)) x98 x99 x100 x276000 x276001 x276002 x276003 x286000 x286001)) else (none)) else (none)) else (zv.l3 k x3 x98 x99 (wrap64 (x100+1)) x276000 x276001 x276002 x276003)
end
def zv.f (k:Nat) (a0_0:ByteArray) (l0_1:List (S90)) (l0_2:List Int) (l0_3:List (S96)):Option (Bool):=(zf.f k a0_0).bind fun t276=>(if t276=true then(if(l0_1.length:Int)=0 then(zv.j0 k (l0_1.length:Int) true a0_0 l0_1 l0_2 l0_3) else (if(l0_1.length:Int) > 6 then(zv.j0 k (l0_1.length:Int) true a0_0 l0_1 l0_2 l0_3) else (zv.j0 k (l0_1.length:Int) (decide ((l0_3.length:Int) > 2)) a0_0 l0_1 l0_2 l0_3))) else (zv.j0 k (l0_1.length:Int) true a0_0 l0_1 l0_2 l0_3))
theorem zv.mono_l:∀ k,(∀ y0 y1 y2 y3 y4 y5,LeO (zv.j0 k y0 y1 y2 y3 y4 y5) (zv.j0 (k+1) y0 y1 y2 y3 y4 y5))∧(∀ y0 y1 y2 y3 y4 y5 y6 y7,LeO (zv.l0 k y0 y1 y2 y3 y4 y5 y6 y7) (zv.l0 (k+1) y0 y1 y2 y3 y4 y5 y6 y7))∧(∀ y0 y1 y2 y3 y4 y5 y6 y7 y8 y9 y10 y11 y12,LeO (zv.j2 k y0 y1 y2 y3 y4 y5 y6 y7 y8 y9 y10 y11 y12) (zv.j2 (k+1) y0 y1 y2 y3 y4 y5 y6 y7 y8 y9 y10 y11 y12))∧(∀ y0 y1 y2 y3 y4 y5 y6 y7 y8 y9 y10 y11 y12,LeO (zv.l1 k y0 y1 y2 y3 y4 y5 y6 y7 y8 y9 y10 y11 y12) (zv.l1 (k+1) y0 y1 y2 y3 y4 y5 y6 y7 y8 y9 y10 y11 y12))∧(∀ y0 y1 y2 y3 y4 y5,LeO (zv.l2 k y0 y1 y2 y3 y4 y5) (zv.l2 (k+1) y0 y1 y2 y3 y4 y5))∧(∀ y0 y1 y2 y3 y4 y5 y6 y7,LeO (zv.l3 k y0 y1 y2 y3 y4 y5 y6 y7) (zv.l3 (k+1) y0 y1 y2 y3 y4 y5 y6 y7))∧(∀ y0 y1 y2 y3 y4 y5 y6 y7 y8 y9 y10 y11,LeO (zv.j6 k y0 y1 y2 y3 y4 y5 y6 y7 y8 y9 y10 y11) (zv.j6 (k+1) y0 y1 y2 y3 y4 y5 y6 y7 y8 y9 y10 y11))∧(∀ y0 y1 y2 y3 y4 y5 y6 y7 y8 y9 y10 y11,LeO (zv.l4 k y0 y1 y2 y3 y4 y5 y6 y7 y8 y9 y10 y11) (zv.l4 (k+1) y0 y1 y2 y3 y4 y5 y6 y7 y8 y9 y10 y11))
 | 0=>⟨fun _ _ _ _ _ _ r h=>by simp [zv.j0] at h,fun _ _ _ _ _ _ _ _ r h=>by simp [zv.l0] at h,fun _ _ _ _ _ _ _ _ _ _ _ _ _ r h=>by simp [zv.j2] at h,fun _ _ _ _ _ _ _ _ _ _ _ _ _ r h=>by simp [zv.l1] at h,fun _ _ _ _ _ _ r h=>by simp [zv.l2] at h,fun _ _ _ _ _ _ _ _ r h=>by simp [zv.l3] at h,fun _ _ _ _ _ _ _ _ _ _ _ _ r h=>by simp [zv.j6] at h,fun _ _ _ _ _ _ _ _ _ _ _ _ r h=>by simp [zv.l4] at h⟩
 | k+1=>by
  obtain ⟨ih0,ih1,ih2,ih3,ih4,ih5,ih6,ih7⟩:=zv.mono_l k
  refine⟨?_,?_,?_,?_,?_,?_,?_,?_⟩
  ·intro y0 y1 y2 y3 y4 y5
   unfold zv.j0
   repeat' first
   | (with_reducible first|exact ih0 _ _ _ _ _ _|exact ih1 _ _ _ _ _ _ _ _|exact ih2 _ _ _ _ _ _ _ _ _ _ _ _ _|exact ih3 _ _ _ _ _ _ _ _ _ _ _ _ _|exact ih4 _ _ _ _ _ _|exact ih5 _ _ _ _ _ _ _ _|exact ih6 _ _ _ _ _ _ _ _ _ _ _ _|exact ih7 _ _ _ _ _ _ _ _ _ _ _ _|exact zf.mono _ _|exact zh.mono _ _ _|exact LeO.refl _|exact LeO.none _|refine LeO.ite ?_ ?_|refine LeO.bind ?_ (fun _=>?_))
   | exact ih0 _ _ _ _ _ _
   | exact ih1 _ _ _ _ _ _ _ _
   | exact ih2 _ _ _ _ _ _ _ _ _ _ _ _ _
   | exact ih3 _ _ _ _ _ _ _ _ _ _ _ _ _
   | exact ih4 _ _ _ _ _ _
   | exact ih5 _ _ _ _ _ _ _ _
   | exact ih6 _ _ _ _ _ _ _ _ _ _ _ _
   | exact ih7 _ _ _ _ _ _ _ _ _ _ _ _
   | exact zf.mono _ _
   | exact zh.mono _ _ _
   | exact LeO.none _
   | refine LeO.ite ?_ ?_
   | refine LeO.bind ?_ (fun _=>?_)
  ·intro y0 y1 y2 y3 y4 y5 y6 y7
   unfold zv.l0
   repeat' first
   | (with_reducible first|exact ih0 _ _ _ _ _ _|exact ih1 _ _ _ _ _ _ _ _|exact ih2 _ _ _ _ _ _ _ _ _ _ _ _ _|exact ih3 _ _ _ _ _ _ _ _ _ _ _ _ _|exact ih4 _ _ _ _ _ _|exact ih5 _ _ _ _ _ _ _ _|exact ih6 _ _ _ _ _ _ _ _ _ _ _ _|exact ih7 _ _ _ _ _ _ _ _ _ _ _ _|exact zf.mono _ _|exact zh.mono _ _ _|exact LeO.refl _|exact LeO.none _|refine LeO.ite ?_ ?_|refine LeO.bind ?_ (fun _=>?_))
   | exact ih0 _ _ _ _ _ _
   | exact ih1 _ _ _ _ _ _ _ _
   | exact ih2 _ _ _ _ _ _ _ _ _ _ _ _ _
   | exact ih3 _ _ _ _ _ _ _ _ _ _ _ _ _
   | exact ih4 _ _ _ _ _ _
   | exact ih5 _ _ _ _ _ _ _ _
   | exact ih6 _ _ _ _ _ _ _ _ _ _ _ _
   | exact ih7 _ _ _ _ _ _ _ _ _ _ _ _
   | exact zf.mono _ _
   | exact zh.mono _ _ _
   | exact LeO.none _
   | refine LeO.ite ?_ ?_
   | refine LeO.bind ?_ (fun _=>?_)
  ·intro y0 y1 y2 y3 y4 y5 y6 y7 y8 y9 y10 y11 y12
   unfold zv.j2
   repeat' first
   | (with_reducible first|exact ih0 _ _ _ _ _ _|exact ih1 _ _ _ _ _ _ _ _|exact ih2 _ _ _ _ _ _ _ _ _ _ _ _ _|exact ih3 _ _ _ _ _ _ _ _ _ _ _ _ _|exact ih4 _ _ _ _ _ _|exact ih5 _ _ _ _ _ _ _ _|exact ih6 _ _ _ _ _ _ _ _ _ _ _ _|exact ih7 _ _ _ _ _ _ _ _ _ _ _ _|exact zf.mono _ _|exact zh.mono _ _ _|exact LeO.refl _|exact LeO.none _|refine LeO.ite ?_ ?_|refine LeO.bind ?_ (fun _=>?_))
   | exact ih0 _ _ _ _ _ _
   | exact ih1 _ _ _ _ _ _ _ _
   | exact ih2 _ _ _ _ _ _ _ _ _ _ _ _ _
   | exact ih3 _ _ _ _ _ _ _ _ _ _ _ _ _
   | exact ih4 _ _ _ _ _ _
   | exact ih5 _ _ _ _ _ _ _ _
   | exact ih6 _ _ _ _ _ _ _ _ _ _ _ _
   | exact ih7 _ _ _ _ _ _ _ _ _ _ _ _
   | exact zf.mono _ _
   | exact zh.mono _ _ _
   | exact LeO.none _
   | refine LeO.ite ?_ ?_
   | refine LeO.bind ?_ (fun _=>?_)
  ·intro y0 y1 y2 y3 y4 y5 y6 y7 y8 y9 y10 y11 y12
   unfold zv.l1
   repeat' first
   | (with_reducible first|exact ih0 _ _ _ _ _ _|exact ih1 _ _ _ _ _ _ _ _|exact ih2 _ _ _ _ _ _ _ _ _ _ _ _ _|exact ih3 _ _ _ _ _ _ _ _ _ _ _ _ _|exact ih4 _ _ _ _ _ _|exact ih5 _ _ _ _ _ _ _ _|exact ih6 _ _ _ _ _ _ _ _ _ _ _ _|exact ih7 _ _ _ _ _ _ _ _ _ _ _ _|exact zf.mono _ _|exact zh.mono _ _ _|exact LeO.refl _|exact LeO.none _|refine LeO.ite ?_ ?_|refine LeO.bind ?_ (fun _=>?_))
   | exact ih0 _ _ _ _ _ _
   | exact ih1 _ _ _ _ _ _ _ _
   | exact ih2 _ _ _ _ _ _ _ _ _ _ _ _ _
   | exact ih3 _ _ _ _ _ _ _ _ _ _ _ _ _
   | exact ih4 _ _ _ _ _ _
   | exact ih5 _ _ _ _ _ _ _ _
   | exact ih6 _ _ _ _ _ _ _ _ _ _ _ _
   | exact ih7 _ _ _ _ _ _ _ _ _ _ _ _
   | exact zf.mono _ _
   | exact zh.mono _ _ _
   | exact LeO.none _
   | refine LeO.ite ?_ ?_
   | refine LeO.bind ?_ (fun _=>?_)
  ·intro y0 y1 y2 y3 y4 y5
   unfold zv.l2
   repeat' first
   | (with_reducible first|exact ih0 _ _ _ _ _ _|exact ih1 _ _ _ _ _ _ _ _|exact ih2 _ _ _ _ _ _ _ _ _ _ _ _ _|exact ih3 _ _ _ _ _ _ _ _ _ _ _ _ _|exact ih4 _ _ _ _ _ _|exact ih5 _ _ _ _ _ _ _ _|exact ih6 _ _ _ _ _ _ _ _ _ _ _ _|exact ih7 _ _ _ _ _ _ _ _ _ _ _ _|exact zf.mono _ _|exact zh.mono _ _ _|exact LeO.refl _|exact LeO.none _|refine LeO.ite ?_ ?_|refine LeO.bind ?_ (fun _=>?_))
   | exact ih0 _ _ _ _ _ _
   | exact ih1 _ _ _ _ _ _ _ _
   | exact ih2 _ _ _ _ _ _ _ _ _ _ _ _ _
   | exact ih3 _ _ _ _ _ _ _ _ _ _ _ _ _
   | exact ih4 _ _ _ _ _ _
   | exact ih5 _ _ _ _ _ _ _ _
   | exact ih6 _ _ _ _ _ _ _ _ _ _ _ _
   | exact ih7 _ _ _ _ _ _ _ _ _ _ _ _
   | exact zf.mono _ _
   | exact zh.mono _ _ _
   | exact LeO.none _
   | refine LeO.ite ?_ ?_
   | refine LeO.bind ?_ (fun _=>?_)
  ·intro y0 y1 y2 y3 y4 y5 y6 y7
   unfold zv.l3
   repeat' first
   | (with_reducible first|exact ih0 _ _ _ _ _ _|exact ih1 _ _ _ _ _ _ _ _|exact ih2 _ _ _ _ _ _ _ _ _ _ _ _ _|exact ih3 _ _ _ _ _ _ _ _ _ _ _ _ _|exact ih4 _ _ _ _ _ _|exact ih5 _ _ _ _ _ _ _ _|exact ih6 _ _ _ _ _ _ _ _ _ _ _ _|exact ih7 _ _ _ _ _ _ _ _ _ _ _ _|exact zf.mono _ _|exact zh.mono _ _ _|exact LeO.refl _|exact LeO.none _|refine LeO.ite ?_ ?_|refine LeO.bind ?_ (fun _=>?_))
   | exact ih0 _ _ _ _ _ _
   | exact ih1 _ _ _ _ _ _ _ _
   | exact ih2 _ _ _ _ _ _ _ _ _ _ _ _ _
   | exact ih3 _ _ _ _ _ _ _ _ _ _ _ _ _
   | exact ih4 _ _ _ _ _ _
   | exact ih5 _ _ _ _ _ _ _ _
   | exact ih6 _ _ _ _ _ _ _ _ _ _ _ _
   | exact ih7 _ _ _ _ _ _ _ _ _ _ _ _
   | exact zf.mono _ _
   | exact zh.mono _ _ _
   | exact LeO.none _
   | refine LeO.ite ?_ ?_
   | refine LeO.bind ?_ (fun _=>?_)
  ·intro y0 y1 y2 y3 y4 y5 y6 y7 y8 y9 y10 y11
   unfold zv.j6
   repeat' first
   | (with_reducible first|exact ih0 _ _ _ _ _ _|exact ih1 _ _ _ _ _ _ _ _|exact ih2 _ _ _ _ _ _ _ _ _ _ _ _ _|exact ih3 _ _ _ _ _ _ _ _ _ _ _ _ _|exact ih4 _ _ _ _ _ _|exact ih5 _ _ _ _ _ _ _ _|exact ih6 _ _ _ _ _ _ _ _ _ _ _ _|exact ih7 _ _ _ _ _ _ _ _ _ _ _ _|exact zf.mono _ _|exact zh.mono _ _ _|exact LeO.refl _|exact LeO.none _|refine LeO.ite ?_ ?_|refine LeO.bind ?_ (fun _=>?_))
   | exact ih0 _ _ _ _ _ _
   | exact ih1 _ _ _ _ _ _ _ _
   | exact ih2 _ _ _ _ _ _ _ _ _ _ _ _ _
   | exact ih3 _ _ _ _ _ _ _ _ _ _ _ _ _
   | exact ih4 _ _ _ _ _ _
   | exact ih5 _ _ _ _ _ _ _ _
   | exact ih6 _ _ _ _ _ _ _ _ _ _ _ _
   | exact ih7 _ _ _ _ _ _ _ _ _ _ _ _
   | exact zf.mono _ _
   | exact zh.mono _ _ _
   | exact LeO.none _
   | refine LeO.ite ?_ ?_
   | refine LeO.bind ?_ (fun _=>?_)
  intro y0 y1 y2 y3 y4 y5 y6 y7 y8 y9 y10 y11
  unfold zv.l4
  repeat' first
  | (with_reducible first|exact ih0 _ _ _ _ _ _|exact ih1 _ _ _ _ _ _ _ _|exact ih2 _ _ _ _ _ _ _ _ _ _ _ _ _|exact ih3 _ _ _ _ _ _ _ _ _ _ _ _ _|exact ih4 _ _ _ _ _ _|exact ih5 _ _ _ _ _ _ _ _|exact ih6 _ _ _ _ _ _ _ _ _ _ _ _|exact ih7 _ _ _ _ _ _ _ _ _ _ _ _|exact zf.mono _ _|exact zh.mono _ _ _|exact LeO.refl _|exact LeO.none _|refine LeO.ite ?_ ?_|refine LeO.bind ?_ (fun _=>?_))
  | exact ih0 _ _ _ _ _ _
  | exact ih1 _ _ _ _ _ _ _ _
  | exact ih2 _ _ _ _ _ _ _ _ _ _ _ _ _
  | exact ih3 _ _ _ _ _ _ _ _ _ _ _ _ _
  | exact ih4 _ _ _ _ _ _
  | exact ih5 _ _ _ _ _ _ _ _
  | exact ih6 _ _ _ _ _ _ _ _ _ _ _ _
  | exact ih7 _ _ _ _ _ _ _ _ _ _ _ _
  | exact zf.mono _ _
  | exact zh.mono _ _ _
  | exact LeO.none _
  | refine LeO.ite ?_ ?_
  | refine LeO.bind ?_ (fun _=>?_)
theorem zv.mono:∀ a0 a1 a2 a3 k,LeO (zv.f k a0 a1 a2 a3) (zv.f (k+1) a0 a1 a2 a3):=by
 intro a0 a1 a2 a3 k
 obtain ⟨ih0,ih1,ih2,ih3,ih4,ih5,ih6,ih7⟩:=zv.mono_l k
 unfold zv.f
 repeat' first
   | (with_reducible first|exact ih0 _ _ _ _ _ _|exact ih1 _ _ _ _ _ _ _ _|exact ih2 _ _ _ _ _ _ _ _ _ _ _ _ _|exact ih3 _ _ _ _ _ _ _ _ _ _ _ _ _|exact ih4 _ _ _ _ _ _|exact ih5 _ _ _ _ _ _ _ _|exact ih6 _ _ _ _ _ _ _ _ _ _ _ _|exact ih7 _ _ _ _ _ _ _ _ _ _ _ _|exact zf.mono _ _|exact zh.mono _ _ _|exact LeO.refl _|exact LeO.none _|refine LeO.ite ?_ ?_|refine LeO.bind ?_ (fun _=>?_))
   | exact ih0 _ _ _ _ _ _
   | exact ih1 _ _ _ _ _ _ _ _
   | exact ih2 _ _ _ _ _ _ _ _ _ _ _ _ _
   | exact ih3 _ _ _ _ _ _ _ _ _ _ _ _ _
   | exact ih4 _ _ _ _ _ _
   | exact ih5 _ _ _ _ _ _ _ _
   | exact ih6 _ _ _ _ _ _ _ _ _ _ _ _
   | exact ih7 _ _ _ _ _ _ _ _ _ _ _ _
   | exact zf.mono _ _
   | exact zh.mono _ _ _
   | exact LeO.none _
   | refine LeO.ite ?_ ?_
   | refine LeO.bind ?_ (fun _=>?_)
set_option maxHeartbeats 8000000 in
set_option maxRecDepth 100000 in
theorem zv.calls (k:Nat) (a0_0:ByteArray) (A0_1:Option Addr) (c0_1:Nat) (l0_1:List (S90)) (A0_2:Option Addr) (c0_2:Nat) (l0_2:List Int) (A0_3:Option Addr) (c0_3:Nat) (l0_3:List (S96)) (r:Bool) (w:World) (hr0_1:Kd.C k90 w A0_1 l0_1.length l0_1) (hc0_1:l0_1.length≤c0_1) (hr0_2:Kd.C (Kd.int .i64) w A0_2 l0_2.length l0_2) (hc0_2:l0_2.length≤c0_2) (hr0_3:Kd.C k96 w A0_3 l0_3.length l0_3) (hc0_3:l0_3.length≤c0_3) (h:zv.f k a0_0 l0_1 l0_2 l0_3=some r) :
  Calls Tryd.prog 60 #[.agg #[.string a0_0,.slice A0_1 l0_1.length c0_1,.slice A0_2 l0_2.length c0_2,.slice A0_3 l0_3.length c0_3]] w fun e w'=>e = .returned (.bool r)∧Below w.heap.size w w':=by
 have hu61:=Tryd.underlying61
 have hu90:=Tryd.underlying90
 have hu96:=Tryd.underlying96
 have HR0_1:=zq.mk hr0_1
 have HC0_1:=zq.mk hc0_1
 clear hr0_1 hc0_1
 have HR0_2:=zq.mk hr0_2
 have HC0_2:=zq.mk hc0_2
 clear hr0_2 hc0_2
 have HR0_3:=zq.mk hr0_3
 have HC0_3:=zq.mk hc0_3
 clear hr0_3 hc0_3
 have HB:=zq.mk (Below.refl w.heap.size w)
 have H:((zf.f k a0_0).bind fun t276=>(if t276=true then(if(l0_1.length:Int)=0 then(zv.j0 k (l0_1.length:Int) true a0_0 l0_1 l0_2 l0_3) else (if(l0_1.length:Int) > 6 then(zv.j0 k (l0_1.length:Int) true a0_0 l0_1 l0_2 l0_3) else (zv.j0 k (l0_1.length:Int) (decide ((l0_3.length:Int) > 2)) a0_0 l0_1 l0_2 l0_3))) else (zv.j0 k (l0_1.length:Int) true a0_0 l0_1 l0_2 l0_3)))=some r:=h
 clear h
 have HC2:=zq.mk H
 clear H
 go_enter Tryd.func60,Tryd.ntmps60
 go_upto_region 2 with (first|((with_reducible refine qr (N:=1) rfl ?_);(try(refine ql (by rfl) ?_;dsimp only));refine qm ?hg (N:=1) ?hd (cs:=#[.string a0_0,.slice A0_1 l0_1.length c0_1,.slice A0_2 l0_2.length c0_2,.slice A0_3 l0_3.length c0_3]) (t:=61) ?hr ?_;(case hd=>rfl);(case hg=>rfl);(case hr=>first|(go_simp;done)|(go_simp;rfl));intro gb275 hg w3 hbox hb;have BK275:=zq.mk (hbox);have GW275:=zq.mk ((by rw [hg];exact(zw bw):w.heap.size≤gb275));have GE275:=zq.mk ((by rw [hg];exact(zw bw):w.heap.size≤gb275));replace HB:=zq.mk (zn bw hb);clear hb hbox hg;obtain ⟨hcz4_0,hcz4_1,hcz4_2,hcz4_3,hfz4_0,hfz4_1,hfz4_2,hfz4_3⟩:=zqv BK275.out))
 repeat(go_quiet (first|((with_reducible refine qr (N:=1) rfl ?_);(try(refine ql (by rfl) ?_;dsimp only));refine qm ?hg (N:=1) ?hd (cs:=#[.string a0_0,.slice A0_1 l0_1.length c0_1,.slice A0_2 l0_2.length c0_2,.slice A0_3 l0_3.length c0_3]) (t:=61) ?hr ?_;(case hd=>rfl);(case hg=>rfl);(case hr=>first|(go_simp;done)|(go_simp;rfl));intro gb275 hg w3 hbox hb;have BK275:=zq.mk (hbox);have GW275:=zq.mk ((by rw [hg];exact(zw bw):w.heap.size≤gb275));have GE275:=zq.mk ((by rw [hg];exact(zw bw):w.heap.size≤gb275));replace HB:=zq.mk (zn bw hb);clear hb hbox hg;obtain ⟨hcz4_0,hcz4_1,hcz4_2,hcz4_3,hfz4_0,hfz4_1,hfz4_2,hfz4_3⟩:=zqv BK275.out));go_upto_region 2 with (first|((with_reducible refine qr (N:=1) rfl ?_);(try(refine ql (by rfl) ?_;dsimp only));refine qm ?hg (N:=1) ?hd (cs:=#[.string a0_0,.slice A0_1 l0_1.length c0_1,.slice A0_2 l0_2.length c0_2,.slice A0_3 l0_3.length c0_3]) (t:=61) ?hr ?_;(case hd=>rfl);(case hg=>rfl);(case hr=>first|(go_simp;done)|(go_simp;rfl));intro gb275 hg w3 hbox hb;have BK275:=zq.mk (hbox);have GW275:=zq.mk ((by rw [hg];exact(zw bw):w.heap.size≤gb275));have GE275:=zq.mk ((by rw [hg];exact(zw bw):w.heap.size≤gb275));replace HB:=zq.mk (zn bw hb);clear hb hbox hg;obtain ⟨hcz4_0,hcz4_1,hcz4_2,hcz4_3,hfz4_0,hfz4_1,hfz4_2,hfz4_3⟩:=zqv BK275.out)))
 (try simp only [Act.put,List.setIfInBounds_toArray,List.set_cons_zero,List.set_cons_succ])
 go_cut [31] (fun v31 wc => ∃ (kq:Nat) (x31_1:Bool),v31 = .bool x31_1∧zq (zv.j0 kq (l0_1.length:Int) x31_1 a0_0 l0_1 l0_2 l0_3=some r)∧zq (kq≤k)∧zq (wc.heap[gb275]? = some (.cells #[.string a0_0,(.slice A0_1 l0_1.length c0_1),(.slice A0_2 l0_2.length c0_2),(.slice A0_3 l0_3.length c0_3)] 61 (0,0)))∧zq (Below w.heap.size w wc))
 case first=>
  have H:=HC2.out
  clear HC2
  replace H:=Option.bind_eq_some_iff.mp H
  obtain ⟨t276,A50,H⟩:=H
  replace H:(if t276=true then(if(l0_1.length:Int)=0 then(zv.j0 k (l0_1.length:Int) true a0_0 l0_1 l0_2 l0_3) else (if(l0_1.length:Int) > 6 then(zv.j0 k (l0_1.length:Int) true a0_0 l0_1 l0_2 l0_3) else (zv.j0 k (l0_1.length:Int) (decide ((l0_3.length:Int) > 2)) a0_0 l0_1 l0_2 l0_3))) else (zv.j0 k (l0_1.length:Int) true a0_0 l0_1 l0_2 l0_3))=some r:=H
  have A5:=zq.mk A50
  clear A50
  by_cases c6:t276=true
  ·subst c6
   rw [if_pos rfl] at H
   by_cases c7:(l0_1.length:Int)=0
   ·rw [if_pos c7] at H
    have c7b0:((l0_1.length:Int) == 0)=true:=beq_iff_eq.mpr c7
    have c7b1:((l0_1.length:Int) != 0)=false:=bne_eq_false_iff_eq.mpr c7
    clear c7
    (first|rw [c7b0]|(simp only [zqp,zqq];rw [c7b0])|skip)
    have H':=zq.mk H
    clear H
    obtain ⟨hcz8_0,hcz8_1,hcz8_2,hcz8_3,hfz8_0,hfz8_1,hfz8_2,hfz8_3⟩:=zqv BK275.out
    go_wp2_with (first|(go_at_call 100;(with_reducible refine(zf.calls k a0_0 true _ A5.out).mono ?_);rintro e w9 ⟨rfl,hb⟩;replace BK275:=zq.mk (ze (g:=gb275) (o:=.cells #[.string a0_0,.slice A0_1 l0_1.length c0_1,.slice A0_2 l0_2.length c0_2,.slice A0_3 l0_3.length c0_3] 61 (0,0)) (up BK275.out) hb);replace HB:=zq.mk (zn bw hb);(try clear hb);(try clear hb2);(try clear hk);(try clear hi)))
    repeat(go_quiet (first|(go_at_call 100;(with_reducible refine(zf.calls k a0_0 true _ A5.out).mono ?_);rintro e w9 ⟨rfl,hb⟩;replace BK275:=zq.mk (ze (g:=gb275) (o:=.cells #[.string a0_0,.slice A0_1 l0_1.length c0_1,.slice A0_2 l0_2.length c0_2,.slice A0_3 l0_3.length c0_3] 61 (0,0)) (up BK275.out) hb);replace HB:=zq.mk (zn bw hb);(try clear hb);(try clear hb2);(try clear hk);(try clear hi)));try go_wp2_with (first|(go_at_call 100;(with_reducible refine(zf.calls k a0_0 true _ A5.out).mono ?_);rintro e w9 ⟨rfl,hb⟩;replace BK275:=zq.mk (ze (g:=gb275) (o:=.cells #[.string a0_0,.slice A0_1 l0_1.length c0_1,.slice A0_2 l0_2.length c0_2,.slice A0_3 l0_3.length c0_3] 61 (0,0)) (up BK275.out) hb);replace HB:=zq.mk (zn bw hb);(try clear hb);(try clear hb2);(try clear hk);(try clear hi))))
    go_meet
    case rel=>exact⟨_,(true),vr,H',⟨by first|omega|exact Nat.le_refl _⟩,⟨by(with_reducible repeat(first|refine zz ?_ _|refine zk ?_|refine zj ?_ _));exact BK275.out⟩,⟨bw⟩⟩
   rw [if_neg c7] at H
   have c7b0:((l0_1.length:Int) == 0)=false:=beq_eq_false_iff_ne.mpr c7
   have c7b1:((l0_1.length:Int) != 0)=true:=bne_iff_ne.mpr c7
   have c7b2:¬ (l0_1 = []):=fun h_=>c7 (by rw [h_];rfl)
   (first|rw [c7b0]|(simp only [zqp,zqq];rw [c7b0])|skip)
   by_cases c10:(l0_1.length:Int) > 6
   ·rw [if_pos c10] at H
    have c10b0:=decide_eq_true c10
    have c10b1:decide (6<l0_1.length)=true:=decide_eq_true (by omega)
    clear c10
    have H':=zq.mk H
    clear H
    obtain ⟨hcz11_0,hcz11_1,hcz11_2,hcz11_3,hfz11_0,hfz11_1,hfz11_2,hfz11_3⟩:=zqv BK275.out
    go_wp2_with (first|(go_at_call 100;(with_reducible refine(zf.calls k a0_0 true _ A5.out).mono ?_);rintro e w12 ⟨rfl,hb⟩;replace BK275:=zq.mk (ze (g:=gb275) (o:=.cells #[.string a0_0,.slice A0_1 l0_1.length c0_1,.slice A0_2 l0_2.length c0_2,.slice A0_3 l0_3.length c0_3] 61 (0,0)) (up BK275.out) hb);replace HB:=zq.mk (zn bw hb);(try clear hb);(try clear hb2);(try clear hk);(try clear hi)))
    repeat(go_quiet (first|(go_at_call 100;(with_reducible refine(zf.calls k a0_0 true _ A5.out).mono ?_);rintro e w12 ⟨rfl,hb⟩;replace BK275:=zq.mk (ze (g:=gb275) (o:=.cells #[.string a0_0,.slice A0_1 l0_1.length c0_1,.slice A0_2 l0_2.length c0_2,.slice A0_3 l0_3.length c0_3] 61 (0,0)) (up BK275.out) hb);replace HB:=zq.mk (zn bw hb);(try clear hb);(try clear hb2);(try clear hk);(try clear hi)));try go_wp2_with (first|(go_at_call 100;(with_reducible refine(zf.calls k a0_0 true _ A5.out).mono ?_);rintro e w12 ⟨rfl,hb⟩;replace BK275:=zq.mk (ze (g:=gb275) (o:=.cells #[.string a0_0,.slice A0_1 l0_1.length c0_1,.slice A0_2 l0_2.length c0_2,.slice A0_3 l0_3.length c0_3] 61 (0,0)) (up BK275.out) hb);replace HB:=zq.mk (zn bw hb);(try clear hb);(try clear hb2);(try clear hk);(try clear hi))))
    go_meet
    case rel=>exact⟨_,(true),vr,H',⟨by first|omega|exact Nat.le_refl _⟩,⟨by(with_reducible repeat(first|refine zz ?_ _|refine zk ?_|refine zj ?_ _));exact BK275.out⟩,⟨bw⟩⟩
   rw [if_neg c10] at H
   have c10b0:=decide_eq_false c10
   have c10b1:decide (6<l0_1.length)=false:=decide_eq_false (by omega)
   clear c10
   have H':=zq.mk H
   clear H
   obtain ⟨hcz13_0,hcz13_1,hcz13_2,hcz13_3,hfz13_0,hfz13_1,hfz13_2,hfz13_3⟩:=zqv BK275.out
   go_wp2_with (first|(go_at_call 100;(with_reducible refine(zf.calls k a0_0 true _ A5.out).mono ?_);rintro e w14 ⟨rfl,hb⟩;replace BK275:=zq.mk (ze (g:=gb275) (o:=.cells #[.string a0_0,.slice A0_1 l0_1.length c0_1,.slice A0_2 l0_2.length c0_2,.slice A0_3 l0_3.length c0_3] 61 (0,0)) (up BK275.out) hb);replace HB:=zq.mk (zn bw hb);(try clear hb);(try clear hb2);(try clear hk);(try clear hi);obtain ⟨hcz15_0,hcz15_1,hcz15_2,hcz15_3,hfz15_0,hfz15_1,hfz15_2,hfz15_3⟩:=zqv BK275.out))
   repeat(go_quiet (first|(go_at_call 100;(with_reducible refine(zf.calls k a0_0 true _ A5.out).mono ?_);rintro e w14 ⟨rfl,hb⟩;replace BK275:=zq.mk (ze (g:=gb275) (o:=.cells #[.string a0_0,.slice A0_1 l0_1.length c0_1,.slice A0_2 l0_2.length c0_2,.slice A0_3 l0_3.length c0_3] 61 (0,0)) (up BK275.out) hb);replace HB:=zq.mk (zn bw hb);(try clear hb);(try clear hb2);(try clear hk);(try clear hi);obtain ⟨hcz15_0,hcz15_1,hcz15_2,hcz15_3,hfz15_0,hfz15_1,hfz15_2,hfz15_3⟩:=zqv BK275.out));try go_wp2_with (first|(go_at_call 100;(with_reducible refine(zf.calls k a0_0 true _ A5.out).mono ?_);rintro e w14 ⟨rfl,hb⟩;replace BK275:=zq.mk (ze (g:=gb275) (o:=.cells #[.string a0_0,.slice A0_1 l0_1.length c0_1,.slice A0_2 l0_2.length c0_2,.slice A0_3 l0_3.length c0_3] 61 (0,0)) (up BK275.out) hb);replace HB:=zq.mk (zn bw hb);(try clear hb);(try clear hb2);(try clear hk);(try clear hi);obtain ⟨hcz15_0,hcz15_1,hcz15_2,hcz15_3,hfz15_0,hfz15_1,hfz15_2,hfz15_3⟩:=zqv BK275.out)))
   go_meet
   case rel=>exact⟨_,(decide ((l0_3.length:Int) > 2)),vr,H',⟨by first|omega|exact Nat.le_refl _⟩,⟨by(with_reducible repeat(first|refine zz ?_ _|refine zk ?_|refine zj ?_ _));exact BK275.out⟩,⟨bw⟩⟩
  replace c6:=Bool.eq_false_iff.mpr c6
  subst c6
  rw [if_neg (show ¬ (false=true) by decide)] at H
  have H':=zq.mk H
  clear H
  obtain ⟨hcz16_0,hcz16_1,hcz16_2,hcz16_3,hfz16_0,hfz16_1,hfz16_2,hfz16_3⟩:=zqv BK275.out
  go_wp2_with (first|(go_at_call 100;(with_reducible refine(zf.calls k a0_0 false _ A5.out).mono ?_);rintro e w17 ⟨rfl,hb⟩;replace BK275:=zq.mk (ze (g:=gb275) (o:=.cells #[.string a0_0,.slice A0_1 l0_1.length c0_1,.slice A0_2 l0_2.length c0_2,.slice A0_3 l0_3.length c0_3] 61 (0,0)) (up BK275.out) hb);replace HB:=zq.mk (zn bw hb);(try clear hb);(try clear hb2);(try clear hk);(try clear hi)))
  repeat(go_quiet (first|(go_at_call 100;(with_reducible refine(zf.calls k a0_0 false _ A5.out).mono ?_);rintro e w17 ⟨rfl,hb⟩;replace BK275:=zq.mk (ze (g:=gb275) (o:=.cells #[.string a0_0,.slice A0_1 l0_1.length c0_1,.slice A0_2 l0_2.length c0_2,.slice A0_3 l0_3.length c0_3] 61 (0,0)) (up BK275.out) hb);replace HB:=zq.mk (zn bw hb);(try clear hb);(try clear hb2);(try clear hk);(try clear hi)));try go_wp2_with (first|(go_at_call 100;(with_reducible refine(zf.calls k a0_0 false _ A5.out).mono ?_);rintro e w17 ⟨rfl,hb⟩;replace BK275:=zq.mk (ze (g:=gb275) (o:=.cells #[.string a0_0,.slice A0_1 l0_1.length c0_1,.slice A0_2 l0_2.length c0_2,.slice A0_3 l0_3.length c0_3] 61 (0,0)) (up BK275.out) hb);replace HB:=zq.mk (zn bw hb);(try clear hb);(try clear hb2);(try clear hk);(try clear hi))))
  go_meet
  case rel=>exact⟨_,(true),vr,H',⟨by first|omega|exact Nat.le_refl _⟩,⟨by(with_reducible repeat(first|refine zz ?_ _|refine zk ?_|refine zj ?_ _));exact BK275.out⟩,⟨bw⟩⟩
 case rest=>
  clear HC2
  (try clear hcz4_0);(try clear hcz4_1);(try clear hcz4_2);(try clear hcz4_3);(try clear hfz4_0);(try clear hfz4_1);(try clear hfz4_2);(try clear hfz4_3)
  (try clear BK275)
  obtain ⟨kq,x31_1,rfl,HA,HJ1,BK275,HB⟩:=hcut
  cases kq with
  | zero=>exact absurd HA.out (by simp [zv.j0])
  | succ kj1=>
   have H:=HA.out
   clear HA
   simp only [zv.j0] at H
   by_cases c18:x31_1=true
   ·subst c18
    rw [if_pos rfl] at H
    obtain rfl:=Option.some.inj H
    go_wp2
    repeat(go_quiet (fail);try go_wp2)
    go_ret
    exact⟨by first|rfl|(simp [zg,zy] <;> rfl)|(simp [*,zg,zy] <;> rfl),bw⟩
   replace c18:=Bool.eq_false_iff.mpr c18
   subst c18
   rw [if_neg (show ¬ (false=true) by decide)] at H
   have H':=zq.mk H
   clear H
   obtain ⟨hcz19_0,hcz19_1,hcz19_2,hcz19_3,hfz19_0,hfz19_1,hfz19_2,hfz19_3⟩:=zqv BK275.out
   go_wp2
   repeat(go_quiet (fail);try go_wp2)
   go_loopg [35] kj1 (fun kq v35 w' => ∃ (x35_2:Int),v35 = .int .i64 x35_2∧zq (zv.l0 kq (l0_1.length:Int) l0_1 (l0_1.length:Int) x35_2 a0_0 l0_1 l0_2 l0_3=some r)∧zq (kq≤kj1)∧zq (w'.heap[gb275]? = some (.cells #[.string a0_0,(.slice A0_1 l0_1.length c0_1),(.slice A0_2 l0_2.length c0_2),(.slice A0_3 l0_3.length c0_3)] 61 (0,0)))∧zq (Below w.heap.size w w'))
   case atStart=>exact⟨(0),vr,H',⟨Nat.le_refl _⟩,⟨by(with_reducible repeat(first|refine zz ?_ _|refine zk ?_|refine zj ?_ _));exact BK275.out⟩,⟨bw⟩⟩
   case round=>
    clear H'
    (try clear c18);(try clear hcz19_0);(try clear hcz19_1);(try clear hcz19_2);(try clear hcz19_3);(try clear hcz4_0);(try clear hcz4_1);(try clear hcz4_2);(try clear hcz4_3);(try clear hfz19_0);(try clear hfz19_1);(try clear hfz19_2);(try clear hfz19_3);(try clear hfz4_0);(try clear hfz4_1);(try clear hfz4_2);(try clear hfz4_3)
    (try clear BK275)
    obtain ⟨x35_2,rfl,HA,HK2,BK275,HB⟩:=hrel
    cases gk with
    | zero=>exact absurd HA.out (by simp [zv.l0])
    | succ k2=>
     have H:=HA.out
     clear HA
     simp only [zv.l0] at H
     by_cases c20:x35_2<(l0_1.length:Int)
     ·rw [if_pos c20] at H
      have c20b0:=decide_eq_true c20
      clear c20
      by_cases c21:0≤x35_2
      ·rw [if_pos c21] at H
       have c21b0:=decide_eq_true c21
       clear c21
       by_cases c22:x35_2<(l0_1.length:Int)
       ·rw [if_pos c22] at H
        have c22b0:=decide_eq_true c22
        clear c22
        have HC23:=zq.mk H
        clear H
        have p277:0≤(x35_2:Int):=dt
        have q277:x35_2<(l0_1.length:Int):=dt
        obtain ⟨ad277,e277,hx277_0,hx277_1,hx277_2⟩:=zx1 HR0_1.out x35_2 p277 q277
        cases e277
        replace hx277_0:=(HB.out.cell (World.block_lt_of_cell? w _ hx277_0)).trans hx277_0
        replace hx277_1:=(HB.out.cell (World.block_lt_of_cell? w _ hx277_1)).trans hx277_1
        replace hx277_2:=(HB.out.cell (World.block_lt_of_cell? w _ hx277_2)).trans hx277_2
        replace p277:=eq_true p277
        replace q277:=eq_true q277
        go_upto_region 7 with (first|((with_reducible refine qr (N:=5) rfl ?_);(try(refine ql (by rfl) ?_;dsimp only));refine qm ?hg (N:=5) ?hd (cs:=#[.string (⟨#[]⟩:ByteArray),.int .i64 0,.bool false]) (t:=90) ?hr ?_;(case hd=>rfl);(case hg=>rfl);(case hr=>first|(go_simp;done)|(go_simp;rfl));intro gb278 hg w24 hbox hb;have BK278:=zq.mk (hbox);have GW278:=zq.mk ((by rw [hg];exact(zw bw):w.heap.size≤gb278));have GE278:=zq.mk ((by rw [hg];exact(zw bw):w.heap.size≤gb278));replace HB:=zq.mk (zn bw hb);have NB275_278:=zq.mk ((by rw [hg];exact Nat.ne_of_lt (zq3 (g:=gb275) (o:=.cells #[.string a0_0,.slice (some ad277) l0_1.length c0_1,.slice A0_2 l0_2.length c0_2,.slice A0_3 l0_3.length c0_3] 61 (0,0)) (up BK275.out)):gb275≠gb278));have NB278_275:=zq.mk ((by rw [hg];exact Nat.ne_of_gt (zq3 (g:=gb275) (o:=.cells #[.string a0_0,.slice (some ad277) l0_1.length c0_1,.slice A0_2 l0_2.length c0_2,.slice A0_3 l0_3.length c0_3] 61 (0,0)) (up BK275.out)):gb278≠gb275));replace BK275:=zq.mk (ze (g:=gb275) (o:=.cells #[.string a0_0,.slice (some ad277) l0_1.length c0_1,.slice A0_2 l0_2.length c0_2,.slice A0_3 l0_3.length c0_3] 61 (0,0)) (up BK275.out) hb);clear hb hbox hg;have hnb25:=NB278_275.out;have hnc25:=NB275_278.out;obtain ⟨hcz26_0,hcz26_1,hcz26_2,hfz26_0,hfz26_1,hfz26_2⟩:=qd BK278.out))
        repeat(go_quiet (first|((with_reducible refine qr (N:=5) rfl ?_);(try(refine ql (by rfl) ?_;dsimp only));refine qm ?hg (N:=5) ?hd (cs:=#[.string (⟨#[]⟩:ByteArray),.int .i64 0,.bool false]) (t:=90) ?hr ?_;(case hd=>rfl);(case hg=>rfl);(case hr=>first|(go_simp;done)|(go_simp;rfl));intro gb278 hg w24 hbox hb;have BK278:=zq.mk (hbox);have GW278:=zq.mk ((by rw [hg];exact(zw bw):w.heap.size≤gb278));have GE278:=zq.mk ((by rw [hg];exact(zw bw):w.heap.size≤gb278));replace HB:=zq.mk (zn bw hb);have NB275_278:=zq.mk ((by rw [hg];exact Nat.ne_of_lt (zq3 (g:=gb275) (o:=.cells #[.string a0_0,.slice (some ad277) l0_1.length c0_1,.slice A0_2 l0_2.length c0_2,.slice A0_3 l0_3.length c0_3] 61 (0,0)) (up BK275.out)):gb275≠gb278));have NB278_275:=zq.mk ((by rw [hg];exact Nat.ne_of_gt (zq3 (g:=gb275) (o:=.cells #[.string a0_0,.slice (some ad277) l0_1.length c0_1,.slice A0_2 l0_2.length c0_2,.slice A0_3 l0_3.length c0_3] 61 (0,0)) (up BK275.out)):gb278≠gb275));replace BK275:=zq.mk (ze (g:=gb275) (o:=.cells #[.string a0_0,.slice (some ad277) l0_1.length c0_1,.slice A0_2 l0_2.length c0_2,.slice A0_3 l0_3.length c0_3] 61 (0,0)) (up BK275.out) hb);clear hb hbox hg;have hnb25:=NB278_275.out;have hnc25:=NB275_278.out;obtain ⟨hcz26_0,hcz26_1,hcz26_2,hfz26_0,hfz26_1,hfz26_2⟩:=qd BK278.out));go_upto_region 7 with (first|((with_reducible refine qr (N:=5) rfl ?_);(try(refine ql (by rfl) ?_;dsimp only));refine qm ?hg (N:=5) ?hd (cs:=#[.string (⟨#[]⟩:ByteArray),.int .i64 0,.bool false]) (t:=90) ?hr ?_;(case hd=>rfl);(case hg=>rfl);(case hr=>first|(go_simp;done)|(go_simp;rfl));intro gb278 hg w24 hbox hb;have BK278:=zq.mk (hbox);have GW278:=zq.mk ((by rw [hg];exact(zw bw):w.heap.size≤gb278));have GE278:=zq.mk ((by rw [hg];exact(zw bw):w.heap.size≤gb278));replace HB:=zq.mk (zn bw hb);have NB275_278:=zq.mk ((by rw [hg];exact Nat.ne_of_lt (zq3 (g:=gb275) (o:=.cells #[.string a0_0,.slice (some ad277) l0_1.length c0_1,.slice A0_2 l0_2.length c0_2,.slice A0_3 l0_3.length c0_3] 61 (0,0)) (up BK275.out)):gb275≠gb278));have NB278_275:=zq.mk ((by rw [hg];exact Nat.ne_of_gt (zq3 (g:=gb275) (o:=.cells #[.string a0_0,.slice (some ad277) l0_1.length c0_1,.slice A0_2 l0_2.length c0_2,.slice A0_3 l0_3.length c0_3] 61 (0,0)) (up BK275.out)):gb278≠gb275));replace BK275:=zq.mk (ze (g:=gb275) (o:=.cells #[.string a0_0,.slice (some ad277) l0_1.length c0_1,.slice A0_2 l0_2.length c0_2,.slice A0_3 l0_3.length c0_3] 61 (0,0)) (up BK275.out) hb);clear hb hbox hg;have hnb25:=NB278_275.out;have hnc25:=NB275_278.out;obtain ⟨hcz26_0,hcz26_1,hcz26_2,hfz26_0,hfz26_1,hfz26_2⟩:=qd BK278.out)))
        (try simp only [Act.put,List.setIfInBounds_toArray,List.set_cons_zero,List.set_cons_succ])
        go_cut [58] (fun v58 wc => ∃ (kq:Nat) (x58_22:Bool),v58 = .bool x58_22∧zq (zv.j2 kq (l0_1.length:Int) x35_2 l0_1 (l0_1.length:Int) x35_2 x58_22 a0_0 l0_1 l0_2 l0_3 ((qg l0_1 x35_2).f0) ((qg l0_1 x35_2).f1) ((qg l0_1 x35_2).f2)=some r)∧zq (kq≤k2)∧zq (wc.heap[gb275]? = some (.cells #[.string a0_0,(.slice (some ad277) l0_1.length c0_1),(.slice A0_2 l0_2.length c0_2),(.slice A0_3 l0_3.length c0_3)] 61 (0,0)))∧zq (wc.heap[gb278]? = some (.cells #[.string ((qg l0_1 x35_2).f0),.int .i64 ((qg l0_1 x35_2).f1),.bool ((qg l0_1 x35_2).f2)] 90 (0,0)))∧zq (Below w.heap.size w wc))
        case first=>
         have H:=HC23.out
         clear HC23
         replace H:=Option.bind_eq_some_iff.mp H
         obtain ⟨t279,A270,H⟩:=H
         replace H:(if t279=true then(if((qg l0_1 x35_2).f1)=1 then(zv.j2 k2 (l0_1.length:Int) x35_2 l0_1 (l0_1.length:Int) x35_2 false a0_0 l0_1 l0_2 l0_3 ((qg l0_1 x35_2).f0) ((qg l0_1 x35_2).f1) ((qg l0_1 x35_2).f2)) else (if((qg l0_1 x35_2).f1)=2 then(zv.j2 k2 (l0_1.length:Int) x35_2 l0_1 (l0_1.length:Int) x35_2 false a0_0 l0_1 l0_2 l0_3 ((qg l0_1 x35_2).f0) ((qg l0_1 x35_2).f1) ((qg l0_1 x35_2).f2)) else (zv.j2 k2 (l0_1.length:Int) x35_2 l0_1 (l0_1.length:Int) x35_2 (((qg l0_1 x35_2).f1) != 3) a0_0 l0_1 l0_2 l0_3 ((qg l0_1 x35_2).f0) ((qg l0_1 x35_2).f1) ((qg l0_1 x35_2).f2)))) else (zv.j2 k2 (l0_1.length:Int) x35_2 l0_1 (l0_1.length:Int) x35_2 true a0_0 l0_1 l0_2 l0_3 ((qg l0_1 x35_2).f0) ((qg l0_1 x35_2).f1) ((qg l0_1 x35_2).f2)))=some r:=H
         have A27:=zq.mk A270
         clear A270
         by_cases c28:t279=true
         ·subst c28
          rw [if_pos rfl] at H
          by_cases c29:((qg l0_1 x35_2).f1)=1
          ·rw [if_pos c29] at H
           have c29b0:(((qg l0_1 x35_2).f1) == 1)=true:=beq_iff_eq.mpr c29
           have c29b1:(((qg l0_1 x35_2).f1) != 1)=false:=bne_eq_false_iff_eq.mpr c29
           clear c29
           (first|rw [c29b0]|(simp only [zqp,zqq];rw [c29b0])|skip)
           have H':=zq.mk H
           clear H
           have hnb30:=NB278_275.out
           have hnc30:=NB275_278.out
           obtain ⟨hcz31_0,hcz31_1,hcz31_2,hfz31_0,hfz31_1,hfz31_2⟩:=qd BK278.out
           go_wp2_with (first|(go_at_call 100;(with_reducible refine(zf.calls k2 ((qg l0_1 x35_2).f0) true _ A27.out).mono ?_);rintro e w32 ⟨rfl,hb⟩;replace BK275:=zq.mk (ze (g:=gb275) (o:=.cells #[.string a0_0,.slice (some ad277) l0_1.length c0_1,.slice A0_2 l0_2.length c0_2,.slice A0_3 l0_3.length c0_3] 61 (0,0)) (by(with_reducible repeat(first|refine zz ?_ _|refine zk ?_|refine zj ?_ _));refine zqf ?_ NB275_278.out _;(with_reducible repeat(first|refine zz ?_ _|refine zk ?_|refine zj ?_ _));refine zqf ?_ NB275_278.out _;(with_reducible repeat(first|refine zz ?_ _|refine zk ?_|refine zj ?_ _));refine zqf ?_ NB275_278.out _;(with_reducible repeat(first|refine zz ?_ _|refine zk ?_|refine zj ?_ _));exact BK275.out) hb);replace BK278:=zq.mk (ze (g:=gb278) (o:=.cells #[.string ((qg l0_1 x35_2).f0),.int .i64 ((qg l0_1 x35_2).f1),.bool ((qg l0_1 x35_2).f2)] 90 (0,0)) (by(with_reducible repeat(first|refine zz ?_ _|refine zk ?_|refine zj ?_ _));refine qw (cs:=#[.string ((qg l0_1 x35_2).f0),.int .i64 ((qg l0_1 x35_2).f1),.bool false]) ?_ 2 _ rfl;(with_reducible repeat(first|refine zz ?_ _|refine zk ?_|refine zj ?_ _));refine qw (cs:=#[.string ((qg l0_1 x35_2).f0),.int .i64 0,.bool false]) ?_ 1 _ rfl;(with_reducible repeat(first|refine zz ?_ _|refine zk ?_|refine zj ?_ _));refine qw (cs:=#[.string (⟨#[]⟩:ByteArray),.int .i64 0,.bool false]) ?_ 0 _ rfl;(with_reducible repeat(first|refine zz ?_ _|refine zk ?_|refine zj ?_ _));exact BK278.out) hb);replace HB:=zq.mk (zn bw hb);(try clear hb);(try clear hb2);(try clear hk);(try clear hi);obtain ⟨hcz33_0,hcz33_1,hcz33_2,hfz33_0,hfz33_1,hfz33_2⟩:=qd BK278.out))
           repeat(go_quiet (first|(go_at_call 100;(with_reducible refine(zf.calls k2 ((qg l0_1 x35_2).f0) true _ A27.out).mono ?_);rintro e w32 ⟨rfl,hb⟩;replace BK275:=zq.mk (ze (g:=gb275) (o:=.cells #[.string a0_0,.slice (some ad277) l0_1.length c0_1,.slice A0_2 l0_2.length c0_2,.slice A0_3 l0_3.length c0_3] 61 (0,0)) (by(with_reducible repeat(first|refine zz ?_ _|refine zk ?_|refine zj ?_ _));refine zqf ?_ NB275_278.out _;(with_reducible repeat(first|refine zz ?_ _|refine zk ?_|refine zj ?_ _));refine zqf ?_ NB275_278.out _;(with_reducible repeat(first|refine zz ?_ _|refine zk ?_|refine zj ?_ _));refine zqf ?_ NB275_278.out _;(with_reducible repeat(first|refine zz ?_ _|refine zk ?_|refine zj ?_ _));exact BK275.out) hb);replace BK278:=zq.mk (ze (g:=gb278) (o:=.cells #[.string ((qg l0_1 x35_2).f0),.int .i64 ((qg l0_1 x35_2).f1),.bool ((qg l0_1 x35_2).f2)] 90 (0,0)) (by(with_reducible repeat(first|refine zz ?_ _|refine zk ?_|refine zj ?_ _));refine qw (cs:=#[.string ((qg l0_1 x35_2).f0),.int .i64 ((qg l0_1 x35_2).f1),.bool false]) ?_ 2 _ rfl;(with_reducible repeat(first|refine zz ?_ _|refine zk ?_|refine zj ?_ _));refine qw (cs:=#[.string ((qg l0_1 x35_2).f0),.int .i64 0,.bool false]) ?_ 1 _ rfl;(with_reducible repeat(first|refine zz ?_ _|refine zk ?_|refine zj ?_ _));refine qw (cs:=#[.string (⟨#[]⟩:ByteArray),.int .i64 0,.bool false]) ?_ 0 _ rfl;(with_reducible repeat(first|refine zz ?_ _|refine zk ?_|refine zj ?_ _));exact BK278.out) hb);replace HB:=zq.mk (zn bw hb);(try clear hb);(try clear hb2);(try clear hk);(try clear hi);obtain ⟨hcz33_0,hcz33_1,hcz33_2,hfz33_0,hfz33_1,hfz33_2⟩:=qd BK278.out));try go_wp2_with (first|(go_at_call 100;(with_reducible refine(zf.calls k2 ((qg l0_1 x35_2).f0) true _ A27.out).mono ?_);rintro e w32 ⟨rfl,hb⟩;replace BK275:=zq.mk (ze (g:=gb275) (o:=.cells #[.string a0_0,.slice (some ad277) l0_1.length c0_1,.slice A0_2 l0_2.length c0_2,.slice A0_3 l0_3.length c0_3] 61 (0,0)) (by(with_reducible repeat(first|refine zz ?_ _|refine zk ?_|refine zj ?_ _));refine zqf ?_ NB275_278.out _;(with_reducible repeat(first|refine zz ?_ _|refine zk ?_|refine zj ?_ _));refine zqf ?_ NB275_278.out _;(with_reducible repeat(first|refine zz ?_ _|refine zk ?_|refine zj ?_ _));refine zqf ?_ NB275_278.out _;(with_reducible repeat(first|refine zz ?_ _|refine zk ?_|refine zj ?_ _));exact BK275.out) hb);replace BK278:=zq.mk (ze (g:=gb278) (o:=.cells #[.string ((qg l0_1 x35_2).f0),.int .i64 ((qg l0_1 x35_2).f1),.bool ((qg l0_1 x35_2).f2)] 90 (0,0)) (by(with_reducible repeat(first|refine zz ?_ _|refine zk ?_|refine zj ?_ _));refine qw (cs:=#[.string ((qg l0_1 x35_2).f0),.int .i64 ((qg l0_1 x35_2).f1),.bool false]) ?_ 2 _ rfl;(with_reducible repeat(first|refine zz ?_ _|refine zk ?_|refine zj ?_ _));refine qw (cs:=#[.string ((qg l0_1 x35_2).f0),.int .i64 0,.bool false]) ?_ 1 _ rfl;(with_reducible repeat(first|refine zz ?_ _|refine zk ?_|refine zj ?_ _));refine qw (cs:=#[.string (⟨#[]⟩:ByteArray),.int .i64 0,.bool false]) ?_ 0 _ rfl;(with_reducible repeat(first|refine zz ?_ _|refine zk ?_|refine zj ?_ _));exact BK278.out) hb);replace HB:=zq.mk (zn bw hb);(try clear hb);(try clear hb2);(try clear hk);(try clear hi);obtain ⟨hcz33_0,hcz33_1,hcz33_2,hfz33_0,hfz33_1,hfz33_2⟩:=qd BK278.out)))
           go_meet
           case rel=>exact⟨_,(false),vr,H',⟨by have:=HJ1.out;have:=HK2.out;first|omega|exact Nat.le_refl _⟩,⟨by(with_reducible repeat(first|refine zz ?_ _|refine zk ?_|refine zj ?_ _));exact BK275.out⟩,⟨by(with_reducible repeat(first|refine zz ?_ _|refine zk ?_|refine zj ?_ _));exact BK278.out⟩,⟨bw⟩⟩
          rw [if_neg c29] at H
          have c29b0:(((qg l0_1 x35_2).f1) == 1)=false:=beq_eq_false_iff_ne.mpr c29
          have c29b1:(((qg l0_1 x35_2).f1) != 1)=true:=bne_iff_ne.mpr c29
          (first|rw [c29b0]|(simp only [zqp,zqq];rw [c29b0])|skip)
          by_cases c34:((qg l0_1 x35_2).f1)=2
          ·rw [if_pos c34] at H
           have c34b0:(((qg l0_1 x35_2).f1) == 2)=true:=beq_iff_eq.mpr c34
           have c34b1:(((qg l0_1 x35_2).f1) != 2)=false:=bne_eq_false_iff_eq.mpr c34
           clear c34
           have H':=zq.mk H
           clear H
           have hnb35:=NB278_275.out
           have hnc35:=NB275_278.out
           obtain ⟨hcz36_0,hcz36_1,hcz36_2,hfz36_0,hfz36_1,hfz36_2⟩:=qd BK278.out
           go_wp2_with (first|(go_at_call 100;(with_reducible refine(zf.calls k2 ((qg l0_1 x35_2).f0) true _ A27.out).mono ?_);rintro e w37 ⟨rfl,hb⟩;replace BK275:=zq.mk (ze (g:=gb275) (o:=.cells #[.string a0_0,.slice (some ad277) l0_1.length c0_1,.slice A0_2 l0_2.length c0_2,.slice A0_3 l0_3.length c0_3] 61 (0,0)) (by(with_reducible repeat(first|refine zz ?_ _|refine zk ?_|refine zj ?_ _));refine zqf ?_ NB275_278.out _;(with_reducible repeat(first|refine zz ?_ _|refine zk ?_|refine zj ?_ _));refine zqf ?_ NB275_278.out _;(with_reducible repeat(first|refine zz ?_ _|refine zk ?_|refine zj ?_ _));refine zqf ?_ NB275_278.out _;(with_reducible repeat(first|refine zz ?_ _|refine zk ?_|refine zj ?_ _));exact BK275.out) hb);replace BK278:=zq.mk (ze (g:=gb278) (o:=.cells #[.string ((qg l0_1 x35_2).f0),.int .i64 ((qg l0_1 x35_2).f1),.bool ((qg l0_1 x35_2).f2)] 90 (0,0)) (by(with_reducible repeat(first|refine zz ?_ _|refine zk ?_|refine zj ?_ _));refine qw (cs:=#[.string ((qg l0_1 x35_2).f0),.int .i64 ((qg l0_1 x35_2).f1),.bool false]) ?_ 2 _ rfl;(with_reducible repeat(first|refine zz ?_ _|refine zk ?_|refine zj ?_ _));refine qw (cs:=#[.string ((qg l0_1 x35_2).f0),.int .i64 0,.bool false]) ?_ 1 _ rfl;(with_reducible repeat(first|refine zz ?_ _|refine zk ?_|refine zj ?_ _));refine qw (cs:=#[.string (⟨#[]⟩:ByteArray),.int .i64 0,.bool false]) ?_ 0 _ rfl;(with_reducible repeat(first|refine zz ?_ _|refine zk ?_|refine zj ?_ _));exact BK278.out) hb);replace HB:=zq.mk (zn bw hb);(try clear hb);(try clear hb2);(try clear hk);(try clear hi);obtain ⟨hcz38_0,hcz38_1,hcz38_2,hfz38_0,hfz38_1,hfz38_2⟩:=qd BK278.out))
           repeat(go_quiet (first|(go_at_call 100;(with_reducible refine(zf.calls k2 ((qg l0_1 x35_2).f0) true _ A27.out).mono ?_);rintro e w37 ⟨rfl,hb⟩;replace BK275:=zq.mk (ze (g:=gb275) (o:=.cells #[.string a0_0,.slice (some ad277) l0_1.length c0_1,.slice A0_2 l0_2.length c0_2,.slice A0_3 l0_3.length c0_3] 61 (0,0)) (by(with_reducible repeat(first|refine zz ?_ _|refine zk ?_|refine zj ?_ _));refine zqf ?_ NB275_278.out _;(with_reducible repeat(first|refine zz ?_ _|refine zk ?_|refine zj ?_ _));refine zqf ?_ NB275_278.out _;(with_reducible repeat(first|refine zz ?_ _|refine zk ?_|refine zj ?_ _));refine zqf ?_ NB275_278.out _;(with_reducible repeat(first|refine zz ?_ _|refine zk ?_|refine zj ?_ _));exact BK275.out) hb);replace BK278:=zq.mk (ze (g:=gb278) (o:=.cells #[.string ((qg l0_1 x35_2).f0),.int .i64 ((qg l0_1 x35_2).f1),.bool ((qg l0_1 x35_2).f2)] 90 (0,0)) (by(with_reducible repeat(first|refine zz ?_ _|refine zk ?_|refine zj ?_ _));refine qw (cs:=#[.string ((qg l0_1 x35_2).f0),.int .i64 ((qg l0_1 x35_2).f1),.bool false]) ?_ 2 _ rfl;(with_reducible repeat(first|refine zz ?_ _|refine zk ?_|refine zj ?_ _));refine qw (cs:=#[.string ((qg l0_1 x35_2).f0),.int .i64 0,.bool false]) ?_ 1 _ rfl;(with_reducible repeat(first|refine zz ?_ _|refine zk ?_|refine zj ?_ _));refine qw (cs:=#[.string (⟨#[]⟩:ByteArray),.int .i64 0,.bool false]) ?_ 0 _ rfl;(with_reducible repeat(first|refine zz ?_ _|refine zk ?_|refine zj ?_ _));exact BK278.out) hb);replace HB:=zq.mk (zn bw hb);(try clear hb);(try clear hb2);(try clear hk);(try clear hi);obtain ⟨hcz38_0,hcz38_1,hcz38_2,hfz38_0,hfz38_1,hfz38_2⟩:=qd BK278.out));try go_wp2_with (first|(go_at_call 100;(with_reducible refine(zf.calls k2 ((qg l0_1 x35_2).f0) true _ A27.out).mono ?_);rintro e w37 ⟨rfl,hb⟩;replace BK275:=zq.mk (ze (g:=gb275) (o:=.cells #[.string a0_0,.slice (some ad277) l0_1.length c0_1,.slice A0_2 l0_2.length c0_2,.slice A0_3 l0_3.length c0_3] 61 (0,0)) (by(with_reducible repeat(first|refine zz ?_ _|refine zk ?_|refine zj ?_ _));refine zqf ?_ NB275_278.out _;(with_reducible repeat(first|refine zz ?_ _|refine zk ?_|refine zj ?_ _));refine zqf ?_ NB275_278.out _;(with_reducible repeat(first|refine zz ?_ _|refine zk ?_|refine zj ?_ _));refine zqf ?_ NB275_278.out _;(with_reducible repeat(first|refine zz ?_ _|refine zk ?_|refine zj ?_ _));exact BK275.out) hb);replace BK278:=zq.mk (ze (g:=gb278) (o:=.cells #[.string ((qg l0_1 x35_2).f0),.int .i64 ((qg l0_1 x35_2).f1),.bool ((qg l0_1 x35_2).f2)] 90 (0,0)) (by(with_reducible repeat(first|refine zz ?_ _|refine zk ?_|refine zj ?_ _));refine qw (cs:=#[.string ((qg l0_1 x35_2).f0),.int .i64 ((qg l0_1 x35_2).f1),.bool false]) ?_ 2 _ rfl;(with_reducible repeat(first|refine zz ?_ _|refine zk ?_|refine zj ?_ _));refine qw (cs:=#[.string ((qg l0_1 x35_2).f0),.int .i64 0,.bool false]) ?_ 1 _ rfl;(with_reducible repeat(first|refine zz ?_ _|refine zk ?_|refine zj ?_ _));refine qw (cs:=#[.string (⟨#[]⟩:ByteArray),.int .i64 0,.bool false]) ?_ 0 _ rfl;(with_reducible repeat(first|refine zz ?_ _|refine zk ?_|refine zj ?_ _));exact BK278.out) hb);replace HB:=zq.mk (zn bw hb);(try clear hb);(try clear hb2);(try clear hk);(try clear hi);obtain ⟨hcz38_0,hcz38_1,hcz38_2,hfz38_0,hfz38_1,hfz38_2⟩:=qd BK278.out)))
           go_meet
           case rel=>exact⟨_,(false),vr,H',⟨by have:=HJ1.out;have:=HK2.out;first|omega|exact Nat.le_refl _⟩,⟨by(with_reducible repeat(first|refine zz ?_ _|refine zk ?_|refine zj ?_ _));exact BK275.out⟩,⟨by(with_reducible repeat(first|refine zz ?_ _|refine zk ?_|refine zj ?_ _));exact BK278.out⟩,⟨bw⟩⟩
          rw [if_neg c34] at H
          have c34b0:(((qg l0_1 x35_2).f1) == 2)=false:=beq_eq_false_iff_ne.mpr c34
          have c34b1:(((qg l0_1 x35_2).f1) != 2)=true:=bne_iff_ne.mpr c34
          have H':=zq.mk H
          clear H
          have hnb39:=NB278_275.out
          have hnc39:=NB275_278.out
          obtain ⟨hcz40_0,hcz40_1,hcz40_2,hfz40_0,hfz40_1,hfz40_2⟩:=qd BK278.out
          go_wp2_with (first|(go_at_call 100;(with_reducible refine(zf.calls k2 ((qg l0_1 x35_2).f0) true _ A27.out).mono ?_);rintro e w41 ⟨rfl,hb⟩;replace BK275:=zq.mk (ze (g:=gb275) (o:=.cells #[.string a0_0,.slice (some ad277) l0_1.length c0_1,.slice A0_2 l0_2.length c0_2,.slice A0_3 l0_3.length c0_3] 61 (0,0)) (by(with_reducible repeat(first|refine zz ?_ _|refine zk ?_|refine zj ?_ _));refine zqf ?_ NB275_278.out _;(with_reducible repeat(first|refine zz ?_ _|refine zk ?_|refine zj ?_ _));refine zqf ?_ NB275_278.out _;(with_reducible repeat(first|refine zz ?_ _|refine zk ?_|refine zj ?_ _));refine zqf ?_ NB275_278.out _;(with_reducible repeat(first|refine zz ?_ _|refine zk ?_|refine zj ?_ _));exact BK275.out) hb);replace BK278:=zq.mk (ze (g:=gb278) (o:=.cells #[.string ((qg l0_1 x35_2).f0),.int .i64 ((qg l0_1 x35_2).f1),.bool ((qg l0_1 x35_2).f2)] 90 (0,0)) (by(with_reducible repeat(first|refine zz ?_ _|refine zk ?_|refine zj ?_ _));refine qw (cs:=#[.string ((qg l0_1 x35_2).f0),.int .i64 ((qg l0_1 x35_2).f1),.bool false]) ?_ 2 _ rfl;(with_reducible repeat(first|refine zz ?_ _|refine zk ?_|refine zj ?_ _));refine qw (cs:=#[.string ((qg l0_1 x35_2).f0),.int .i64 0,.bool false]) ?_ 1 _ rfl;(with_reducible repeat(first|refine zz ?_ _|refine zk ?_|refine zj ?_ _));refine qw (cs:=#[.string (⟨#[]⟩:ByteArray),.int .i64 0,.bool false]) ?_ 0 _ rfl;(with_reducible repeat(first|refine zz ?_ _|refine zk ?_|refine zj ?_ _));exact BK278.out) hb);replace HB:=zq.mk (zn bw hb);(try clear hb);(try clear hb2);(try clear hk);(try clear hi);obtain ⟨hcz42_0,hcz42_1,hcz42_2,hfz42_0,hfz42_1,hfz42_2⟩:=qd BK278.out))
          repeat(go_quiet (first|(go_at_call 100;(with_reducible refine(zf.calls k2 ((qg l0_1 x35_2).f0) true _ A27.out).mono ?_);rintro e w41 ⟨rfl,hb⟩;replace BK275:=zq.mk (ze (g:=gb275) (o:=.cells #[.string a0_0,.slice (some ad277) l0_1.length c0_1,.slice A0_2 l0_2.length c0_2,.slice A0_3 l0_3.length c0_3] 61 (0,0)) (by(with_reducible repeat(first|refine zz ?_ _|refine zk ?_|refine zj ?_ _));refine zqf ?_ NB275_278.out _;(with_reducible repeat(first|refine zz ?_ _|refine zk ?_|refine zj ?_ _));refine zqf ?_ NB275_278.out _;(with_reducible repeat(first|refine zz ?_ _|refine zk ?_|refine zj ?_ _));refine zqf ?_ NB275_278.out _;(with_reducible repeat(first|refine zz ?_ _|refine zk ?_|refine zj ?_ _));exact BK275.out) hb);replace BK278:=zq.mk (ze (g:=gb278) (o:=.cells #[.string ((qg l0_1 x35_2).f0),.int .i64 ((qg l0_1 x35_2).f1),.bool ((qg l0_1 x35_2).f2)] 90 (0,0)) (by(with_reducible repeat(first|refine zz ?_ _|refine zk ?_|refine zj ?_ _));refine qw (cs:=#[.string ((qg l0_1 x35_2).f0),.int .i64 ((qg l0_1 x35_2).f1),.bool false]) ?_ 2 _ rfl;(with_reducible repeat(first|refine zz ?_ _|refine zk ?_|refine zj ?_ _));refine qw (cs:=#[.string ((qg l0_1 x35_2).f0),.int .i64 0,.bool false]) ?_ 1 _ rfl;(with_reducible repeat(first|refine zz ?_ _|refine zk ?_|refine zj ?_ _));refine qw (cs:=#[.string (⟨#[]⟩:ByteArray),.int .i64 0,.bool false]) ?_ 0 _ rfl;(with_reducible repeat(first|refine zz ?_ _|refine zk ?_|refine zj ?_ _));exact BK278.out) hb);replace HB:=zq.mk (zn bw hb);(try clear hb);(try clear hb2);(try clear hk);(try clear hi);obtain ⟨hcz42_0,hcz42_1,hcz42_2,hfz42_0,hfz42_1,hfz42_2⟩:=qd BK278.out));try go_wp2_with (first|(go_at_call 100;(with_reducible refine(zf.calls k2 ((qg l0_1 x35_2).f0) true _ A27.out).mono ?_);rintro e w41 ⟨rfl,hb⟩;replace BK275:=zq.mk (ze (g:=gb275) (o:=.cells #[.string a0_0,.slice (some ad277) l0_1.length c0_1,.slice A0_2 l0_2.length c0_2,.slice A0_3 l0_3.length c0_3] 61 (0,0)) (by(with_reducible repeat(first|refine zz ?_ _|refine zk ?_|refine zj ?_ _));refine zqf ?_ NB275_278.out _;(with_reducible repeat(first|refine zz ?_ _|refine zk ?_|refine zj ?_ _));refine zqf ?_ NB275_278.out _;(with_reducible repeat(first|refine zz ?_ _|refine zk ?_|refine zj ?_ _));refine zqf ?_ NB275_278.out _;(with_reducible repeat(first|refine zz ?_ _|refine zk ?_|refine zj ?_ _));exact BK275.out) hb);replace BK278:=zq.mk (ze (g:=gb278) (o:=.cells #[.string ((qg l0_1 x35_2).f0),.int .i64 ((qg l0_1 x35_2).f1),.bool ((qg l0_1 x35_2).f2)] 90 (0,0)) (by(with_reducible repeat(first|refine zz ?_ _|refine zk ?_|refine zj ?_ _));refine qw (cs:=#[.string ((qg l0_1 x35_2).f0),.int .i64 ((qg l0_1 x35_2).f1),.bool false]) ?_ 2 _ rfl;(with_reducible repeat(first|refine zz ?_ _|refine zk ?_|refine zj ?_ _));refine qw (cs:=#[.string ((qg l0_1 x35_2).f0),.int .i64 0,.bool false]) ?_ 1 _ rfl;(with_reducible repeat(first|refine zz ?_ _|refine zk ?_|refine zj ?_ _));refine qw (cs:=#[.string (⟨#[]⟩:ByteArray),.int .i64 0,.bool false]) ?_ 0 _ rfl;(with_reducible repeat(first|refine zz ?_ _|refine zk ?_|refine zj ?_ _));exact BK278.out) hb);replace HB:=zq.mk (zn bw hb);(try clear hb);(try clear hb2);(try clear hk);(try clear hi);obtain ⟨hcz42_0,hcz42_1,hcz42_2,hfz42_0,hfz42_1,hfz42_2⟩:=qd BK278.out)))
          go_meet
          case rel=>exact⟨_,((((qg l0_1 x35_2).f1) != 3)),vr,H',⟨by have:=HJ1.out;have:=HK2.out;first|omega|exact Nat.le_refl _⟩,⟨by(with_reducible repeat(first|refine zz ?_ _|refine zk ?_|refine zj ?_ _));exact BK275.out⟩,⟨by(with_reducible repeat(first|refine zz ?_ _|refine zk ?_|refine zj ?_ _));exact BK278.out⟩,⟨bw⟩⟩
         replace c28:=Bool.eq_false_iff.mpr c28
         subst c28
         rw [if_neg (show ¬ (false=true) by decide)] at H
         have H':=zq.mk H
         clear H
         have hnb43:=NB278_275.out
         have hnc43:=NB275_278.out
         obtain ⟨hcz44_0,hcz44_1,hcz44_2,hfz44_0,hfz44_1,hfz44_2⟩:=qd BK278.out
         go_wp2_with (first|(go_at_call 100;(with_reducible refine(zf.calls k2 ((qg l0_1 x35_2).f0) false _ A27.out).mono ?_);rintro e w45 ⟨rfl,hb⟩;replace BK275:=zq.mk (ze (g:=gb275) (o:=.cells #[.string a0_0,.slice (some ad277) l0_1.length c0_1,.slice A0_2 l0_2.length c0_2,.slice A0_3 l0_3.length c0_3] 61 (0,0)) (by(with_reducible repeat(first|refine zz ?_ _|refine zk ?_|refine zj ?_ _));refine zqf ?_ NB275_278.out _;(with_reducible repeat(first|refine zz ?_ _|refine zk ?_|refine zj ?_ _));refine zqf ?_ NB275_278.out _;(with_reducible repeat(first|refine zz ?_ _|refine zk ?_|refine zj ?_ _));refine zqf ?_ NB275_278.out _;(with_reducible repeat(first|refine zz ?_ _|refine zk ?_|refine zj ?_ _));exact BK275.out) hb);replace BK278:=zq.mk (ze (g:=gb278) (o:=.cells #[.string ((qg l0_1 x35_2).f0),.int .i64 ((qg l0_1 x35_2).f1),.bool ((qg l0_1 x35_2).f2)] 90 (0,0)) (by(with_reducible repeat(first|refine zz ?_ _|refine zk ?_|refine zj ?_ _));refine qw (cs:=#[.string ((qg l0_1 x35_2).f0),.int .i64 ((qg l0_1 x35_2).f1),.bool false]) ?_ 2 _ rfl;(with_reducible repeat(first|refine zz ?_ _|refine zk ?_|refine zj ?_ _));refine qw (cs:=#[.string ((qg l0_1 x35_2).f0),.int .i64 0,.bool false]) ?_ 1 _ rfl;(with_reducible repeat(first|refine zz ?_ _|refine zk ?_|refine zj ?_ _));refine qw (cs:=#[.string (⟨#[]⟩:ByteArray),.int .i64 0,.bool false]) ?_ 0 _ rfl;(with_reducible repeat(first|refine zz ?_ _|refine zk ?_|refine zj ?_ _));exact BK278.out) hb);replace HB:=zq.mk (zn bw hb);(try clear hb);(try clear hb2);(try clear hk);(try clear hi)))
         repeat(go_quiet (first|(go_at_call 100;(with_reducible refine(zf.calls k2 ((qg l0_1 x35_2).f0) false _ A27.out).mono ?_);rintro e w45 ⟨rfl,hb⟩;replace BK275:=zq.mk (ze (g:=gb275) (o:=.cells #[.string a0_0,.slice (some ad277) l0_1.length c0_1,.slice A0_2 l0_2.length c0_2,.slice A0_3 l0_3.length c0_3] 61 (0,0)) (by(with_reducible repeat(first|refine zz ?_ _|refine zk ?_|refine zj ?_ _));refine zqf ?_ NB275_278.out _;(with_reducible repeat(first|refine zz ?_ _|refine zk ?_|refine zj ?_ _));refine zqf ?_ NB275_278.out _;(with_reducible repeat(first|refine zz ?_ _|refine zk ?_|refine zj ?_ _));refine zqf ?_ NB275_278.out _;(with_reducible repeat(first|refine zz ?_ _|refine zk ?_|refine zj ?_ _));exact BK275.out) hb);replace BK278:=zq.mk (ze (g:=gb278) (o:=.cells #[.string ((qg l0_1 x35_2).f0),.int .i64 ((qg l0_1 x35_2).f1),.bool ((qg l0_1 x35_2).f2)] 90 (0,0)) (by(with_reducible repeat(first|refine zz ?_ _|refine zk ?_|refine zj ?_ _));refine qw (cs:=#[.string ((qg l0_1 x35_2).f0),.int .i64 ((qg l0_1 x35_2).f1),.bool false]) ?_ 2 _ rfl;(with_reducible repeat(first|refine zz ?_ _|refine zk ?_|refine zj ?_ _));refine qw (cs:=#[.string ((qg l0_1 x35_2).f0),.int .i64 0,.bool false]) ?_ 1 _ rfl;(with_reducible repeat(first|refine zz ?_ _|refine zk ?_|refine zj ?_ _));refine qw (cs:=#[.string (⟨#[]⟩:ByteArray),.int .i64 0,.bool false]) ?_ 0 _ rfl;(with_reducible repeat(first|refine zz ?_ _|refine zk ?_|refine zj ?_ _));exact BK278.out) hb);replace HB:=zq.mk (zn bw hb);(try clear hb);(try clear hb2);(try clear hk);(try clear hi)));try go_wp2_with (first|(go_at_call 100;(with_reducible refine(zf.calls k2 ((qg l0_1 x35_2).f0) false _ A27.out).mono ?_);rintro e w45 ⟨rfl,hb⟩;replace BK275:=zq.mk (ze (g:=gb275) (o:=.cells #[.string a0_0,.slice (some ad277) l0_1.length c0_1,.slice A0_2 l0_2.length c0_2,.slice A0_3 l0_3.length c0_3] 61 (0,0)) (by(with_reducible repeat(first|refine zz ?_ _|refine zk ?_|refine zj ?_ _));refine zqf ?_ NB275_278.out _;(with_reducible repeat(first|refine zz ?_ _|refine zk ?_|refine zj ?_ _));refine zqf ?_ NB275_278.out _;(with_reducible repeat(first|refine zz ?_ _|refine zk ?_|refine zj ?_ _));refine zqf ?_ NB275_278.out _;(with_reducible repeat(first|refine zz ?_ _|refine zk ?_|refine zj ?_ _));exact BK275.out) hb);replace BK278:=zq.mk (ze (g:=gb278) (o:=.cells #[.string ((qg l0_1 x35_2).f0),.int .i64 ((qg l0_1 x35_2).f1),.bool ((qg l0_1 x35_2).f2)] 90 (0,0)) (by(with_reducible repeat(first|refine zz ?_ _|refine zk ?_|refine zj ?_ _));refine qw (cs:=#[.string ((qg l0_1 x35_2).f0),.int .i64 ((qg l0_1 x35_2).f1),.bool false]) ?_ 2 _ rfl;(with_reducible repeat(first|refine zz ?_ _|refine zk ?_|refine zj ?_ _));refine qw (cs:=#[.string ((qg l0_1 x35_2).f0),.int .i64 0,.bool false]) ?_ 1 _ rfl;(with_reducible repeat(first|refine zz ?_ _|refine zk ?_|refine zj ?_ _));refine qw (cs:=#[.string (⟨#[]⟩:ByteArray),.int .i64 0,.bool false]) ?_ 0 _ rfl;(with_reducible repeat(first|refine zz ?_ _|refine zk ?_|refine zj ?_ _));exact BK278.out) hb);replace HB:=zq.mk (zn bw hb);(try clear hb);(try clear hb2);(try clear hk);(try clear hi))))
         go_meet
         case rel=>exact⟨_,(true),vr,H',⟨by have:=HJ1.out;have:=HK2.out;first|omega|exact Nat.le_refl _⟩,⟨by(with_reducible repeat(first|refine zz ?_ _|refine zk ?_|refine zj ?_ _));exact BK275.out⟩,⟨by(with_reducible repeat(first|refine zz ?_ _|refine zk ?_|refine zj ?_ _));exact BK278.out⟩,⟨bw⟩⟩
        case rest=>
         clear HC23
         (try clear c18);(try clear c20);(try clear c20b0);(try clear c21);(try clear c21b0);(try clear c22);(try clear c22b0);(try clear hcz19_0);(try clear hcz19_1);(try clear hcz19_2);(try clear hcz19_3);(try clear hcz26_0);(try clear hcz26_1);(try clear hcz26_2);(try clear hcz4_0);(try clear hcz4_1);(try clear hcz4_2);(try clear hcz4_3);(try clear hfz19_0);(try clear hfz19_1);(try clear hfz19_2);(try clear hfz19_3);(try clear hfz26_0);(try clear hfz26_1);(try clear hfz26_2);(try clear hfz4_0);(try clear hfz4_1);(try clear hfz4_2);(try clear hfz4_3);(try clear hx277_0);(try clear hx277_1);(try clear hx277_2);(try clear p277);(try clear q277)
         obtain ⟨kq,x58_22,rfl,HA,HJ22,BK275,BK278,HB⟩:=hcut
         cases kq with
         | zero=>exact absurd HA.out (by simp [zv.j2])
         | succ kj22=>
          have H:=HA.out
          clear HA
          simp only [zv.j2] at H
          by_cases c46:x58_22=true
          ·subst c46
           rw [if_pos rfl] at H
           obtain rfl:=Option.some.inj H
           go_wp2
           repeat(go_quiet (fail);try go_wp2)
           go_ret
           exact⟨by first|rfl|(simp [zg,zy] <;> rfl)|(simp [*,zg,zy] <;> rfl),bw⟩
          replace c46:=Bool.eq_false_iff.mpr c46
          subst c46
          rw [if_neg (show ¬ (false=true) by decide)] at H
          have H':=zq.mk H
          clear H
          go_wp2
          repeat(go_quiet (fail);try go_wp2)
          go_loopg [6] kj22 (fun kq v6 w' => ∃ (x6_4:Int),v6 = .int .i64 x6_4∧zq (zv.l1 kq (l0_1.length:Int) x35_2 x6_4 l0_1 (l0_1.length:Int) x35_2 a0_0 l0_1 l0_2 l0_3 ((qg l0_1 x35_2).f0) ((qg l0_1 x35_2).f1) ((qg l0_1 x35_2).f2)=some r)∧zq (kq≤kj22)∧zq (w'.heap[gb275]? = some (.cells #[.string a0_0,(.slice (some ad277) l0_1.length c0_1),(.slice A0_2 l0_2.length c0_2),(.slice A0_3 l0_3.length c0_3)] 61 (0,0)))∧zq (w'.heap[gb278]? = some (.cells #[.string ((qg l0_1 x35_2).f0),.int .i64 ((qg l0_1 x35_2).f1),.bool ((qg l0_1 x35_2).f2)] 90 (0,0)))∧zq (Below w.heap.size w w'))
          case atStart=>exact⟨(0),vr,H',⟨Nat.le_refl _⟩,⟨by(with_reducible repeat(first|refine zz ?_ _|refine zk ?_|refine zj ?_ _));exact BK275.out⟩,⟨by(with_reducible repeat(first|refine zz ?_ _|refine zk ?_|refine zj ?_ _));exact BK278.out⟩,⟨bw⟩⟩
          case round=>
           clear H'
           (try clear c18);(try clear c20);(try clear c20b0);(try clear c21);(try clear c21b0);(try clear c22);(try clear c22b0);(try clear c46);(try clear hcz19_0);(try clear hcz19_1);(try clear hcz19_2);(try clear hcz19_3);(try clear hcz26_0);(try clear hcz26_1);(try clear hcz26_2);(try clear hcz4_0);(try clear hcz4_1);(try clear hcz4_2);(try clear hcz4_3);(try clear hfz19_0);(try clear hfz19_1);(try clear hfz19_2);(try clear hfz19_3);(try clear hfz26_0);(try clear hfz26_1);(try clear hfz26_2);(try clear hfz4_0);(try clear hfz4_1);(try clear hfz4_2);(try clear hfz4_3);(try clear hx277_0);(try clear hx277_1);(try clear hx277_2);(try clear p277);(try clear q277)
           obtain ⟨x6_4,rfl,HA,HK4,BK275,BK278,HB⟩:=hrel
           cases gk with
           | zero=>exact absurd HA.out (by simp [zv.l1])
           | succ k4=>
            have H:=HA.out
            clear HA
            simp only [zv.l1] at H
            by_cases c47:x6_4<x35_2
            ·rw [if_pos c47] at H
             have c47b0:=decide_eq_true c47
             clear c47
             by_cases c48:0≤x6_4
             ·rw [if_pos c48] at H
              have c48b0:=decide_eq_true c48
              clear c48
              by_cases c49:x6_4<(l0_1.length:Int)
              ·rw [if_pos c49] at H
               have c49b0:=decide_eq_true c49
               clear c49
               by_cases c50:((qg l0_1 x6_4).f0).toList=((qg l0_1 x35_2).f0).toList
               ·rw [if_pos c50] at H
                have c50b0:(((qg l0_1 x6_4).f0).toList == ((qg l0_1 x35_2).f0).toList)=true:=beq_iff_eq.mpr c50
                have c50b1:(((qg l0_1 x6_4).f0).toList != ((qg l0_1 x35_2).f0).toList)=false:=bne_eq_false_iff_eq.mpr c50
                clear c50
                obtain rfl:=Option.some.inj H
                have hnb51:=NB275_278.out
                have hnc51:=NB278_275.out
                obtain ⟨hcz52_0,hcz52_1,hcz52_2,hcz52_3,hfz52_0,hfz52_1,hfz52_2,hfz52_3⟩:=zqv BK275.out
                have p280:0≤(x6_4:Int):=dt
                have q280:x6_4<(l0_1.length:Int):=dt
                obtain ⟨ad280,e280,hx280_0,hx280_1,hx280_2⟩:=zx1 HR0_1.out x6_4 p280 q280
                obtain rfl:ad277=ad280:=(by injection e280)
                replace hx280_0:=(HB.out.cell (World.block_lt_of_cell? w _ hx280_0)).trans hx280_0
                replace hx280_1:=(HB.out.cell (World.block_lt_of_cell? w _ hx280_1)).trans hx280_1
                replace hx280_2:=(HB.out.cell (World.block_lt_of_cell? w _ hx280_2)).trans hx280_2
                replace p280:=eq_true p280
                replace q280:=eq_true q280
                obtain ⟨hcz53_0,hcz53_1,hcz53_2,hfz53_0,hfz53_1,hfz53_2⟩:=qd BK278.out
                go_wp2
                repeat(go_quiet (fail);try go_wp2)
                go_ret
                exact⟨by first|rfl|(simp [zg,zy] <;> rfl)|(simp [*,zg,zy] <;> rfl),bw⟩
               rw [if_neg c50] at H
               have c50b0:(((qg l0_1 x6_4).f0).toList == ((qg l0_1 x35_2).f0).toList)=false:=beq_eq_false_iff_ne.mpr c50
               have c50b1:(((qg l0_1 x6_4).f0).toList != ((qg l0_1 x35_2).f0).toList)=true:=bne_iff_ne.mpr c50
               have H':=zq.mk H
               clear H
               have hnb54:=NB275_278.out
               have hnc54:=NB278_275.out
               obtain ⟨hcz55_0,hcz55_1,hcz55_2,hcz55_3,hfz55_0,hfz55_1,hfz55_2,hfz55_3⟩:=zqv BK275.out
               have p280:0≤(x6_4:Int):=dt
               have q280:x6_4<(l0_1.length:Int):=dt
               obtain ⟨ad280,e280,hx280_0,hx280_1,hx280_2⟩:=zx1 HR0_1.out x6_4 p280 q280
               obtain rfl:ad277=ad280:=(by injection e280)
               replace hx280_0:=(HB.out.cell (World.block_lt_of_cell? w _ hx280_0)).trans hx280_0
               replace hx280_1:=(HB.out.cell (World.block_lt_of_cell? w _ hx280_1)).trans hx280_1
               replace hx280_2:=(HB.out.cell (World.block_lt_of_cell? w _ hx280_2)).trans hx280_2
               replace p280:=eq_true p280
               replace q280:=eq_true q280
               obtain ⟨hcz56_0,hcz56_1,hcz56_2,hfz56_0,hfz56_1,hfz56_2⟩:=qd BK278.out
               go_wp2
               repeat(go_quiet (fail);try go_wp2)
               go_roundg k4
               case measure=>have:=HJ1.out;have:=HK2.out;have:=HJ22.out;have:=HK4.out;omega
               case rel=>exact⟨(wrap64 (x6_4+1)),vr,H',⟨by have:=HJ1.out;have:=HK2.out;have:=HJ22.out;have:=HK4.out;omega⟩,⟨by(with_reducible repeat(first|refine zz ?_ _|refine zk ?_|refine zj ?_ _));exact BK275.out⟩,⟨by(with_reducible repeat(first|refine zz ?_ _|refine zk ?_|refine zj ?_ _));exact BK278.out⟩,⟨bw⟩⟩
              rw [if_neg c49] at H
              exact absurd H (by simp)
             rw [if_neg c48] at H
             exact absurd H (by simp)
            rw [if_neg c47] at H
            have c47b0:=decide_eq_false c47
            clear c47
            have H':=zq.mk H
            clear H
            go_wp2
            repeat(go_quiet (fail);try go_wp2)
            go_roundg k4
            case measure=>have:=HJ1.out;have:=HK2.out;have:=HJ22.out;have:=HK4.out;omega
            case rel=>exact⟨(wrap64 (x35_2+1)),vr,H',⟨by have:=HJ1.out;have:=HK2.out;have:=HJ22.out;have:=HK4.out;omega⟩,⟨by(with_reducible repeat(first|refine zz ?_ _|refine zk ?_|refine zj ?_ _));exact BK275.out⟩,⟨bw⟩⟩
       rw [if_neg c22] at H
       exact absurd H (by simp)
      rw [if_neg c21] at H
      exact absurd H (by simp)
     rw [if_neg c20] at H
     have c20b0:=decide_eq_false c20
     clear c20
     replace H:=Option.bind_eq_some_iff.mp H
     obtain ⟨t281,A570,H⟩:=H
     replace H:(if t281=true then(zv.l2 k2 (l0_1.length:Int) 0 a0_0 l0_1 l0_2 l0_3) else (some false))=some r:=H
     have A57:=zq.mk A570
     clear A570
     by_cases c58:t281=true
     ·subst c58
      rw [if_pos rfl] at H
      have H':=zq.mk H
      clear H
      obtain ⟨hcz59_0,hcz59_1,hcz59_2,hcz59_3,hfz59_0,hfz59_1,hfz59_2,hfz59_3⟩:=zqv BK275.out
      go_wp2_with (first|(go_at_call 101;(with_reducible refine(zh.calls k2 _ _ l0_2 (l0_1.length:Int) true _ ?side1 ?side2 A57.out).mono ?_);(case side1=>exact Kd.cu (Kd.qu HR0_2.out HB.out));(case side2=>exact HC0_2.out);rintro e w' ⟨rfl,⟨nd,rfl⟩⟩;(try first|exact⟨rfl,_,World.drewN_drewN _ _ _⟩|exact⟨rfl,_,Eq.trans (World.drewN_drewN _ _ _) (congrArg (World.drewN _) (Nat.add_assoc _ _ _))⟩)))
      repeat(go_quiet (first|(go_at_call 101;(with_reducible refine(zh.calls k2 _ _ l0_2 (l0_1.length:Int) true _ ?side1 ?side2 A57.out).mono ?_);(case side1=>exact Kd.cu (Kd.qu HR0_2.out HB.out));(case side2=>exact HC0_2.out);rintro e w' ⟨rfl,⟨nd,rfl⟩⟩;(try first|exact⟨rfl,_,World.drewN_drewN _ _ _⟩|exact⟨rfl,_,Eq.trans (World.drewN_drewN _ _ _) (congrArg (World.drewN _) (Nat.add_assoc _ _ _))⟩)));try go_wp2_with (first|(go_at_call 101;(with_reducible refine(zh.calls k2 _ _ l0_2 (l0_1.length:Int) true _ ?side1 ?side2 A57.out).mono ?_);(case side1=>exact Kd.cu (Kd.qu HR0_2.out HB.out));(case side2=>exact HC0_2.out);rintro e w' ⟨rfl,⟨nd,rfl⟩⟩;(try first|exact⟨rfl,_,World.drewN_drewN _ _ _⟩|exact⟨rfl,_,Eq.trans (World.drewN_drewN _ _ _) (congrArg (World.drewN _) (Nat.add_assoc _ _ _))⟩))))
      go_loopg [7] k2 (fun kq v7 w' => ∃ (x7_3:Int),v7 = .int .i64 x7_3∧zq (zv.l2 kq (l0_1.length:Int) x7_3 a0_0 l0_1 l0_2 l0_3=some r)∧zq (kq≤k2)∧zq (w'.heap[gb275]? = some (.cells #[.string a0_0,(.slice A0_1 l0_1.length c0_1),(.slice A0_2 l0_2.length c0_2),(.slice A0_3 l0_3.length c0_3)] 61 (0,0)))∧zq (Below w.heap.size w w'))
      case atStart=>exact⟨(0),vr,H',⟨Nat.le_refl _⟩,⟨by(with_reducible repeat(first|refine zz ?_ _|refine zk ?_|refine zj ?_ _));exact BK275.out⟩,⟨bw⟩⟩
      case round=>
       clear H'
       (try clear c18);(try clear c20);(try clear c20b0);(try clear c58);(try clear hcz19_0);(try clear hcz19_1);(try clear hcz19_2);(try clear hcz19_3);(try clear hcz4_0);(try clear hcz4_1);(try clear hcz4_2);(try clear hcz4_3);(try clear hcz59_0);(try clear hcz59_1);(try clear hcz59_2);(try clear hcz59_3);(try clear hfz19_0);(try clear hfz19_1);(try clear hfz19_2);(try clear hfz19_3);(try clear hfz4_0);(try clear hfz4_1);(try clear hfz4_2);(try clear hfz4_3);(try clear hfz59_0);(try clear hfz59_1);(try clear hfz59_2);(try clear hfz59_3)
       (try clear BK275)
       obtain ⟨x7_3,rfl,HA,HK3,BK275,HB⟩:=hrel
       cases gk with
       | zero=>exact absurd HA.out (by simp [zv.l2])
       | succ k3=>
        have H:=HA.out
        clear HA
        simp only [zv.l2] at H
        by_cases c60:x7_3<(l0_2.length:Int)
        ·rw [if_pos c60] at H
         have c60b0:=decide_eq_true c60
         clear c60
         by_cases c61:0≤x7_3
         ·rw [if_pos c61] at H
          have c61b0:=decide_eq_true c61
          clear c61
          by_cases c62:0≤(rd l0_2 x7_3)
          ·rw [if_pos c62] at H
           have c62b0:=decide_eq_true c62
           clear c62
           by_cases c63:(rd l0_2 x7_3)<(l0_1.length:Int)
           ·rw [if_pos c63] at H
            have c63b0:=decide_eq_true c63
            clear c63
            obtain ⟨bq64,hbq64⟩:∃ b_:Bool,b_=((qg l0_1 (rd l0_2 x7_3)).f2):=⟨_,rfl⟩
            replace H:(if(bq64=true) then(zv.l2 k3 (l0_1.length:Int) (wrap64 (x7_3+1)) a0_0 l0_1 l0_2 l0_3) else (some false))=some r:=by rw [← hbq64] at H;exact H
            have Nbq64:=zq.mk hbq64
            clear hbq64
            by_cases c65:(bq64=true)
            ·subst c65
             rw [if_pos rfl] at H
             (try rw [← Nbq64.out] at hx277_0)
             (try rw [← Nbq64.out] at hx277_1)
             (try rw [← Nbq64.out] at hx277_2)
             (try rw [← Nbq64.out] at hx280_0)
             (try rw [← Nbq64.out] at hx280_1)
             (try rw [← Nbq64.out] at hx280_2)
             (try rw [← Nbq64.out])
             have H':=zq.mk H
             clear H
             obtain ⟨hcz66_0,hcz66_1,hcz66_2,hcz66_3,hfz66_0,hfz66_1,hfz66_2,hfz66_3⟩:=zqv BK275.out
             have p282:0≤(x7_3:Int):=dt
             have q282:x7_3<(l0_2.length:Int):=dt
             obtain ⟨ad282,e282,hx282_0⟩:=Kd.zjb HR0_2.out x7_3 p282 q282
             cases e282
             replace hx282_0:=(HB.out.cell (World.block_lt_of_cell? w _ hx282_0)).trans hx282_0
             replace p282:=eq_true p282
             replace q282:=eq_true q282
             have p283:0≤((rd l0_2 x7_3):Int):=dt
             have q283:(rd l0_2 x7_3)<(l0_1.length:Int):=dt
             obtain ⟨ad283,e283,hx283_0,hx283_1,hx283_2⟩:=zx1 HR0_1.out (rd l0_2 x7_3) p283 q283
             (try rw [← Nbq64.out] at hx283_2)
             cases e283
             replace hx283_0:=(HB.out.cell (World.block_lt_of_cell? w _ hx283_0)).trans hx283_0
             replace hx283_1:=(HB.out.cell (World.block_lt_of_cell? w _ hx283_1)).trans hx283_1
             replace hx283_2:=(HB.out.cell (World.block_lt_of_cell? w _ hx283_2)).trans hx283_2
             replace p283:=eq_true p283
             replace q283:=eq_true q283
             go_wp2
             repeat(go_quiet (fail);try go_wp2)
             go_roundg k3
             case measure=>have:=HJ1.out;have:=HK2.out;have:=HK3.out;omega
             case rel=>first|(exact⟨(wrap64 (x7_3+1)),vr,H',⟨by have:=HJ1.out;have:=HK2.out;have:=HK3.out;omega⟩,⟨by(with_reducible repeat(first|refine zz ?_ _|refine zk ?_|refine zj ?_ _));exact BK275.out⟩,⟨bw⟩⟩)|(simp only [← Nbq64.out];exact⟨(wrap64 (x7_3+1)),vr,H',⟨by have:=HJ1.out;have:=HK2.out;have:=HK3.out;omega⟩,⟨by(with_reducible repeat(first|refine zz ?_ _|refine zk ?_|refine zj ?_ _));exact BK275.out⟩,⟨bw⟩⟩)
            replace c65:=Bool.eq_false_iff.mpr c65
            subst c65
            rw [if_neg (show ¬ (false=true) by decide)] at H
            (try rw [← Nbq64.out] at hx280_0)
            (try rw [← Nbq64.out] at hx280_1)
            (try rw [← Nbq64.out] at hx280_2)
            (try rw [← Nbq64.out] at hx277_0)
            (try rw [← Nbq64.out] at hx277_1)
            (try rw [← Nbq64.out] at hx277_2)
            (try rw [← Nbq64.out] at hx282_0)
            (try rw [← Nbq64.out] at hx283_0)
            (try rw [← Nbq64.out] at hx283_1)
            (try rw [← Nbq64.out] at hx283_2)
            (try rw [← Nbq64.out])
            obtain rfl:=Option.some.inj H
            obtain ⟨hcz67_0,hcz67_1,hcz67_2,hcz67_3,hfz67_0,hfz67_1,hfz67_2,hfz67_3⟩:=zqv BK275.out
            have p282:0≤(x7_3:Int):=dt
            have q282:x7_3<(l0_2.length:Int):=dt
            obtain ⟨ad282,e282,hx282_0⟩:=Kd.zjb HR0_2.out x7_3 p282 q282
            cases e282
            replace hx282_0:=(HB.out.cell (World.block_lt_of_cell? w _ hx282_0)).trans hx282_0
            replace p282:=eq_true p282
            replace q282:=eq_true q282
            have p283:0≤((rd l0_2 x7_3):Int):=dt
            have q283:(rd l0_2 x7_3)<(l0_1.length:Int):=dt
            obtain ⟨ad283,e283,hx283_0,hx283_1,hx283_2⟩:=zx1 HR0_1.out (rd l0_2 x7_3) p283 q283
            (try rw [← Nbq64.out] at hx283_2)
            cases e283
            replace hx283_0:=(HB.out.cell (World.block_lt_of_cell? w _ hx283_0)).trans hx283_0
            replace hx283_1:=(HB.out.cell (World.block_lt_of_cell? w _ hx283_1)).trans hx283_1
            replace hx283_2:=(HB.out.cell (World.block_lt_of_cell? w _ hx283_2)).trans hx283_2
            replace p283:=eq_true p283
            replace q283:=eq_true q283
            go_wp2
            repeat(go_quiet (fail);try go_wp2)
            go_ret
            exact⟨by first|rfl|(simp [zg,zy] <;> rfl)|(simp [*,zg,zy] <;> rfl),bw⟩
           rw [if_neg c63] at H
           exact absurd H (by simp)
          rw [if_neg c62] at H
          exact absurd H (by simp)
         rw [if_neg c61] at H
         exact absurd H (by simp)
        rw [if_neg c60] at H
        have c60b0:=decide_eq_false c60
        clear c60
        have H':=zq.mk H
        clear H
        obtain ⟨hcz68_0,hcz68_1,hcz68_2,hcz68_3,hfz68_0,hfz68_1,hfz68_2,hfz68_3⟩:=zqv BK275.out
        go_wp2
        repeat(go_quiet (fail);try go_wp2)
        go_loopg [100] k3 (fun kq v100 w' => ∃ (x100_4:Int),v100 = .int .i64 x100_4∧zq (zv.l3 kq (l0_1.length:Int) l0_3 (l0_3.length:Int) x100_4 a0_0 l0_1 l0_2 l0_3=some r)∧zq (kq≤k3)∧zq (w'.heap[gb275]? = some (.cells #[.string a0_0,(.slice A0_1 l0_1.length c0_1),(.slice A0_2 l0_2.length c0_2),(.slice A0_3 l0_3.length c0_3)] 61 (0,0)))∧zq (Below w.heap.size w w'))
        case atStart=>exact⟨(0),vr,H',⟨Nat.le_refl _⟩,⟨by(with_reducible repeat(first|refine zz ?_ _|refine zk ?_|refine zj ?_ _));exact BK275.out⟩,⟨bw⟩⟩
        case round=>
         clear H'
         (try clear c18);(try clear c20);(try clear c20b0);(try clear c58);(try clear c60);(try clear c60b0);(try clear hcz19_0);(try clear hcz19_1);(try clear hcz19_2);(try clear hcz19_3);(try clear hcz4_0);(try clear hcz4_1);(try clear hcz4_2);(try clear hcz4_3);(try clear hcz59_0);(try clear hcz59_1);(try clear hcz59_2);(try clear hcz59_3);(try clear hcz68_0);(try clear hcz68_1);(try clear hcz68_2);(try clear hcz68_3);(try clear hfz19_0);(try clear hfz19_1);(try clear hfz19_2);(try clear hfz19_3);(try clear hfz4_0);(try clear hfz4_1);(try clear hfz4_2);(try clear hfz4_3);(try clear hfz59_0);(try clear hfz59_1);(try clear hfz59_2);(try clear hfz59_3);(try clear hfz68_0);(try clear hfz68_1);(try clear hfz68_2);(try clear hfz68_3)
         (try clear BK275)
         obtain ⟨x100_4,rfl,HA,HK4,BK275,HB⟩:=hrel
         cases gk with
         | zero=>exact absurd HA.out (by simp [zv.l3])
         | succ k4=>
          have H:=HA.out
          clear HA
          simp only [zv.l3] at H
          by_cases c69:x100_4<(l0_3.length:Int)
          ·rw [if_pos c69] at H
           have c69b0:=decide_eq_true c69
           clear c69
           by_cases c70:0≤x100_4
           ·rw [if_pos c70] at H
            have c70b0:=decide_eq_true c70
            clear c70
            by_cases c71:x100_4<(l0_3.length:Int)
            ·rw [if_pos c71] at H
             have c71b0:=decide_eq_true c71
             clear c71
             have HC72:=zq.mk H
             clear H
             have p284:0≤(x100_4:Int):=dt
             have q284:x100_4<(l0_3.length:Int):=dt
             obtain ⟨ad284,A284_1,c284_1,e284,hx284_0,hx284_1,hl284_1,hi284_1⟩:=zvt HR0_3.out x100_4 p284 q284
             cases e284
             replace hx284_0:=(HB.out.cell (World.block_lt_of_cell? w _ hx284_0)).trans hx284_0
             replace hx284_1:=(HB.out.cell (World.block_lt_of_cell? w _ hx284_1)).trans hx284_1
             have HR284_1:=zq.mk hi284_1
             have HC284_1:=zq.mk hl284_1
             clear hi284_1 hl284_1
             replace p284:=eq_true p284
             replace q284:=eq_true q284
             go_upto_region 25 with (first|((with_reducible refine qr (N:=9) rfl ?_);(try(refine ql (by rfl) ?_;dsimp only));refine qm ?hg (N:=9) ?hd (cs:=#[.string (⟨#[]⟩:ByteArray),.slice none 0 0]) (t:=96) ?hr ?_;(case hd=>rfl);(case hg=>rfl);(case hr=>first|(go_simp;done)|(go_simp;rfl));intro gb285 hg w73 hbox hb;have BK285:=zq.mk (hbox);have GW285:=zq.mk ((by rw [hg];exact(zw bw):w.heap.size≤gb285));have GE285:=zq.mk ((by rw [hg];exact(zw bw):w.heap.size≤gb285));replace HB:=zq.mk (zn bw hb);have NB275_285:=zq.mk ((by rw [hg];exact Nat.ne_of_lt (zq3 (g:=gb275) (o:=.cells #[.string a0_0,.slice A0_1 l0_1.length c0_1,.slice A0_2 l0_2.length c0_2,.slice (some ad284) l0_3.length c0_3] 61 (0,0)) (up BK275.out)):gb275≠gb285));have NB285_275:=zq.mk ((by rw [hg];exact Nat.ne_of_gt (zq3 (g:=gb275) (o:=.cells #[.string a0_0,.slice A0_1 l0_1.length c0_1,.slice A0_2 l0_2.length c0_2,.slice (some ad284) l0_3.length c0_3] 61 (0,0)) (up BK275.out)):gb285≠gb275));replace BK275:=zq.mk (ze (g:=gb275) (o:=.cells #[.string a0_0,.slice A0_1 l0_1.length c0_1,.slice A0_2 l0_2.length c0_2,.slice (some ad284) l0_3.length c0_3] 61 (0,0)) (up BK275.out) hb);clear hb hbox hg;have hnb74:=NB285_275.out;have hnc74:=NB275_285.out;obtain ⟨hcz75_0,hcz75_1,hfz75_0,hfz75_1⟩:=zji BK285.out))
             repeat(go_quiet (first|((with_reducible refine qr (N:=9) rfl ?_);(try(refine ql (by rfl) ?_;dsimp only));refine qm ?hg (N:=9) ?hd (cs:=#[.string (⟨#[]⟩:ByteArray),.slice none 0 0]) (t:=96) ?hr ?_;(case hd=>rfl);(case hg=>rfl);(case hr=>first|(go_simp;done)|(go_simp;rfl));intro gb285 hg w73 hbox hb;have BK285:=zq.mk (hbox);have GW285:=zq.mk ((by rw [hg];exact(zw bw):w.heap.size≤gb285));have GE285:=zq.mk ((by rw [hg];exact(zw bw):w.heap.size≤gb285));replace HB:=zq.mk (zn bw hb);have NB275_285:=zq.mk ((by rw [hg];exact Nat.ne_of_lt (zq3 (g:=gb275) (o:=.cells #[.string a0_0,.slice A0_1 l0_1.length c0_1,.slice A0_2 l0_2.length c0_2,.slice (some ad284) l0_3.length c0_3] 61 (0,0)) (up BK275.out)):gb275≠gb285));have NB285_275:=zq.mk ((by rw [hg];exact Nat.ne_of_gt (zq3 (g:=gb275) (o:=.cells #[.string a0_0,.slice A0_1 l0_1.length c0_1,.slice A0_2 l0_2.length c0_2,.slice (some ad284) l0_3.length c0_3] 61 (0,0)) (up BK275.out)):gb285≠gb275));replace BK275:=zq.mk (ze (g:=gb275) (o:=.cells #[.string a0_0,.slice A0_1 l0_1.length c0_1,.slice A0_2 l0_2.length c0_2,.slice (some ad284) l0_3.length c0_3] 61 (0,0)) (up BK275.out) hb);clear hb hbox hg;have hnb74:=NB285_275.out;have hnc74:=NB275_285.out;obtain ⟨hcz75_0,hcz75_1,hfz75_0,hfz75_1⟩:=zji BK285.out));go_upto_region 25 with (first|((with_reducible refine qr (N:=9) rfl ?_);(try(refine ql (by rfl) ?_;dsimp only));refine qm ?hg (N:=9) ?hd (cs:=#[.string (⟨#[]⟩:ByteArray),.slice none 0 0]) (t:=96) ?hr ?_;(case hd=>rfl);(case hg=>rfl);(case hr=>first|(go_simp;done)|(go_simp;rfl));intro gb285 hg w73 hbox hb;have BK285:=zq.mk (hbox);have GW285:=zq.mk ((by rw [hg];exact(zw bw):w.heap.size≤gb285));have GE285:=zq.mk ((by rw [hg];exact(zw bw):w.heap.size≤gb285));replace HB:=zq.mk (zn bw hb);have NB275_285:=zq.mk ((by rw [hg];exact Nat.ne_of_lt (zq3 (g:=gb275) (o:=.cells #[.string a0_0,.slice A0_1 l0_1.length c0_1,.slice A0_2 l0_2.length c0_2,.slice (some ad284) l0_3.length c0_3] 61 (0,0)) (up BK275.out)):gb275≠gb285));have NB285_275:=zq.mk ((by rw [hg];exact Nat.ne_of_gt (zq3 (g:=gb275) (o:=.cells #[.string a0_0,.slice A0_1 l0_1.length c0_1,.slice A0_2 l0_2.length c0_2,.slice (some ad284) l0_3.length c0_3] 61 (0,0)) (up BK275.out)):gb285≠gb275));replace BK275:=zq.mk (ze (g:=gb275) (o:=.cells #[.string a0_0,.slice A0_1 l0_1.length c0_1,.slice A0_2 l0_2.length c0_2,.slice (some ad284) l0_3.length c0_3] 61 (0,0)) (up BK275.out) hb);clear hb hbox hg;have hnb74:=NB285_275.out;have hnc74:=NB275_285.out;obtain ⟨hcz75_0,hcz75_1,hfz75_0,hfz75_1⟩:=zji BK285.out)))
             (try simp only [Act.put,List.setIfInBounds_toArray,List.set_cons_zero,List.set_cons_succ])
             go_cut [115] (fun v115 wc => ∃ (kq:Nat) (x115_71:Bool),v115 = .bool x115_71∧zq (zv.j6 kq (l0_1.length:Int) x100_4 l0_3 (l0_3.length:Int) x100_4 x115_71 a0_0 l0_1 l0_2 l0_3 ((zqi l0_3 x100_4).f0) ((zqi l0_3 x100_4).f1)=some r)∧zq (kq≤k4)∧zq (wc.heap[gb275]? = some (.cells #[.string a0_0,(.slice A0_1 l0_1.length c0_1),(.slice A0_2 l0_2.length c0_2),(.slice (some ad284) l0_3.length c0_3)] 61 (0,0)))∧zq (wc.heap[gb285]? = some (.cells #[.string ((zqi l0_3 x100_4).f0),(.slice A284_1 ((zqi l0_3 x100_4).f1).length c284_1)] 96 (0,0)))∧zq (Below w.heap.size w wc))
             case first=>
              have H:=HC72.out
              clear HC72
              replace H:=Option.bind_eq_some_iff.mp H
              obtain ⟨t286,A760,H⟩:=H
              replace H:(if t286=true then((zh.f k4 ((zqi l0_3 x100_4).f1) (l0_1.length:Int)).bind fun t287=>(zv.j6 k4 (l0_1.length:Int) x100_4 l0_3 (l0_3.length:Int) x100_4 (!t287) a0_0 l0_1 l0_2 l0_3 ((zqi l0_3 x100_4).f0) ((zqi l0_3 x100_4).f1))) else (zv.j6 k4 (l0_1.length:Int) x100_4 l0_3 (l0_3.length:Int) x100_4 true a0_0 l0_1 l0_2 l0_3 ((zqi l0_3 x100_4).f0) ((zqi l0_3 x100_4).f1)))=some r:=H
              have A76:=zq.mk A760
              clear A760
              by_cases c77:t286=true
              ·subst c77
               rw [if_pos rfl] at H
               replace H:=Option.bind_eq_some_iff.mp H
               obtain ⟨t287,A780,H⟩:=H
               replace H:(zv.j6 k4 (l0_1.length:Int) x100_4 l0_3 (l0_3.length:Int) x100_4 (!t287) a0_0 l0_1 l0_2 l0_3 ((zqi l0_3 x100_4).f0) ((zqi l0_3 x100_4).f1))=some r:=H
               have A78:=zq.mk A780
               clear A780
               have H':=zq.mk H
               clear H
               have hnb79:=NB285_275.out
               have hnc79:=NB275_285.out
               obtain ⟨hcz80_0,hcz80_1,hfz80_0,hfz80_1⟩:=zji BK285.out
               go_wp2_with (first|(go_at_call 100;(with_reducible refine(zf.calls k4 ((zqi l0_3 x100_4).f0) true _ A76.out).mono ?_);rintro e w81 ⟨rfl,hb⟩;replace BK275:=zq.mk (ze (g:=gb275) (o:=.cells #[.string a0_0,.slice A0_1 l0_1.length c0_1,.slice A0_2 l0_2.length c0_2,.slice (some ad284) l0_3.length c0_3] 61 (0,0)) (by(with_reducible repeat(first|refine zz ?_ _|refine zk ?_|refine zj ?_ _));refine zqf ?_ NB275_285.out _;(with_reducible repeat(first|refine zz ?_ _|refine zk ?_|refine zj ?_ _));refine zqf ?_ NB275_285.out _;(with_reducible repeat(first|refine zz ?_ _|refine zk ?_|refine zj ?_ _));exact BK275.out) hb);replace BK285:=zq.mk (ze (g:=gb285) (o:=.cells #[.string ((zqi l0_3 x100_4).f0),.slice A284_1 ((zqi l0_3 x100_4).f1).length c284_1] 96 (0,0)) (by(with_reducible repeat(first|refine zz ?_ _|refine zk ?_|refine zj ?_ _));refine qw (cs:=#[.string ((zqi l0_3 x100_4).f0),.slice none 0 0]) ?_ 1 _ rfl;(with_reducible repeat(first|refine zz ?_ _|refine zk ?_|refine zj ?_ _));refine qw (cs:=#[.string (⟨#[]⟩:ByteArray),.slice none 0 0]) ?_ 0 _ rfl;(with_reducible repeat(first|refine zz ?_ _|refine zk ?_|refine zj ?_ _));exact BK285.out) hb);replace HB:=zq.mk (zn bw hb);(try clear hb);(try clear hb2);(try clear hk);(try clear hi);obtain ⟨hcz82_0,hcz82_1,hfz82_0,hfz82_1⟩:=zji BK285.out)|(go_at_call 101;(with_reducible refine(zh.calls k4 _ _ ((zqi l0_3 x100_4).f1) (l0_1.length:Int) t287 _ ?side1 ?side2 A78.out).mono ?_);(case side1=>exact Kd.cu (Kd.qu HR284_1.out HB.out));(case side2=>exact HC284_1.out);rintro e w' ⟨rfl,⟨nd,rfl⟩⟩;(try first|exact⟨rfl,_,World.drewN_drewN _ _ _⟩|exact⟨rfl,_,Eq.trans (World.drewN_drewN _ _ _) (congrArg (World.drewN _) (Nat.add_assoc _ _ _))⟩)))
               repeat(go_quiet (first|(go_at_call 100;(with_reducible refine(zf.calls k4 ((zqi l0_3 x100_4).f0) true _ A76.out).mono ?_);rintro e w81 ⟨rfl,hb⟩;replace BK275:=zq.mk (ze (g:=gb275) (o:=.cells #[.string a0_0,.slice A0_1 l0_1.length c0_1,.slice A0_2 l0_2.length c0_2,.slice (some ad284) l0_3.length c0_3] 61 (0,0)) (by(with_reducible repeat(first|refine zz ?_ _|refine zk ?_|refine zj ?_ _));refine zqf ?_ NB275_285.out _;(with_reducible repeat(first|refine zz ?_ _|refine zk ?_|refine zj ?_ _));refine zqf ?_ NB275_285.out _;(with_reducible repeat(first|refine zz ?_ _|refine zk ?_|refine zj ?_ _));exact BK275.out) hb);replace BK285:=zq.mk (ze (g:=gb285) (o:=.cells #[.string ((zqi l0_3 x100_4).f0),.slice A284_1 ((zqi l0_3 x100_4).f1).length c284_1] 96 (0,0)) (by(with_reducible repeat(first|refine zz ?_ _|refine zk ?_|refine zj ?_ _));refine qw (cs:=#[.string ((zqi l0_3 x100_4).f0),.slice none 0 0]) ?_ 1 _ rfl;(with_reducible repeat(first|refine zz ?_ _|refine zk ?_|refine zj ?_ _));refine qw (cs:=#[.string (⟨#[]⟩:ByteArray),.slice none 0 0]) ?_ 0 _ rfl;(with_reducible repeat(first|refine zz ?_ _|refine zk ?_|refine zj ?_ _));exact BK285.out) hb);replace HB:=zq.mk (zn bw hb);(try clear hb);(try clear hb2);(try clear hk);(try clear hi);obtain ⟨hcz82_0,hcz82_1,hfz82_0,hfz82_1⟩:=zji BK285.out)|(go_at_call 101;(with_reducible refine(zh.calls k4 _ _ ((zqi l0_3 x100_4).f1) (l0_1.length:Int) t287 _ ?side1 ?side2 A78.out).mono ?_);(case side1=>exact Kd.cu (Kd.qu HR284_1.out HB.out));(case side2=>exact HC284_1.out);rintro e w' ⟨rfl,⟨nd,rfl⟩⟩;(try first|exact⟨rfl,_,World.drewN_drewN _ _ _⟩|exact⟨rfl,_,Eq.trans (World.drewN_drewN _ _ _) (congrArg (World.drewN _) (Nat.add_assoc _ _ _))⟩)));try go_wp2_with (first|(go_at_call 100;(with_reducible refine(zf.calls k4 ((zqi l0_3 x100_4).f0) true _ A76.out).mono ?_);rintro e w81 ⟨rfl,hb⟩;replace BK275:=zq.mk (ze (g:=gb275) (o:=.cells #[.string a0_0,.slice A0_1 l0_1.length c0_1,.slice A0_2 l0_2.length c0_2,.slice (some ad284) l0_3.length c0_3] 61 (0,0)) (by(with_reducible repeat(first|refine zz ?_ _|refine zk ?_|refine zj ?_ _));refine zqf ?_ NB275_285.out _;(with_reducible repeat(first|refine zz ?_ _|refine zk ?_|refine zj ?_ _));refine zqf ?_ NB275_285.out _;(with_reducible repeat(first|refine zz ?_ _|refine zk ?_|refine zj ?_ _));exact BK275.out) hb);replace BK285:=zq.mk (ze (g:=gb285) (o:=.cells #[.string ((zqi l0_3 x100_4).f0),.slice A284_1 ((zqi l0_3 x100_4).f1).length c284_1] 96 (0,0)) (by(with_reducible repeat(first|refine zz ?_ _|refine zk ?_|refine zj ?_ _));refine qw (cs:=#[.string ((zqi l0_3 x100_4).f0),.slice none 0 0]) ?_ 1 _ rfl;(with_reducible repeat(first|refine zz ?_ _|refine zk ?_|refine zj ?_ _));refine qw (cs:=#[.string (⟨#[]⟩:ByteArray),.slice none 0 0]) ?_ 0 _ rfl;(with_reducible repeat(first|refine zz ?_ _|refine zk ?_|refine zj ?_ _));exact BK285.out) hb);replace HB:=zq.mk (zn bw hb);(try clear hb);(try clear hb2);(try clear hk);(try clear hi);obtain ⟨hcz82_0,hcz82_1,hfz82_0,hfz82_1⟩:=zji BK285.out)|(go_at_call 101;(with_reducible refine(zh.calls k4 _ _ ((zqi l0_3 x100_4).f1) (l0_1.length:Int) t287 _ ?side1 ?side2 A78.out).mono ?_);(case side1=>exact Kd.cu (Kd.qu HR284_1.out HB.out));(case side2=>exact HC284_1.out);rintro e w' ⟨rfl,⟨nd,rfl⟩⟩;(try first|exact⟨rfl,_,World.drewN_drewN _ _ _⟩|exact⟨rfl,_,Eq.trans (World.drewN_drewN _ _ _) (congrArg (World.drewN _) (Nat.add_assoc _ _ _))⟩))))
               go_meet
               case rel=>exact⟨_,(!t287),vr,H',⟨by have:=HJ1.out;have:=HK2.out;have:=HK3.out;have:=HK4.out;first|omega|exact Nat.le_refl _⟩,⟨by(with_reducible repeat(first|refine zz ?_ _|refine zk ?_|refine zj ?_ _));exact BK275.out⟩,⟨by(with_reducible repeat(first|refine zz ?_ _|refine zk ?_|refine zj ?_ _));exact BK285.out⟩,⟨bw⟩⟩
              replace c77:=Bool.eq_false_iff.mpr c77
              subst c77
              rw [if_neg (show ¬ (false=true) by decide)] at H
              have H':=zq.mk H
              clear H
              have hnb83:=NB285_275.out
              have hnc83:=NB275_285.out
              obtain ⟨hcz84_0,hcz84_1,hfz84_0,hfz84_1⟩:=zji BK285.out
              go_wp2_with (first|(go_at_call 100;(with_reducible refine(zf.calls k4 ((zqi l0_3 x100_4).f0) false _ A76.out).mono ?_);rintro e w85 ⟨rfl,hb⟩;replace BK275:=zq.mk (ze (g:=gb275) (o:=.cells #[.string a0_0,.slice A0_1 l0_1.length c0_1,.slice A0_2 l0_2.length c0_2,.slice (some ad284) l0_3.length c0_3] 61 (0,0)) (by(with_reducible repeat(first|refine zz ?_ _|refine zk ?_|refine zj ?_ _));refine zqf ?_ NB275_285.out _;(with_reducible repeat(first|refine zz ?_ _|refine zk ?_|refine zj ?_ _));refine zqf ?_ NB275_285.out _;(with_reducible repeat(first|refine zz ?_ _|refine zk ?_|refine zj ?_ _));exact BK275.out) hb);replace BK285:=zq.mk (ze (g:=gb285) (o:=.cells #[.string ((zqi l0_3 x100_4).f0),.slice A284_1 ((zqi l0_3 x100_4).f1).length c284_1] 96 (0,0)) (by(with_reducible repeat(first|refine zz ?_ _|refine zk ?_|refine zj ?_ _));refine qw (cs:=#[.string ((zqi l0_3 x100_4).f0),.slice none 0 0]) ?_ 1 _ rfl;(with_reducible repeat(first|refine zz ?_ _|refine zk ?_|refine zj ?_ _));refine qw (cs:=#[.string (⟨#[]⟩:ByteArray),.slice none 0 0]) ?_ 0 _ rfl;(with_reducible repeat(first|refine zz ?_ _|refine zk ?_|refine zj ?_ _));exact BK285.out) hb);replace HB:=zq.mk (zn bw hb);(try clear hb);(try clear hb2);(try clear hk);(try clear hi)))
              repeat(go_quiet (first|(go_at_call 100;(with_reducible refine(zf.calls k4 ((zqi l0_3 x100_4).f0) false _ A76.out).mono ?_);rintro e w85 ⟨rfl,hb⟩;replace BK275:=zq.mk (ze (g:=gb275) (o:=.cells #[.string a0_0,.slice A0_1 l0_1.length c0_1,.slice A0_2 l0_2.length c0_2,.slice (some ad284) l0_3.length c0_3] 61 (0,0)) (by(with_reducible repeat(first|refine zz ?_ _|refine zk ?_|refine zj ?_ _));refine zqf ?_ NB275_285.out _;(with_reducible repeat(first|refine zz ?_ _|refine zk ?_|refine zj ?_ _));refine zqf ?_ NB275_285.out _;(with_reducible repeat(first|refine zz ?_ _|refine zk ?_|refine zj ?_ _));exact BK275.out) hb);replace BK285:=zq.mk (ze (g:=gb285) (o:=.cells #[.string ((zqi l0_3 x100_4).f0),.slice A284_1 ((zqi l0_3 x100_4).f1).length c284_1] 96 (0,0)) (by(with_reducible repeat(first|refine zz ?_ _|refine zk ?_|refine zj ?_ _));refine qw (cs:=#[.string ((zqi l0_3 x100_4).f0),.slice none 0 0]) ?_ 1 _ rfl;(with_reducible repeat(first|refine zz ?_ _|refine zk ?_|refine zj ?_ _));refine qw (cs:=#[.string (⟨#[]⟩:ByteArray),.slice none 0 0]) ?_ 0 _ rfl;(with_reducible repeat(first|refine zz ?_ _|refine zk ?_|refine zj ?_ _));exact BK285.out) hb);replace HB:=zq.mk (zn bw hb);(try clear hb);(try clear hb2);(try clear hk);(try clear hi)));try go_wp2_with (first|(go_at_call 100;(with_reducible refine(zf.calls k4 ((zqi l0_3 x100_4).f0) false _ A76.out).mono ?_);rintro e w85 ⟨rfl,hb⟩;replace BK275:=zq.mk (ze (g:=gb275) (o:=.cells #[.string a0_0,.slice A0_1 l0_1.length c0_1,.slice A0_2 l0_2.length c0_2,.slice (some ad284) l0_3.length c0_3] 61 (0,0)) (by(with_reducible repeat(first|refine zz ?_ _|refine zk ?_|refine zj ?_ _));refine zqf ?_ NB275_285.out _;(with_reducible repeat(first|refine zz ?_ _|refine zk ?_|refine zj ?_ _));refine zqf ?_ NB275_285.out _;(with_reducible repeat(first|refine zz ?_ _|refine zk ?_|refine zj ?_ _));exact BK275.out) hb);replace BK285:=zq.mk (ze (g:=gb285) (o:=.cells #[.string ((zqi l0_3 x100_4).f0),.slice A284_1 ((zqi l0_3 x100_4).f1).length c284_1] 96 (0,0)) (by(with_reducible repeat(first|refine zz ?_ _|refine zk ?_|refine zj ?_ _));refine qw (cs:=#[.string ((zqi l0_3 x100_4).f0),.slice none 0 0]) ?_ 1 _ rfl;(with_reducible repeat(first|refine zz ?_ _|refine zk ?_|refine zj ?_ _));refine qw (cs:=#[.string (⟨#[]⟩:ByteArray),.slice none 0 0]) ?_ 0 _ rfl;(with_reducible repeat(first|refine zz ?_ _|refine zk ?_|refine zj ?_ _));exact BK285.out) hb);replace HB:=zq.mk (zn bw hb);(try clear hb);(try clear hb2);(try clear hk);(try clear hi))))
              go_meet
              case rel=>exact⟨_,(true),vr,H',⟨by have:=HJ1.out;have:=HK2.out;have:=HK3.out;have:=HK4.out;first|omega|exact Nat.le_refl _⟩,⟨by(with_reducible repeat(first|refine zz ?_ _|refine zk ?_|refine zj ?_ _));exact BK275.out⟩,⟨by(with_reducible repeat(first|refine zz ?_ _|refine zk ?_|refine zj ?_ _));exact BK285.out⟩,⟨bw⟩⟩
             case rest=>
              clear HC72
              (try clear c18);(try clear c20);(try clear c20b0);(try clear c58);(try clear c60);(try clear c60b0);(try clear c69);(try clear c69b0);(try clear c70);(try clear c70b0);(try clear c71);(try clear c71b0);(try clear hcz19_0);(try clear hcz19_1);(try clear hcz19_2);(try clear hcz19_3);(try clear hcz4_0);(try clear hcz4_1);(try clear hcz4_2);(try clear hcz4_3);(try clear hcz59_0);(try clear hcz59_1);(try clear hcz59_2);(try clear hcz59_3);(try clear hcz68_0);(try clear hcz68_1);(try clear hcz68_2);(try clear hcz68_3);(try clear hcz75_0);(try clear hcz75_1);(try clear hfz19_0);(try clear hfz19_1);(try clear hfz19_2);(try clear hfz19_3);(try clear hfz4_0);(try clear hfz4_1);(try clear hfz4_2);(try clear hfz4_3);(try clear hfz59_0);(try clear hfz59_1);(try clear hfz59_2);(try clear hfz59_3);(try clear hfz68_0);(try clear hfz68_1);(try clear hfz68_2);(try clear hfz68_3);(try clear hfz75_0);(try clear hfz75_1);(try clear hx284_0);(try clear hx284_1);(try clear p284);(try clear q284)
              obtain ⟨kq,x115_71,rfl,HA,HJ71,BK275,BK285,HB⟩:=hcut
              cases kq with
              | zero=>exact absurd HA.out (by simp [zv.j6])
              | succ kj71=>
               have H:=HA.out
               clear HA
               simp only [zv.j6] at H
               by_cases c86:x115_71=true
               ·subst c86
                rw [if_pos rfl] at H
                obtain rfl:=Option.some.inj H
                go_wp2
                repeat(go_quiet (fail);try go_wp2)
                go_ret
                exact⟨by first|rfl|(simp [zg,zy] <;> rfl)|(simp [*,zg,zy] <;> rfl),bw⟩
               replace c86:=Bool.eq_false_iff.mpr c86
               subst c86
               rw [if_neg (show ¬ (false=true) by decide)] at H
               have H':=zq.mk H
               clear H
               go_wp2
               repeat(go_quiet (fail);try go_wp2)
               go_loopg [10] kj71 (fun kq v10 w' => ∃ (x10_6:Int),v10 = .int .i64 x10_6∧zq (zv.l4 kq (l0_1.length:Int) x100_4 x10_6 l0_3 (l0_3.length:Int) x100_4 a0_0 l0_1 l0_2 l0_3 ((zqi l0_3 x100_4).f0) ((zqi l0_3 x100_4).f1)=some r)∧zq (kq≤kj71)∧zq (w'.heap[gb275]? = some (.cells #[.string a0_0,(.slice A0_1 l0_1.length c0_1),(.slice A0_2 l0_2.length c0_2),(.slice (some ad284) l0_3.length c0_3)] 61 (0,0)))∧zq (w'.heap[gb285]? = some (.cells #[.string ((zqi l0_3 x100_4).f0),(.slice A284_1 ((zqi l0_3 x100_4).f1).length c284_1)] 96 (0,0)))∧zq (Below w.heap.size w w'))
               case atStart=>exact⟨(0),vr,H',⟨Nat.le_refl _⟩,⟨by(with_reducible repeat(first|refine zz ?_ _|refine zk ?_|refine zj ?_ _));exact BK275.out⟩,⟨by(with_reducible repeat(first|refine zz ?_ _|refine zk ?_|refine zj ?_ _));exact BK285.out⟩,⟨bw⟩⟩
               case round=>
                clear H'
                (try clear c18);(try clear c20);(try clear c20b0);(try clear c58);(try clear c60);(try clear c60b0);(try clear c69);(try clear c69b0);(try clear c70);(try clear c70b0);(try clear c71);(try clear c71b0);(try clear c86);(try clear hcz19_0);(try clear hcz19_1);(try clear hcz19_2);(try clear hcz19_3);(try clear hcz4_0);(try clear hcz4_1);(try clear hcz4_2);(try clear hcz4_3);(try clear hcz59_0);(try clear hcz59_1);(try clear hcz59_2);(try clear hcz59_3);(try clear hcz68_0);(try clear hcz68_1);(try clear hcz68_2);(try clear hcz68_3);(try clear hcz75_0);(try clear hcz75_1);(try clear hfz19_0);(try clear hfz19_1);(try clear hfz19_2);(try clear hfz19_3);(try clear hfz4_0);(try clear hfz4_1);(try clear hfz4_2);(try clear hfz4_3);(try clear hfz59_0);(try clear hfz59_1);(try clear hfz59_2);(try clear hfz59_3);(try clear hfz68_0);(try clear hfz68_1);(try clear hfz68_2);(try clear hfz68_3);(try clear hfz75_0);(try clear hfz75_1);(try clear hx284_0);(try clear hx284_1);(try clear p284);(try clear q284)
                obtain ⟨x10_6,rfl,HA,HK6,BK275,BK285,HB⟩:=hrel
                cases gk with
                | zero=>exact absurd HA.out (by simp [zv.l4])
                | succ k6=>
                 have H:=HA.out
                 clear HA
                 simp only [zv.l4] at H
                 by_cases c87:x10_6<x100_4
                 ·rw [if_pos c87] at H
                  have c87b0:=decide_eq_true c87
                  clear c87
                  by_cases c88:0≤x10_6
                  ·rw [if_pos c88] at H
                   have c88b0:=decide_eq_true c88
                   clear c88
                   by_cases c89:x10_6<(l0_3.length:Int)
                   ·rw [if_pos c89] at H
                    have c89b0:=decide_eq_true c89
                    clear c89
                    by_cases c90:((zqi l0_3 x10_6).f0).toList=((zqi l0_3 x100_4).f0).toList
                    ·rw [if_pos c90] at H
                     have c90b0:(((zqi l0_3 x10_6).f0).toList == ((zqi l0_3 x100_4).f0).toList)=true:=beq_iff_eq.mpr c90
                     have c90b1:(((zqi l0_3 x10_6).f0).toList != ((zqi l0_3 x100_4).f0).toList)=false:=bne_eq_false_iff_eq.mpr c90
                     clear c90
                     obtain rfl:=Option.some.inj H
                     have hnb91:=NB275_285.out
                     have hnc91:=NB285_275.out
                     obtain ⟨hcz92_0,hcz92_1,hcz92_2,hcz92_3,hfz92_0,hfz92_1,hfz92_2,hfz92_3⟩:=zqv BK275.out
                     have p288:0≤(x10_6:Int):=dt
                     have q288:x10_6<(l0_3.length:Int):=dt
                     obtain ⟨ad288,A288_1,c288_1,e288,hx288_0,hx288_1,hl288_1,hi288_1⟩:=zvt HR0_3.out x10_6 p288 q288
                     obtain rfl:ad284=ad288:=(by injection e288)
                     replace hx288_0:=(HB.out.cell (World.block_lt_of_cell? w _ hx288_0)).trans hx288_0
                     replace hx288_1:=(HB.out.cell (World.block_lt_of_cell? w _ hx288_1)).trans hx288_1
                     have HR288_1:=zq.mk hi288_1
                     have HC288_1:=zq.mk hl288_1
                     clear hi288_1 hl288_1
                     replace p288:=eq_true p288
                     replace q288:=eq_true q288
                     obtain ⟨hcz93_0,hcz93_1,hfz93_0,hfz93_1⟩:=zji BK285.out
                     go_wp2
                     repeat(go_quiet (fail);try go_wp2)
                     go_ret
                     exact⟨by first|rfl|(simp [zg,zy] <;> rfl)|(simp [*,zg,zy] <;> rfl),bw⟩
                    rw [if_neg c90] at H
                    have c90b0:(((zqi l0_3 x10_6).f0).toList == ((zqi l0_3 x100_4).f0).toList)=false:=beq_eq_false_iff_ne.mpr c90
                    have c90b1:(((zqi l0_3 x10_6).f0).toList != ((zqi l0_3 x100_4).f0).toList)=true:=bne_iff_ne.mpr c90
                    have H':=zq.mk H
                    clear H
                    have hnb94:=NB275_285.out
                    have hnc94:=NB285_275.out
                    obtain ⟨hcz95_0,hcz95_1,hcz95_2,hcz95_3,hfz95_0,hfz95_1,hfz95_2,hfz95_3⟩:=zqv BK275.out
                    have p288:0≤(x10_6:Int):=dt
                    have q288:x10_6<(l0_3.length:Int):=dt
                    obtain ⟨ad288,A288_1,c288_1,e288,hx288_0,hx288_1,hl288_1,hi288_1⟩:=zvt HR0_3.out x10_6 p288 q288
                    obtain rfl:ad284=ad288:=(by injection e288)
                    replace hx288_0:=(HB.out.cell (World.block_lt_of_cell? w _ hx288_0)).trans hx288_0
                    replace hx288_1:=(HB.out.cell (World.block_lt_of_cell? w _ hx288_1)).trans hx288_1
                    have HR288_1:=zq.mk hi288_1
                    have HC288_1:=zq.mk hl288_1
                    clear hi288_1 hl288_1
                    replace p288:=eq_true p288
                    replace q288:=eq_true q288
                    obtain ⟨hcz96_0,hcz96_1,hfz96_0,hfz96_1⟩:=zji BK285.out
                    go_wp2
                    repeat(go_quiet (fail);try go_wp2)
                    go_roundg k6
                    case measure=>have:=HJ1.out;have:=HK2.out;have:=HK3.out;have:=HK4.out;have:=HJ71.out;have:=HK6.out;omega
                    case rel=>exact⟨(wrap64 (x10_6+1)),vr,H',⟨by have:=HJ1.out;have:=HK2.out;have:=HK3.out;have:=HK4.out;have:=HJ71.out;have:=HK6.out;omega⟩,⟨by(with_reducible repeat(first|refine zz ?_ _|refine zk ?_|refine zj ?_ _));exact BK275.out⟩,⟨by(with_reducible repeat(first|refine zz ?_ _|refine zk ?_|refine zj ?_ _));exact BK285.out⟩,⟨bw⟩⟩
                   rw [if_neg c89] at H
                   exact absurd H (by simp)
                  rw [if_neg c88] at H
                  exact absurd H (by simp)
                 rw [if_neg c87] at H
                 have c87b0:=decide_eq_false c87
                 clear c87
                 have H':=zq.mk H
                 clear H
                 go_wp2
                 repeat(go_quiet (fail);try go_wp2)
                 go_roundg k6
                 case measure=>have:=HJ1.out;have:=HK2.out;have:=HK3.out;have:=HK4.out;have:=HJ71.out;have:=HK6.out;omega
                 case rel=>exact⟨(wrap64 (x100_4+1)),vr,H',⟨by have:=HJ1.out;have:=HK2.out;have:=HK3.out;have:=HK4.out;have:=HJ71.out;have:=HK6.out;omega⟩,⟨by(with_reducible repeat(first|refine zz ?_ _|refine zk ?_|refine zj ?_ _));exact BK275.out⟩,⟨bw⟩⟩
            rw [if_neg c71] at H
            exact absurd H (by simp)
           rw [if_neg c70] at H
           exact absurd H (by simp)
          rw [if_neg c69] at H
          have c69b0:=decide_eq_false c69
          clear c69
          obtain rfl:=Option.some.inj H
          go_wp2
          repeat(go_quiet (fail);try go_wp2)
          go_ret
          exact⟨by first|rfl|(simp [zg,zy] <;> rfl)|(simp [*,zg,zy] <;> rfl),bw⟩
     replace c58:=Bool.eq_false_iff.mpr c58
     subst c58
     rw [if_neg (show ¬ (false=true) by decide)] at H
     obtain rfl:=Option.some.inj H
     obtain ⟨hcz97_0,hcz97_1,hcz97_2,hcz97_3,hfz97_0,hfz97_1,hfz97_2,hfz97_3⟩:=zqv BK275.out
     go_wp2_with (first|(go_at_call 101;(with_reducible refine(zh.calls k2 _ _ l0_2 (l0_1.length:Int) false _ ?side1 ?side2 A57.out).mono ?_);(case side1=>exact Kd.cu (Kd.qu HR0_2.out HB.out));(case side2=>exact HC0_2.out);rintro e w' ⟨rfl,⟨nd,rfl⟩⟩;(try first|exact⟨rfl,_,World.drewN_drewN _ _ _⟩|exact⟨rfl,_,Eq.trans (World.drewN_drewN _ _ _) (congrArg (World.drewN _) (Nat.add_assoc _ _ _))⟩)))
     repeat(go_quiet (first|(go_at_call 101;(with_reducible refine(zh.calls k2 _ _ l0_2 (l0_1.length:Int) false _ ?side1 ?side2 A57.out).mono ?_);(case side1=>exact Kd.cu (Kd.qu HR0_2.out HB.out));(case side2=>exact HC0_2.out);rintro e w' ⟨rfl,⟨nd,rfl⟩⟩;(try first|exact⟨rfl,_,World.drewN_drewN _ _ _⟩|exact⟨rfl,_,Eq.trans (World.drewN_drewN _ _ _) (congrArg (World.drewN _) (Nat.add_assoc _ _ _))⟩)));try go_wp2_with (first|(go_at_call 101;(with_reducible refine(zh.calls k2 _ _ l0_2 (l0_1.length:Int) false _ ?side1 ?side2 A57.out).mono ?_);(case side1=>exact Kd.cu (Kd.qu HR0_2.out HB.out));(case side2=>exact HC0_2.out);rintro e w' ⟨rfl,⟨nd,rfl⟩⟩;(try first|exact⟨rfl,_,World.drewN_drewN _ _ _⟩|exact⟨rfl,_,Eq.trans (World.drewN_drewN _ _ _) (congrArg (World.drewN _) (Nat.add_assoc _ _ _))⟩))))
     go_ret
     exact⟨by first|rfl|(simp [zg,zy] <;> rfl)|(simp [*,zg,zy] <;> rfl),bw⟩

end Go.Proofs.YthhejedfjgikdaaDoor.PRowReads
