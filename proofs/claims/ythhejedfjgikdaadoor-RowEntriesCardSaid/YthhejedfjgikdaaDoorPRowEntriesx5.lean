-- Written by wip/pp of this repo (over the kit's print, with additions of this session); Lean checks every line.
import Derived.Test.YthhejedfjgikdaaDoorPRowEntriesx4
namespace Go.Proofs.YthhejedfjgikdaaDoor.PRowEntries
open Go.RowKit Go.Proofs.YthhejedfjgikdaaDoorW.PrintWords Go.Proofs.YthhejedfjgikdaaDoorW.PrintLast Go.Proofs.YthhejedfjgikdaaDoorW.PrintMore
attribute [local go_sem] zxq zxo zx0 zxz zxg zxf zxp zxn   -- for this text's walks alone
set_option linter.unusedVariables false
set_option linter.unusedSimpArgs false

/-! ### zjs: function 92 -/
mutual
def zjs.j0:Nat→Int→Bool→ByteArray→List (S90)→List Int→List (S96)→Option (Bool)
 | 0,_,_,_,_,_,_=>none
 | k+1,x3,x31,x127000,x127001,x127002,x127003=>if x31=true then(some false) else (zjs.l0 k x3 x127001 (x127001.length:Int) 0 x127000 x127001 x127002 x127003)
def zjs.l0:Nat→Int→List (S90)→Int→Int→ByteArray→List (S90)→List Int→List (S96)→Option (Bool)
 | 0,_,_,_,_,_,_,_,_=>none
 | k+1,x3,x33,x34,x35,x127000,x127001,x127002,x127003=>if x35<x34 then(if 0≤x35 then(if x35<(x33.length:Int) then(if((zqp x33 x35).f1)<1 then(some false) else (if((zqp x33 x35).f1) > 3 then(some false) else (zjs.l0 k x3 x33 x34 (wrap64 (x35+1)) x127000 x127001 x127002 x127003))) else (none)) else (none)) else (zjs.l1 k x3 x127002 (x127002.length:Int) 0 x127000 x127001 x127002 x127003)
def zjs.l1:Nat→Int→List Int→Int→Int→ByteArray→List (S90)→List Int→List (S96)→Option (Bool)
 | 0,_,_,_,_,_,_,_,_=>none
 | k+1,x3,x49,x50,x51,x127000,x127001,x127002,x127003=>if x51<x50 then(if 0≤x51 then(if x51<(x49.length:Int) then(if 0≤(rd x49 x51) then(if(rd x49 x51)<(x127001.length:Int) then(if((zqp x127001 (rd x49 x51)).f2=true) then(zjs.l1 k x3 x49 x50 (wrap64 (x51+1)) x127000 x127001 x127002 x127003) else (some false)) else (none)) else (none)) else (none)) else (none)) else (zjs.l2 k x3 x127003 (x127003.length:Int) 0 x127000 x127001 x127002 x127003)
def zjs.l2:Nat→Int→List (S96)→Int→Int→ByteArray→List (S90)→List Int→List (S96)→Option (Bool)
 | 0,_,_,_,_,_,_,_,_=>none
 | k+1,x3,x64,x65,x66,x127000,x127001,x127002,x127003=>if x66<x65 then(if 0≤x66 then(if x66<(x64.length:Int) then((zjv.f k ((zq0 x64 x66).f1) x3).bind fun t134=>(if t134=true then(zjs.l2 k x3 x64 x65 (wrap64 (x66+1)) x127000 x127001 x127002 x127003) else (some false))) else (none)) else (none)) else ((zxr.f x127001).bind fun t135=>((zjt.f k t135).bind fun t138=>(if t138=true then((zxs.f x127003).bind fun t139=>((zjt.f k t139).bind fun t142=>(some t142))) else (some false))))
end
def zjs.f (k:Nat) (a0_0:ByteArray) (l0_1:List (S90)) (l0_2:List Int) (l0_3:List (S96)):Option (Bool):=if(l0_1.length:Int)<1 then(zjs.j0 k (l0_1.length:Int) true a0_0 l0_1 l0_2 l0_3) else (if(l0_1.length:Int) > 6 then(zjs.j0 k (l0_1.length:Int) true a0_0 l0_1 l0_2 l0_3) else (if(l0_3.length:Int) > 2 then(zjs.j0 k (l0_1.length:Int) true a0_0 l0_1 l0_2 l0_3) else ((zjv.f k l0_2 (l0_1.length:Int)).bind fun t127=>(zjs.j0 k (l0_1.length:Int) (!t127) a0_0 l0_1 l0_2 l0_3))))
theorem zjs.mono_l:∀ k,(∀ y0 y1 y2 y3 y4 y5,LeO (zjs.j0 k y0 y1 y2 y3 y4 y5) (zjs.j0 (k+1) y0 y1 y2 y3 y4 y5))∧(∀ y0 y1 y2 y3 y4 y5 y6 y7,LeO (zjs.l0 k y0 y1 y2 y3 y4 y5 y6 y7) (zjs.l0 (k+1) y0 y1 y2 y3 y4 y5 y6 y7))∧(∀ y0 y1 y2 y3 y4 y5 y6 y7,LeO (zjs.l1 k y0 y1 y2 y3 y4 y5 y6 y7) (zjs.l1 (k+1) y0 y1 y2 y3 y4 y5 y6 y7))∧(∀ y0 y1 y2 y3 y4 y5 y6 y7,LeO (zjs.l2 k y0 y1 y2 y3 y4 y5 y6 y7) (zjs.l2 (k+1) y0 y1 y2 y3 y4 y5 y6 y7))
 | 0=>⟨fun _ _ _ _ _ _ r h=>by simp [zjs.j0] at h,fun _ _ _ _ _ _ _ _ r h=>by simp [zjs.l0] at h,fun _ _ _ _ _ _ _ _ r h=>by simp [zjs.l1] at h,fun _ _ _ _ _ _ _ _ r h=>by simp [zjs.l2] at h⟩
 | k+1=>by
  obtain ⟨ih0,ih1,ih2,ih3⟩:=zjs.mono_l k
  refine⟨?_,?_,?_,?_⟩
  ·intro y0 y1 y2 y3 y4 y5
   unfold zjs.j0
   repeat' first
   | (with_reducible first|exact ih0 _ _ _ _ _ _|exact ih1 _ _ _ _ _ _ _ _|exact ih2 _ _ _ _ _ _ _ _|exact ih3 _ _ _ _ _ _ _ _|exact zjt.mono _ _|exact zjv.mono _ _ _|exact LeO.refl _|exact LeO.none _|refine LeO.ite ?_ ?_|refine LeO.bind ?_ (fun _=>?_))
   | exact ih0 _ _ _ _ _ _
   | exact ih1 _ _ _ _ _ _ _ _
   | exact ih2 _ _ _ _ _ _ _ _
   | exact ih3 _ _ _ _ _ _ _ _
   | exact zjt.mono _ _
   | exact zjv.mono _ _ _
   | exact LeO.none _
   | refine LeO.ite ?_ ?_
   | refine LeO.bind ?_ (fun _=>?_)
  ·intro y0 y1 y2 y3 y4 y5 y6 y7
   unfold zjs.l0
   repeat' first
   | (with_reducible first|exact ih0 _ _ _ _ _ _|exact ih1 _ _ _ _ _ _ _ _|exact ih2 _ _ _ _ _ _ _ _|exact ih3 _ _ _ _ _ _ _ _|exact zjt.mono _ _|exact zjv.mono _ _ _|exact LeO.refl _|exact LeO.none _|refine LeO.ite ?_ ?_|refine LeO.bind ?_ (fun _=>?_))
   | exact ih0 _ _ _ _ _ _
   | exact ih1 _ _ _ _ _ _ _ _
   | exact ih2 _ _ _ _ _ _ _ _
   | exact ih3 _ _ _ _ _ _ _ _
   | exact zjt.mono _ _
   | exact zjv.mono _ _ _
   | exact LeO.none _
   | refine LeO.ite ?_ ?_
   | refine LeO.bind ?_ (fun _=>?_)
  ·intro y0 y1 y2 y3 y4 y5 y6 y7
   unfold zjs.l1
   repeat' first
   | (with_reducible first|exact ih0 _ _ _ _ _ _|exact ih1 _ _ _ _ _ _ _ _|exact ih2 _ _ _ _ _ _ _ _|exact ih3 _ _ _ _ _ _ _ _|exact zjt.mono _ _|exact zjv.mono _ _ _|exact LeO.refl _|exact LeO.none _|refine LeO.ite ?_ ?_|refine LeO.bind ?_ (fun _=>?_))
   | exact ih0 _ _ _ _ _ _
   | exact ih1 _ _ _ _ _ _ _ _
   | exact ih2 _ _ _ _ _ _ _ _
   | exact ih3 _ _ _ _ _ _ _ _
   | exact zjt.mono _ _
   | exact zjv.mono _ _ _
   | exact LeO.none _
   | refine LeO.ite ?_ ?_
   | refine LeO.bind ?_ (fun _=>?_)
  ·intro y0 y1 y2 y3 y4 y5 y6 y7
   unfold zjs.l2
   repeat' first
   | (with_reducible first|exact ih0 _ _ _ _ _ _|exact ih1 _ _ _ _ _ _ _ _|exact ih2 _ _ _ _ _ _ _ _|exact ih3 _ _ _ _ _ _ _ _|exact zjt.mono _ _|exact zjv.mono _ _ _|exact LeO.refl _|exact LeO.none _|refine LeO.ite ?_ ?_|refine LeO.bind ?_ (fun _=>?_))
   | exact ih0 _ _ _ _ _ _
   | exact ih1 _ _ _ _ _ _ _ _
   | exact ih2 _ _ _ _ _ _ _ _
   | exact ih3 _ _ _ _ _ _ _ _
   | exact zjt.mono _ _
   | exact zjv.mono _ _ _
   | exact LeO.none _
   | refine LeO.ite ?_ ?_
   | refine LeO.bind ?_ (fun _=>?_)
theorem zjs.mono:∀ a0 a1 a2 a3 k,LeO (zjs.f k a0 a1 a2 a3) (zjs.f (k+1) a0 a1 a2 a3):=by
 intro a0 a1 a2 a3 k
 obtain ⟨ih0,ih1,ih2,ih3⟩:=zjs.mono_l k
 unfold zjs.f
 repeat' first
   | (with_reducible first|exact ih0 _ _ _ _ _ _|exact ih1 _ _ _ _ _ _ _ _|exact ih2 _ _ _ _ _ _ _ _|exact ih3 _ _ _ _ _ _ _ _|exact zjt.mono _ _|exact zjv.mono _ _ _|exact LeO.refl _|exact LeO.none _|refine LeO.ite ?_ ?_|refine LeO.bind ?_ (fun _=>?_))
   | exact ih0 _ _ _ _ _ _
   | exact ih1 _ _ _ _ _ _ _ _
   | exact ih2 _ _ _ _ _ _ _ _
   | exact ih3 _ _ _ _ _ _ _ _
   | exact zjt.mono _ _
   | exact zjv.mono _ _ _
   | exact LeO.none _
   | refine LeO.ite ?_ ?_
   | refine LeO.bind ?_ (fun _=>?_)
set_option maxHeartbeats 8000000 in
set_option maxRecDepth 100000 in
theorem zjs.calls (k:Nat) (a0_0:ByteArray) (A0_1:Option Addr) (c0_1:Nat) (l0_1:List (S90)) (A0_2:Option Addr) (c0_2:Nat) (l0_2:List Int) (A0_3:Option Addr) (c0_3:Nat) (l0_3:List (S96)) (r:Bool) (w:World) (hr0_1:Kd.C k90 w A0_1 l0_1.length l0_1) (hc0_1:l0_1.length≤c0_1) (hr0_2:Kd.C (Kd.int .i64) w A0_2 l0_2.length l0_2) (hc0_2:l0_2.length≤c0_2) (hr0_3:Kd.C k96 w A0_3 l0_3.length l0_3) (hc0_3:l0_3.length≤c0_3) (hL:LD w) (h:zjs.f k a0_0 l0_1 l0_2 l0_3=some r) :
  Calls Tryd.prog 92 #[.agg #[.string a0_0,.slice A0_1 l0_1.length c0_1,.slice A0_2 l0_2.length c0_2,.slice A0_3 l0_3.length c0_3]] w fun e w'=>e = .returned (.bool r)∧Below w.heap.size w w':=by
 have hu61:=Tryd.underlying61
 have hu90:=Tryd.underlying90
 have hu96:=Tryd.underlying96
 have HLD:=zqd.mk hL
 clear hL
 have HR0_1:=zqd.mk hr0_1
 have HC0_1:=zqd.mk hc0_1
 clear hr0_1 hc0_1
 have HR0_2:=zqd.mk hr0_2
 have HC0_2:=zqd.mk hc0_2
 clear hr0_2 hc0_2
 have HR0_3:=zqd.mk hr0_3
 have HC0_3:=zqd.mk hc0_3
 clear hr0_3 hc0_3
 have HB:=zqd.mk (Below.refl w.heap.size w)
 have H:(if(l0_1.length:Int)<1 then(zjs.j0 k (l0_1.length:Int) true a0_0 l0_1 l0_2 l0_3) else (if(l0_1.length:Int) > 6 then(zjs.j0 k (l0_1.length:Int) true a0_0 l0_1 l0_2 l0_3) else (if(l0_3.length:Int) > 2 then(zjs.j0 k (l0_1.length:Int) true a0_0 l0_1 l0_2 l0_3) else ((zjv.f k l0_2 (l0_1.length:Int)).bind fun t127=>(zjs.j0 k (l0_1.length:Int) (!t127) a0_0 l0_1 l0_2 l0_3)))))=some r:=h
 clear h
 have HC2:=zqd.mk H
 clear H
 go_enter Tryd.func92,Tryd.ntmps92
 go_upto_region 2 with (first|((with_reducible refine zqx (N:=1) rfl ?_);(try(refine zqz (by rfl) ?_;dsimp only));refine zqt ?hg (N:=1) ?hd (cs:=#[.string a0_0,.slice A0_1 l0_1.length c0_1,.slice A0_2 l0_2.length c0_2,.slice A0_3 l0_3.length c0_3]) (t:=61) ?hr ?_;(case hd=>rfl);(case hg=>rfl);(case hr=>first|(go_simp;done)|(go_simp;rfl));intro gb126 hg w3 hbox hb;have n0_:=zqd.mk (zqn (by repeat(first|(with_reducible first|exact HB.out|apply zqb|apply zqa|apply zqc)|exact HB.out)) hb);have n1_:=zqd.mk (hbox);have n2_:=zqd.mk ((by rw [hg];exact(zqk (by repeat(first|(with_reducible first|exact HB.out|apply zqb|apply zqa|apply zqc)|exact HB.out))):w.heap.size≤gb126));have n3_:=zqd.mk ((by rw [hg];exact(zqk (by repeat(first|(with_reducible first|exact HB.out|apply zqb|apply zqa|apply zqc)|exact HB.out))):w.heap.size≤gb126));clear HB;have HB:=n0_;have BK126:=n1_;have GW126:=n2_;have GE126:=n3_;clear n0_ n1_ n2_ n3_ hb hbox hg;have hcz4_0:w3.cell? ⟨gb126,0,none⟩=some (.string a0_0):=(zqf BK126.out 0).trans rfl;have hcz4_1:w3.cell? ⟨gb126,1,none⟩=some (.slice A0_1 l0_1.length c0_1):=(zqf BK126.out 1).trans rfl;have hcz4_2:w3.cell? ⟨gb126,2,none⟩=some (.slice A0_2 l0_2.length c0_2):=(zqf BK126.out 2).trans rfl;have hcz4_3:w3.cell? ⟨gb126,3,none⟩=some (.slice A0_3 l0_3.length c0_3):=(zqf BK126.out 3).trans rfl;have hfz4_0:=zqe BK126.out 0;have hfz4_1:=zqe BK126.out 1;have hfz4_2:=zqe BK126.out 2;have hfz4_3:=zqe BK126.out 3))
 (try simp only [Act.put,List.setIfInBounds_toArray,List.set_cons_zero,List.set_cons_succ])
 go_cut [31] (fun v31 wc => ∃ (kq:Nat) (x31_1:Bool),v31 = .bool x31_1∧zqd (zjs.j0 kq (l0_1.length:Int) x31_1 a0_0 l0_1 l0_2 l0_3=some r)∧zqd (kq≤k)∧zqd (wc.heap[gb126]? = some (.cells #[.string a0_0,(.slice A0_1 l0_1.length c0_1),(.slice A0_2 l0_2.length c0_2),(.slice A0_3 l0_3.length c0_3)] 61 (0,0)))∧zqd (Below w.heap.size w wc))
 case first=>
  have H:=HC2.out
  clear HC2
  by_cases c5:(l0_1.length:Int)<1
  ·rw [if_pos c5] at H
   have c5b0:decide ((l0_1.length:Int)<1)=true:=decide_eq_true c5
   have c5b1:decide (l0_1.length<1)=true:=decide_eq_true (by omega)
   clear c5
   (first|rw [c5b0]|(simp only [zx6,zx8];rw [c5b0])|skip)
   have H':=zqd.mk H
   clear H
   go_wp2
   go_meet
   case rel=>exact⟨_,(true),(by first|rfl|(simp;done)|(simp [*];done)|(generalize ByteArray.toList _=q_;cases q_ <;> rfl)),H',⟨by first|omega|exact Nat.le_refl _⟩,⟨by(with_reducible repeat(first|refine zqg ?_ _|refine zqj ?_|refine zqh ?_ _));exact BK126.out⟩,⟨by repeat(first|(with_reducible first|exact HB.out|apply zqb|apply zqa|apply zqc|refine zqi ?_ GE126.out)|exact HB.out)⟩⟩
  ·rw [if_neg c5] at H
   have c5b0:decide ((l0_1.length:Int)<1)=false:=decide_eq_false c5
   have c5b1:decide (l0_1.length<1)=false:=decide_eq_false (by omega)
   clear c5
   (first|rw [c5b0]|(simp only [zx6,zx8];rw [c5b0])|skip)
   by_cases c6:(l0_1.length:Int) > 6
   ·rw [if_pos c6] at H
    have c6b0:decide (6<(l0_1.length:Int))=true:=decide_eq_true c6
    have c6b1:decide (6<l0_1.length)=true:=decide_eq_true (by omega)
    clear c6
    have H':=zqd.mk H
    clear H
    go_wp2
    go_meet
    case rel=>exact⟨_,(true),(by first|rfl|(simp;done)|(simp [*];done)|(generalize ByteArray.toList _=q_;cases q_ <;> rfl)),H',⟨by first|omega|exact Nat.le_refl _⟩,⟨by(with_reducible repeat(first|refine zqg ?_ _|refine zqj ?_|refine zqh ?_ _));exact BK126.out⟩,⟨by repeat(first|(with_reducible first|exact HB.out|apply zqb|apply zqa|apply zqc|refine zqi ?_ GE126.out)|exact HB.out)⟩⟩
   ·rw [if_neg c6] at H
    have c6b0:decide (6<(l0_1.length:Int))=false:=decide_eq_false c6
    have c6b1:decide (6<l0_1.length)=false:=decide_eq_false (by omega)
    clear c6
    by_cases c7:(l0_3.length:Int) > 2
    ·rw [if_pos c7] at H
     have c7b0:decide (2<(l0_3.length:Int))=true:=decide_eq_true c7
     have c7b1:decide (2<l0_3.length)=true:=decide_eq_true (by omega)
     clear c7
     have H':=zqd.mk H
     clear H
     have hcz8_0:w3.cell? ⟨gb126,0,none⟩=some (.string a0_0):=(zqf BK126.out 0).trans rfl
     have hcz8_1:w3.cell? ⟨gb126,1,none⟩=some (.slice A0_1 l0_1.length c0_1):=(zqf BK126.out 1).trans rfl
     have hcz8_2:w3.cell? ⟨gb126,2,none⟩=some (.slice A0_2 l0_2.length c0_2):=(zqf BK126.out 2).trans rfl
     have hcz8_3:w3.cell? ⟨gb126,3,none⟩=some (.slice A0_3 l0_3.length c0_3):=(zqf BK126.out 3).trans rfl
     have hfz8_0:=zqe BK126.out 0
     have hfz8_1:=zqe BK126.out 1
     have hfz8_2:=zqe BK126.out 2
     have hfz8_3:=zqe BK126.out 3
     go_wp2
     go_meet
     case rel=>exact⟨_,(true),(by first|rfl|(simp;done)|(simp [*];done)|(generalize ByteArray.toList _=q_;cases q_ <;> rfl)),H',⟨by first|omega|exact Nat.le_refl _⟩,⟨by(with_reducible repeat(first|refine zqg ?_ _|refine zqj ?_|refine zqh ?_ _));exact BK126.out⟩,⟨by repeat(first|(with_reducible first|exact HB.out|apply zqb|apply zqa|apply zqc|refine zqi ?_ GE126.out)|exact HB.out)⟩⟩
    ·rw [if_neg c7] at H
     have c7b0:decide (2<(l0_3.length:Int))=false:=decide_eq_false c7
     have c7b1:decide (2<l0_3.length)=false:=decide_eq_false (by omega)
     clear c7
     replace H:=Option.bind_eq_some_iff.mp H
     obtain ⟨t127,A90,H⟩:=H
     replace H:(zjs.j0 k (l0_1.length:Int) (!t127) a0_0 l0_1 l0_2 l0_3)=some r:=H
     have A9:=zqd.mk A90
     clear A90
     have H':=zqd.mk H
     clear H
     have hcz10_0:w3.cell? ⟨gb126,0,none⟩=some (.string a0_0):=(zqf BK126.out 0).trans rfl
     have hcz10_1:w3.cell? ⟨gb126,1,none⟩=some (.slice A0_1 l0_1.length c0_1):=(zqf BK126.out 1).trans rfl
     have hcz10_2:w3.cell? ⟨gb126,2,none⟩=some (.slice A0_2 l0_2.length c0_2):=(zqf BK126.out 2).trans rfl
     have hcz10_3:w3.cell? ⟨gb126,3,none⟩=some (.slice A0_3 l0_3.length c0_3):=(zqf BK126.out 3).trans rfl
     have hfz10_0:=zqe BK126.out 0
     have hfz10_1:=zqe BK126.out 1
     have hfz10_2:=zqe BK126.out 2
     have hfz10_3:=zqe BK126.out 3
     go_wp2_with (first|(go_at_call 114;(with_reducible refine(zjv.calls k _ _ l0_2 (l0_1.length:Int) t127 _ ?side1 ?side2 A9.out).mono ?_);(case side1=>repeat(first|exact(Kd.zq3 HR0_2.out HB.out)|(with_reducible refine Kd.zqw ?_ _)|(with_reducible refine Kd.zqy ?_ _)|(with_reducible refine Kd.zq2 ?_)));(case side2=>exact HC0_2.out);rintro e w11 ⟨rfl,hb⟩;have n0_:=zqd.mk (zqr (g:=gb126) (o:=.cells #[.string a0_0,.slice A0_1 l0_1.length c0_1,.slice A0_2 l0_2.length c0_2,.slice A0_3 l0_3.length c0_3] 61 (0,0)) (by(with_reducible repeat(first|refine zqg ?_ _|refine zqj ?_|refine zqh ?_ _));exact BK126.out) hb);have n1_:=zqd.mk (zqn (by repeat(first|(with_reducible first|exact HB.out|apply zqb|apply zqa|apply zqc|refine zqi ?_ GE126.out)|exact HB.out)) hb);clear BK126 HB;have BK126:=n0_;have HB:=n1_;clear n0_ n1_;(try clear hb);(try clear hb2);(try clear hk);(try clear hi)))
     go_meet
     case rel=>exact⟨_,(!t127),(by first|rfl|(simp;done)|(simp [*];done)|(generalize ByteArray.toList _=q_;cases q_ <;> rfl)),H',⟨by first|omega|exact Nat.le_refl _⟩,⟨by(with_reducible repeat(first|refine zqg ?_ _|refine zqj ?_|refine zqh ?_ _));exact BK126.out⟩,⟨by repeat(first|(with_reducible first|exact HB.out|apply zqb|apply zqa|apply zqc|refine zqi ?_ GE126.out)|exact HB.out)⟩⟩
 case rest=>
  clear HC2
  try clear p2
  try clear c5
  try clear c5b0
  try clear c5b1
  try clear c6
  try clear c6b0
  try clear c6b1
  try clear c7
  try clear c7b0
  try clear c7b1
  try clear c9
  try clear hcz10_0
  try clear hcz10_1
  try clear hcz10_2
  try clear hcz10_3
  try clear hcz4_0
  try clear hcz4_1
  try clear hcz4_2
  try clear hcz4_3
  try clear hcz8_0
  try clear hcz8_1
  try clear hcz8_2
  try clear hcz8_3
  try clear hfz10_0
  try clear hfz10_1
  try clear hfz10_2
  try clear hfz10_3
  try clear hfz4_0
  try clear hfz4_1
  try clear hfz4_2
  try clear hfz4_3
  try clear hfz8_0
  try clear hfz8_1
  try clear hfz8_2
  try clear hfz8_3
  obtain ⟨kq,x31_1,rfl,HA,HJ1,BK126,HB⟩:=hcut
  cases kq with
  | zero=>exact absurd HA.out (by simp [zjs.j0])
  | succ kj1=>
   have H:=HA.out
   clear HA
   simp only [zjs.j0] at H
   by_cases c12:x31_1=true
   ·subst c12
    have H1:(some false)=some r:=by rw [if_pos rfl] at H;exact H
    clear H
    have H:=H1
    clear H1
    obtain rfl:=Option.some.inj H
    go_wp2
    go_ret
    exact⟨by first|rfl|(simp [zqm,zql] <;> rfl)|(simp [*,zqm,zql] <;> rfl),by repeat(first|(with_reducible first|exact HB.out|apply zqb|apply zqa|apply zqc|refine zqi ?_ GE126.out)|exact HB.out)⟩
   ·replace c12:=Bool.eq_false_iff.mpr c12
    subst c12
    have H1:(zjs.l0 kj1 (l0_1.length:Int) l0_1 (l0_1.length:Int) 0 a0_0 l0_1 l0_2 l0_3)=some r:=by rw [if_neg (show ¬ (false=true) by decide)] at H;exact H
    clear H
    have H:=H1
    clear H1
    have H':=zqd.mk H
    clear H
    have hcz13_0:wc.cell? ⟨gb126,0,none⟩=some (.string a0_0):=(zqf BK126.out 0).trans rfl
    have hcz13_1:wc.cell? ⟨gb126,1,none⟩=some (.slice A0_1 l0_1.length c0_1):=(zqf BK126.out 1).trans rfl
    have hcz13_2:wc.cell? ⟨gb126,2,none⟩=some (.slice A0_2 l0_2.length c0_2):=(zqf BK126.out 2).trans rfl
    have hcz13_3:wc.cell? ⟨gb126,3,none⟩=some (.slice A0_3 l0_3.length c0_3):=(zqf BK126.out 3).trans rfl
    have hfz13_0:=zqe BK126.out 0
    have hfz13_1:=zqe BK126.out 1
    have hfz13_2:=zqe BK126.out 2
    have hfz13_3:=zqe BK126.out 3
    go_wp2
    go_loopg [35] kj1 (fun kq v35 w' => ∃ (x35_2:Int),v35 = .int .i64 x35_2∧zqd (zjs.l0 kq (l0_1.length:Int) l0_1 (l0_1.length:Int) x35_2 a0_0 l0_1 l0_2 l0_3=some r)∧zqd (kq≤kj1)∧zqd (w'.heap[gb126]? = some (.cells #[.string a0_0,(.slice A0_1 l0_1.length c0_1),(.slice A0_2 l0_2.length c0_2),(.slice A0_3 l0_3.length c0_3)] 61 (0,0)))∧zqd (Below w.heap.size w w'))
    case atStart=>exact⟨(0),(by first|rfl|(simp;done)|(simp [*];done)|(generalize ByteArray.toList _=q_;cases q_ <;> rfl)),H',⟨Nat.le_refl _⟩,⟨by(with_reducible repeat(first|refine zqg ?_ _|refine zqj ?_|refine zqh ?_ _));exact BK126.out⟩,⟨by repeat(first|(with_reducible first|exact HB.out|apply zqb|apply zqa|apply zqc|refine zqi ?_ GE126.out)|exact HB.out)⟩⟩
    case round=>
     clear H'
     try clear c1
     try clear p2
     try clear c5
     try clear c5b0
     try clear c5b1
     try clear c6
     try clear c6b0
     try clear c6b1
     try clear c7
     try clear c7b0
     try clear c7b1
     try clear c9
     try clear c12
     try clear hcz10_0
     try clear hcz10_1
     try clear hcz10_2
     try clear hcz10_3
     try clear hcz13_0
     try clear hcz13_1
     try clear hcz13_2
     try clear hcz13_3
     try clear hcz4_0
     try clear hcz4_1
     try clear hcz4_2
     try clear hcz4_3
     try clear hcz8_0
     try clear hcz8_1
     try clear hcz8_2
     try clear hcz8_3
     try clear hfz10_0
     try clear hfz10_1
     try clear hfz10_2
     try clear hfz10_3
     try clear hfz13_0
     try clear hfz13_1
     try clear hfz13_2
     try clear hfz13_3
     try clear hfz4_0
     try clear hfz4_1
     try clear hfz4_2
     try clear hfz4_3
     try clear hfz8_0
     try clear hfz8_1
     try clear hfz8_2
     try clear hfz8_3
     try clear p2
     obtain ⟨x35_2,rfl,HA,HK2,BK126,HB⟩:=hrel
     cases gk with
     | zero=>exact absurd HA.out (by simp [zjs.l0])
     | succ k2=>
      have H:=HA.out
      clear HA
      simp only [zjs.l0] at H
      by_cases c14:x35_2<(l0_1.length:Int)
      ·rw [if_pos c14] at H
       have c14b0:decide (x35_2<(l0_1.length:Int))=true:=decide_eq_true c14
       clear c14
       by_cases c15:0≤x35_2
       ·rw [if_pos c15] at H
        have c15b0:decide (0≤x35_2)=true:=decide_eq_true c15
        clear c15
        by_cases c16:x35_2<(l0_1.length:Int)
        ·rw [if_pos c16] at H
         have c16b0:decide (x35_2<(l0_1.length:Int))=true:=decide_eq_true c16
         clear c16
         by_cases c17:((zqp l0_1 x35_2).f1)<1
         ·rw [if_pos c17] at H
          have c17b0:decide (((zqp l0_1 x35_2).f1)<1)=true:=decide_eq_true c17
          clear c17
          obtain rfl:=Option.some.inj H
          have p128:0≤(x35_2:Int):=of_decide_eq_true (by first|(with_reducible assumption)|assumption)
          have q128:x35_2<(l0_1.length:Int):=of_decide_eq_true (by first|(with_reducible assumption)|assumption)
          obtain ⟨ad128,e128,hx128_0,hx128_1,hx128_2⟩:=at_T90 HR0_1.out x35_2 p128 q128
          cases e128
          replace hx128_0:=(HB.out.cell (World.block_lt_of_cell? w _ hx128_0)).trans hx128_0
          replace hx128_1:=(HB.out.cell (World.block_lt_of_cell? w _ hx128_1)).trans hx128_1
          replace hx128_2:=(HB.out.cell (World.block_lt_of_cell? w _ hx128_2)).trans hx128_2
          replace p128:=eq_true p128
          replace q128:=eq_true q128
          go_wp2_with (first|((with_reducible refine zqx (N:=5) rfl ?_);(try(refine zqz (by rfl) ?_;dsimp only));refine zqt ?hg (N:=5) ?hd (cs:=#[.string (⟨#[]⟩:ByteArray),.int .i64 0,.bool false]) (t:=90) ?hr ?_;(case hd=>rfl);(case hg=>rfl);(case hr=>first|(go_simp;done)|(go_simp;rfl));intro gb129 hg w18 hbox hb;have n0_:=zqd.mk (zqr (g:=gb126) (o:=.cells #[.string a0_0,.slice (some ad128) l0_1.length c0_1,.slice A0_2 l0_2.length c0_2,.slice A0_3 l0_3.length c0_3] 61 (0,0)) (by(with_reducible repeat(first|refine zqg ?_ _|refine zqj ?_|refine zqh ?_ _));exact BK126.out) hb);have n1_:=zqd.mk (zqn (by repeat(first|(with_reducible first|exact HB.out|apply zqb|apply zqa|apply zqc|refine zqi ?_ GE126.out)|exact HB.out)) hb);have n2_:=zqd.mk (hbox);have n3_:=zqd.mk ((by rw [hg];exact(zqk (by repeat(first|(with_reducible first|exact HB.out|apply zqb|apply zqa|apply zqc|refine zqi ?_ GE126.out)|exact HB.out))):w.heap.size≤gb129));have n4_:=zqd.mk ((by rw [hg];exact(zqk (by repeat(first|(with_reducible first|exact HB.out|apply zqb|apply zqa|apply zqc|refine zqi ?_ GE126.out)|exact HB.out))):w.heap.size≤gb129));have n5_:=zqd.mk ((by rw [hg];exact Nat.ne_of_lt (zxh (g:=gb126) (o:=.cells #[.string a0_0,.slice (some ad128) l0_1.length c0_1,.slice A0_2 l0_2.length c0_2,.slice A0_3 l0_3.length c0_3] 61 (0,0)) (by(with_reducible repeat(first|refine zqg ?_ _|refine zqj ?_|refine zqh ?_ _));exact BK126.out)):gb126≠gb129));have n6_:=zqd.mk ((by rw [hg];exact Nat.ne_of_gt (zxh (g:=gb126) (o:=.cells #[.string a0_0,.slice (some ad128) l0_1.length c0_1,.slice A0_2 l0_2.length c0_2,.slice A0_3 l0_3.length c0_3] 61 (0,0)) (by(with_reducible repeat(first|refine zqg ?_ _|refine zqj ?_|refine zqh ?_ _));exact BK126.out)):gb129≠gb126));clear BK126 HB;have BK126:=n0_;have HB:=n1_;have BK129:=n2_;have GW129:=n3_;have GE129:=n4_;have NB126_129:=n5_;have NB129_126:=n6_;clear n0_ n1_ n2_ n3_ n4_ n5_ n6_ hb hbox hg;have hnb19:=NB129_126.out;have hnc19:=NB126_129.out;have hcz20_0:w18.cell? ⟨gb129,0,none⟩=some (.string (⟨#[]⟩:ByteArray)):=(zqf BK129.out 0).trans rfl;have hcz20_1:w18.cell? ⟨gb129,1,none⟩=some (.int .i64 0):=(zqf BK129.out 1).trans rfl;have hcz20_2:w18.cell? ⟨gb129,2,none⟩=some (.bool false):=(zqf BK129.out 2).trans rfl;have hfz20_0:=zqe BK129.out 0;have hfz20_1:=zqe BK129.out 1;have hfz20_2:=zqe BK129.out 2))
          go_ret
          exact⟨by first|rfl|(simp [zqm,zql] <;> rfl)|(simp [*,zqm,zql] <;> rfl),by repeat(first|(with_reducible first|exact HB.out|apply zqb|apply zqa|apply zqc|refine zqi ?_ GE126.out|refine zqi ?_ GE129.out)|exact HB.out)⟩
         ·rw [if_neg c17] at H
          have c17b0:decide (((zqp l0_1 x35_2).f1)<1)=false:=decide_eq_false c17
          clear c17
          by_cases c21:((zqp l0_1 x35_2).f1) > 3
          ·rw [if_pos c21] at H
           have c21b0:decide (3<((zqp l0_1 x35_2).f1))=true:=decide_eq_true c21
           clear c21
           obtain rfl:=Option.some.inj H
           have p128:0≤(x35_2:Int):=of_decide_eq_true (by first|(with_reducible assumption)|assumption)
           have q128:x35_2<(l0_1.length:Int):=of_decide_eq_true (by first|(with_reducible assumption)|assumption)
           obtain ⟨ad128,e128,hx128_0,hx128_1,hx128_2⟩:=at_T90 HR0_1.out x35_2 p128 q128
           cases e128
           replace hx128_0:=(HB.out.cell (World.block_lt_of_cell? w _ hx128_0)).trans hx128_0
           replace hx128_1:=(HB.out.cell (World.block_lt_of_cell? w _ hx128_1)).trans hx128_1
           replace hx128_2:=(HB.out.cell (World.block_lt_of_cell? w _ hx128_2)).trans hx128_2
           replace p128:=eq_true p128
           replace q128:=eq_true q128
           go_wp2_with (first|((with_reducible refine zqx (N:=5) rfl ?_);(try(refine zqz (by rfl) ?_;dsimp only));refine zqt ?hg (N:=5) ?hd (cs:=#[.string (⟨#[]⟩:ByteArray),.int .i64 0,.bool false]) (t:=90) ?hr ?_;(case hd=>rfl);(case hg=>rfl);(case hr=>first|(go_simp;done)|(go_simp;rfl));intro gb129 hg w22 hbox hb;have n0_:=zqd.mk (zqr (g:=gb126) (o:=.cells #[.string a0_0,.slice (some ad128) l0_1.length c0_1,.slice A0_2 l0_2.length c0_2,.slice A0_3 l0_3.length c0_3] 61 (0,0)) (by(with_reducible repeat(first|refine zqg ?_ _|refine zqj ?_|refine zqh ?_ _));exact BK126.out) hb);have n1_:=zqd.mk (zqn (by repeat(first|(with_reducible first|exact HB.out|apply zqb|apply zqa|apply zqc|refine zqi ?_ GE126.out)|exact HB.out)) hb);have n2_:=zqd.mk (hbox);have n3_:=zqd.mk ((by rw [hg];exact(zqk (by repeat(first|(with_reducible first|exact HB.out|apply zqb|apply zqa|apply zqc|refine zqi ?_ GE126.out)|exact HB.out))):w.heap.size≤gb129));have n4_:=zqd.mk ((by rw [hg];exact(zqk (by repeat(first|(with_reducible first|exact HB.out|apply zqb|apply zqa|apply zqc|refine zqi ?_ GE126.out)|exact HB.out))):w.heap.size≤gb129));have n5_:=zqd.mk ((by rw [hg];exact Nat.ne_of_lt (zxh (g:=gb126) (o:=.cells #[.string a0_0,.slice (some ad128) l0_1.length c0_1,.slice A0_2 l0_2.length c0_2,.slice A0_3 l0_3.length c0_3] 61 (0,0)) (by(with_reducible repeat(first|refine zqg ?_ _|refine zqj ?_|refine zqh ?_ _));exact BK126.out)):gb126≠gb129));have n6_:=zqd.mk ((by rw [hg];exact Nat.ne_of_gt (zxh (g:=gb126) (o:=.cells #[.string a0_0,.slice (some ad128) l0_1.length c0_1,.slice A0_2 l0_2.length c0_2,.slice A0_3 l0_3.length c0_3] 61 (0,0)) (by(with_reducible repeat(first|refine zqg ?_ _|refine zqj ?_|refine zqh ?_ _));exact BK126.out)):gb129≠gb126));clear BK126 HB;have BK126:=n0_;have HB:=n1_;have BK129:=n2_;have GW129:=n3_;have GE129:=n4_;have NB126_129:=n5_;have NB129_126:=n6_;clear n0_ n1_ n2_ n3_ n4_ n5_ n6_ hb hbox hg;have hnb23:=NB129_126.out;have hnc23:=NB126_129.out;have hcz24_0:w22.cell? ⟨gb129,0,none⟩=some (.string (⟨#[]⟩:ByteArray)):=(zqf BK129.out 0).trans rfl;have hcz24_1:w22.cell? ⟨gb129,1,none⟩=some (.int .i64 0):=(zqf BK129.out 1).trans rfl;have hcz24_2:w22.cell? ⟨gb129,2,none⟩=some (.bool false):=(zqf BK129.out 2).trans rfl;have hfz24_0:=zqe BK129.out 0;have hfz24_1:=zqe BK129.out 1;have hfz24_2:=zqe BK129.out 2))
           go_ret
           exact⟨by first|rfl|(simp [zqm,zql] <;> rfl)|(simp [*,zqm,zql] <;> rfl),by repeat(first|(with_reducible first|exact HB.out|apply zqb|apply zqa|apply zqc|refine zqi ?_ GE126.out|refine zqi ?_ GE129.out)|exact HB.out)⟩
          ·rw [if_neg c21] at H
           have c21b0:decide (3<((zqp l0_1 x35_2).f1))=false:=decide_eq_false c21
           clear c21
           have H':=zqd.mk H
           clear H
           have p128:0≤(x35_2:Int):=of_decide_eq_true (by first|(with_reducible assumption)|assumption)
           have q128:x35_2<(l0_1.length:Int):=of_decide_eq_true (by first|(with_reducible assumption)|assumption)
           obtain ⟨ad128,e128,hx128_0,hx128_1,hx128_2⟩:=at_T90 HR0_1.out x35_2 p128 q128
           cases e128
           replace hx128_0:=(HB.out.cell (World.block_lt_of_cell? w _ hx128_0)).trans hx128_0
           replace hx128_1:=(HB.out.cell (World.block_lt_of_cell? w _ hx128_1)).trans hx128_1
           replace hx128_2:=(HB.out.cell (World.block_lt_of_cell? w _ hx128_2)).trans hx128_2
           replace p128:=eq_true p128
           replace q128:=eq_true q128
           go_wp2_with (first|((with_reducible refine zqx (N:=5) rfl ?_);(try(refine zqz (by rfl) ?_;dsimp only));refine zqt ?hg (N:=5) ?hd (cs:=#[.string (⟨#[]⟩:ByteArray),.int .i64 0,.bool false]) (t:=90) ?hr ?_;(case hd=>rfl);(case hg=>rfl);(case hr=>first|(go_simp;done)|(go_simp;rfl));intro gb129 hg w25 hbox hb;have n0_:=zqd.mk (zqr (g:=gb126) (o:=.cells #[.string a0_0,.slice (some ad128) l0_1.length c0_1,.slice A0_2 l0_2.length c0_2,.slice A0_3 l0_3.length c0_3] 61 (0,0)) (by(with_reducible repeat(first|refine zqg ?_ _|refine zqj ?_|refine zqh ?_ _));exact BK126.out) hb);have n1_:=zqd.mk (zqn (by repeat(first|(with_reducible first|exact HB.out|apply zqb|apply zqa|apply zqc|refine zqi ?_ GE126.out)|exact HB.out)) hb);have n2_:=zqd.mk (hbox);have n3_:=zqd.mk ((by rw [hg];exact(zqk (by repeat(first|(with_reducible first|exact HB.out|apply zqb|apply zqa|apply zqc|refine zqi ?_ GE126.out)|exact HB.out))):w.heap.size≤gb129));have n4_:=zqd.mk ((by rw [hg];exact(zqk (by repeat(first|(with_reducible first|exact HB.out|apply zqb|apply zqa|apply zqc|refine zqi ?_ GE126.out)|exact HB.out))):w.heap.size≤gb129));have n5_:=zqd.mk ((by rw [hg];exact Nat.ne_of_lt (zxh (g:=gb126) (o:=.cells #[.string a0_0,.slice (some ad128) l0_1.length c0_1,.slice A0_2 l0_2.length c0_2,.slice A0_3 l0_3.length c0_3] 61 (0,0)) (by(with_reducible repeat(first|refine zqg ?_ _|refine zqj ?_|refine zqh ?_ _));exact BK126.out)):gb126≠gb129));have n6_:=zqd.mk ((by rw [hg];exact Nat.ne_of_gt (zxh (g:=gb126) (o:=.cells #[.string a0_0,.slice (some ad128) l0_1.length c0_1,.slice A0_2 l0_2.length c0_2,.slice A0_3 l0_3.length c0_3] 61 (0,0)) (by(with_reducible repeat(first|refine zqg ?_ _|refine zqj ?_|refine zqh ?_ _));exact BK126.out)):gb129≠gb126));clear BK126 HB;have BK126:=n0_;have HB:=n1_;have BK129:=n2_;have GW129:=n3_;have GE129:=n4_;have NB126_129:=n5_;have NB129_126:=n6_;clear n0_ n1_ n2_ n3_ n4_ n5_ n6_ hb hbox hg;have hnb26:=NB129_126.out;have hnc26:=NB126_129.out;have hcz27_0:w25.cell? ⟨gb129,0,none⟩=some (.string (⟨#[]⟩:ByteArray)):=(zqf BK129.out 0).trans rfl;have hcz27_1:w25.cell? ⟨gb129,1,none⟩=some (.int .i64 0):=(zqf BK129.out 1).trans rfl;have hcz27_2:w25.cell? ⟨gb129,2,none⟩=some (.bool false):=(zqf BK129.out 2).trans rfl;have hfz27_0:=zqe BK129.out 0;have hfz27_1:=zqe BK129.out 1;have hfz27_2:=zqe BK129.out 2))
           go_roundg k2
           case measure=>have:=HJ1.out;have:=HK2.out;omega
           case rel=>exact⟨(wrap64 (x35_2+1)),(by first|rfl|(simp;done)|(simp [*];done)|(generalize ByteArray.toList _=q_;cases q_ <;> rfl)),H',⟨by have:=HJ1.out;have:=HK2.out;omega⟩,⟨by(with_reducible repeat(first|refine zqg ?_ _|refine zqj ?_|refine zqh ?_ _));refine zq1 ?_ NB126_129.out _;(with_reducible repeat(first|refine zqg ?_ _|refine zqj ?_|refine zqh ?_ _));refine zq1 ?_ NB126_129.out _;(with_reducible repeat(first|refine zqg ?_ _|refine zqj ?_|refine zqh ?_ _));refine zq1 ?_ NB126_129.out _;(with_reducible repeat(first|refine zqg ?_ _|refine zqj ?_|refine zqh ?_ _));exact BK126.out⟩,⟨by repeat(first|(with_reducible first|exact HB.out|apply zqb|apply zqa|apply zqc|refine zqi ?_ GE126.out|refine zqi ?_ GE129.out)|exact HB.out)⟩⟩
        ·rw [if_neg c16] at H
         exact absurd H (by simp)
       ·rw [if_neg c15] at H
        exact absurd H (by simp)
      ·rw [if_neg c14] at H
       have c14b0:decide (x35_2<(l0_1.length:Int))=false:=decide_eq_false c14
       clear c14
       have H':=zqd.mk H
       clear H
       have hcz28_0:wr.cell? ⟨gb126,0,none⟩=some (.string a0_0):=(zqf BK126.out 0).trans rfl
       have hcz28_1:wr.cell? ⟨gb126,1,none⟩=some (.slice A0_1 l0_1.length c0_1):=(zqf BK126.out 1).trans rfl
       have hcz28_2:wr.cell? ⟨gb126,2,none⟩=some (.slice A0_2 l0_2.length c0_2):=(zqf BK126.out 2).trans rfl
       have hcz28_3:wr.cell? ⟨gb126,3,none⟩=some (.slice A0_3 l0_3.length c0_3):=(zqf BK126.out 3).trans rfl
       have hfz28_0:=zqe BK126.out 0
       have hfz28_1:=zqe BK126.out 1
       have hfz28_2:=zqe BK126.out 2
       have hfz28_3:=zqe BK126.out 3
       go_wp2
       go_loopg [51] k2 (fun kq v51 w' => ∃ (x51_3:Int),v51 = .int .i64 x51_3∧zqd (zjs.l1 kq (l0_1.length:Int) l0_2 (l0_2.length:Int) x51_3 a0_0 l0_1 l0_2 l0_3=some r)∧zqd (kq≤k2)∧zqd (w'.heap[gb126]? = some (.cells #[.string a0_0,(.slice A0_1 l0_1.length c0_1),(.slice A0_2 l0_2.length c0_2),(.slice A0_3 l0_3.length c0_3)] 61 (0,0)))∧zqd (Below w.heap.size w w'))
       case atStart=>exact⟨(0),(by first|rfl|(simp;done)|(simp [*];done)|(generalize ByteArray.toList _=q_;cases q_ <;> rfl)),H',⟨Nat.le_refl _⟩,⟨by(with_reducible repeat(first|refine zqg ?_ _|refine zqj ?_|refine zqh ?_ _));exact BK126.out⟩,⟨by repeat(first|(with_reducible first|exact HB.out|apply zqb|apply zqa|apply zqc|refine zqi ?_ GE126.out)|exact HB.out)⟩⟩
       case round=>
        clear H'
        try clear c1
        try clear p1
        try clear q1
        try clear hx1
        try clear c2
        try clear p2
        try clear c5
        try clear c5b0
        try clear c5b1
        try clear c6
        try clear c6b0
        try clear c6b1
        try clear p6
        try clear c7
        try clear c7b0
        try clear c7b1
        try clear c9
        try clear c12
        try clear p12
        try clear q12
        try clear hx12
        try clear c14
        try clear c14b0
        try clear c15
        try clear c15b0
        try clear c16
        try clear c16b0
        try clear c17
        try clear c17b0
        try clear c19
        try clear c21
        try clear c21b0
        try clear c23
        try clear c26
        try clear hcz10_0
        try clear hcz10_1
        try clear hcz10_2
        try clear hcz10_3
        try clear hcz13_0
        try clear hcz13_1
        try clear hcz13_2
        try clear hcz13_3
        try clear hcz20_0
        try clear hcz20_1
        try clear hcz20_2
        try clear hcz24_0
        try clear hcz24_1
        try clear hcz24_2
        try clear hcz27_0
        try clear hcz27_1
        try clear hcz27_2
        try clear hcz28_0
        try clear hcz28_1
        try clear hcz28_2
        try clear hcz28_3
        try clear hcz4_0
        try clear hcz4_1
        try clear hcz4_2
        try clear hcz4_3
        try clear hcz8_0
        try clear hcz8_1
        try clear hcz8_2
        try clear hcz8_3
        try clear hfz10_0
        try clear hfz10_1
        try clear hfz10_2
        try clear hfz10_3
        try clear hfz13_0
        try clear hfz13_1
        try clear hfz13_2
        try clear hfz13_3
        try clear hfz20_0
        try clear hfz20_1
        try clear hfz20_2
        try clear hfz24_0
        try clear hfz24_1
        try clear hfz24_2
        try clear hfz27_0
        try clear hfz27_1
        try clear hfz27_2
        try clear hfz28_0
        try clear hfz28_1
        try clear hfz28_2
        try clear hfz28_3
        try clear hfz4_0
        try clear hfz4_1
        try clear hfz4_2
        try clear hfz4_3
        try clear hfz8_0
        try clear hfz8_1
        try clear hfz8_2
        try clear hfz8_3
        try clear hx128_0
        try clear hx128_1
        try clear hx128_2
        try clear p128
        try clear p2
        try clear q128
        obtain ⟨x51_3,rfl,HA,HK3,BK126,HB⟩:=hrel
        cases gk with
        | zero=>exact absurd HA.out (by simp [zjs.l1])
        | succ k3=>
         have H:=HA.out
         clear HA
         simp only [zjs.l1] at H
         by_cases c29:x51_3<(l0_2.length:Int)
         ·rw [if_pos c29] at H
          have c29b0:decide (x51_3<(l0_2.length:Int))=true:=decide_eq_true c29
          clear c29
          by_cases c30:0≤x51_3
          ·rw [if_pos c30] at H
           have c30b0:decide (0≤x51_3)=true:=decide_eq_true c30
           clear c30
           by_cases c31:x51_3<(l0_2.length:Int)
           ·rw [if_pos c31] at H
            have c31b0:decide (x51_3<(l0_2.length:Int))=true:=decide_eq_true c31
            clear c31
            by_cases c32:0≤(rd l0_2 x51_3)
            ·rw [if_pos c32] at H
             have c32b0:decide (0≤(rd l0_2 x51_3))=true:=decide_eq_true c32
             clear c32
             by_cases c33:(rd l0_2 x51_3)<(l0_1.length:Int)
             ·rw [if_pos c33] at H
              have c33b0:decide ((rd l0_2 x51_3)<(l0_1.length:Int))=true:=decide_eq_true c33
              clear c33
              obtain ⟨bq34,hbq34⟩:∃ b_:Bool,b_=((zqp l0_1 (rd l0_2 x51_3)).f2):=⟨_,rfl⟩
              replace H:(if(bq34=true) then(zjs.l1 k3 (l0_1.length:Int) l0_2 (l0_2.length:Int) (wrap64 (x51_3+1)) a0_0 l0_1 l0_2 l0_3) else (some false))=some r:=by rw [← hbq34] at H;exact H
              have Nbq34:=zqd.mk hbq34
              clear hbq34
              by_cases c35:(bq34=true)
              ·subst c35
               have H1:(zjs.l1 k3 (l0_1.length:Int) l0_2 (l0_2.length:Int) (wrap64 (x51_3+1)) a0_0 l0_1 l0_2 l0_3)=some r:=by rw [if_pos rfl] at H;exact H
               clear H
               have H:=H1
               clear H1
               (try rw [← Nbq34.out] at hx128_0)
               (try rw [← Nbq34.out] at hx128_1)
               (try rw [← Nbq34.out] at hx128_2)
               (try rw [← Nbq34.out])
               have H':=zqd.mk H
               clear H
               have p130:0≤(x51_3:Int):=of_decide_eq_true (by first|(with_reducible assumption)|assumption)
               have q130:x51_3<(l0_2.length:Int):=of_decide_eq_true (by first|(with_reducible assumption)|assumption)
               obtain ⟨ad130,e130,hx130_0⟩:=Kd.zke HR0_2.out x51_3 p130 q130
               cases e130
               replace hx130_0:=(HB.out.cell (World.block_lt_of_cell? w _ hx130_0)).trans hx130_0
               replace p130:=eq_true p130
               replace q130:=eq_true q130
               have hcz36_0:wr.cell? ⟨gb126,0,none⟩=some (.string a0_0):=(zqf BK126.out 0).trans rfl
               have hcz36_1:wr.cell? ⟨gb126,1,none⟩=some (.slice A0_1 l0_1.length c0_1):=(zqf BK126.out 1).trans rfl
               have hcz36_2:wr.cell? ⟨gb126,2,none⟩=some (.slice (some ad130) l0_2.length c0_2):=(zqf BK126.out 2).trans rfl
               have hcz36_3:wr.cell? ⟨gb126,3,none⟩=some (.slice A0_3 l0_3.length c0_3):=(zqf BK126.out 3).trans rfl
               have hfz36_0:=zqe BK126.out 0
               have hfz36_1:=zqe BK126.out 1
               have hfz36_2:=zqe BK126.out 2
               have hfz36_3:=zqe BK126.out 3
               have p131:0≤((rd l0_2 x51_3):Int):=of_decide_eq_true (by first|(with_reducible assumption)|assumption)
               have q131:(rd l0_2 x51_3)<(l0_1.length:Int):=of_decide_eq_true (by first|(with_reducible assumption)|assumption)
               obtain ⟨ad131,e131,hx131_0,hx131_1,hx131_2⟩:=at_T90 HR0_1.out (rd l0_2 x51_3) p131 q131
               (try rw [← Nbq34.out] at hx131_2)
               cases e131
               replace hx131_0:=(HB.out.cell (World.block_lt_of_cell? w _ hx131_0)).trans hx131_0
               replace hx131_1:=(HB.out.cell (World.block_lt_of_cell? w _ hx131_1)).trans hx131_1
               replace hx131_2:=(HB.out.cell (World.block_lt_of_cell? w _ hx131_2)).trans hx131_2
               replace p131:=eq_true p131
               replace q131:=eq_true q131
               go_wp2
               go_roundg k3
               case measure=>have:=HJ1.out;have:=HK2.out;have:=HK3.out;omega
               case rel=>first|(exact⟨(wrap64 (x51_3+1)),(by first|rfl|(simp;done)|(simp [*];done)|(generalize ByteArray.toList _=q_;cases q_ <;> rfl)),H',⟨by have:=HJ1.out;have:=HK2.out;have:=HK3.out;omega⟩,⟨by(with_reducible repeat(first|refine zqg ?_ _|refine zqj ?_|refine zqh ?_ _));exact BK126.out⟩,⟨by repeat(first|(with_reducible first|exact HB.out|apply zqb|apply zqa|apply zqc|refine zqi ?_ GE126.out)|exact HB.out)⟩⟩)|(simp only [← Nbq34.out];exact⟨(wrap64 (x51_3+1)),(by first|rfl|(simp;done)|(simp [*];done)|(generalize ByteArray.toList _=q_;cases q_ <;> rfl)),H',⟨by have:=HJ1.out;have:=HK2.out;have:=HK3.out;omega⟩,⟨by(with_reducible repeat(first|refine zqg ?_ _|refine zqj ?_|refine zqh ?_ _));exact BK126.out⟩,⟨by repeat(first|(with_reducible first|exact HB.out|apply zqb|apply zqa|apply zqc|refine zqi ?_ GE126.out)|exact HB.out)⟩⟩)
              ·replace c35:=Bool.eq_false_iff.mpr c35
               subst c35
               have H1:(some false)=some r:=by rw [if_neg (show ¬ (false=true) by decide)] at H;exact H
               clear H
               have H:=H1
               clear H1
               (try rw [← Nbq34.out] at hx128_0)
               (try rw [← Nbq34.out] at hx128_1)
               (try rw [← Nbq34.out] at hx128_2)
               (try rw [← Nbq34.out] at hx130_0)
               (try rw [← Nbq34.out] at hx131_0)
               (try rw [← Nbq34.out] at hx131_1)
               (try rw [← Nbq34.out] at hx131_2)
               (try rw [← Nbq34.out])
               obtain rfl:=Option.some.inj H
               have p130:0≤(x51_3:Int):=of_decide_eq_true (by first|(with_reducible assumption)|assumption)
               have q130:x51_3<(l0_2.length:Int):=of_decide_eq_true (by first|(with_reducible assumption)|assumption)
               obtain ⟨ad130,e130,hx130_0⟩:=Kd.zke HR0_2.out x51_3 p130 q130
               cases e130
               replace hx130_0:=(HB.out.cell (World.block_lt_of_cell? w _ hx130_0)).trans hx130_0
               replace p130:=eq_true p130
               replace q130:=eq_true q130
               have hcz37_0:wr.cell? ⟨gb126,0,none⟩=some (.string a0_0):=(zqf BK126.out 0).trans rfl
               have hcz37_1:wr.cell? ⟨gb126,1,none⟩=some (.slice A0_1 l0_1.length c0_1):=(zqf BK126.out 1).trans rfl
               have hcz37_2:wr.cell? ⟨gb126,2,none⟩=some (.slice (some ad130) l0_2.length c0_2):=(zqf BK126.out 2).trans rfl
               have hcz37_3:wr.cell? ⟨gb126,3,none⟩=some (.slice A0_3 l0_3.length c0_3):=(zqf BK126.out 3).trans rfl
               have hfz37_0:=zqe BK126.out 0
               have hfz37_1:=zqe BK126.out 1
               have hfz37_2:=zqe BK126.out 2
               have hfz37_3:=zqe BK126.out 3
               have p131:0≤((rd l0_2 x51_3):Int):=of_decide_eq_true (by first|(with_reducible assumption)|assumption)
               have q131:(rd l0_2 x51_3)<(l0_1.length:Int):=of_decide_eq_true (by first|(with_reducible assumption)|assumption)
               obtain ⟨ad131,e131,hx131_0,hx131_1,hx131_2⟩:=at_T90 HR0_1.out (rd l0_2 x51_3) p131 q131
               (try rw [← Nbq34.out] at hx131_2)
               cases e131
               replace hx131_0:=(HB.out.cell (World.block_lt_of_cell? w _ hx131_0)).trans hx131_0
               replace hx131_1:=(HB.out.cell (World.block_lt_of_cell? w _ hx131_1)).trans hx131_1
               replace hx131_2:=(HB.out.cell (World.block_lt_of_cell? w _ hx131_2)).trans hx131_2
               replace p131:=eq_true p131
               replace q131:=eq_true q131
               go_wp2
               go_ret
               exact⟨by first|rfl|(simp [zqm,zql] <;> rfl)|(simp [*,zqm,zql] <;> rfl),by repeat(first|(with_reducible first|exact HB.out|apply zqb|apply zqa|apply zqc|refine zqi ?_ GE126.out)|exact HB.out)⟩
             ·rw [if_neg c33] at H
              exact absurd H (by simp)
            ·rw [if_neg c32] at H
             exact absurd H (by simp)
           ·rw [if_neg c31] at H
            exact absurd H (by simp)
          ·rw [if_neg c30] at H
           exact absurd H (by simp)
         ·rw [if_neg c29] at H
          have c29b0:decide (x51_3<(l0_2.length:Int))=false:=decide_eq_false c29
          clear c29
          have H':=zqd.mk H
          clear H
          have hcz38_0:wr.cell? ⟨gb126,0,none⟩=some (.string a0_0):=(zqf BK126.out 0).trans rfl
          have hcz38_1:wr.cell? ⟨gb126,1,none⟩=some (.slice A0_1 l0_1.length c0_1):=(zqf BK126.out 1).trans rfl
          have hcz38_2:wr.cell? ⟨gb126,2,none⟩=some (.slice A0_2 l0_2.length c0_2):=(zqf BK126.out 2).trans rfl
          have hcz38_3:wr.cell? ⟨gb126,3,none⟩=some (.slice A0_3 l0_3.length c0_3):=(zqf BK126.out 3).trans rfl
          have hfz38_0:=zqe BK126.out 0
          have hfz38_1:=zqe BK126.out 1
          have hfz38_2:=zqe BK126.out 2
          have hfz38_3:=zqe BK126.out 3
          go_wp2
          go_loopg [66] k3 (fun kq v66 w' => ∃ (x66_4:Int),v66 = .int .i64 x66_4∧zqd (zjs.l2 kq (l0_1.length:Int) l0_3 (l0_3.length:Int) x66_4 a0_0 l0_1 l0_2 l0_3=some r)∧zqd (kq≤k3)∧zqd (w'.heap[gb126]? = some (.cells #[.string a0_0,(.slice A0_1 l0_1.length c0_1),(.slice A0_2 l0_2.length c0_2),(.slice A0_3 l0_3.length c0_3)] 61 (0,0)))∧zqd (Below w.heap.size w w'))
          case atStart=>exact⟨(0),(by first|rfl|(simp;done)|(simp [*];done)|(generalize ByteArray.toList _=q_;cases q_ <;> rfl)),H',⟨Nat.le_refl _⟩,⟨by(with_reducible repeat(first|refine zqg ?_ _|refine zqj ?_|refine zqh ?_ _));exact BK126.out⟩,⟨by repeat(first|(with_reducible first|exact HB.out|apply zqb|apply zqa|apply zqc|refine zqi ?_ GE126.out)|exact HB.out)⟩⟩
          case round=>
           clear H'
           try clear c1
           try clear p1
           try clear q1
           try clear hx1
           try clear c2
           try clear p2
           try clear c3
           try clear q3
           try clear c5
           try clear c5b0
           try clear c5b1
           try clear c6
           try clear c6b0
           try clear c6b1
           try clear p6
           try clear c7
           try clear c7b0
           try clear c7b1
           try clear c9
           try clear c12
           try clear p12
           try clear q12
           try clear hx12
           try clear p13
           try clear q13
           try clear hx13
           try clear c14
           try clear c14b0
           try clear c15
           try clear c15b0
           try clear c16
           try clear c16b0
           try clear c17
           try clear c17b0
           try clear c19
           try clear c21
           try clear c21b0
           try clear c23
           try clear c26
           try clear c29
           try clear c29b0
           try clear c30
           try clear c30b0
           try clear c31
           try clear c31b0
           try clear c32
           try clear c32b0
           try clear c33
           try clear c33b0
           try clear q34
           try clear c35
           try clear hcz10_0
           try clear hcz10_1
           try clear hcz10_2
           try clear hcz10_3
           try clear hcz13_0
           try clear hcz13_1
           try clear hcz13_2
           try clear hcz13_3
           try clear hcz20_0
           try clear hcz20_1
           try clear hcz20_2
           try clear hcz24_0
           try clear hcz24_1
           try clear hcz24_2
           try clear hcz27_0
           try clear hcz27_1
           try clear hcz27_2
           try clear hcz28_0
           try clear hcz28_1
           try clear hcz28_2
           try clear hcz28_3
           try clear hcz36_0
           try clear hcz36_1
           try clear hcz36_2
           try clear hcz36_3
           try clear hcz37_0
           try clear hcz37_1
           try clear hcz37_2
           try clear hcz37_3
           try clear hcz38_0
           try clear hcz38_1
           try clear hcz38_2
           try clear hcz38_3
           try clear hcz4_0
           try clear hcz4_1
           try clear hcz4_2
           try clear hcz4_3
           try clear hcz8_0
           try clear hcz8_1
           try clear hcz8_2
           try clear hcz8_3
           try clear hfz10_0
           try clear hfz10_1
           try clear hfz10_2
           try clear hfz10_3
           try clear hfz13_0
           try clear hfz13_1
           try clear hfz13_2
           try clear hfz13_3
           try clear hfz20_0
           try clear hfz20_1
           try clear hfz20_2
           try clear hfz24_0
           try clear hfz24_1
           try clear hfz24_2
           try clear hfz27_0
           try clear hfz27_1
           try clear hfz27_2
           try clear hfz28_0
           try clear hfz28_1
           try clear hfz28_2
           try clear hfz28_3
           try clear hfz36_0
           try clear hfz36_1
           try clear hfz36_2
           try clear hfz36_3
           try clear hfz37_0
           try clear hfz37_1
           try clear hfz37_2
           try clear hfz37_3
           try clear hfz38_0
           try clear hfz38_1
           try clear hfz38_2
           try clear hfz38_3
           try clear hfz4_0
           try clear hfz4_1
           try clear hfz4_2
           try clear hfz4_3
           try clear hfz8_0
           try clear hfz8_1
           try clear hfz8_2
           try clear hfz8_3
           try clear hx128_0
           try clear hx128_1
           try clear hx128_2
           try clear hx130_0
           try clear hx131_0
           try clear hx131_1
           try clear hx131_2
           try clear p1
           try clear p12
           try clear p128
           try clear p130
           try clear p131
           try clear p2
           try clear p6
           try clear q1
           try clear q12
           try clear q128
           try clear q130
           try clear q131
           obtain ⟨x66_4,rfl,HA,HK4,BK126,HB⟩:=hrel
           cases gk with
           | zero=>exact absurd HA.out (by simp [zjs.l2])
           | succ k4=>
            have H:=HA.out
            clear HA
            simp only [zjs.l2] at H
            by_cases c39:x66_4<(l0_3.length:Int)
            ·rw [if_pos c39] at H
             have c39b0:decide (x66_4<(l0_3.length:Int))=true:=decide_eq_true c39
             clear c39
             by_cases c40:0≤x66_4
             ·rw [if_pos c40] at H
              have c40b0:decide (0≤x66_4)=true:=decide_eq_true c40
              clear c40
              by_cases c41:x66_4<(l0_3.length:Int)
              ·rw [if_pos c41] at H
               have c41b0:decide (x66_4<(l0_3.length:Int))=true:=decide_eq_true c41
               clear c41
               replace H:=Option.bind_eq_some_iff.mp H
               obtain ⟨t134,A420,H⟩:=H
               replace H:(if t134=true then(zjs.l2 k4 (l0_1.length:Int) l0_3 (l0_3.length:Int) (wrap64 (x66_4+1)) a0_0 l0_1 l0_2 l0_3) else (some false))=some r:=H
               have A42:=zqd.mk A420
               clear A420
               by_cases c43:t134=true
               ·subst c43
                have H1:(zjs.l2 k4 (l0_1.length:Int) l0_3 (l0_3.length:Int) (wrap64 (x66_4+1)) a0_0 l0_1 l0_2 l0_3)=some r:=by rw [if_pos rfl] at H;exact H
                clear H
                have H:=H1
                clear H1
                have H':=zqd.mk H
                clear H
                have p132:0≤(x66_4:Int):=of_decide_eq_true (by first|(with_reducible assumption)|assumption)
                have q132:x66_4<(l0_3.length:Int):=of_decide_eq_true (by first|(with_reducible assumption)|assumption)
                obtain ⟨ad132,A132_1,c132_1,e132,hx132_0,hx132_1,hl132_1,hi132_1⟩:=at_T96 HR0_3.out x66_4 p132 q132
                cases e132
                replace hx132_0:=(HB.out.cell (World.block_lt_of_cell? w _ hx132_0)).trans hx132_0
                replace hx132_1:=(HB.out.cell (World.block_lt_of_cell? w _ hx132_1)).trans hx132_1
                have HR132_1:=zqd.mk hi132_1
                have HC132_1:=zqd.mk hl132_1
                clear hi132_1 hl132_1
                replace p132:=eq_true p132
                replace q132:=eq_true q132
                go_wp2_with (first|((with_reducible refine zqx (N:=9) rfl ?_);(try(refine zqz (by rfl) ?_;dsimp only));refine zqt ?hg (N:=9) ?hd (cs:=#[.string (⟨#[]⟩:ByteArray),.slice none 0 0]) (t:=96) ?hr ?_;(case hd=>rfl);(case hg=>rfl);(case hr=>first|(go_simp;done)|(go_simp;rfl));intro gb133 hg w44 hbox hb;have n0_:=zqd.mk (zqr (g:=gb126) (o:=.cells #[.string a0_0,.slice A0_1 l0_1.length c0_1,.slice A0_2 l0_2.length c0_2,.slice (some ad132) l0_3.length c0_3] 61 (0,0)) (by(with_reducible repeat(first|refine zqg ?_ _|refine zqj ?_|refine zqh ?_ _));exact BK126.out) hb);have n1_:=zqd.mk (zqn (by repeat(first|(with_reducible first|exact HB.out|apply zqb|apply zqa|apply zqc|refine zqi ?_ GE126.out)|exact HB.out)) hb);have n2_:=zqd.mk (hbox);have n3_:=zqd.mk ((by rw [hg];exact(zqk (by repeat(first|(with_reducible first|exact HB.out|apply zqb|apply zqa|apply zqc|refine zqi ?_ GE126.out)|exact HB.out))):w.heap.size≤gb133));have n4_:=zqd.mk ((by rw [hg];exact(zqk (by repeat(first|(with_reducible first|exact HB.out|apply zqb|apply zqa|apply zqc|refine zqi ?_ GE126.out)|exact HB.out))):w.heap.size≤gb133));have n5_:=zqd.mk ((by rw [hg];exact Nat.ne_of_lt (zxh (g:=gb126) (o:=.cells #[.string a0_0,.slice A0_1 l0_1.length c0_1,.slice A0_2 l0_2.length c0_2,.slice (some ad132) l0_3.length c0_3] 61 (0,0)) (by(with_reducible repeat(first|refine zqg ?_ _|refine zqj ?_|refine zqh ?_ _));exact BK126.out)):gb126≠gb133));have n6_:=zqd.mk ((by rw [hg];exact Nat.ne_of_gt (zxh (g:=gb126) (o:=.cells #[.string a0_0,.slice A0_1 l0_1.length c0_1,.slice A0_2 l0_2.length c0_2,.slice (some ad132) l0_3.length c0_3] 61 (0,0)) (by(with_reducible repeat(first|refine zqg ?_ _|refine zqj ?_|refine zqh ?_ _));exact BK126.out)):gb133≠gb126));clear BK126 HB;have BK126:=n0_;have HB:=n1_;have BK133:=n2_;have GW133:=n3_;have GE133:=n4_;have NB126_133:=n5_;have NB133_126:=n6_;clear n0_ n1_ n2_ n3_ n4_ n5_ n6_ hb hbox hg;have hnb45:=NB133_126.out;have hnc45:=NB126_133.out;have hcz46_0:w44.cell? ⟨gb133,0,none⟩=some (.string (⟨#[]⟩:ByteArray)):=(zqf BK133.out 0).trans rfl;have hcz46_1:w44.cell? ⟨gb133,1,none⟩=some (.slice none 0 0):=(zqf BK133.out 1).trans rfl;have hfz46_0:=zqe BK133.out 0;have hfz46_1:=zqe BK133.out 1)|((with_reducible refine zqv (f:=114) rfl ?_);refine zq8 (some 73) rfl rfl Tryd.func114 (by kernel_rfl) rfl #[.slice A132_1 ((zq0 l0_3 x66_4).f1).length c132_1,.int .i64 (l0_1.length:Int)] rfl (by(try simp only [List.map_toArray,List.map_cons,List.map_nil]);first|done|rfl|(simp only [List.length_drop,List.length_take];rfl)) ?_;(with_reducible refine(zjv.calls k4 _ _ ((zq0 l0_3 x66_4).f1) (l0_1.length:Int) true _ ?side1 ?side2 A42.out).mono ?_);(case side1=>exact Kd.zq3 HR132_1.out (by repeat(first|(with_reducible first|exact HB.out|apply zqb|apply zqa|apply zqc|refine zqi ?_ GE126.out|refine zqi ?_ GE133.out)|exact HB.out)));(case side2=>exact HC132_1.out);rintro e w47 ⟨rfl,hb⟩;refine⟨_,rfl,?_⟩;have n0_:=zqd.mk (zqr (g:=gb126) (o:=.cells #[.string a0_0,.slice A0_1 l0_1.length c0_1,.slice A0_2 l0_2.length c0_2,.slice (some ad132) l0_3.length c0_3] 61 (0,0)) (by(with_reducible repeat(first|refine zqg ?_ _|refine zqj ?_|refine zqh ?_ _));refine zq1 ?_ NB126_133.out _;(with_reducible repeat(first|refine zqg ?_ _|refine zqj ?_|refine zqh ?_ _));refine zq1 ?_ NB126_133.out _;(with_reducible repeat(first|refine zqg ?_ _|refine zqj ?_|refine zqh ?_ _));exact BK126.out) hb);have n1_:=zqd.mk (zqr (g:=gb133) (o:=.cells #[.string ((zq0 l0_3 x66_4).f0),.slice A132_1 ((zq0 l0_3 x66_4).f1).length c132_1] 96 (0,0)) (by(with_reducible repeat(first|refine zqg ?_ _|refine zqj ?_|refine zqh ?_ _));refine zqu (cs:=#[.string ((zq0 l0_3 x66_4).f0),.slice none 0 0]) ?_ 1 _ rfl;(with_reducible repeat(first|refine zqg ?_ _|refine zqj ?_|refine zqh ?_ _));refine zqu (cs:=#[.string (⟨#[]⟩:ByteArray),.slice none 0 0]) ?_ 0 _ rfl;(with_reducible repeat(first|refine zqg ?_ _|refine zqj ?_|refine zqh ?_ _));exact BK133.out) hb);have n2_:=zqd.mk (zqn (by repeat(first|(with_reducible first|exact HB.out|apply zqb|apply zqa|apply zqc|refine zqi ?_ GE126.out|refine zqi ?_ GE133.out)|exact HB.out)) hb);clear BK126 BK133 HB;have BK126:=n0_;have BK133:=n1_;have HB:=n2_;clear n0_ n1_ n2_;(try clear hb);(try clear hb2);(try clear hk);(try clear hi)))
                go_roundg k4
                case measure=>have:=HJ1.out;have:=HK2.out;have:=HK3.out;have:=HK4.out;omega
                case rel=>exact⟨(wrap64 (x66_4+1)),(by first|rfl|(simp;done)|(simp [*];done)|(generalize ByteArray.toList _=q_;cases q_ <;> rfl)),H',⟨by have:=HJ1.out;have:=HK2.out;have:=HK3.out;have:=HK4.out;omega⟩,⟨by(with_reducible repeat(first|refine zqg ?_ _|refine zqj ?_|refine zqh ?_ _));exact BK126.out⟩,⟨by repeat(first|(with_reducible first|exact HB.out|apply zqb|apply zqa|apply zqc|refine zqi ?_ GE126.out|refine zqi ?_ GE133.out)|exact HB.out)⟩⟩
               ·replace c43:=Bool.eq_false_iff.mpr c43
                subst c43
                have H1:(some false)=some r:=by rw [if_neg (show ¬ (false=true) by decide)] at H;exact H
                clear H
                have H:=H1
                clear H1
                obtain rfl:=Option.some.inj H
                have p132:0≤(x66_4:Int):=of_decide_eq_true (by first|(with_reducible assumption)|assumption)
                have q132:x66_4<(l0_3.length:Int):=of_decide_eq_true (by first|(with_reducible assumption)|assumption)
                obtain ⟨ad132,A132_1,c132_1,e132,hx132_0,hx132_1,hl132_1,hi132_1⟩:=at_T96 HR0_3.out x66_4 p132 q132
                cases e132
                replace hx132_0:=(HB.out.cell (World.block_lt_of_cell? w _ hx132_0)).trans hx132_0
                replace hx132_1:=(HB.out.cell (World.block_lt_of_cell? w _ hx132_1)).trans hx132_1
                have HR132_1:=zqd.mk hi132_1
                have HC132_1:=zqd.mk hl132_1
                clear hi132_1 hl132_1
                replace p132:=eq_true p132
                replace q132:=eq_true q132
                go_wp2_with (first|((with_reducible refine zqx (N:=9) rfl ?_);(try(refine zqz (by rfl) ?_;dsimp only));refine zqt ?hg (N:=9) ?hd (cs:=#[.string (⟨#[]⟩:ByteArray),.slice none 0 0]) (t:=96) ?hr ?_;(case hd=>rfl);(case hg=>rfl);(case hr=>first|(go_simp;done)|(go_simp;rfl));intro gb133 hg w48 hbox hb;have n0_:=zqd.mk (zqr (g:=gb126) (o:=.cells #[.string a0_0,.slice A0_1 l0_1.length c0_1,.slice A0_2 l0_2.length c0_2,.slice (some ad132) l0_3.length c0_3] 61 (0,0)) (by(with_reducible repeat(first|refine zqg ?_ _|refine zqj ?_|refine zqh ?_ _));exact BK126.out) hb);have n1_:=zqd.mk (zqn (by repeat(first|(with_reducible first|exact HB.out|apply zqb|apply zqa|apply zqc|refine zqi ?_ GE126.out)|exact HB.out)) hb);have n2_:=zqd.mk (hbox);have n3_:=zqd.mk ((by rw [hg];exact(zqk (by repeat(first|(with_reducible first|exact HB.out|apply zqb|apply zqa|apply zqc|refine zqi ?_ GE126.out)|exact HB.out))):w.heap.size≤gb133));have n4_:=zqd.mk ((by rw [hg];exact(zqk (by repeat(first|(with_reducible first|exact HB.out|apply zqb|apply zqa|apply zqc|refine zqi ?_ GE126.out)|exact HB.out))):w.heap.size≤gb133));have n5_:=zqd.mk ((by rw [hg];exact Nat.ne_of_lt (zxh (g:=gb126) (o:=.cells #[.string a0_0,.slice A0_1 l0_1.length c0_1,.slice A0_2 l0_2.length c0_2,.slice (some ad132) l0_3.length c0_3] 61 (0,0)) (by(with_reducible repeat(first|refine zqg ?_ _|refine zqj ?_|refine zqh ?_ _));exact BK126.out)):gb126≠gb133));have n6_:=zqd.mk ((by rw [hg];exact Nat.ne_of_gt (zxh (g:=gb126) (o:=.cells #[.string a0_0,.slice A0_1 l0_1.length c0_1,.slice A0_2 l0_2.length c0_2,.slice (some ad132) l0_3.length c0_3] 61 (0,0)) (by(with_reducible repeat(first|refine zqg ?_ _|refine zqj ?_|refine zqh ?_ _));exact BK126.out)):gb133≠gb126));clear BK126 HB;have BK126:=n0_;have HB:=n1_;have BK133:=n2_;have GW133:=n3_;have GE133:=n4_;have NB126_133:=n5_;have NB133_126:=n6_;clear n0_ n1_ n2_ n3_ n4_ n5_ n6_ hb hbox hg;have hnb49:=NB133_126.out;have hnc49:=NB126_133.out;have hcz50_0:w48.cell? ⟨gb133,0,none⟩=some (.string (⟨#[]⟩:ByteArray)):=(zqf BK133.out 0).trans rfl;have hcz50_1:w48.cell? ⟨gb133,1,none⟩=some (.slice none 0 0):=(zqf BK133.out 1).trans rfl;have hfz50_0:=zqe BK133.out 0;have hfz50_1:=zqe BK133.out 1)|((with_reducible refine zqv (f:=114) rfl ?_);refine zq8 (some 73) rfl rfl Tryd.func114 (by kernel_rfl) rfl #[.slice A132_1 ((zq0 l0_3 x66_4).f1).length c132_1,.int .i64 (l0_1.length:Int)] rfl (by(try simp only [List.map_toArray,List.map_cons,List.map_nil]);first|done|rfl|(simp only [List.length_drop,List.length_take];rfl)) ?_;(with_reducible refine(zjv.calls k4 _ _ ((zq0 l0_3 x66_4).f1) (l0_1.length:Int) false _ ?side1 ?side2 A42.out).mono ?_);(case side1=>exact Kd.zq3 HR132_1.out (by repeat(first|(with_reducible first|exact HB.out|apply zqb|apply zqa|apply zqc|refine zqi ?_ GE126.out|refine zqi ?_ GE133.out)|exact HB.out)));(case side2=>exact HC132_1.out);rintro e w51 ⟨rfl,hb⟩;refine⟨_,rfl,?_⟩;have n0_:=zqd.mk (zqr (g:=gb126) (o:=.cells #[.string a0_0,.slice A0_1 l0_1.length c0_1,.slice A0_2 l0_2.length c0_2,.slice (some ad132) l0_3.length c0_3] 61 (0,0)) (by(with_reducible repeat(first|refine zqg ?_ _|refine zqj ?_|refine zqh ?_ _));refine zq1 ?_ NB126_133.out _;(with_reducible repeat(first|refine zqg ?_ _|refine zqj ?_|refine zqh ?_ _));refine zq1 ?_ NB126_133.out _;(with_reducible repeat(first|refine zqg ?_ _|refine zqj ?_|refine zqh ?_ _));exact BK126.out) hb);have n1_:=zqd.mk (zqr (g:=gb133) (o:=.cells #[.string ((zq0 l0_3 x66_4).f0),.slice A132_1 ((zq0 l0_3 x66_4).f1).length c132_1] 96 (0,0)) (by(with_reducible repeat(first|refine zqg ?_ _|refine zqj ?_|refine zqh ?_ _));refine zqu (cs:=#[.string ((zq0 l0_3 x66_4).f0),.slice none 0 0]) ?_ 1 _ rfl;(with_reducible repeat(first|refine zqg ?_ _|refine zqj ?_|refine zqh ?_ _));refine zqu (cs:=#[.string (⟨#[]⟩:ByteArray),.slice none 0 0]) ?_ 0 _ rfl;(with_reducible repeat(first|refine zqg ?_ _|refine zqj ?_|refine zqh ?_ _));exact BK133.out) hb);have n2_:=zqd.mk (zqn (by repeat(first|(with_reducible first|exact HB.out|apply zqb|apply zqa|apply zqc|refine zqi ?_ GE126.out|refine zqi ?_ GE133.out)|exact HB.out)) hb);clear BK126 BK133 HB;have BK126:=n0_;have BK133:=n1_;have HB:=n2_;clear n0_ n1_ n2_;(try clear hb);(try clear hb2);(try clear hk);(try clear hi)))
                go_ret
                exact⟨by first|rfl|(simp [zqm,zql] <;> rfl)|(simp [*,zqm,zql] <;> rfl),by repeat(first|(with_reducible first|exact HB.out|apply zqb|apply zqa|apply zqc|refine zqi ?_ GE126.out|refine zqi ?_ GE133.out)|exact HB.out)⟩
              ·rw [if_neg c41] at H
               exact absurd H (by simp)
             ·rw [if_neg c40] at H
              exact absurd H (by simp)
            ·rw [if_neg c39] at H
             have c39b0:decide (x66_4<(l0_3.length:Int))=false:=decide_eq_false c39
             clear c39
             replace H:=Option.bind_eq_some_iff.mp H
             obtain ⟨t135,A520,H⟩:=H
             replace H:((zjt.f k4 t135).bind fun t138=>(if t138=true then((zxs.f l0_3).bind fun t139=>((zjt.f k4 t139).bind fun t142=>(some t142))) else (some false)))=some r:=H
             have A52:=zqd.mk A520
             clear A520
             replace H:=Option.bind_eq_some_iff.mp H
             obtain ⟨t138,A530,H⟩:=H
             replace H:(if t138=true then((zxs.f l0_3).bind fun t139=>((zjt.f k4 t139).bind fun t142=>(some t142))) else (some false))=some r:=H
             have A53:=zqd.mk A530
             clear A530
             by_cases c54:t138=true
             ·subst c54
              have H1:((zxs.f l0_3).bind fun t139=>((zjt.f k4 t139).bind fun t142=>(some t142)))=some r:=by rw [if_pos rfl] at H;exact H
              clear H
              have H:=H1
              clear H1
              replace H:=Option.bind_eq_some_iff.mp H
              obtain ⟨t139,A550,H⟩:=H
              replace H:((zjt.f k4 t139).bind fun t142=>(some t142))=some r:=H
              have A55:=zqd.mk A550
              clear A550
              replace H:=Option.bind_eq_some_iff.mp H
              obtain ⟨t142,A560,H⟩:=H
              replace H:(some t142)=some r:=H
              have A56:=zqd.mk A560
              clear A560
              obtain rfl:=Option.some.inj H
              have hcz57_0:wr.cell? ⟨gb126,0,none⟩=some (.string a0_0):=(zqf BK126.out 0).trans rfl
              have hcz57_1:wr.cell? ⟨gb126,1,none⟩=some (.slice A0_1 l0_1.length c0_1):=(zqf BK126.out 1).trans rfl
              have hcz57_2:wr.cell? ⟨gb126,2,none⟩=some (.slice A0_2 l0_2.length c0_2):=(zqf BK126.out 2).trans rfl
              have hcz57_3:wr.cell? ⟨gb126,3,none⟩=some (.slice A0_3 l0_3.length c0_3):=(zqf BK126.out 3).trans rfl
              have hfz57_0:=zqe BK126.out 0
              have hfz57_1:=zqe BK126.out 1
              have hfz57_2:=zqe BK126.out 2
              have hfz57_3:=zqe BK126.out 3
              go_wp2_with (first|((with_reducible refine zqv (f:=115) rfl ?_);refine zq8 (some 78) rfl rfl Tryd.func115 (by kernel_rfl) rfl #[.slice A0_1 l0_1.length c0_1,.func (.func 116) #[] #[]] rfl (by(try simp only [List.map_toArray,List.map_cons,List.map_nil]);first|done|rfl|(simp only [List.length_drop,List.length_take];rfl)) ?_;(with_reducible refine(zxr.calls _ _ l0_1 t135 _ ?side1 ?side2 A52.out).mono ?_);(case side1=>repeat(first|exact(Kd.zq3 HR0_1.out HB.out)|(with_reducible refine Kd.zqw ?_ _)|(with_reducible refine Kd.zqy ?_ _)|(with_reducible refine Kd.zq2 ?_)));(case side2=>exact HC0_1.out);rintro e w58 ⟨v136,rfl,ho0,hb⟩;refine⟨_,rfl,?_⟩;have n0_:=zqd.mk (Kd.zko ho0 (zqk (by repeat(first|(with_reducible first|exact HB.out|apply zqb|apply zqa|apply zqc|refine zqi ?_ GE126.out)|exact HB.out))));have n1_:=zqd.mk (zqr (g:=gb126) (o:=.cells #[.string a0_0,.slice A0_1 l0_1.length c0_1,.slice A0_2 l0_2.length c0_2,.slice A0_3 l0_3.length c0_3] 61 (0,0)) (by(with_reducible repeat(first|refine zqg ?_ _|refine zqj ?_|refine zqh ?_ _));exact BK126.out) hb);have n2_:=zqd.mk (zqn (by repeat(first|(with_reducible first|exact HB.out|apply zqb|apply zqa|apply zqc|refine zqi ?_ GE126.out)|exact HB.out)) hb);clear BK126 HB;have HO137:=n0_;have BK126:=n1_;have HB:=n2_;clear n0_ n1_ n2_;(try clear hb);(try clear hb2);(try clear hk);(try clear hi);(try clear ho0);obtain ⟨Ao59,co59,eo59⟩:=Kd.zx7 HO137.out;subst eo59)|((with_reducible refine zqv (f:=93) rfl ?_);refine zq8 (some 79) rfl rfl Tryd.func93 (by kernel_rfl) rfl #[.slice Ao59 t135.length co59] rfl (by(try simp only [List.map_toArray,List.map_cons,List.map_nil]);first|done|rfl|(simp only [List.length_drop,List.length_take];rfl)) ?_;(with_reducible refine(zjt.calls k4 _ _ t135 true _ ?side1 ?side2 ?side3 A53.out).mono ?_);(case side1=>repeat(first|exact(Kd.zxu HO137.out).2.2|(with_reducible refine Kd.zqw ?_ _)|(with_reducible refine Kd.zqy ?_ _)|(with_reducible refine Kd.zq2 ?_)));(case side2=>exact(Kd.zxu HO137.out).2.1);(case side3=>exact LD.below HLD.out (by first|(with_reducible exact Below.refl _ _)|((repeat(first|(with_reducible exact Below.refl _ _)|(with_reducible apply zqb)|(with_reducible apply zqa)|(with_reducible apply zqc)));done)|exact(by repeat(first|(with_reducible first|exact HB.out|apply zqb|apply zqa|apply zqc|refine zqi ?_ GE126.out)|exact HB.out))));rintro e w60 ⟨rfl,hb⟩;refine⟨_,rfl,?_⟩;have n0_:=zqd.mk (Kd.zxy (by(with_reducible repeat(first|apply Kd.zq4|apply Kd.zq5|apply Kd.zq7));exact HO137.out) hb);have n1_:=zqd.mk (zqr (g:=gb126) (o:=.cells #[.string a0_0,.slice A0_1 l0_1.length c0_1,.slice A0_2 l0_2.length c0_2,.slice A0_3 l0_3.length c0_3] 61 (0,0)) (by(with_reducible repeat(first|refine zqg ?_ _|refine zqj ?_|refine zqh ?_ _));exact BK126.out) hb);have n2_:=zqd.mk (zqn (by repeat(first|(with_reducible first|exact HB.out|apply zqb|apply zqa|apply zqc|refine zqi ?_ GE126.out)|exact HB.out)) hb);clear HO137 BK126 HB;have HO137:=n0_;have BK126:=n1_;have HB:=n2_;clear n0_ n1_ n2_;(try clear hb);(try clear hb2);(try clear hk);(try clear hi);have hcz61_0:w60.cell? ⟨gb126,0,none⟩=some (.string a0_0):=(zqf BK126.out 0).trans rfl;have hcz61_1:w60.cell? ⟨gb126,1,none⟩=some (.slice A0_1 l0_1.length c0_1):=(zqf BK126.out 1).trans rfl;have hcz61_2:w60.cell? ⟨gb126,2,none⟩=some (.slice A0_2 l0_2.length c0_2):=(zqf BK126.out 2).trans rfl;have hcz61_3:w60.cell? ⟨gb126,3,none⟩=some (.slice A0_3 l0_3.length c0_3):=(zqf BK126.out 3).trans rfl;have hfz61_0:=zqe BK126.out 0;have hfz61_1:=zqe BK126.out 1;have hfz61_2:=zqe BK126.out 2;have hfz61_3:=zqe BK126.out 3)|(go_at_call 117;(with_reducible refine(zxs.calls _ _ l0_3 t139 _ ?side1 ?side2 A55.out).mono ?_);(case side1=>repeat(first|exact(Kd.zq3 HR0_3.out HB.out)|(with_reducible refine Kd.zqw ?_ _)|(with_reducible refine Kd.zqy ?_ _)|(with_reducible refine Kd.zq2 ?_)));(case side2=>exact HC0_3.out);rintro e w62 ⟨v140,rfl,ho0,hb⟩;have n0_:=zqd.mk (Kd.R_elder' (by(with_reducible repeat(first|apply Kd.zq4|apply Kd.zq5|apply Kd.zq7));exact HO137.out) (Kd.R_base ho0) hb);have n1_:=zqd.mk (Kd.zko (Kd.R_new' ho0 (Kd.R_lt (by(with_reducible repeat(first|apply Kd.zq4|apply Kd.zq5|apply Kd.zq7));exact HO137.out))) (zqk (by repeat(first|(with_reducible first|exact HB.out|apply zqb|apply zqa|apply zqc|refine zqi ?_ GE126.out)|exact HB.out))));have n2_:=zqd.mk (zqr (g:=gb126) (o:=.cells #[.string a0_0,.slice A0_1 l0_1.length c0_1,.slice A0_2 l0_2.length c0_2,.slice A0_3 l0_3.length c0_3] 61 (0,0)) (by(with_reducible repeat(first|refine zqg ?_ _|refine zqj ?_|refine zqh ?_ _));exact BK126.out) hb);have n3_:=zqd.mk (zqn (by repeat(first|(with_reducible first|exact HB.out|apply zqb|apply zqa|apply zqc|refine zqi ?_ GE126.out)|exact HB.out)) hb);clear HO137 BK126 HB;have HO137:=n0_;have HO141:=n1_;have BK126:=n2_;have HB:=n3_;clear n0_ n1_ n2_ n3_;(try clear hb);(try clear hb2);(try clear hk);(try clear hi);(try clear ho0);obtain ⟨Ao63,co63,eo63⟩:=Kd.zx7 HO141.out;subst eo63)|(go_at_call 93;(with_reducible refine(zjt.calls k4 _ _ t139 t142 _ ?side1 ?side2 ?side3 A56.out).mono ?_);(case side1=>repeat(first|exact(Kd.zxu HO141.out).2.2|(with_reducible refine Kd.zqw ?_ _)|(with_reducible refine Kd.zqy ?_ _)|(with_reducible refine Kd.zq2 ?_)));(case side2=>exact(Kd.zxu HO141.out).2.1);(case side3=>exact LD.below HLD.out (by first|(with_reducible exact Below.refl _ _)|((repeat(first|(with_reducible exact Below.refl _ _)|(with_reducible apply zqb)|(with_reducible apply zqa)|(with_reducible apply zqc)));done)|exact(by repeat(first|(with_reducible first|exact HB.out|apply zqb|apply zqa|apply zqc|refine zqi ?_ GE126.out)|exact HB.out))));rintro e w64 ⟨rfl,hb⟩;have n0_:=zqd.mk (Kd.zxy (by(with_reducible repeat(first|apply Kd.zq4|apply Kd.zq5|apply Kd.zq7));exact HO137.out) hb);have n1_:=zqd.mk (Kd.zxy (by(with_reducible repeat(first|apply Kd.zq4|apply Kd.zq5|apply Kd.zq7));exact HO141.out) hb);have n2_:=zqd.mk (zqr (g:=gb126) (o:=.cells #[.string a0_0,.slice A0_1 l0_1.length c0_1,.slice A0_2 l0_2.length c0_2,.slice A0_3 l0_3.length c0_3] 61 (0,0)) (by(with_reducible repeat(first|refine zqg ?_ _|refine zqj ?_|refine zqh ?_ _));exact BK126.out) hb);have n3_:=zqd.mk (zqn (by repeat(first|(with_reducible first|exact HB.out|apply zqb|apply zqa|apply zqc|refine zqi ?_ GE126.out)|exact HB.out)) hb);clear HO137 HO141 BK126 HB;have HO137:=n0_;have HO141:=n1_;have BK126:=n2_;have HB:=n3_;clear n0_ n1_ n2_ n3_;(try clear hb);(try clear hb2);(try clear hk);(try clear hi)))
              go_ret
              exact⟨by first|rfl|(simp [zqm,zql] <;> rfl)|(simp [*,zqm,zql] <;> rfl),by repeat(first|(with_reducible first|exact HB.out|apply zqb|apply zqa|apply zqc|refine zqi ?_ GE126.out)|exact HB.out)⟩
             ·replace c54:=Bool.eq_false_iff.mpr c54
              subst c54
              have H1:(some false)=some r:=by rw [if_neg (show ¬ (false=true) by decide)] at H;exact H
              clear H
              have H:=H1
              clear H1
              obtain rfl:=Option.some.inj H
              have hcz65_0:wr.cell? ⟨gb126,0,none⟩=some (.string a0_0):=(zqf BK126.out 0).trans rfl
              have hcz65_1:wr.cell? ⟨gb126,1,none⟩=some (.slice A0_1 l0_1.length c0_1):=(zqf BK126.out 1).trans rfl
              have hcz65_2:wr.cell? ⟨gb126,2,none⟩=some (.slice A0_2 l0_2.length c0_2):=(zqf BK126.out 2).trans rfl
              have hcz65_3:wr.cell? ⟨gb126,3,none⟩=some (.slice A0_3 l0_3.length c0_3):=(zqf BK126.out 3).trans rfl
              have hfz65_0:=zqe BK126.out 0
              have hfz65_1:=zqe BK126.out 1
              have hfz65_2:=zqe BK126.out 2
              have hfz65_3:=zqe BK126.out 3
              go_wp2_with (first|((with_reducible refine zqv (f:=115) rfl ?_);refine zq8 (some 78) rfl rfl Tryd.func115 (by kernel_rfl) rfl #[.slice A0_1 l0_1.length c0_1,.func (.func 116) #[] #[]] rfl (by(try simp only [List.map_toArray,List.map_cons,List.map_nil]);first|done|rfl|(simp only [List.length_drop,List.length_take];rfl)) ?_;(with_reducible refine(zxr.calls _ _ l0_1 t135 _ ?side1 ?side2 A52.out).mono ?_);(case side1=>repeat(first|exact(Kd.zq3 HR0_1.out HB.out)|(with_reducible refine Kd.zqw ?_ _)|(with_reducible refine Kd.zqy ?_ _)|(with_reducible refine Kd.zq2 ?_)));(case side2=>exact HC0_1.out);rintro e w66 ⟨v136,rfl,ho0,hb⟩;refine⟨_,rfl,?_⟩;have n0_:=zqd.mk (Kd.zko ho0 (zqk (by repeat(first|(with_reducible first|exact HB.out|apply zqb|apply zqa|apply zqc|refine zqi ?_ GE126.out)|exact HB.out))));have n1_:=zqd.mk (zqr (g:=gb126) (o:=.cells #[.string a0_0,.slice A0_1 l0_1.length c0_1,.slice A0_2 l0_2.length c0_2,.slice A0_3 l0_3.length c0_3] 61 (0,0)) (by(with_reducible repeat(first|refine zqg ?_ _|refine zqj ?_|refine zqh ?_ _));exact BK126.out) hb);have n2_:=zqd.mk (zqn (by repeat(first|(with_reducible first|exact HB.out|apply zqb|apply zqa|apply zqc|refine zqi ?_ GE126.out)|exact HB.out)) hb);clear BK126 HB;have HO137:=n0_;have BK126:=n1_;have HB:=n2_;clear n0_ n1_ n2_;(try clear hb);(try clear hb2);(try clear hk);(try clear hi);(try clear ho0);obtain ⟨Ao67,co67,eo67⟩:=Kd.zx7 HO137.out;subst eo67)|((with_reducible refine zqv (f:=93) rfl ?_);refine zq8 (some 79) rfl rfl Tryd.func93 (by kernel_rfl) rfl #[.slice Ao67 t135.length co67] rfl (by(try simp only [List.map_toArray,List.map_cons,List.map_nil]);first|done|rfl|(simp only [List.length_drop,List.length_take];rfl)) ?_;(with_reducible refine(zjt.calls k4 _ _ t135 false _ ?side1 ?side2 ?side3 A53.out).mono ?_);(case side1=>repeat(first|exact(Kd.zxu HO137.out).2.2|(with_reducible refine Kd.zqw ?_ _)|(with_reducible refine Kd.zqy ?_ _)|(with_reducible refine Kd.zq2 ?_)));(case side2=>exact(Kd.zxu HO137.out).2.1);(case side3=>exact LD.below HLD.out (by first|(with_reducible exact Below.refl _ _)|((repeat(first|(with_reducible exact Below.refl _ _)|(with_reducible apply zqb)|(with_reducible apply zqa)|(with_reducible apply zqc)));done)|exact(by repeat(first|(with_reducible first|exact HB.out|apply zqb|apply zqa|apply zqc|refine zqi ?_ GE126.out)|exact HB.out))));rintro e w68 ⟨rfl,hb⟩;refine⟨_,rfl,?_⟩;have n0_:=zqd.mk (Kd.zxy (by(with_reducible repeat(first|apply Kd.zq4|apply Kd.zq5|apply Kd.zq7));exact HO137.out) hb);have n1_:=zqd.mk (zqr (g:=gb126) (o:=.cells #[.string a0_0,.slice A0_1 l0_1.length c0_1,.slice A0_2 l0_2.length c0_2,.slice A0_3 l0_3.length c0_3] 61 (0,0)) (by(with_reducible repeat(first|refine zqg ?_ _|refine zqj ?_|refine zqh ?_ _));exact BK126.out) hb);have n2_:=zqd.mk (zqn (by repeat(first|(with_reducible first|exact HB.out|apply zqb|apply zqa|apply zqc|refine zqi ?_ GE126.out)|exact HB.out)) hb);clear HO137 BK126 HB;have HO137:=n0_;have BK126:=n1_;have HB:=n2_;clear n0_ n1_ n2_;(try clear hb);(try clear hb2);(try clear hk);(try clear hi)))
              go_ret
              exact⟨by first|rfl|(simp [zqm,zql] <;> rfl)|(simp [*,zqm,zql] <;> rfl),by repeat(first|(with_reducible first|exact HB.out|apply zqb|apply zqa|apply zqc|refine zqi ?_ GE126.out)|exact HB.out)⟩

end Go.Proofs.YthhejedfjgikdaaDoor.PRowEntries
