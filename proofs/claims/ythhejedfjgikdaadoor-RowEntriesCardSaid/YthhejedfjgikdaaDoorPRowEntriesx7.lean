-- Written by wip/pp of this repo (over the kit's print, with additions of this session); Lean checks every line.
import Derived.Test.YthhejedfjgikdaaDoorPRowEntriesx6
namespace Go.Proofs.YthhejedfjgikdaaDoor.PRowEntries
open Go.RowKit Go.Proofs.YthhejedfjgikdaaDoorW.PrintWords Go.Proofs.YthhejedfjgikdaaDoorW.PrintLast Go.Proofs.YthhejedfjgikdaaDoorW.PrintMore
attribute [local go_sem] zxq zxo zx0 zxz zxg zxf zxp zxn   -- for this text's walks alone
set_option linter.unusedVariables false
set_option linter.unusedSimpArgs false

/-! ### zj1: function 29 -/
mutual
def zj1.l0:Nat→List (S38)→List (S90)→Int→Int→Option (Int)
 | 0,_,_,_,_=>none
 | k+1,x1,x16,x17,x18=>if x18<x17 then(if 0≤x18 then(if x18<(x16.length:Int) then(if x18<(x1.length:Int) then((zjz.f k ((zqs x1 x18).f0) ((zqs x1 x18).f1) ((zqs x1 x18).f2)).bind fun t161=>(if t161=0 then(if((zqs x1 x18).f0)=0 then(zj1.j1 k x1 x16 x17 x18 ((zqp x16 x18).f2) ((zqp x16 x18).f0) ((zqp x16 x18).f1) ((zqp x16 x18).f2) ((zqs x1 x18).f0) ((zqs x1 x18).f1) ((zqs x1 x18).f2)) else (zj1.j1 k x1 x16 x17 x18 false ((zqp x16 x18).f0) ((zqp x16 x18).f1) ((zqp x16 x18).f2) ((zqs x1 x18).f0) ((zqs x1 x18).f1) ((zqs x1 x18).f2))) else (some t161))) else (none)) else (none)) else (none)) else (some 0)
def zj1.j1:Nat→List (S38)→List (S90)→Int→Int→Bool→ByteArray→Int→Bool→Int→Int→ByteArray→Option (Int)
 | 0,_,_,_,_,_,_,_,_,_,_,_=>none
 | k+1,x1,x16,x17,x18,x32,x159000,x159001,x159002,x161000,x161001,x161002=>if x32=true then(some 13) else (if x161000=0 then(zj1.l0 k x1 x16 x17 (wrap64 (x18+1))) else (if x161000=x159001 then(zj1.l0 k x1 x16 x17 (wrap64 (x18+1))) else (some 12)))
end
def zj1.f (k:Nat) (a0_0:ByteArray) (l0_1:List (S90)) (l0_2:List Int) (l0_3:List (S96)) (l1:List (S38)):Option (Int):=if(l1.length:Int)=(l0_1.length:Int) then(zj1.l0 k l1 l0_1 (l0_1.length:Int) 0) else (some 1)
theorem zj1.mono_l:∀ k,(∀ y0 y1 y2 y3,LeO (zj1.l0 k y0 y1 y2 y3) (zj1.l0 (k+1) y0 y1 y2 y3))∧(∀ y0 y1 y2 y3 y4 y5 y6 y7 y8 y9 y10,LeO (zj1.j1 k y0 y1 y2 y3 y4 y5 y6 y7 y8 y9 y10) (zj1.j1 (k+1) y0 y1 y2 y3 y4 y5 y6 y7 y8 y9 y10))
 | 0=>⟨fun _ _ _ _ r h=>by simp [zj1.l0] at h,fun _ _ _ _ _ _ _ _ _ _ _ r h=>by simp [zj1.j1] at h⟩
 | k+1=>by
  obtain ⟨ih0,ih1⟩:=zj1.mono_l k
  refine⟨?_,?_⟩
  ·intro y0 y1 y2 y3
   unfold zj1.l0
   repeat' first
   | (with_reducible first|exact ih0 _ _ _ _|exact ih1 _ _ _ _ _ _ _ _ _ _ _|exact zjz.mono _ _ _ _|exact LeO.refl _|exact LeO.none _|refine LeO.ite ?_ ?_|refine LeO.bind ?_ (fun _=>?_))
   | exact ih0 _ _ _ _
   | exact ih1 _ _ _ _ _ _ _ _ _ _ _
   | exact zjz.mono _ _ _ _
   | exact LeO.none _
   | refine LeO.ite ?_ ?_
   | refine LeO.bind ?_ (fun _=>?_)
  ·intro y0 y1 y2 y3 y4 y5 y6 y7 y8 y9 y10
   unfold zj1.j1
   repeat' first
   | (with_reducible first|exact ih0 _ _ _ _|exact ih1 _ _ _ _ _ _ _ _ _ _ _|exact zjz.mono _ _ _ _|exact LeO.refl _|exact LeO.none _|refine LeO.ite ?_ ?_|refine LeO.bind ?_ (fun _=>?_))
   | exact ih0 _ _ _ _
   | exact ih1 _ _ _ _ _ _ _ _ _ _ _
   | exact zjz.mono _ _ _ _
   | exact LeO.none _
   | refine LeO.ite ?_ ?_
   | refine LeO.bind ?_ (fun _=>?_)
theorem zj1.mono:∀ a0 a1 a2 a3 a4 k,LeO (zj1.f k a0 a1 a2 a3 a4) (zj1.f (k+1) a0 a1 a2 a3 a4):=by
 intro a0 a1 a2 a3 a4 k
 obtain ⟨ih0,ih1⟩:=zj1.mono_l k
 unfold zj1.f
 repeat' first
   | (with_reducible first|exact ih0 _ _ _ _|exact ih1 _ _ _ _ _ _ _ _ _ _ _|exact zjz.mono _ _ _ _|exact LeO.refl _|exact LeO.none _|refine LeO.ite ?_ ?_|refine LeO.bind ?_ (fun _=>?_))
   | exact ih0 _ _ _ _
   | exact ih1 _ _ _ _ _ _ _ _ _ _ _
   | exact zjz.mono _ _ _ _
   | exact LeO.none _
   | refine LeO.ite ?_ ?_
   | refine LeO.bind ?_ (fun _=>?_)
set_option maxHeartbeats 8000000 in
set_option maxRecDepth 100000 in
theorem zj1.calls (k:Nat) (a0_0:ByteArray) (A0_1:Option Addr) (c0_1:Nat) (l0_1:List (S90)) (A0_2:Option Addr) (c0_2:Nat) (l0_2:List Int) (A0_3:Option Addr) (c0_3:Nat) (l0_3:List (S96)) (A1:Option Addr) (c1:Nat) (l1:List (S38)) (r:Int) (w:World) (hr0_1:Kd.C k90 w A0_1 l0_1.length l0_1) (hc0_1:l0_1.length≤c0_1) (hr0_2:Kd.C (Kd.int .i64) w A0_2 l0_2.length l0_2) (hc0_2:l0_2.length≤c0_2) (hr0_3:Kd.C k96 w A0_3 l0_3.length l0_3) (hc0_3:l0_3.length≤c0_3) (hr1:Kd.C k38 w A1 l1.length l1) (hc1:l1.length≤c1) (hL:LD w) (h:zj1.f k a0_0 l0_1 l0_2 l0_3 l1=some r) :
  Calls Tryd.prog 29 #[.agg #[.string a0_0,.slice A0_1 l0_1.length c0_1,.slice A0_2 l0_2.length c0_2,.slice A0_3 l0_3.length c0_3],.slice A1 l1.length c1] w fun e w'=>e = .returned (.int .i64 r)∧Below w.heap.size w w':=by
 have hu61:=Tryd.underlying61
 have hu90:=Tryd.underlying90
 have hu38:=Tryd.underlying38
 have HLD:=zqd.mk hL
 clear hL
 have HR0_1:=zqd.mk hr0_1
 have HC0_1:=zqd.mk hc0_1
 clear hr0_1 hc0_1
 have HR0_2:=zqd.mk hr0_2
 have HC0_2:=zqd.mk hc0_2
 clear hr0_2 hc0_2
 have HR0_3:=zqd.mk hr0_3
 have HC0_3:=zqd.mk hc0_3
 clear hr0_3 hc0_3
 have HR1:=zqd.mk hr1
 have HC1:=zqd.mk hc1
 clear hr1 hc1
 have HB:=zqd.mk (Below.refl w.heap.size w)
 have H:(if(l1.length:Int)=(l0_1.length:Int) then(zj1.l0 k l1 l0_1 (l0_1.length:Int) 0) else (some 1))=some r:=h
 clear h
 by_cases c3:(l1.length:Int)=(l0_1.length:Int)
 ·rw [if_pos c3] at H
  have c3b0:((l1.length:Int) == (l0_1.length:Int))=true:=beq_iff_eq.mpr c3
  have c3b1:((l1.length:Int) != (l0_1.length:Int))=false:=bne_eq_false_iff_eq.mpr c3
  have c3b2:(l1.length == l0_1.length)=true:=by first|simpa using c3|(simp at c3 ⊢;omega)
  clear c3
  have H':=zqd.mk H
  clear H
  go_enter Tryd.func29,Tryd.ntmps29
  go_wp2_with (first|((with_reducible refine zqx (N:=2) rfl ?_);refine zqt ?hg (N:=2) ?hd (cs:=#[.string a0_0,.slice A0_1 l0_1.length c0_1,.slice A0_2 l0_2.length c0_2,.slice A0_3 l0_3.length c0_3]) (t:=61) ?hr ?_;(case hd=>rfl);(case hg=>rfl);(case hr=>first|(go_simp;done)|(go_simp;rfl));intro gb156 hg w4 hbox hb;have n0_:=zqd.mk (zqn (by repeat(first|(with_reducible first|exact HB.out|apply zqb|apply zqa|apply zqc)|exact HB.out)) hb);have n1_:=zqd.mk (hbox);have n2_:=zqd.mk ((by rw [hg];exact(zqk (by repeat(first|(with_reducible first|exact HB.out|apply zqb|apply zqa|apply zqc)|exact HB.out))):w.heap.size≤gb156));have n3_:=zqd.mk ((by rw [hg];exact(zqk (by repeat(first|(with_reducible first|exact HB.out|apply zqb|apply zqa|apply zqc)|exact HB.out))):w.heap.size≤gb156));clear HB;have HB:=n0_;have BK156:=n1_;have GW156:=n2_;have GE156:=n3_;clear n0_ n1_ n2_ n3_ hb hbox hg;have hcz5_0:w4.cell? ⟨gb156,0,none⟩=some (.string a0_0):=(zqf BK156.out 0).trans rfl;have hcz5_1:w4.cell? ⟨gb156,1,none⟩=some (.slice A0_1 l0_1.length c0_1):=(zqf BK156.out 1).trans rfl;have hcz5_2:w4.cell? ⟨gb156,2,none⟩=some (.slice A0_2 l0_2.length c0_2):=(zqf BK156.out 2).trans rfl;have hcz5_3:w4.cell? ⟨gb156,3,none⟩=some (.slice A0_3 l0_3.length c0_3):=(zqf BK156.out 3).trans rfl;have hfz5_0:=zqe BK156.out 0;have hfz5_1:=zqe BK156.out 1;have hfz5_2:=zqe BK156.out 2;have hfz5_3:=zqe BK156.out 3))
  go_loopg [18] k (fun kq v18 w' => ∃ (x18_1:Int),v18 = .int .i64 x18_1∧zqd (zj1.l0 kq l1 l0_1 (l0_1.length:Int) x18_1=some r)∧zqd (kq≤k)∧zqd (w'.heap[gb156]? = some (.cells #[.string a0_0,(.slice A0_1 l0_1.length c0_1),(.slice A0_2 l0_2.length c0_2),(.slice A0_3 l0_3.length c0_3)] 61 (0,0)))∧zqd (Below w.heap.size w w'))
  case atStart=>exact⟨(0),(by first|rfl|(simp;done)|(simp [*];done)|(generalize ByteArray.toList _=q_;cases q_ <;> rfl)),H',⟨Nat.le_refl _⟩,⟨by(with_reducible repeat(first|refine zqg ?_ _|refine zqj ?_|refine zqh ?_ _));exact BK156.out⟩,⟨by repeat(first|(with_reducible first|exact HB.out|apply zqb|apply zqa|apply zqc|refine zqi ?_ GE156.out)|exact HB.out)⟩⟩
  case round=>
   clear H'
   try clear c1
   try clear c2
   try clear p2
   try clear c3
   try clear c3b0
   try clear c3b1
   try clear c3b2
   try clear hcz5_0
   try clear hcz5_1
   try clear hcz5_2
   try clear hcz5_3
   try clear hfz5_0
   try clear hfz5_1
   try clear hfz5_2
   try clear hfz5_3
   obtain ⟨x18_1,rfl,HA,HK1,BK156,HB⟩:=hrel
   cases gk with
   | zero=>exact absurd HA.out (by simp [zj1.l0])
   | succ k1=>
    have H:=HA.out
    clear HA
    simp only [zj1.l0] at H
    by_cases c6:x18_1<(l0_1.length:Int)
    ·rw [if_pos c6] at H
     have c6b0:decide (x18_1<(l0_1.length:Int))=true:=decide_eq_true c6
     clear c6
     by_cases c7:0≤x18_1
     ·rw [if_pos c7] at H
      have c7b0:decide (0≤x18_1)=true:=decide_eq_true c7
      clear c7
      by_cases c8:x18_1<(l0_1.length:Int)
      ·rw [if_pos c8] at H
       have c8b0:decide (x18_1<(l0_1.length:Int))=true:=decide_eq_true c8
       clear c8
       by_cases c9:x18_1<(l1.length:Int)
       ·rw [if_pos c9] at H
        have c9b0:decide (x18_1<(l1.length:Int))=true:=decide_eq_true c9
        clear c9
        replace H:=Option.bind_eq_some_iff.mp H
        obtain ⟨t161,A100,H⟩:=H
        replace H:(if t161=0 then(if((zqs l1 x18_1).f0)=0 then(zj1.j1 k1 l1 l0_1 (l0_1.length:Int) x18_1 ((zqp l0_1 x18_1).f2) ((zqp l0_1 x18_1).f0) ((zqp l0_1 x18_1).f1) ((zqp l0_1 x18_1).f2) ((zqs l1 x18_1).f0) ((zqs l1 x18_1).f1) ((zqs l1 x18_1).f2)) else (zj1.j1 k1 l1 l0_1 (l0_1.length:Int) x18_1 false ((zqp l0_1 x18_1).f0) ((zqp l0_1 x18_1).f1) ((zqp l0_1 x18_1).f2) ((zqs l1 x18_1).f0) ((zqs l1 x18_1).f1) ((zqs l1 x18_1).f2))) else (some t161))=some r:=H
        have A10:=zqd.mk A100
        clear A100
        by_cases c11:t161=0
        ·rw [if_pos c11] at H
         have c11b0:(t161 == 0)=true:=beq_iff_eq.mpr c11
         have c11b1:(t161 != 0)=false:=bne_eq_false_iff_eq.mpr c11
         clear c11
         have HC12:=zqd.mk H
         clear H
         have p157:0≤(x18_1:Int):=of_decide_eq_true (by first|(with_reducible assumption)|assumption)
         have q157:x18_1<(l0_1.length:Int):=of_decide_eq_true (by first|(with_reducible assumption)|assumption)
         obtain ⟨ad157,e157,hx157_0,hx157_1,hx157_2⟩:=at_T90 HR0_1.out x18_1 p157 q157
         cases e157
         replace hx157_0:=(HB.out.cell (World.block_lt_of_cell? w _ hx157_0)).trans hx157_0
         replace hx157_1:=(HB.out.cell (World.block_lt_of_cell? w _ hx157_1)).trans hx157_1
         replace hx157_2:=(HB.out.cell (World.block_lt_of_cell? w _ hx157_2)).trans hx157_2
         replace p157:=eq_true p157
         replace q157:=eq_true q157
         go_upto_region 10 with (first|((with_reducible refine zqx (N:=6) rfl ?_);refine zqt ?hg (N:=6) ?hd (cs:=#[.string (⟨#[]⟩:ByteArray),.int .i64 0,.bool false]) (t:=90) ?hr ?_;(case hd=>rfl);(case hg=>rfl);(case hr=>first|(go_simp;done)|(go_simp;rfl));intro gb158 hg w13 hbox hb;have n0_:=zqd.mk (zqr (g:=gb156) (o:=.cells #[.string a0_0,.slice (some ad157) l0_1.length c0_1,.slice A0_2 l0_2.length c0_2,.slice A0_3 l0_3.length c0_3] 61 (0,0)) (by(with_reducible repeat(first|refine zqg ?_ _|refine zqj ?_|refine zqh ?_ _));exact BK156.out) hb);have n1_:=zqd.mk (zqn (by repeat(first|(with_reducible first|exact HB.out|apply zqb|apply zqa|apply zqc|refine zqi ?_ GE156.out)|exact HB.out)) hb);have n2_:=zqd.mk (hbox);have n3_:=zqd.mk ((by rw [hg];exact(zqk (by repeat(first|(with_reducible first|exact HB.out|apply zqb|apply zqa|apply zqc|refine zqi ?_ GE156.out)|exact HB.out))):w.heap.size≤gb158));have n4_:=zqd.mk ((by rw [hg];exact(zqk (by repeat(first|(with_reducible first|exact HB.out|apply zqb|apply zqa|apply zqc|refine zqi ?_ GE156.out)|exact HB.out))):w.heap.size≤gb158));have n5_:=zqd.mk ((by rw [hg];exact Nat.ne_of_lt (zxh (g:=gb156) (o:=.cells #[.string a0_0,.slice (some ad157) l0_1.length c0_1,.slice A0_2 l0_2.length c0_2,.slice A0_3 l0_3.length c0_3] 61 (0,0)) (by(with_reducible repeat(first|refine zqg ?_ _|refine zqj ?_|refine zqh ?_ _));exact BK156.out)):gb156≠gb158));have n6_:=zqd.mk ((by rw [hg];exact Nat.ne_of_gt (zxh (g:=gb156) (o:=.cells #[.string a0_0,.slice (some ad157) l0_1.length c0_1,.slice A0_2 l0_2.length c0_2,.slice A0_3 l0_3.length c0_3] 61 (0,0)) (by(with_reducible repeat(first|refine zqg ?_ _|refine zqj ?_|refine zqh ?_ _));exact BK156.out)):gb158≠gb156));clear BK156 HB;have BK156:=n0_;have HB:=n1_;have BK158:=n2_;have GW158:=n3_;have GE158:=n4_;have NB156_158:=n5_;have NB158_156:=n6_;clear n0_ n1_ n2_ n3_ n4_ n5_ n6_ hb hbox hg;have hnb14:=NB158_156.out;have hnc14:=NB156_158.out;have hcz15_0:w13.cell? ⟨gb158,0,none⟩=some (.string (⟨#[]⟩:ByteArray)):=(zqf BK158.out 0).trans rfl;have hcz15_1:w13.cell? ⟨gb158,1,none⟩=some (.int .i64 0):=(zqf BK158.out 1).trans rfl;have hcz15_2:w13.cell? ⟨gb158,2,none⟩=some (.bool false):=(zqf BK158.out 2).trans rfl;have hfz15_0:=zqe BK158.out 0;have hfz15_1:=zqe BK158.out 1;have hfz15_2:=zqe BK158.out 2;have p159:0≤(x18_1:Int):=of_decide_eq_true (by first|(with_reducible assumption)|assumption);have q159:x18_1<(l1.length:Int):=of_decide_eq_true (by first|(with_reducible assumption)|assumption);obtain ⟨ad159,e159,hx159_0,hx159_1,hx159_2⟩:=at_T38 HR1.out x18_1 p159 q159;cases e159;have hn159_0:ad159.block≠gb158:=Nat.ne_of_lt (Nat.lt_of_lt_of_le (by have:=World.block_lt_of_cell? _ _ hx159_0;first|rwa [add_block] at this|exact this) GW158.out);have hn159_1:ad159.block≠gb158:=Nat.ne_of_lt (Nat.lt_of_lt_of_le (by have:=World.block_lt_of_cell? _ _ hx159_0;first|rwa [add_block] at this|exact this) GW158.out);have hn159_2:ad159.block≠gb158:=Nat.ne_of_lt (Nat.lt_of_lt_of_le (by have:=World.block_lt_of_cell? _ _ hx159_0;first|rwa [add_block] at this|exact this) GW158.out);replace hx159_0:=(HB.out.cell (World.block_lt_of_cell? w _ hx159_0)).trans hx159_0;replace hx159_1:=(HB.out.cell (World.block_lt_of_cell? w _ hx159_1)).trans hx159_1;replace hx159_2:=(HB.out.cell (World.block_lt_of_cell? w _ hx159_2)).trans hx159_2;replace hx159_0:=(cell_far (p:=⟨gb158,0,none⟩) (by first|(rw [add_block];exact hn159_0)|(show(Addr.add _ _).block≠_;rw [add_block];exact hn159_0)|exact hn159_0) (.string ((zqp l0_1 x18_1).f0))).trans hx159_0;replace hx159_1:=(cell_far (p:=⟨gb158,0,none⟩) (by first|(rw [add_block];exact hn159_0)|(show(Addr.add _ _).block≠_;rw [add_block];exact hn159_0)|exact hn159_0) (.string ((zqp l0_1 x18_1).f0))).trans hx159_1;replace hx159_2:=(cell_far (p:=⟨gb158,0,none⟩) (by first|(rw [add_block];exact hn159_0)|(show(Addr.add _ _).block≠_;rw [add_block];exact hn159_0)|exact hn159_0) (.string ((zqp l0_1 x18_1).f0))).trans hx159_2;replace hx159_0:=(cell_far (p:=⟨gb158,1,none⟩) (by first|(rw [add_block];exact hn159_1)|(show(Addr.add _ _).block≠_;rw [add_block];exact hn159_1)|exact hn159_1) (.int .i64 ((zqp l0_1 x18_1).f1))).trans hx159_0;replace hx159_1:=(cell_far (p:=⟨gb158,1,none⟩) (by first|(rw [add_block];exact hn159_1)|(show(Addr.add _ _).block≠_;rw [add_block];exact hn159_1)|exact hn159_1) (.int .i64 ((zqp l0_1 x18_1).f1))).trans hx159_1;replace hx159_2:=(cell_far (p:=⟨gb158,1,none⟩) (by first|(rw [add_block];exact hn159_1)|(show(Addr.add _ _).block≠_;rw [add_block];exact hn159_1)|exact hn159_1) (.int .i64 ((zqp l0_1 x18_1).f1))).trans hx159_2;replace hx159_0:=(cell_far (p:=⟨gb158,2,none⟩) (by first|(rw [add_block];exact hn159_2)|(show(Addr.add _ _).block≠_;rw [add_block];exact hn159_2)|exact hn159_2) (.bool ((zqp l0_1 x18_1).f2))).trans hx159_0;replace hx159_1:=(cell_far (p:=⟨gb158,2,none⟩) (by first|(rw [add_block];exact hn159_2)|(show(Addr.add _ _).block≠_;rw [add_block];exact hn159_2)|exact hn159_2) (.bool ((zqp l0_1 x18_1).f2))).trans hx159_1;replace hx159_2:=(cell_far (p:=⟨gb158,2,none⟩) (by first|(rw [add_block];exact hn159_2)|(show(Addr.add _ _).block≠_;rw [add_block];exact hn159_2)|exact hn159_2) (.bool ((zqp l0_1 x18_1).f2))).trans hx159_2;clear hn159_0 hn159_1 hn159_2;replace p159:=eq_true p159;replace q159:=eq_true q159)|((with_reducible refine zqx (N:=7) rfl ?_);refine zqt ?hg (N:=7) ?hd (cs:=#[.int .i64 0,.int .i64 0,.string (⟨#[]⟩:ByteArray)]) (t:=38) ?hr ?_;(case hd=>rfl);(case hg=>rfl);(case hr=>first|(go_simp;done)|(go_simp;rfl));intro gb160 hg w16 hbox hb;have n0_:=zqd.mk (zqr (g:=gb156) (o:=.cells #[.string a0_0,.slice (some ad157) l0_1.length c0_1,.slice A0_2 l0_2.length c0_2,.slice A0_3 l0_3.length c0_3] 61 (0,0)) (by(with_reducible repeat(first|refine zqg ?_ _|refine zqj ?_|refine zqh ?_ _));refine zq1 ?_ NB156_158.out _;(with_reducible repeat(first|refine zqg ?_ _|refine zqj ?_|refine zqh ?_ _));refine zq1 ?_ NB156_158.out _;(with_reducible repeat(first|refine zqg ?_ _|refine zqj ?_|refine zqh ?_ _));refine zq1 ?_ NB156_158.out _;(with_reducible repeat(first|refine zqg ?_ _|refine zqj ?_|refine zqh ?_ _));exact BK156.out) hb);have n1_:=zqd.mk (zqr (g:=gb158) (o:=.cells #[.string ((zqp l0_1 x18_1).f0),.int .i64 ((zqp l0_1 x18_1).f1),.bool ((zqp l0_1 x18_1).f2)] 90 (0,0)) (by(with_reducible repeat(first|refine zqg ?_ _|refine zqj ?_|refine zqh ?_ _));refine zqu (cs:=#[.string ((zqp l0_1 x18_1).f0),.int .i64 ((zqp l0_1 x18_1).f1),.bool false]) ?_ 2 _ rfl;(with_reducible repeat(first|refine zqg ?_ _|refine zqj ?_|refine zqh ?_ _));refine zqu (cs:=#[.string ((zqp l0_1 x18_1).f0),.int .i64 0,.bool false]) ?_ 1 _ rfl;(with_reducible repeat(first|refine zqg ?_ _|refine zqj ?_|refine zqh ?_ _));refine zqu (cs:=#[.string (⟨#[]⟩:ByteArray),.int .i64 0,.bool false]) ?_ 0 _ rfl;(with_reducible repeat(first|refine zqg ?_ _|refine zqj ?_|refine zqh ?_ _));exact BK158.out) hb);have n2_:=zqd.mk (zqn (by repeat(first|(with_reducible first|exact HB.out|apply zqb|apply zqa|apply zqc|refine zqi ?_ GE156.out|refine zqi ?_ GE158.out)|exact HB.out)) hb);have n3_:=zqd.mk (hbox);have n4_:=zqd.mk ((by rw [hg];exact(zqk (by repeat(first|(with_reducible first|exact HB.out|apply zqb|apply zqa|apply zqc|refine zqi ?_ GE156.out|refine zqi ?_ GE158.out)|exact HB.out))):w.heap.size≤gb160));have n5_:=zqd.mk ((by rw [hg];exact(zqk (by repeat(first|(with_reducible first|exact HB.out|apply zqb|apply zqa|apply zqc|refine zqi ?_ GE156.out|refine zqi ?_ GE158.out)|exact HB.out))):w.heap.size≤gb160));have n6_:=zqd.mk ((by rw [hg];exact Nat.ne_of_lt (zxh (g:=gb156) (o:=.cells #[.string a0_0,.slice (some ad157) l0_1.length c0_1,.slice A0_2 l0_2.length c0_2,.slice A0_3 l0_3.length c0_3] 61 (0,0)) (by(with_reducible repeat(first|refine zqg ?_ _|refine zqj ?_|refine zqh ?_ _));refine zq1 ?_ NB156_158.out _;(with_reducible repeat(first|refine zqg ?_ _|refine zqj ?_|refine zqh ?_ _));refine zq1 ?_ NB156_158.out _;(with_reducible repeat(first|refine zqg ?_ _|refine zqj ?_|refine zqh ?_ _));refine zq1 ?_ NB156_158.out _;(with_reducible repeat(first|refine zqg ?_ _|refine zqj ?_|refine zqh ?_ _));exact BK156.out)):gb156≠gb160));have n7_:=zqd.mk ((by rw [hg];exact Nat.ne_of_gt (zxh (g:=gb156) (o:=.cells #[.string a0_0,.slice (some ad157) l0_1.length c0_1,.slice A0_2 l0_2.length c0_2,.slice A0_3 l0_3.length c0_3] 61 (0,0)) (by(with_reducible repeat(first|refine zqg ?_ _|refine zqj ?_|refine zqh ?_ _));refine zq1 ?_ NB156_158.out _;(with_reducible repeat(first|refine zqg ?_ _|refine zqj ?_|refine zqh ?_ _));refine zq1 ?_ NB156_158.out _;(with_reducible repeat(first|refine zqg ?_ _|refine zqj ?_|refine zqh ?_ _));refine zq1 ?_ NB156_158.out _;(with_reducible repeat(first|refine zqg ?_ _|refine zqj ?_|refine zqh ?_ _));exact BK156.out)):gb160≠gb156));have n8_:=zqd.mk ((by rw [hg];exact Nat.ne_of_lt (zxh (g:=gb158) (o:=.cells #[.string ((zqp l0_1 x18_1).f0),.int .i64 ((zqp l0_1 x18_1).f1),.bool ((zqp l0_1 x18_1).f2)] 90 (0,0)) (by(with_reducible repeat(first|refine zqg ?_ _|refine zqj ?_|refine zqh ?_ _));refine zqu (cs:=#[.string ((zqp l0_1 x18_1).f0),.int .i64 ((zqp l0_1 x18_1).f1),.bool false]) ?_ 2 _ rfl;(with_reducible repeat(first|refine zqg ?_ _|refine zqj ?_|refine zqh ?_ _));refine zqu (cs:=#[.string ((zqp l0_1 x18_1).f0),.int .i64 0,.bool false]) ?_ 1 _ rfl;(with_reducible repeat(first|refine zqg ?_ _|refine zqj ?_|refine zqh ?_ _));refine zqu (cs:=#[.string (⟨#[]⟩:ByteArray),.int .i64 0,.bool false]) ?_ 0 _ rfl;(with_reducible repeat(first|refine zqg ?_ _|refine zqj ?_|refine zqh ?_ _));exact BK158.out)):gb158≠gb160));have n9_:=zqd.mk ((by rw [hg];exact Nat.ne_of_gt (zxh (g:=gb158) (o:=.cells #[.string ((zqp l0_1 x18_1).f0),.int .i64 ((zqp l0_1 x18_1).f1),.bool ((zqp l0_1 x18_1).f2)] 90 (0,0)) (by(with_reducible repeat(first|refine zqg ?_ _|refine zqj ?_|refine zqh ?_ _));refine zqu (cs:=#[.string ((zqp l0_1 x18_1).f0),.int .i64 ((zqp l0_1 x18_1).f1),.bool false]) ?_ 2 _ rfl;(with_reducible repeat(first|refine zqg ?_ _|refine zqj ?_|refine zqh ?_ _));refine zqu (cs:=#[.string ((zqp l0_1 x18_1).f0),.int .i64 0,.bool false]) ?_ 1 _ rfl;(with_reducible repeat(first|refine zqg ?_ _|refine zqj ?_|refine zqh ?_ _));refine zqu (cs:=#[.string (⟨#[]⟩:ByteArray),.int .i64 0,.bool false]) ?_ 0 _ rfl;(with_reducible repeat(first|refine zqg ?_ _|refine zqj ?_|refine zqh ?_ _));exact BK158.out)):gb160≠gb158));clear BK156 BK158 HB;have BK156:=n0_;have BK158:=n1_;have HB:=n2_;have BK160:=n3_;have GW160:=n4_;have GE160:=n5_;have NB156_160:=n6_;have NB160_156:=n7_;have NB158_160:=n8_;have NB160_158:=n9_;clear n0_ n1_ n2_ n3_ n4_ n5_ n6_ n7_ n8_ n9_ hb hbox hg;have hnb17:=NB160_156.out;have hnc17:=NB156_160.out;have hnb18:=NB160_158.out;have hnc18:=NB158_160.out;have hcz19_0:w16.cell? ⟨gb160,0,none⟩=some (.int .i64 0):=(zqf BK160.out 0).trans rfl;have hcz19_1:w16.cell? ⟨gb160,1,none⟩=some (.int .i64 0):=(zqf BK160.out 1).trans rfl;have hcz19_2:w16.cell? ⟨gb160,2,none⟩=some (.string (⟨#[]⟩:ByteArray)):=(zqf BK160.out 2).trans rfl;have hfz19_0:=zqe BK160.out 0;have hfz19_1:=zqe BK160.out 1;have hfz19_2:=zqe BK160.out 2)|((with_reducible refine zqv (f:=57) rfl ?_);refine zq8 (some 28) rfl rfl Tryd.func57 (by kernel_rfl) rfl #[.agg #[.int .i64 ((zqs l1 x18_1).f0),.int .i64 ((zqs l1 x18_1).f1),.string ((zqs l1 x18_1).f2)]] rfl (by(try simp only [List.map_toArray,List.map_cons,List.map_nil]);first|done|rfl|(simp only [List.length_drop,List.length_take];rfl)) ?_;(with_reducible refine(zjz.calls k1 ((zqs l1 x18_1).f0) ((zqs l1 x18_1).f1) ((zqs l1 x18_1).f2) t161 _ ?side1 A10.out).mono ?_);(case side1=>exact LD.below HLD.out (by first|(with_reducible exact Below.refl _ _)|((repeat(first|(with_reducible exact Below.refl _ _)|(with_reducible apply zqb)|(with_reducible apply zqa)|(with_reducible apply zqc)));done)|exact(by repeat(first|(with_reducible first|exact HB.out|apply zqb|apply zqa|apply zqc|refine zqi ?_ GE156.out|refine zqi ?_ GE158.out|refine zqi ?_ GE160.out)|exact HB.out))));rintro e w20 ⟨rfl,hb⟩;refine⟨_,rfl,?_⟩;have n0_:=zqd.mk (zqr (g:=gb156) (o:=.cells #[.string a0_0,.slice (some ad157) l0_1.length c0_1,.slice A0_2 l0_2.length c0_2,.slice A0_3 l0_3.length c0_3] 61 (0,0)) (by(with_reducible repeat(first|refine zqg ?_ _|refine zqj ?_|refine zqh ?_ _));refine zq1 ?_ NB156_160.out _;(with_reducible repeat(first|refine zqg ?_ _|refine zqj ?_|refine zqh ?_ _));refine zq1 ?_ NB156_160.out _;(with_reducible repeat(first|refine zqg ?_ _|refine zqj ?_|refine zqh ?_ _));refine zq1 ?_ NB156_160.out _;(with_reducible repeat(first|refine zqg ?_ _|refine zqj ?_|refine zqh ?_ _));exact BK156.out) hb);have n1_:=zqd.mk (zqr (g:=gb158) (o:=.cells #[.string ((zqp l0_1 x18_1).f0),.int .i64 ((zqp l0_1 x18_1).f1),.bool ((zqp l0_1 x18_1).f2)] 90 (0,0)) (by(with_reducible repeat(first|refine zqg ?_ _|refine zqj ?_|refine zqh ?_ _));refine zq1 ?_ NB158_160.out _;(with_reducible repeat(first|refine zqg ?_ _|refine zqj ?_|refine zqh ?_ _));refine zq1 ?_ NB158_160.out _;(with_reducible repeat(first|refine zqg ?_ _|refine zqj ?_|refine zqh ?_ _));refine zq1 ?_ NB158_160.out _;(with_reducible repeat(first|refine zqg ?_ _|refine zqj ?_|refine zqh ?_ _));exact BK158.out) hb);have n2_:=zqd.mk (zqr (g:=gb160) (o:=.cells #[.int .i64 ((zqs l1 x18_1).f0),.int .i64 ((zqs l1 x18_1).f1),.string ((zqs l1 x18_1).f2)] 38 (0,0)) (by(with_reducible repeat(first|refine zqg ?_ _|refine zqj ?_|refine zqh ?_ _));refine zqu (cs:=#[.int .i64 ((zqs l1 x18_1).f0),.int .i64 ((zqs l1 x18_1).f1),.string (⟨#[]⟩:ByteArray)]) ?_ 2 _ rfl;(with_reducible repeat(first|refine zqg ?_ _|refine zqj ?_|refine zqh ?_ _));refine zqu (cs:=#[.int .i64 ((zqs l1 x18_1).f0),.int .i64 0,.string (⟨#[]⟩:ByteArray)]) ?_ 1 _ rfl;(with_reducible repeat(first|refine zqg ?_ _|refine zqj ?_|refine zqh ?_ _));refine zqu (cs:=#[.int .i64 0,.int .i64 0,.string (⟨#[]⟩:ByteArray)]) ?_ 0 _ rfl;(with_reducible repeat(first|refine zqg ?_ _|refine zqj ?_|refine zqh ?_ _));exact BK160.out) hb);have n3_:=zqd.mk (zqn (by repeat(first|(with_reducible first|exact HB.out|apply zqb|apply zqa|apply zqc|refine zqi ?_ GE156.out|refine zqi ?_ GE158.out|refine zqi ?_ GE160.out)|exact HB.out)) hb);clear BK156 BK158 BK160 HB;have BK156:=n0_;have BK158:=n1_;have BK160:=n2_;have HB:=n3_;clear n0_ n1_ n2_ n3_;(try clear hb);(try clear hb2);(try clear hk);(try clear hi)))
         (try simp only [Act.put,List.setIfInBounds_toArray,List.set_cons_zero,List.set_cons_succ])
         go_cut [32] (fun v32 wc => ∃ (kq:Nat) (x32_11:Bool),v32 = .bool x32_11∧zqd (zj1.j1 kq l1 l0_1 (l0_1.length:Int) x18_1 x32_11 ((zqp l0_1 x18_1).f0) ((zqp l0_1 x18_1).f1) ((zqp l0_1 x18_1).f2) ((zqs l1 x18_1).f0) ((zqs l1 x18_1).f1) ((zqs l1 x18_1).f2)=some r)∧zqd (kq≤k1)∧zqd (wc.heap[gb156]? = some (.cells #[.string a0_0,(.slice (some ad157) l0_1.length c0_1),(.slice A0_2 l0_2.length c0_2),(.slice A0_3 l0_3.length c0_3)] 61 (0,0)))∧zqd (wc.heap[gb158]? = some (.cells #[.string ((zqp l0_1 x18_1).f0),.int .i64 ((zqp l0_1 x18_1).f1),.bool ((zqp l0_1 x18_1).f2)] 90 (0,0)))∧zqd (wc.heap[gb160]? = some (.cells #[.int .i64 ((zqs l1 x18_1).f0),.int .i64 ((zqs l1 x18_1).f1),.string ((zqs l1 x18_1).f2)] 38 (0,0)))∧zqd (Below w.heap.size w wc))
         case first=>
          have H:=HC12.out
          clear HC12
          by_cases c21:((zqs l1 x18_1).f0)=0
          ·rw [if_pos c21] at H
           have c21b0:(((zqs l1 x18_1).f0) == 0)=true:=beq_iff_eq.mpr c21
           have c21b1:(((zqs l1 x18_1).f0) != 0)=false:=bne_eq_false_iff_eq.mpr c21
           clear c21
           (first|rw [c21b0]|(simp only [zx6,zx8];rw [c21b0])|skip)
           have H':=zqd.mk H
           clear H
           have hnb22:=NB160_156.out
           have hnc22:=NB156_160.out
           have hnb23:=NB160_158.out
           have hnc23:=NB158_160.out
           have hcz24_0:w20.cell? ⟨gb160,0,none⟩=some (.int .i64 ((zqs l1 x18_1).f0)):=(zqf BK160.out 0).trans rfl
           have hcz24_1:w20.cell? ⟨gb160,1,none⟩=some (.int .i64 ((zqs l1 x18_1).f1)):=(zqf BK160.out 1).trans rfl
           have hcz24_2:w20.cell? ⟨gb160,2,none⟩=some (.string ((zqs l1 x18_1).f2)):=(zqf BK160.out 2).trans rfl
           have hfz24_0:=zqe BK160.out 0
           have hfz24_1:=zqe BK160.out 1
           have hfz24_2:=zqe BK160.out 2
           have hnb25:=NB158_156.out
           have hnc25:=NB156_158.out
           have hcz26_0:w20.cell? ⟨gb158,0,none⟩=some (.string ((zqp l0_1 x18_1).f0)):=(zqf BK158.out 0).trans rfl
           have hcz26_1:w20.cell? ⟨gb158,1,none⟩=some (.int .i64 ((zqp l0_1 x18_1).f1)):=(zqf BK158.out 1).trans rfl
           have hcz26_2:w20.cell? ⟨gb158,2,none⟩=some (.bool ((zqp l0_1 x18_1).f2)):=(zqf BK158.out 2).trans rfl
           have hfz26_0:=zqe BK158.out 0
           have hfz26_1:=zqe BK158.out 1
           have hfz26_2:=zqe BK158.out 2
           go_wp2
           go_meet
           case rel=>exact⟨_,((zqp l0_1 x18_1).f2),(by first|rfl|(simp;done)|(simp [*];done)|(generalize ByteArray.toList _=q_;cases q_ <;> rfl)),H',⟨by have:=HK1.out;first|omega|exact Nat.le_refl _⟩,⟨by(with_reducible repeat(first|refine zqg ?_ _|refine zqj ?_|refine zqh ?_ _));exact BK156.out⟩,⟨by(with_reducible repeat(first|refine zqg ?_ _|refine zqj ?_|refine zqh ?_ _));exact BK158.out⟩,⟨by(with_reducible repeat(first|refine zqg ?_ _|refine zqj ?_|refine zqh ?_ _));exact BK160.out⟩,⟨by repeat(first|(with_reducible first|exact HB.out|apply zqb|apply zqa|apply zqc|refine zqi ?_ GE156.out|refine zqi ?_ GE158.out|refine zqi ?_ GE160.out)|exact HB.out)⟩⟩
          ·rw [if_neg c21] at H
           have c21b0:(((zqs l1 x18_1).f0) == 0)=false:=beq_eq_false_iff_ne.mpr c21
           have c21b1:(((zqs l1 x18_1).f0) != 0)=true:=bne_iff_ne.mpr c21
           (first|rw [c21b0]|(simp only [zx6,zx8];rw [c21b0])|skip)
           have H':=zqd.mk H
           clear H
           have hnb27:=NB160_156.out
           have hnc27:=NB156_160.out
           have hnb28:=NB160_158.out
           have hnc28:=NB158_160.out
           have hcz29_0:w20.cell? ⟨gb160,0,none⟩=some (.int .i64 ((zqs l1 x18_1).f0)):=(zqf BK160.out 0).trans rfl
           have hcz29_1:w20.cell? ⟨gb160,1,none⟩=some (.int .i64 ((zqs l1 x18_1).f1)):=(zqf BK160.out 1).trans rfl
           have hcz29_2:w20.cell? ⟨gb160,2,none⟩=some (.string ((zqs l1 x18_1).f2)):=(zqf BK160.out 2).trans rfl
           have hfz29_0:=zqe BK160.out 0
           have hfz29_1:=zqe BK160.out 1
           have hfz29_2:=zqe BK160.out 2
           go_wp2
           go_meet
           case rel=>exact⟨_,(false),(by first|rfl|(simp;done)|(simp [*];done)|(generalize ByteArray.toList _=q_;cases q_ <;> rfl)),H',⟨by have:=HK1.out;first|omega|exact Nat.le_refl _⟩,⟨by(with_reducible repeat(first|refine zqg ?_ _|refine zqj ?_|refine zqh ?_ _));exact BK156.out⟩,⟨by(with_reducible repeat(first|refine zqg ?_ _|refine zqj ?_|refine zqh ?_ _));exact BK158.out⟩,⟨by(with_reducible repeat(first|refine zqg ?_ _|refine zqj ?_|refine zqh ?_ _));exact BK160.out⟩,⟨by repeat(first|(with_reducible first|exact HB.out|apply zqb|apply zqa|apply zqc|refine zqi ?_ GE156.out|refine zqi ?_ GE158.out|refine zqi ?_ GE160.out)|exact HB.out)⟩⟩
         case rest=>
          clear HC12
          try clear c1
          try clear p1
          try clear q1
          try clear hx1
          try clear c2
          try clear p2
          try clear c3
          try clear c3b0
          try clear c3b1
          try clear c3b2
          try clear c5
          try clear c6
          try clear c6b0
          try clear c7
          try clear c7b0
          try clear c8
          try clear c8b0
          try clear c9
          try clear c9b0
          try clear c11
          try clear c11b0
          try clear c11b1
          try clear c14
          try clear p15
          try clear q15
          try clear hx15
          try clear c17
          try clear c18
          try clear c21
          try clear c21b0
          try clear c21b1
          try clear c22
          try clear c23
          try clear c25
          try clear c27
          try clear c28
          try clear c29
          try clear hcz15_0
          try clear hcz15_1
          try clear hcz15_2
          try clear hcz19_0
          try clear hcz19_1
          try clear hcz19_2
          try clear hcz24_0
          try clear hcz24_1
          try clear hcz24_2
          try clear hcz26_0
          try clear hcz26_1
          try clear hcz26_2
          try clear hcz29_0
          try clear hcz29_1
          try clear hcz29_2
          try clear hcz5_0
          try clear hcz5_1
          try clear hcz5_2
          try clear hcz5_3
          try clear hfz15_0
          try clear hfz15_1
          try clear hfz15_2
          try clear hfz19_0
          try clear hfz19_1
          try clear hfz19_2
          try clear hfz24_0
          try clear hfz24_1
          try clear hfz24_2
          try clear hfz26_0
          try clear hfz26_1
          try clear hfz26_2
          try clear hfz29_0
          try clear hfz29_1
          try clear hfz29_2
          try clear hfz5_0
          try clear hfz5_1
          try clear hfz5_2
          try clear hfz5_3
          try clear hx157_0
          try clear hx157_1
          try clear hx157_2
          try clear hx159_0
          try clear hx159_1
          try clear hx159_2
          try clear p157
          try clear p159
          try clear p2
          try clear q157
          try clear q159
          obtain ⟨kq,x32_11,rfl,HA,HJ11,BK156,BK158,BK160,HB⟩:=hcut
          cases kq with
          | zero=>exact absurd HA.out (by simp [zj1.j1])
          | succ kj11=>
           have H:=HA.out
           clear HA
           simp only [zj1.j1] at H
           by_cases c30:x32_11=true
           ·subst c30
            have H1:(some 13)=some r:=by rw [if_pos rfl] at H;exact H
            clear H
            have H:=H1
            clear H1
            obtain rfl:=Option.some.inj H
            go_wp2
            go_ret
            exact⟨by first|rfl|(simp [zqm,zql] <;> rfl)|(simp [*,zqm,zql] <;> rfl),by repeat(first|(with_reducible first|exact HB.out|apply zqb|apply zqa|apply zqc|refine zqi ?_ GE156.out|refine zqi ?_ GE158.out|refine zqi ?_ GE160.out)|exact HB.out)⟩
           ·replace c30:=Bool.eq_false_iff.mpr c30
            subst c30
            have H1:(if((zqs l1 x18_1).f0)=0 then(zj1.l0 kj11 l1 l0_1 (l0_1.length:Int) (wrap64 (x18_1+1))) else (if((zqs l1 x18_1).f0)=((zqp l0_1 x18_1).f1) then(zj1.l0 kj11 l1 l0_1 (l0_1.length:Int) (wrap64 (x18_1+1))) else (some 12)))=some r:=by rw [if_neg (show ¬ (false=true) by decide)] at H;exact H
            clear H
            have H:=H1
            clear H1
            by_cases c31:((zqs l1 x18_1).f0)=0
            ·rw [if_pos c31] at H
             have c31b0:(((zqs l1 x18_1).f0) == 0)=true:=beq_iff_eq.mpr c31
             have c31b1:(((zqs l1 x18_1).f0) != 0)=false:=bne_eq_false_iff_eq.mpr c31
             clear c31
             have H':=zqd.mk H
             clear H
             have hnb32:=NB160_156.out
             have hnc32:=NB156_160.out
             have hnb33:=NB160_158.out
             have hnc33:=NB158_160.out
             have hcz34_0:wc.cell? ⟨gb160,0,none⟩=some (.int .i64 ((zqs l1 x18_1).f0)):=(zqf BK160.out 0).trans rfl
             have hcz34_1:wc.cell? ⟨gb160,1,none⟩=some (.int .i64 ((zqs l1 x18_1).f1)):=(zqf BK160.out 1).trans rfl
             have hcz34_2:wc.cell? ⟨gb160,2,none⟩=some (.string ((zqs l1 x18_1).f2)):=(zqf BK160.out 2).trans rfl
             have hfz34_0:=zqe BK160.out 0
             have hfz34_1:=zqe BK160.out 1
             have hfz34_2:=zqe BK160.out 2
             go_wp2
             go_roundg kj11
             case measure=>have:=HK1.out;have:=HJ11.out;omega
             case rel=>exact⟨(wrap64 (x18_1+1)),(by first|rfl|(simp;done)|(simp [*];done)|(generalize ByteArray.toList _=q_;cases q_ <;> rfl)),H',⟨by have:=HK1.out;have:=HJ11.out;omega⟩,⟨by(with_reducible repeat(first|refine zqg ?_ _|refine zqj ?_|refine zqh ?_ _));exact BK156.out⟩,⟨by repeat(first|(with_reducible first|exact HB.out|apply zqb|apply zqa|apply zqc|refine zqi ?_ GE156.out|refine zqi ?_ GE158.out|refine zqi ?_ GE160.out)|exact HB.out)⟩⟩
            ·rw [if_neg c31] at H
             have c31b0:(((zqs l1 x18_1).f0) == 0)=false:=beq_eq_false_iff_ne.mpr c31
             have c31b1:(((zqs l1 x18_1).f0) != 0)=true:=bne_iff_ne.mpr c31
             by_cases c35:((zqs l1 x18_1).f0)=((zqp l0_1 x18_1).f1)
             ·rw [if_pos c35] at H
              have c35b0:(((zqs l1 x18_1).f0) == ((zqp l0_1 x18_1).f1))=true:=beq_iff_eq.mpr c35
              have c35b1:(((zqs l1 x18_1).f0) != ((zqp l0_1 x18_1).f1))=false:=bne_eq_false_iff_eq.mpr c35
              clear c35
              have H':=zqd.mk H
              clear H
              have hnb36:=NB160_156.out
              have hnc36:=NB156_160.out
              have hnb37:=NB160_158.out
              have hnc37:=NB158_160.out
              have hcz38_0:wc.cell? ⟨gb160,0,none⟩=some (.int .i64 ((zqs l1 x18_1).f0)):=(zqf BK160.out 0).trans rfl
              have hcz38_1:wc.cell? ⟨gb160,1,none⟩=some (.int .i64 ((zqs l1 x18_1).f1)):=(zqf BK160.out 1).trans rfl
              have hcz38_2:wc.cell? ⟨gb160,2,none⟩=some (.string ((zqs l1 x18_1).f2)):=(zqf BK160.out 2).trans rfl
              have hfz38_0:=zqe BK160.out 0
              have hfz38_1:=zqe BK160.out 1
              have hfz38_2:=zqe BK160.out 2
              have hnb39:=NB158_156.out
              have hnc39:=NB156_158.out
              have hcz40_0:wc.cell? ⟨gb158,0,none⟩=some (.string ((zqp l0_1 x18_1).f0)):=(zqf BK158.out 0).trans rfl
              have hcz40_1:wc.cell? ⟨gb158,1,none⟩=some (.int .i64 ((zqp l0_1 x18_1).f1)):=(zqf BK158.out 1).trans rfl
              have hcz40_2:wc.cell? ⟨gb158,2,none⟩=some (.bool ((zqp l0_1 x18_1).f2)):=(zqf BK158.out 2).trans rfl
              have hfz40_0:=zqe BK158.out 0
              have hfz40_1:=zqe BK158.out 1
              have hfz40_2:=zqe BK158.out 2
              go_wp2
              go_roundg kj11
              case measure=>have:=HK1.out;have:=HJ11.out;omega
              case rel=>exact⟨(wrap64 (x18_1+1)),(by first|rfl|(simp;done)|(simp [*];done)|(generalize ByteArray.toList _=q_;cases q_ <;> rfl)),H',⟨by have:=HK1.out;have:=HJ11.out;omega⟩,⟨by(with_reducible repeat(first|refine zqg ?_ _|refine zqj ?_|refine zqh ?_ _));exact BK156.out⟩,⟨by repeat(first|(with_reducible first|exact HB.out|apply zqb|apply zqa|apply zqc|refine zqi ?_ GE156.out|refine zqi ?_ GE158.out|refine zqi ?_ GE160.out)|exact HB.out)⟩⟩
             ·rw [if_neg c35] at H
              have c35b0:(((zqs l1 x18_1).f0) == ((zqp l0_1 x18_1).f1))=false:=beq_eq_false_iff_ne.mpr c35
              have c35b1:(((zqs l1 x18_1).f0) != ((zqp l0_1 x18_1).f1))=true:=bne_iff_ne.mpr c35
              obtain rfl:=Option.some.inj H
              have hnb41:=NB160_156.out
              have hnc41:=NB156_160.out
              have hnb42:=NB160_158.out
              have hnc42:=NB158_160.out
              have hcz43_0:wc.cell? ⟨gb160,0,none⟩=some (.int .i64 ((zqs l1 x18_1).f0)):=(zqf BK160.out 0).trans rfl
              have hcz43_1:wc.cell? ⟨gb160,1,none⟩=some (.int .i64 ((zqs l1 x18_1).f1)):=(zqf BK160.out 1).trans rfl
              have hcz43_2:wc.cell? ⟨gb160,2,none⟩=some (.string ((zqs l1 x18_1).f2)):=(zqf BK160.out 2).trans rfl
              have hfz43_0:=zqe BK160.out 0
              have hfz43_1:=zqe BK160.out 1
              have hfz43_2:=zqe BK160.out 2
              have hnb44:=NB158_156.out
              have hnc44:=NB156_158.out
              have hcz45_0:wc.cell? ⟨gb158,0,none⟩=some (.string ((zqp l0_1 x18_1).f0)):=(zqf BK158.out 0).trans rfl
              have hcz45_1:wc.cell? ⟨gb158,1,none⟩=some (.int .i64 ((zqp l0_1 x18_1).f1)):=(zqf BK158.out 1).trans rfl
              have hcz45_2:wc.cell? ⟨gb158,2,none⟩=some (.bool ((zqp l0_1 x18_1).f2)):=(zqf BK158.out 2).trans rfl
              have hfz45_0:=zqe BK158.out 0
              have hfz45_1:=zqe BK158.out 1
              have hfz45_2:=zqe BK158.out 2
              go_wp2
              go_ret
              exact⟨by first|rfl|(simp [zqm,zql] <;> rfl)|(simp [*,zqm,zql] <;> rfl),by repeat(first|(with_reducible first|exact HB.out|apply zqb|apply zqa|apply zqc|refine zqi ?_ GE156.out|refine zqi ?_ GE158.out|refine zqi ?_ GE160.out)|exact HB.out)⟩
        ·rw [if_neg c11] at H
         have c11b0:(t161 == 0)=false:=beq_eq_false_iff_ne.mpr c11
         have c11b1:(t161 != 0)=true:=bne_iff_ne.mpr c11
         obtain rfl:=Option.some.inj H
         have p157:0≤(x18_1:Int):=of_decide_eq_true (by first|(with_reducible assumption)|assumption)
         have q157:x18_1<(l0_1.length:Int):=of_decide_eq_true (by first|(with_reducible assumption)|assumption)
         obtain ⟨ad157,e157,hx157_0,hx157_1,hx157_2⟩:=at_T90 HR0_1.out x18_1 p157 q157
         cases e157
         replace hx157_0:=(HB.out.cell (World.block_lt_of_cell? w _ hx157_0)).trans hx157_0
         replace hx157_1:=(HB.out.cell (World.block_lt_of_cell? w _ hx157_1)).trans hx157_1
         replace hx157_2:=(HB.out.cell (World.block_lt_of_cell? w _ hx157_2)).trans hx157_2
         replace p157:=eq_true p157
         replace q157:=eq_true q157
         go_wp2_with (first|((with_reducible refine zqx (N:=6) rfl ?_);refine zqt ?hg (N:=6) ?hd (cs:=#[.string (⟨#[]⟩:ByteArray),.int .i64 0,.bool false]) (t:=90) ?hr ?_;(case hd=>rfl);(case hg=>rfl);(case hr=>first|(go_simp;done)|(go_simp;rfl));intro gb158 hg w46 hbox hb;have n0_:=zqd.mk (zqr (g:=gb156) (o:=.cells #[.string a0_0,.slice (some ad157) l0_1.length c0_1,.slice A0_2 l0_2.length c0_2,.slice A0_3 l0_3.length c0_3] 61 (0,0)) (by(with_reducible repeat(first|refine zqg ?_ _|refine zqj ?_|refine zqh ?_ _));exact BK156.out) hb);have n1_:=zqd.mk (zqn (by repeat(first|(with_reducible first|exact HB.out|apply zqb|apply zqa|apply zqc|refine zqi ?_ GE156.out)|exact HB.out)) hb);have n2_:=zqd.mk (hbox);have n3_:=zqd.mk ((by rw [hg];exact(zqk (by repeat(first|(with_reducible first|exact HB.out|apply zqb|apply zqa|apply zqc|refine zqi ?_ GE156.out)|exact HB.out))):w.heap.size≤gb158));have n4_:=zqd.mk ((by rw [hg];exact(zqk (by repeat(first|(with_reducible first|exact HB.out|apply zqb|apply zqa|apply zqc|refine zqi ?_ GE156.out)|exact HB.out))):w.heap.size≤gb158));have n5_:=zqd.mk ((by rw [hg];exact Nat.ne_of_lt (zxh (g:=gb156) (o:=.cells #[.string a0_0,.slice (some ad157) l0_1.length c0_1,.slice A0_2 l0_2.length c0_2,.slice A0_3 l0_3.length c0_3] 61 (0,0)) (by(with_reducible repeat(first|refine zqg ?_ _|refine zqj ?_|refine zqh ?_ _));exact BK156.out)):gb156≠gb158));have n6_:=zqd.mk ((by rw [hg];exact Nat.ne_of_gt (zxh (g:=gb156) (o:=.cells #[.string a0_0,.slice (some ad157) l0_1.length c0_1,.slice A0_2 l0_2.length c0_2,.slice A0_3 l0_3.length c0_3] 61 (0,0)) (by(with_reducible repeat(first|refine zqg ?_ _|refine zqj ?_|refine zqh ?_ _));exact BK156.out)):gb158≠gb156));clear BK156 HB;have BK156:=n0_;have HB:=n1_;have BK158:=n2_;have GW158:=n3_;have GE158:=n4_;have NB156_158:=n5_;have NB158_156:=n6_;clear n0_ n1_ n2_ n3_ n4_ n5_ n6_ hb hbox hg;have hnb47:=NB158_156.out;have hnc47:=NB156_158.out;have hcz48_0:w46.cell? ⟨gb158,0,none⟩=some (.string (⟨#[]⟩:ByteArray)):=(zqf BK158.out 0).trans rfl;have hcz48_1:w46.cell? ⟨gb158,1,none⟩=some (.int .i64 0):=(zqf BK158.out 1).trans rfl;have hcz48_2:w46.cell? ⟨gb158,2,none⟩=some (.bool false):=(zqf BK158.out 2).trans rfl;have hfz48_0:=zqe BK158.out 0;have hfz48_1:=zqe BK158.out 1;have hfz48_2:=zqe BK158.out 2;have p159:0≤(x18_1:Int):=of_decide_eq_true (by first|(with_reducible assumption)|assumption);have q159:x18_1<(l1.length:Int):=of_decide_eq_true (by first|(with_reducible assumption)|assumption);obtain ⟨ad159,e159,hx159_0,hx159_1,hx159_2⟩:=at_T38 HR1.out x18_1 p159 q159;cases e159;have hn159_0:ad159.block≠gb158:=Nat.ne_of_lt (Nat.lt_of_lt_of_le (by have:=World.block_lt_of_cell? _ _ hx159_0;first|rwa [add_block] at this|exact this) GW158.out);have hn159_1:ad159.block≠gb158:=Nat.ne_of_lt (Nat.lt_of_lt_of_le (by have:=World.block_lt_of_cell? _ _ hx159_0;first|rwa [add_block] at this|exact this) GW158.out);have hn159_2:ad159.block≠gb158:=Nat.ne_of_lt (Nat.lt_of_lt_of_le (by have:=World.block_lt_of_cell? _ _ hx159_0;first|rwa [add_block] at this|exact this) GW158.out);replace hx159_0:=(HB.out.cell (World.block_lt_of_cell? w _ hx159_0)).trans hx159_0;replace hx159_1:=(HB.out.cell (World.block_lt_of_cell? w _ hx159_1)).trans hx159_1;replace hx159_2:=(HB.out.cell (World.block_lt_of_cell? w _ hx159_2)).trans hx159_2;replace hx159_0:=(cell_far (p:=⟨gb158,0,none⟩) (by first|(rw [add_block];exact hn159_0)|(show(Addr.add _ _).block≠_;rw [add_block];exact hn159_0)|exact hn159_0) (.string ((zqp l0_1 x18_1).f0))).trans hx159_0;replace hx159_1:=(cell_far (p:=⟨gb158,0,none⟩) (by first|(rw [add_block];exact hn159_0)|(show(Addr.add _ _).block≠_;rw [add_block];exact hn159_0)|exact hn159_0) (.string ((zqp l0_1 x18_1).f0))).trans hx159_1;replace hx159_2:=(cell_far (p:=⟨gb158,0,none⟩) (by first|(rw [add_block];exact hn159_0)|(show(Addr.add _ _).block≠_;rw [add_block];exact hn159_0)|exact hn159_0) (.string ((zqp l0_1 x18_1).f0))).trans hx159_2;replace hx159_0:=(cell_far (p:=⟨gb158,1,none⟩) (by first|(rw [add_block];exact hn159_1)|(show(Addr.add _ _).block≠_;rw [add_block];exact hn159_1)|exact hn159_1) (.int .i64 ((zqp l0_1 x18_1).f1))).trans hx159_0;replace hx159_1:=(cell_far (p:=⟨gb158,1,none⟩) (by first|(rw [add_block];exact hn159_1)|(show(Addr.add _ _).block≠_;rw [add_block];exact hn159_1)|exact hn159_1) (.int .i64 ((zqp l0_1 x18_1).f1))).trans hx159_1;replace hx159_2:=(cell_far (p:=⟨gb158,1,none⟩) (by first|(rw [add_block];exact hn159_1)|(show(Addr.add _ _).block≠_;rw [add_block];exact hn159_1)|exact hn159_1) (.int .i64 ((zqp l0_1 x18_1).f1))).trans hx159_2;replace hx159_0:=(cell_far (p:=⟨gb158,2,none⟩) (by first|(rw [add_block];exact hn159_2)|(show(Addr.add _ _).block≠_;rw [add_block];exact hn159_2)|exact hn159_2) (.bool ((zqp l0_1 x18_1).f2))).trans hx159_0;replace hx159_1:=(cell_far (p:=⟨gb158,2,none⟩) (by first|(rw [add_block];exact hn159_2)|(show(Addr.add _ _).block≠_;rw [add_block];exact hn159_2)|exact hn159_2) (.bool ((zqp l0_1 x18_1).f2))).trans hx159_1;replace hx159_2:=(cell_far (p:=⟨gb158,2,none⟩) (by first|(rw [add_block];exact hn159_2)|(show(Addr.add _ _).block≠_;rw [add_block];exact hn159_2)|exact hn159_2) (.bool ((zqp l0_1 x18_1).f2))).trans hx159_2;clear hn159_0 hn159_1 hn159_2;replace p159:=eq_true p159;replace q159:=eq_true q159)|((with_reducible refine zqx (N:=7) rfl ?_);refine zqt ?hg (N:=7) ?hd (cs:=#[.int .i64 0,.int .i64 0,.string (⟨#[]⟩:ByteArray)]) (t:=38) ?hr ?_;(case hd=>rfl);(case hg=>rfl);(case hr=>first|(go_simp;done)|(go_simp;rfl));intro gb160 hg w49 hbox hb;have n0_:=zqd.mk (zqr (g:=gb156) (o:=.cells #[.string a0_0,.slice (some ad157) l0_1.length c0_1,.slice A0_2 l0_2.length c0_2,.slice A0_3 l0_3.length c0_3] 61 (0,0)) (by(with_reducible repeat(first|refine zqg ?_ _|refine zqj ?_|refine zqh ?_ _));refine zq1 ?_ NB156_158.out _;(with_reducible repeat(first|refine zqg ?_ _|refine zqj ?_|refine zqh ?_ _));refine zq1 ?_ NB156_158.out _;(with_reducible repeat(first|refine zqg ?_ _|refine zqj ?_|refine zqh ?_ _));refine zq1 ?_ NB156_158.out _;(with_reducible repeat(first|refine zqg ?_ _|refine zqj ?_|refine zqh ?_ _));exact BK156.out) hb);have n1_:=zqd.mk (zqr (g:=gb158) (o:=.cells #[.string ((zqp l0_1 x18_1).f0),.int .i64 ((zqp l0_1 x18_1).f1),.bool ((zqp l0_1 x18_1).f2)] 90 (0,0)) (by(with_reducible repeat(first|refine zqg ?_ _|refine zqj ?_|refine zqh ?_ _));refine zqu (cs:=#[.string ((zqp l0_1 x18_1).f0),.int .i64 ((zqp l0_1 x18_1).f1),.bool false]) ?_ 2 _ rfl;(with_reducible repeat(first|refine zqg ?_ _|refine zqj ?_|refine zqh ?_ _));refine zqu (cs:=#[.string ((zqp l0_1 x18_1).f0),.int .i64 0,.bool false]) ?_ 1 _ rfl;(with_reducible repeat(first|refine zqg ?_ _|refine zqj ?_|refine zqh ?_ _));refine zqu (cs:=#[.string (⟨#[]⟩:ByteArray),.int .i64 0,.bool false]) ?_ 0 _ rfl;(with_reducible repeat(first|refine zqg ?_ _|refine zqj ?_|refine zqh ?_ _));exact BK158.out) hb);have n2_:=zqd.mk (zqn (by repeat(first|(with_reducible first|exact HB.out|apply zqb|apply zqa|apply zqc|refine zqi ?_ GE156.out|refine zqi ?_ GE158.out)|exact HB.out)) hb);have n3_:=zqd.mk (hbox);have n4_:=zqd.mk ((by rw [hg];exact(zqk (by repeat(first|(with_reducible first|exact HB.out|apply zqb|apply zqa|apply zqc|refine zqi ?_ GE156.out|refine zqi ?_ GE158.out)|exact HB.out))):w.heap.size≤gb160));have n5_:=zqd.mk ((by rw [hg];exact(zqk (by repeat(first|(with_reducible first|exact HB.out|apply zqb|apply zqa|apply zqc|refine zqi ?_ GE156.out|refine zqi ?_ GE158.out)|exact HB.out))):w.heap.size≤gb160));have n6_:=zqd.mk ((by rw [hg];exact Nat.ne_of_lt (zxh (g:=gb156) (o:=.cells #[.string a0_0,.slice (some ad157) l0_1.length c0_1,.slice A0_2 l0_2.length c0_2,.slice A0_3 l0_3.length c0_3] 61 (0,0)) (by(with_reducible repeat(first|refine zqg ?_ _|refine zqj ?_|refine zqh ?_ _));refine zq1 ?_ NB156_158.out _;(with_reducible repeat(first|refine zqg ?_ _|refine zqj ?_|refine zqh ?_ _));refine zq1 ?_ NB156_158.out _;(with_reducible repeat(first|refine zqg ?_ _|refine zqj ?_|refine zqh ?_ _));refine zq1 ?_ NB156_158.out _;(with_reducible repeat(first|refine zqg ?_ _|refine zqj ?_|refine zqh ?_ _));exact BK156.out)):gb156≠gb160));have n7_:=zqd.mk ((by rw [hg];exact Nat.ne_of_gt (zxh (g:=gb156) (o:=.cells #[.string a0_0,.slice (some ad157) l0_1.length c0_1,.slice A0_2 l0_2.length c0_2,.slice A0_3 l0_3.length c0_3] 61 (0,0)) (by(with_reducible repeat(first|refine zqg ?_ _|refine zqj ?_|refine zqh ?_ _));refine zq1 ?_ NB156_158.out _;(with_reducible repeat(first|refine zqg ?_ _|refine zqj ?_|refine zqh ?_ _));refine zq1 ?_ NB156_158.out _;(with_reducible repeat(first|refine zqg ?_ _|refine zqj ?_|refine zqh ?_ _));refine zq1 ?_ NB156_158.out _;(with_reducible repeat(first|refine zqg ?_ _|refine zqj ?_|refine zqh ?_ _));exact BK156.out)):gb160≠gb156));have n8_:=zqd.mk ((by rw [hg];exact Nat.ne_of_lt (zxh (g:=gb158) (o:=.cells #[.string ((zqp l0_1 x18_1).f0),.int .i64 ((zqp l0_1 x18_1).f1),.bool ((zqp l0_1 x18_1).f2)] 90 (0,0)) (by(with_reducible repeat(first|refine zqg ?_ _|refine zqj ?_|refine zqh ?_ _));refine zqu (cs:=#[.string ((zqp l0_1 x18_1).f0),.int .i64 ((zqp l0_1 x18_1).f1),.bool false]) ?_ 2 _ rfl;(with_reducible repeat(first|refine zqg ?_ _|refine zqj ?_|refine zqh ?_ _));refine zqu (cs:=#[.string ((zqp l0_1 x18_1).f0),.int .i64 0,.bool false]) ?_ 1 _ rfl;(with_reducible repeat(first|refine zqg ?_ _|refine zqj ?_|refine zqh ?_ _));refine zqu (cs:=#[.string (⟨#[]⟩:ByteArray),.int .i64 0,.bool false]) ?_ 0 _ rfl;(with_reducible repeat(first|refine zqg ?_ _|refine zqj ?_|refine zqh ?_ _));exact BK158.out)):gb158≠gb160));have n9_:=zqd.mk ((by rw [hg];exact Nat.ne_of_gt (zxh (g:=gb158) (o:=.cells #[.string ((zqp l0_1 x18_1).f0),.int .i64 ((zqp l0_1 x18_1).f1),.bool ((zqp l0_1 x18_1).f2)] 90 (0,0)) (by(with_reducible repeat(first|refine zqg ?_ _|refine zqj ?_|refine zqh ?_ _));refine zqu (cs:=#[.string ((zqp l0_1 x18_1).f0),.int .i64 ((zqp l0_1 x18_1).f1),.bool false]) ?_ 2 _ rfl;(with_reducible repeat(first|refine zqg ?_ _|refine zqj ?_|refine zqh ?_ _));refine zqu (cs:=#[.string ((zqp l0_1 x18_1).f0),.int .i64 0,.bool false]) ?_ 1 _ rfl;(with_reducible repeat(first|refine zqg ?_ _|refine zqj ?_|refine zqh ?_ _));refine zqu (cs:=#[.string (⟨#[]⟩:ByteArray),.int .i64 0,.bool false]) ?_ 0 _ rfl;(with_reducible repeat(first|refine zqg ?_ _|refine zqj ?_|refine zqh ?_ _));exact BK158.out)):gb160≠gb158));clear BK156 BK158 HB;have BK156:=n0_;have BK158:=n1_;have HB:=n2_;have BK160:=n3_;have GW160:=n4_;have GE160:=n5_;have NB156_160:=n6_;have NB160_156:=n7_;have NB158_160:=n8_;have NB160_158:=n9_;clear n0_ n1_ n2_ n3_ n4_ n5_ n6_ n7_ n8_ n9_ hb hbox hg;have hnb50:=NB160_156.out;have hnc50:=NB156_160.out;have hnb51:=NB160_158.out;have hnc51:=NB158_160.out;have hcz52_0:w49.cell? ⟨gb160,0,none⟩=some (.int .i64 0):=(zqf BK160.out 0).trans rfl;have hcz52_1:w49.cell? ⟨gb160,1,none⟩=some (.int .i64 0):=(zqf BK160.out 1).trans rfl;have hcz52_2:w49.cell? ⟨gb160,2,none⟩=some (.string (⟨#[]⟩:ByteArray)):=(zqf BK160.out 2).trans rfl;have hfz52_0:=zqe BK160.out 0;have hfz52_1:=zqe BK160.out 1;have hfz52_2:=zqe BK160.out 2)|((with_reducible refine zqv (f:=57) rfl ?_);refine zq8 (some 28) rfl rfl Tryd.func57 (by kernel_rfl) rfl #[.agg #[.int .i64 ((zqs l1 x18_1).f0),.int .i64 ((zqs l1 x18_1).f1),.string ((zqs l1 x18_1).f2)]] rfl (by(try simp only [List.map_toArray,List.map_cons,List.map_nil]);first|done|rfl|(simp only [List.length_drop,List.length_take];rfl)) ?_;(with_reducible refine(zjz.calls k1 ((zqs l1 x18_1).f0) ((zqs l1 x18_1).f1) ((zqs l1 x18_1).f2) t161 _ ?side1 A10.out).mono ?_);(case side1=>exact LD.below HLD.out (by first|(with_reducible exact Below.refl _ _)|((repeat(first|(with_reducible exact Below.refl _ _)|(with_reducible apply zqb)|(with_reducible apply zqa)|(with_reducible apply zqc)));done)|exact(by repeat(first|(with_reducible first|exact HB.out|apply zqb|apply zqa|apply zqc|refine zqi ?_ GE156.out|refine zqi ?_ GE158.out|refine zqi ?_ GE160.out)|exact HB.out))));rintro e w53 ⟨rfl,hb⟩;refine⟨_,rfl,?_⟩;have n0_:=zqd.mk (zqr (g:=gb156) (o:=.cells #[.string a0_0,.slice (some ad157) l0_1.length c0_1,.slice A0_2 l0_2.length c0_2,.slice A0_3 l0_3.length c0_3] 61 (0,0)) (by(with_reducible repeat(first|refine zqg ?_ _|refine zqj ?_|refine zqh ?_ _));refine zq1 ?_ NB156_160.out _;(with_reducible repeat(first|refine zqg ?_ _|refine zqj ?_|refine zqh ?_ _));refine zq1 ?_ NB156_160.out _;(with_reducible repeat(first|refine zqg ?_ _|refine zqj ?_|refine zqh ?_ _));refine zq1 ?_ NB156_160.out _;(with_reducible repeat(first|refine zqg ?_ _|refine zqj ?_|refine zqh ?_ _));exact BK156.out) hb);have n1_:=zqd.mk (zqr (g:=gb158) (o:=.cells #[.string ((zqp l0_1 x18_1).f0),.int .i64 ((zqp l0_1 x18_1).f1),.bool ((zqp l0_1 x18_1).f2)] 90 (0,0)) (by(with_reducible repeat(first|refine zqg ?_ _|refine zqj ?_|refine zqh ?_ _));refine zq1 ?_ NB158_160.out _;(with_reducible repeat(first|refine zqg ?_ _|refine zqj ?_|refine zqh ?_ _));refine zq1 ?_ NB158_160.out _;(with_reducible repeat(first|refine zqg ?_ _|refine zqj ?_|refine zqh ?_ _));refine zq1 ?_ NB158_160.out _;(with_reducible repeat(first|refine zqg ?_ _|refine zqj ?_|refine zqh ?_ _));exact BK158.out) hb);have n2_:=zqd.mk (zqr (g:=gb160) (o:=.cells #[.int .i64 ((zqs l1 x18_1).f0),.int .i64 ((zqs l1 x18_1).f1),.string ((zqs l1 x18_1).f2)] 38 (0,0)) (by(with_reducible repeat(first|refine zqg ?_ _|refine zqj ?_|refine zqh ?_ _));refine zqu (cs:=#[.int .i64 ((zqs l1 x18_1).f0),.int .i64 ((zqs l1 x18_1).f1),.string (⟨#[]⟩:ByteArray)]) ?_ 2 _ rfl;(with_reducible repeat(first|refine zqg ?_ _|refine zqj ?_|refine zqh ?_ _));refine zqu (cs:=#[.int .i64 ((zqs l1 x18_1).f0),.int .i64 0,.string (⟨#[]⟩:ByteArray)]) ?_ 1 _ rfl;(with_reducible repeat(first|refine zqg ?_ _|refine zqj ?_|refine zqh ?_ _));refine zqu (cs:=#[.int .i64 0,.int .i64 0,.string (⟨#[]⟩:ByteArray)]) ?_ 0 _ rfl;(with_reducible repeat(first|refine zqg ?_ _|refine zqj ?_|refine zqh ?_ _));exact BK160.out) hb);have n3_:=zqd.mk (zqn (by repeat(first|(with_reducible first|exact HB.out|apply zqb|apply zqa|apply zqc|refine zqi ?_ GE156.out|refine zqi ?_ GE158.out|refine zqi ?_ GE160.out)|exact HB.out)) hb);clear BK156 BK158 BK160 HB;have BK156:=n0_;have BK158:=n1_;have BK160:=n2_;have HB:=n3_;clear n0_ n1_ n2_ n3_;(try clear hb);(try clear hb2);(try clear hk);(try clear hi)))
         go_ret
         exact⟨by first|rfl|(simp [zqm,zql] <;> rfl)|(simp [*,zqm,zql] <;> rfl),by repeat(first|(with_reducible first|exact HB.out|apply zqb|apply zqa|apply zqc|refine zqi ?_ GE156.out|refine zqi ?_ GE158.out|refine zqi ?_ GE160.out)|exact HB.out)⟩
       ·rw [if_neg c9] at H
        exact absurd H (by simp)
      ·rw [if_neg c8] at H
       exact absurd H (by simp)
     ·rw [if_neg c7] at H
      exact absurd H (by simp)
    ·rw [if_neg c6] at H
     have c6b0:decide (x18_1<(l0_1.length:Int))=false:=decide_eq_false c6
     clear c6
     obtain rfl:=Option.some.inj H
     go_wp2
     go_ret
     exact⟨by first|rfl|(simp [zqm,zql] <;> rfl)|(simp [*,zqm,zql] <;> rfl),by repeat(first|(with_reducible first|exact HB.out|apply zqb|apply zqa|apply zqc|refine zqi ?_ GE156.out)|exact HB.out)⟩
 ·rw [if_neg c3] at H
  have c3b0:((l1.length:Int) == (l0_1.length:Int))=false:=beq_eq_false_iff_ne.mpr c3
  have c3b1:((l1.length:Int) != (l0_1.length:Int))=true:=bne_iff_ne.mpr c3
  have c3b2:(l1.length == l0_1.length)=false:=by first|simpa using c3|(simp at c3 ⊢;omega)
  obtain rfl:=Option.some.inj H
  go_enter Tryd.func29,Tryd.ntmps29
  go_wp2_with (first|((with_reducible refine zqx (N:=2) rfl ?_);refine zqt ?hg (N:=2) ?hd (cs:=#[.string a0_0,.slice A0_1 l0_1.length c0_1,.slice A0_2 l0_2.length c0_2,.slice A0_3 l0_3.length c0_3]) (t:=61) ?hr ?_;(case hd=>rfl);(case hg=>rfl);(case hr=>first|(go_simp;done)|(go_simp;rfl));intro gb156 hg w54 hbox hb;have n0_:=zqd.mk (zqn (by repeat(first|(with_reducible first|exact HB.out|apply zqb|apply zqa|apply zqc)|exact HB.out)) hb);have n1_:=zqd.mk (hbox);have n2_:=zqd.mk ((by rw [hg];exact(zqk (by repeat(first|(with_reducible first|exact HB.out|apply zqb|apply zqa|apply zqc)|exact HB.out))):w.heap.size≤gb156));have n3_:=zqd.mk ((by rw [hg];exact(zqk (by repeat(first|(with_reducible first|exact HB.out|apply zqb|apply zqa|apply zqc)|exact HB.out))):w.heap.size≤gb156));clear HB;have HB:=n0_;have BK156:=n1_;have GW156:=n2_;have GE156:=n3_;clear n0_ n1_ n2_ n3_ hb hbox hg;have hcz55_0:w54.cell? ⟨gb156,0,none⟩=some (.string a0_0):=(zqf BK156.out 0).trans rfl;have hcz55_1:w54.cell? ⟨gb156,1,none⟩=some (.slice A0_1 l0_1.length c0_1):=(zqf BK156.out 1).trans rfl;have hcz55_2:w54.cell? ⟨gb156,2,none⟩=some (.slice A0_2 l0_2.length c0_2):=(zqf BK156.out 2).trans rfl;have hcz55_3:w54.cell? ⟨gb156,3,none⟩=some (.slice A0_3 l0_3.length c0_3):=(zqf BK156.out 3).trans rfl;have hfz55_0:=zqe BK156.out 0;have hfz55_1:=zqe BK156.out 1;have hfz55_2:=zqe BK156.out 2;have hfz55_3:=zqe BK156.out 3))
  go_ret
  exact⟨by first|rfl|(simp [zqm,zql] <;> rfl)|(simp [*,zqm,zql] <;> rfl),by repeat(first|(with_reducible first|exact HB.out|apply zqb|apply zqa|apply zqc|refine zqi ?_ GE156.out)|exact HB.out)⟩

/-! ### zjp: function 99, by hand -/
-- HAND rounds=0 making=1 imports=Derived.Lib.ConvBytes
-- INFO 5
def zjp.f (_a0:Int):Option Int:=none
/-- The bytes of a text, as they stand in a key. -/
def zjp.esc (l:List Int):List Int:=l.flatMap fun x=>if x=0 then [0,255] else [x]
/-- The byte at place i of eight, the highest first. -/
def zjp.byte (n:Int) (i:Nat):Int:=n / 2 ^ (56 - 8 * i) % 256
def zjp.bytes (n:Int) (j:Nat):List Int:=(List.range j).map (zjp.byte n)
/-- A value in a key. -/
def zjp.enc (a b:Int) (s:ByteArray):List Int:=
 if a=0 then [1] else if a=1 then [(2+b) % 256]
 else if a=2 then 4 :: zjp.bytes (Go.bits .xor .u64 (IntKind.u64.wrap b) 9223372036854775808) 8
 else 5 :: (zjp.esc (bytesOf s) ++ [0,1])
theorem zjp.zxm (n:Int) (j:Nat):(zjp.bytes n j).length=j:=by simp [zjp.bytes]
theorem zjp.zkk (n:Int) (j:Nat):zjp.bytes n (j+1)=zjp.bytes n j ++ [zjp.byte n j]:=by simp [zjp.bytes,List.range_succ]
theorem zjp.b0 (n:Int):zjp.byte n 0=n / 72057594037927936 % 256:=by simp [zjp.byte]
theorem zjp.b1 (n:Int):zjp.byte n 1=n / 281474976710656 % 256:=by simp [zjp.byte]
theorem zjp.b2 (n:Int):zjp.byte n 2=n / 1099511627776 % 256:=by simp [zjp.byte]
theorem zjp.b3 (n:Int):zjp.byte n 3=n / 4294967296 % 256:=by simp [zjp.byte]
theorem zjp.b4 (n:Int):zjp.byte n 4=n / 16777216 % 256:=by simp [zjp.byte]
theorem zjp.b5 (n:Int):zjp.byte n 5=n / 65536 % 256:=by simp [zjp.byte]
theorem zjp.b6 (n:Int):zjp.byte n 6=n / 256 % 256:=by simp [zjp.byte]
theorem zjp.b7 (n:Int):zjp.byte n 7=n % 256:=by simp [zjp.byte]
theorem zjp.esc_take (l:List Int) (j:Nat) (h:j<l.length):zjp.esc (l.take (j+1))=zjp.esc (l.take j) ++ (if l[j]=0 then [0,255] else [l[j]]):=by
 rw [List.take_succ_eq_append_getElem h,zjp.esc,List.flatMap_append]
 simp [zjp.esc]
theorem zjp.esc_le (l:List Int) (j:Nat):(zjp.esc (l.take j)).length≤(zjp.esc l).length:=by
 have h:(zjp.esc (l.take j) ++ zjp.esc (l.drop j)).length=(zjp.esc l).length:=by
  unfold zjp.esc
  rw [← List.flatMap_append,List.take_append_drop]
 rw [List.length_append] at h
 omega
theorem zjp.esc_ge (l:List Int):l.length≤(zjp.esc l).length:=by
 induction l with
 | nil=>exact Nat.le_refl _
 | cons x r ih=>
  have e:zjp.esc (x :: r)=(if x=0 then [0,255] else [x]) ++ zjp.esc r:=by simp [zjp.esc]
  rw [e,List.length_append,List.length_cons]
  split <;> simp <;> omega
theorem zjp.lit2 {w:World} {b:Nat} {x y:Int} (h0:w.cell? ⟨b,0,none⟩=some (.int .u8 x)) (h1:w.cell? ⟨b,1,none⟩=some (.int .u8 y)) :
  Kd.C (Kd.int .u8) w (some ⟨b,0,none⟩) [x,y].length [x,y]:=by
 refine⟨rfl,by simp,fun _=>⟨_,rfl,fun j q hq=>⟨[.int .u8 q],rfl,rfl,fun i u hu=>?_⟩⟩⟩
 obtain rfl:i=0:=by
  rcases i with _|i
  ·rfl
  ·simp at hu
 obtain rfl:Value.int .u8 q=u:=by simpa using hu
 rw [show(⟨b,0,none⟩:Addr).add (j * (Kd.int .u8).sz+0)=⟨b,j,none⟩ from by rw [add_plain];show(⟨_,j * 1+0,none⟩:Addr)=_;simp]
 have hj:j<2:=(List.getElem?_eq_some_iff.1 hq).1
 have hj':j=0∨j=1:=by omega
 rcases hj' with rfl|rfl <;> (simp at hq;subst hq;assumption)
set_option maxRecDepth 100000 in
set_option maxHeartbeats 4000000 in
theorem zjp.null (w0 w:World) (A0:Option Addr) (c0:Nat) (xs:List Int) (a b:Int) (s:ByteArray) (ho:Kd.R (Kd.int .u8) 5 w w0.heap.size (fun _=>True) (.slice A0 xs.length c0) xs) (hb:Below w0.heap.size w0 w)
  (hl:xs.length+(zjp.enc a b s).length<140737488355328) (ha:a=0) :
  Calls Tryd.prog 99 #[.slice A0 xs.length c0,.agg #[.int .i64 a,.int .i64 b,.string s]] w fun e w' => ∃ v:Value,e = .returned v∧Kd.R (Kd.int .u8) 5 w' w0.heap.size (fun _=>True) v (xs ++ zjp.enc a b s)∧Below w0.heap.size w0 w':=by
 subst ha
 have HO:=zqd.mk ho
 have HB:=zqd.mk hb
 have LM:=zqd.mk (show xs.length+1<140737488355328 from hl)
 have he:zjp.enc 0 b s = [1]:=rfl
 rw [he]
 clear ho hb hl he
 go_enter Tryd.func99,Tryd.ntmps99
 go_wp2_with (at_builtin;refine Kd.zxl (Kd.int .u8) (w0:=w0) w0.heap.size rfl _ _ 30 5 (.int .u8 0) 1 rfl Tryd.underlying30 info5 rfl (by decide) (by omega) (.slice A0 xs.length c0) (xs) ?np1 _ (fun _=>True) (fun _=>False) rfl ?hx ?aP (fun _ hk=>hk.elim) ?aF ?aO ?aB ?aS ?aL ?_;(case aP=>exact rfl);(case hx=>first|exact rfl|(simp [go_sem];done));(case aO=>(with_reducible repeat(first|apply Kd.zq4|apply Kd.zq5|apply Kd.zq7));exact HO.out);(case aB=>exact(by repeat(first|(with_reducible first|exact HB.out|apply zqb|apply zqa|apply zqc)|exact HB.out)));(case aF=>exact(fun _ _=>trivial));(case aS=>exact(zqk (by repeat(first|(with_reducible first|exact HB.out|apply zqb|apply zqa|apply zqc)|exact HB.out))));(case aL=>have:=LM.out;omega);intro v1 w1 ho hb hg hat;have n0_:=zqd.mk hb;have n1_:=zqd.mk ho;clear HB HO;have HB:=n0_;have HO:=n1_;clear n0_ n1_ ho hb hg hat)
 go_ret
 exact⟨_,rfl,HO.out,HB.out⟩
set_option maxRecDepth 100000 in
set_option maxHeartbeats 4000000 in
theorem zjp.truth (w0 w:World) (A0:Option Addr) (c0:Nat) (xs:List Int) (a b:Int) (s:ByteArray) (ho:Kd.R (Kd.int .u8) 5 w w0.heap.size (fun _=>True) (.slice A0 xs.length c0) xs) (hb:Below w0.heap.size w0 w)
  (hl:xs.length+(zjp.enc a b s).length<140737488355328) (ha:a=1) :
  Calls Tryd.prog 99 #[.slice A0 xs.length c0,.agg #[.int .i64 a,.int .i64 b,.string s]] w fun e w' => ∃ v:Value,e = .returned v∧Kd.R (Kd.int .u8) 5 w' w0.heap.size (fun _=>True) v (xs ++ zjp.enc a b s)∧Below w0.heap.size w0 w':=by
 subst ha
 have HO:=zqd.mk ho
 have HB:=zqd.mk hb
 have LM:=zqd.mk (show xs.length+1<140737488355328 from hl)
 have he:zjp.enc 1 b s = [(2+b) % 256]:=rfl
 rw [he]
 clear ho hb hl he
 go_enter Tryd.func99,Tryd.ntmps99
 go_wp2_with (at_builtin;refine Kd.zxl (Kd.int .u8) (w0:=w0) w0.heap.size rfl _ _ 30 5 (.int .u8 0) 1 rfl Tryd.underlying30 info5 rfl (by decide) (by omega) (.slice A0 xs.length c0) (xs) ?np1 _ (fun _=>True) (fun _=>False) rfl ?hx ?aP (fun _ hk=>hk.elim) ?aF ?aO ?aB ?aS ?aL ?_;(case aP=>exact rfl);(case hx=>first|exact rfl|(simp [go_sem];done));(case aO=>(with_reducible repeat(first|apply Kd.zq4|apply Kd.zq5|apply Kd.zq7));exact HO.out);(case aB=>exact(by repeat(first|(with_reducible first|exact HB.out|apply zqb|apply zqa|apply zqc)|exact HB.out)));(case aF=>exact(fun _ _=>trivial));(case aS=>exact(zqk (by repeat(first|(with_reducible first|exact HB.out|apply zqb|apply zqa|apply zqc)|exact HB.out))));(case aL=>have:=LM.out;omega);intro v1 w1 ho hb hg hat;have n0_:=zqd.mk hb;have n1_:=zqd.mk ho;clear HB HO;have HB:=n0_;have HO:=n1_;clear n0_ n1_ ho hb hg hat)
 go_ret
 exact⟨_,rfl,HO.out,HB.out⟩
set_option maxRecDepth 100000 in
set_option maxHeartbeats 4000000 in
theorem zjp.int_ (w0 w:World) (A0:Option Addr) (c0:Nat) (xs:List Int) (a b:Int) (s:ByteArray) (ho:Kd.R (Kd.int .u8) 5 w w0.heap.size (fun _=>True) (.slice A0 xs.length c0) xs) (hb:Below w0.heap.size w0 w)
  (hl:xs.length+(zjp.enc a b s).length<140737488355328) (ha:a=2) :
  Calls Tryd.prog 99 #[.slice A0 xs.length c0,.agg #[.int .i64 a,.int .i64 b,.string s]] w fun e w' => ∃ v:Value,e = .returned v∧Kd.R (Kd.int .u8) 5 w' w0.heap.size (fun _=>True) v (xs ++ zjp.enc a b s)∧Below w0.heap.size w0 w':=by
 subst ha
 have HO:=zqd.mk (Kd.zja (Kd.zx9 ho) (fun k hk=>Nat.ne_of_lt hk.2.2.1):Kd.R (Kd.int .u8) 5 w w0.heap.size (fun k_=>k_≠w.heap.size) (.slice A0 xs.length c0) xs)
 have HB:=zqd.mk hb
 have he:zjp.enc 2 b s=4 :: zjp.bytes (Go.bits .xor .u64 (IntKind.u64.wrap b) 9223372036854775808) 8:=rfl
 rw [he] at hl ⊢
 have LM:=zqd.mk (show xs.length+9<140737488355328 by rw [List.length_cons,zjp.zxm] at hl;exact hl)
 clear ho hb hl he
 go_enter Tryd.func99,Tryd.ntmps99
 go_wp2_with (at_builtin;refine Kd.zxl (Kd.int .u8) (w0:=w0) w0.heap.size rfl _ _ 30 5 (.int .u8 0) 1 rfl Tryd.underlying30 info5 rfl (by decide) (by omega) (.slice A0 xs.length c0) (xs) ?np1 _ (fun k_=>k_≠w.heap.size) (fun _=>False) rfl ?hx ?aP (fun _ hk=>hk.elim) ?aF ?aO ?aB ?aS ?aL ?_;(case aP=>exact rfl);(case hx=>first|exact rfl|(simp [go_sem];done));(case aO=>(with_reducible repeat(first|apply Kd.zq4|apply Kd.zq5|apply Kd.zq7));exact HO.out);(case aB=>exact(by repeat(first|(with_reducible first|exact HB.out|apply zqb|apply zqa|apply zqc)|exact HB.out)));(case aF=>exact(fun k_ h_=>by simp at h_;omega));(case aS=>exact(zqk (by repeat(first|(with_reducible first|exact HB.out|apply zqb|apply zqa|apply zqc)|exact HB.out))));(case aL=>have:=LM.out;omega);intro v1 w1 ho hb hg hat;have hx1:w1.cell? ⟨w.heap.size,1,none⟩=some (.int .i64 b):=(hg.cell_far ⟨w.heap.size,1,none⟩ (by simp [go_sem]) (fun e_=>HO.out.1 _ e_.symm rfl)).trans (by simp [go_sem]);have GS:=zqd.mk (show w.heap.size<w1.heap.size by have h_:=hg.size;simp at h_;omega);have n0_:=zqd.mk hb;have n1_:=zqd.mk ho;clear HB HO;have HB:=n0_;have HO:=n1_;clear n0_ n1_ ho hb hg hat)
 generalize hN:Go.bits .xor .u64 (IntKind.u64.wrap b) 9223372036854775808=n at *
 go_loopw [0,6] (fun o i wr => ∃ j:Nat,j≤8∧i = .int .i64 (56 - 8 * (j:Int))∧zqd (Kd.R (Kd.int .u8) 5 wr w0.heap.size (fun _=>True) o (xs ++ [4] ++ zjp.bytes n j))∧zqd (Below w0.heap.size w0 wr)) (fun _ i _=>(intOf i+8).toNat)
 case atStart=>exact⟨0,by omega,rfl,⟨by rw [show zjp.bytes n 0 = [] from rfl,List.append_nil];exact Kd.zja HO.out (fun _ _=>trivial)⟩,HB⟩
 case round=>
  obtain ⟨j,hj,rfl,HO,HB⟩:=hrel
  have hj':j=0∨j=1∨j=2∨j=3∨j=4∨j=5∨j=6∨j=7∨j=8:=by omega
  rcases hj' with rfl|rfl|rfl|rfl|rfl|rfl|rfl|rfl|rfl
  ·go_wp2_with (at_builtin;refine Kd.zxl (Kd.int .u8) (w0:=w0) w0.heap.size rfl _ _ 30 5 (.int .u8 0) 1 rfl Tryd.underlying30 info5 rfl (by decide) (by omega) u0 (xs ++ [4] ++ zjp.bytes n 0) ?np2 _ (fun _=>True) (fun _=>False) rfl ?hx ?aP (fun _ hk=>hk.elim) ?aF ?aO ?aB ?aS ?aL ?_;(case aP=>exact rfl);(case hx=>first|exact rfl|(simp [go_sem];done));(case aO=>(with_reducible repeat(first|apply Kd.zq4|apply Kd.zq5|apply Kd.zq7));exact HO.out);(case aB=>exact(by repeat(first|(with_reducible first|exact HB.out|apply zqb|apply zqa|apply zqc)|exact HB.out)));(case aF=>exact(fun _ _=>trivial));(case aS=>exact(zqk (by repeat(first|(with_reducible first|exact HB.out|apply zqb|apply zqa|apply zqc)|exact HB.out))));(case aL=>rw [List.length_append,List.length_append,zjp.zxm];have:=LM.out;simp;omega);intro v2 w2 ho hb hg hat;have n0_:=zqd.mk hb;have n1_:=zqd.mk ho;clear HB HO;have HB:=n0_;have HO:=n1_;clear n0_ n1_ ho hb hg hat)
   go_roundw
   case rel=>exact⟨1,by omega,by go_num,⟨by have h_:=HO.out;rw [← zjp.b0,List.append_assoc, ← zjp.zkk] at h_;exact h_⟩,HB⟩
   case measure=>simp [intOf]
  ·go_wp2_with (at_builtin;refine Kd.zxl (Kd.int .u8) (w0:=w0) w0.heap.size rfl _ _ 30 5 (.int .u8 0) 1 rfl Tryd.underlying30 info5 rfl (by decide) (by omega) u0 (xs ++ [4] ++ zjp.bytes n 1) ?np3 _ (fun _=>True) (fun _=>False) rfl ?hx ?aP (fun _ hk=>hk.elim) ?aF ?aO ?aB ?aS ?aL ?_;(case aP=>exact rfl);(case hx=>first|exact rfl|(simp [go_sem];done));(case aO=>(with_reducible repeat(first|apply Kd.zq4|apply Kd.zq5|apply Kd.zq7));exact HO.out);(case aB=>exact(by repeat(first|(with_reducible first|exact HB.out|apply zqb|apply zqa|apply zqc)|exact HB.out)));(case aF=>exact(fun _ _=>trivial));(case aS=>exact(zqk (by repeat(first|(with_reducible first|exact HB.out|apply zqb|apply zqa|apply zqc)|exact HB.out))));(case aL=>rw [List.length_append,List.length_append,zjp.zxm];have:=LM.out;simp;omega);intro v3 w3 ho hb hg hat;have n0_:=zqd.mk hb;have n1_:=zqd.mk ho;clear HB HO;have HB:=n0_;have HO:=n1_;clear n0_ n1_ ho hb hg hat)
   go_roundw
   case rel=>exact⟨2,by omega,by go_num,⟨by have h_:=HO.out;rw [← zjp.b1,List.append_assoc, ← zjp.zkk] at h_;exact h_⟩,HB⟩
   case measure=>simp [intOf]
  ·go_wp2_with (at_builtin;refine Kd.zxl (Kd.int .u8) (w0:=w0) w0.heap.size rfl _ _ 30 5 (.int .u8 0) 1 rfl Tryd.underlying30 info5 rfl (by decide) (by omega) u0 (xs ++ [4] ++ zjp.bytes n 2) ?np4 _ (fun _=>True) (fun _=>False) rfl ?hx ?aP (fun _ hk=>hk.elim) ?aF ?aO ?aB ?aS ?aL ?_;(case aP=>exact rfl);(case hx=>first|exact rfl|(simp [go_sem];done));(case aO=>(with_reducible repeat(first|apply Kd.zq4|apply Kd.zq5|apply Kd.zq7));exact HO.out);(case aB=>exact(by repeat(first|(with_reducible first|exact HB.out|apply zqb|apply zqa|apply zqc)|exact HB.out)));(case aF=>exact(fun _ _=>trivial));(case aS=>exact(zqk (by repeat(first|(with_reducible first|exact HB.out|apply zqb|apply zqa|apply zqc)|exact HB.out))));(case aL=>rw [List.length_append,List.length_append,zjp.zxm];have:=LM.out;simp;omega);intro v4 w4 ho hb hg hat;have n0_:=zqd.mk hb;have n1_:=zqd.mk ho;clear HB HO;have HB:=n0_;have HO:=n1_;clear n0_ n1_ ho hb hg hat)
   go_roundw
   case rel=>exact⟨3,by omega,by go_num,⟨by have h_:=HO.out;rw [← zjp.b2,List.append_assoc, ← zjp.zkk] at h_;exact h_⟩,HB⟩
   case measure=>simp [intOf]
  ·go_wp2_with (at_builtin;refine Kd.zxl (Kd.int .u8) (w0:=w0) w0.heap.size rfl _ _ 30 5 (.int .u8 0) 1 rfl Tryd.underlying30 info5 rfl (by decide) (by omega) u0 (xs ++ [4] ++ zjp.bytes n 3) ?np5 _ (fun _=>True) (fun _=>False) rfl ?hx ?aP (fun _ hk=>hk.elim) ?aF ?aO ?aB ?aS ?aL ?_;(case aP=>exact rfl);(case hx=>first|exact rfl|(simp [go_sem];done));(case aO=>(with_reducible repeat(first|apply Kd.zq4|apply Kd.zq5|apply Kd.zq7));exact HO.out);(case aB=>exact(by repeat(first|(with_reducible first|exact HB.out|apply zqb|apply zqa|apply zqc)|exact HB.out)));(case aF=>exact(fun _ _=>trivial));(case aS=>exact(zqk (by repeat(first|(with_reducible first|exact HB.out|apply zqb|apply zqa|apply zqc)|exact HB.out))));(case aL=>rw [List.length_append,List.length_append,zjp.zxm];have:=LM.out;simp;omega);intro v5 w5 ho hb hg hat;have n0_:=zqd.mk hb;have n1_:=zqd.mk ho;clear HB HO;have HB:=n0_;have HO:=n1_;clear n0_ n1_ ho hb hg hat)
   go_roundw
   case rel=>exact⟨4,by omega,by go_num,⟨by have h_:=HO.out;rw [← zjp.b3,List.append_assoc, ← zjp.zkk] at h_;exact h_⟩,HB⟩
   case measure=>simp [intOf]
  ·go_wp2_with (at_builtin;refine Kd.zxl (Kd.int .u8) (w0:=w0) w0.heap.size rfl _ _ 30 5 (.int .u8 0) 1 rfl Tryd.underlying30 info5 rfl (by decide) (by omega) u0 (xs ++ [4] ++ zjp.bytes n 4) ?np6 _ (fun _=>True) (fun _=>False) rfl ?hx ?aP (fun _ hk=>hk.elim) ?aF ?aO ?aB ?aS ?aL ?_;(case aP=>exact rfl);(case hx=>first|exact rfl|(simp [go_sem];done));(case aO=>(with_reducible repeat(first|apply Kd.zq4|apply Kd.zq5|apply Kd.zq7));exact HO.out);(case aB=>exact(by repeat(first|(with_reducible first|exact HB.out|apply zqb|apply zqa|apply zqc)|exact HB.out)));(case aF=>exact(fun _ _=>trivial));(case aS=>exact(zqk (by repeat(first|(with_reducible first|exact HB.out|apply zqb|apply zqa|apply zqc)|exact HB.out))));(case aL=>rw [List.length_append,List.length_append,zjp.zxm];have:=LM.out;simp;omega);intro v6 w6 ho hb hg hat;have n0_:=zqd.mk hb;have n1_:=zqd.mk ho;clear HB HO;have HB:=n0_;have HO:=n1_;clear n0_ n1_ ho hb hg hat)
   go_roundw
   case rel=>exact⟨5,by omega,by go_num,⟨by have h_:=HO.out;rw [← zjp.b4,List.append_assoc, ← zjp.zkk] at h_;exact h_⟩,HB⟩
   case measure=>simp [intOf]
  ·go_wp2_with (at_builtin;refine Kd.zxl (Kd.int .u8) (w0:=w0) w0.heap.size rfl _ _ 30 5 (.int .u8 0) 1 rfl Tryd.underlying30 info5 rfl (by decide) (by omega) u0 (xs ++ [4] ++ zjp.bytes n 5) ?np7 _ (fun _=>True) (fun _=>False) rfl ?hx ?aP (fun _ hk=>hk.elim) ?aF ?aO ?aB ?aS ?aL ?_;(case aP=>exact rfl);(case hx=>first|exact rfl|(simp [go_sem];done));(case aO=>(with_reducible repeat(first|apply Kd.zq4|apply Kd.zq5|apply Kd.zq7));exact HO.out);(case aB=>exact(by repeat(first|(with_reducible first|exact HB.out|apply zqb|apply zqa|apply zqc)|exact HB.out)));(case aF=>exact(fun _ _=>trivial));(case aS=>exact(zqk (by repeat(first|(with_reducible first|exact HB.out|apply zqb|apply zqa|apply zqc)|exact HB.out))));(case aL=>rw [List.length_append,List.length_append,zjp.zxm];have:=LM.out;simp;omega);intro v7 w7 ho hb hg hat;have n0_:=zqd.mk hb;have n1_:=zqd.mk ho;clear HB HO;have HB:=n0_;have HO:=n1_;clear n0_ n1_ ho hb hg hat)
   go_roundw
   case rel=>exact⟨6,by omega,by go_num,⟨by have h_:=HO.out;rw [← zjp.b5,List.append_assoc, ← zjp.zkk] at h_;exact h_⟩,HB⟩
   case measure=>simp [intOf]
  ·go_wp2_with (at_builtin;refine Kd.zxl (Kd.int .u8) (w0:=w0) w0.heap.size rfl _ _ 30 5 (.int .u8 0) 1 rfl Tryd.underlying30 info5 rfl (by decide) (by omega) u0 (xs ++ [4] ++ zjp.bytes n 6) ?np8 _ (fun _=>True) (fun _=>False) rfl ?hx ?aP (fun _ hk=>hk.elim) ?aF ?aO ?aB ?aS ?aL ?_;(case aP=>exact rfl);(case hx=>first|exact rfl|(simp [go_sem];done));(case aO=>(with_reducible repeat(first|apply Kd.zq4|apply Kd.zq5|apply Kd.zq7));exact HO.out);(case aB=>exact(by repeat(first|(with_reducible first|exact HB.out|apply zqb|apply zqa|apply zqc)|exact HB.out)));(case aF=>exact(fun _ _=>trivial));(case aS=>exact(zqk (by repeat(first|(with_reducible first|exact HB.out|apply zqb|apply zqa|apply zqc)|exact HB.out))));(case aL=>rw [List.length_append,List.length_append,zjp.zxm];have:=LM.out;simp;omega);intro v8 w8 ho hb hg hat;have n0_:=zqd.mk hb;have n1_:=zqd.mk ho;clear HB HO;have HB:=n0_;have HO:=n1_;clear n0_ n1_ ho hb hg hat)
   go_roundw
   case rel=>exact⟨7,by omega,by go_num,⟨by have h_:=HO.out;rw [← zjp.b6,List.append_assoc, ← zjp.zkk] at h_;exact h_⟩,HB⟩
   case measure=>simp [intOf]
  ·go_wp2_with (at_builtin;refine Kd.zxl (Kd.int .u8) (w0:=w0) w0.heap.size rfl _ _ 30 5 (.int .u8 0) 1 rfl Tryd.underlying30 info5 rfl (by decide) (by omega) u0 (xs ++ [4] ++ zjp.bytes n 7) ?np9 _ (fun _=>True) (fun _=>False) rfl ?hx ?aP (fun _ hk=>hk.elim) ?aF ?aO ?aB ?aS ?aL ?_;(case aP=>exact rfl);(case hx=>first|exact rfl|(simp [go_sem];done));(case aO=>(with_reducible repeat(first|apply Kd.zq4|apply Kd.zq5|apply Kd.zq7));exact HO.out);(case aB=>exact(by repeat(first|(with_reducible first|exact HB.out|apply zqb|apply zqa|apply zqc)|exact HB.out)));(case aF=>exact(fun _ _=>trivial));(case aS=>exact(zqk (by repeat(first|(with_reducible first|exact HB.out|apply zqb|apply zqa|apply zqc)|exact HB.out))));(case aL=>rw [List.length_append,List.length_append,zjp.zxm];have:=LM.out;simp;omega);intro v9 w9 ho hb hg hat;have n0_:=zqd.mk hb;have n1_:=zqd.mk ho;clear HB HO;have HB:=n0_;have HO:=n1_;clear n0_ n1_ ho hb hg hat)
   go_roundw
   case rel=>exact⟨8,by omega,by go_num,⟨by have h_:=HO.out;rw [← zjp.b7,List.append_assoc, ← zjp.zkk] at h_;exact h_⟩,HB⟩
   case measure=>simp [intOf]
  ·go_wp2
   go_ret
   subst hN
   exact⟨_,rfl,by have h_:=HO.out;rw [List.append_assoc] at h_;exact h_,HB.out⟩
set_option maxRecDepth 100000 in
set_option maxHeartbeats 4000000 in
theorem zjp.text (w0 w:World) (A0:Option Addr) (c0:Nat) (xs:List Int) (a b:Int) (s:ByteArray) (ho:Kd.R (Kd.int .u8) 5 w w0.heap.size (fun _=>True) (.slice A0 xs.length c0) xs) (hb:Below w0.heap.size w0 w)
  (hl:xs.length+(zjp.enc a b s).length<140737488355328) (h0:a≠0) (h1:a≠1) (h2:a≠2) :
  Calls Tryd.prog 99 #[.slice A0 xs.length c0,.agg #[.int .i64 a,.int .i64 b,.string s]] w fun e w' => ∃ v:Value,e = .returned v∧Kd.R (Kd.int .u8) 5 w' w0.heap.size (fun _=>True) v (xs ++ zjp.enc a b s)∧Below w0.heap.size w0 w':=by
 have HO:=zqd.mk (Kd.zja (Kd.zx9 ho) (fun k hk=>Nat.ne_of_lt hk.2.2.1):Kd.R (Kd.int .u8) 5 w w0.heap.size (fun k_=>k_≠w.heap.size) (.slice A0 xs.length c0) xs)
 have HB:=zqd.mk hb
 have he:zjp.enc a b s=5 :: (zjp.esc (bytesOf s) ++ [0,1]):=by unfold zjp.enc;rw [if_neg h0,if_neg h1,if_neg h2]
 rw [he] at hl ⊢
 have LM:=zqd.mk (show xs.length+(zjp.esc (bytesOf s)).length+3<140737488355328 by rw [List.length_cons,List.length_append] at hl;simp at hl;omega)
 have hcv:=fun W:World=>print_bytes (P:=Tryd.prog) 9 30 5 Tryd.underlying9 Tryd.underlying30 Tryd.underlying5 s W
 have hs:s.size≤140737488355328:=by
  have h_:=zjp.esc_ge (bytesOf s)
  rw [bytesOf_length] at h_
  have:=LM.out
  omega
 have q0:(a == 0)=false:=by simpa using h0
 have q1:(a == 1)=false:=by simpa using h1
 have q2:(a == 2)=false:=by simpa using h2
 clear ho hb hl he
 go_enter Tryd.func99,Tryd.ntmps99
 go_wp2_with (at_builtin;refine Kd.zxl (Kd.int .u8) (w0:=w0) w0.heap.size rfl _ _ 30 5 (.int .u8 0) 1 rfl Tryd.underlying30 info5 rfl (by decide) (by omega) (.slice A0 xs.length c0) (xs) ?np1 _ (fun k_=>k_≠w.heap.size) (fun _=>False) rfl ?hx ?aP (fun _ hk=>hk.elim) ?aF ?aO ?aB ?aS ?aL ?_;(case aP=>exact rfl);(case hx=>first|exact rfl|(simp [go_sem];done));(case aO=>(with_reducible repeat(first|apply Kd.zq4|apply Kd.zq5|apply Kd.zq7));exact HO.out);(case aB=>exact(by repeat(first|(with_reducible first|exact HB.out|apply zqb|apply zqa|apply zqc)|exact HB.out)));(case aF=>exact(fun k_ h_=>by simp at h_;omega));(case aS=>exact(zqk (by repeat(first|(with_reducible first|exact HB.out|apply zqb|apply zqa|apply zqc)|exact HB.out))));(case aL=>have:=LM.out;omega);intro v1 w1 ho hb hg hat;have hx1:w1.cell? ⟨w.heap.size,2,none⟩=some (.string s):=(hg.cell_far ⟨w.heap.size,2,none⟩ (by simp [go_sem]) (fun e_=>HO.out.1 _ e_.symm rfl)).trans (by simp [go_sem]);have GS:=zqd.mk (show w.heap.size<w1.heap.size by have h_:=hg.size;simp at h_;omega);have n0_:=zqd.mk hb;have n1_:=zqd.mk ho;clear HB HO;have HB:=n0_;have HO:=n1_;clear n0_ n1_ ho hb hg hat)
 have HX:=zqd.mk (fun j hj=>Lib.bytesWorld_cell w1 5 s j hj)
 have HG:=zqd.mk (Lib.bytesWorld_at_new w1 5 s)
 have HB2:=zqd.mk (bytes_below HB.out (zqk HB.out) 5 s)
 have HO2:=zqd.mk (Kd.zja (Kd.zx9 (Kd.zxy (w1:=Lib.bytesWorld w1 5 s) (Kd.zja (Kd.zx9 HO.out) (fun k hk=>Nat.ne_of_lt hk.2.2.1):Kd.R (Kd.int .u8) 5 w1 w0.heap.size (fun k_=>k_≠w1.heap.size) v1 (xs ++ [5])) (bytes_below (Below.refl _ _) (Nat.le_refl _) 5 s))) (fun k hk=>hk.1):Kd.R (Kd.int .u8) 5 (Lib.bytesWorld w1 5 s) w0.heap.size (fun k_=>k_≠w1.heap.size) v1 (xs ++ [5]))
 have GT:=zqd.mk (show w1.heap.size<(Lib.bytesWorld w1 5 s).heap.size by rw [Lib.bytesWorld_size];omega)
 clear HO HB hx1 GS hcv
 generalize hcap:grownCap w1 s.size 0 5=cap_
 clear hcap
 go_loopw [0,8,53] (fun o x i wr => ∃ j:Nat,j≤s.size∧i = .int .i64 j∧zqd (Kd.R (Kd.int .u8) 5 wr w0.heap.size (fun k_=>k_≠w1.heap.size) o (xs ++ [5] ++ zjp.esc ((bytesOf s).take j)))∧zqd (Below w0.heap.size w0 wr)∧zqd (wr.heap[w1.heap.size]? = some (.cells (Lib.bytesCells w1 5 s) 5 ((Lib.bytesCells w1 5 s).size,(Lib.bytesCells w1 5 s).size+1)))∧zqd (w1.heap.size<wr.heap.size)) (fun _ _ i _=>s.size - (intOf i).toNat)
 case atStart=>exact⟨0,by omega,rfl,⟨by rw [List.take_zero,show zjp.esc [] = [] from rfl,List.append_nil];exact HO2.out⟩,HB2,HG,GT⟩
 case round=>
  clear HO2 HB2 HG GT
  obtain ⟨j,hj,rfl,HO,HB,HG,GT⟩:=hrel
  by_cases hlt:j<s.size
  ·have hbl:j<(bytesOf s).length:=by rw [bytesOf_length];exact hlt
   have hce:wr.cell? ⟨w1.heap.size,j,none⟩=some (.int .u8 (bytesOf s)[j]):=by
    have h_:=HX.out j hlt
    have e_:wr.cell? ⟨w1.heap.size,j,none⟩=(Lib.bytesWorld w1 5 s).cell? ⟨w1.heap.size,j,none⟩:=by simp only [World.cell?,HG.out,Lib.bytesWorld_at_new]
    rw [e_,h_]
    simp [bytesOf,List.getD_eq_getElem?_getD]
    rw [Array.getElem?_eq_getElem (show j<s.data.size from hlt)]
    rfl
   have hes:=zjp.esc_take (bytesOf s) j hbl
   have hle:=zjp.esc_le (bytesOf s) (j+1)
   generalize (bytesOf s)[j]=x at *
   by_cases hx0:x=0
   ·subst hx0
    rw [if_pos rfl] at hes
    rw [hes,List.length_append] at hle
    have HES:=zqd.mk hes
    have LY:=zqd.mk (show xs.length+(zjp.esc ((bytesOf s).take j)).length+5<140737488355328 by have h_:=LM.out;simp at hle;omega)
    clear hes hle
    generalize zjp.esc ((bytesOf s).take j)=y at *
    go_wp2_with (first|(at_builtin;refine Kd.zxl (Kd.int .u8) (w0:=w0) w0.heap.size rfl _ _ 30 5 (.int .u8 0) 1 rfl Tryd.underlying30 info5 rfl (by decide) (by omega) u0 (xs ++ [5] ++ y) ?np20 _ (fun k_=>k_≠w1.heap.size) (fun _=>False) rfl ?hx ?aP (fun _ hk=>hk.elim) ?aF ?aO ?aB ?aS ?aL ?_;(case aP=>exact rfl);(case hx=>first|exact rfl|(simp [go_sem];done));(case aO=>(with_reducible repeat(first|apply Kd.zq4|apply Kd.zq5|apply Kd.zq7));exact HO.out);(case aB=>exact(by repeat(first|(with_reducible first|exact HB.out|apply zqb|apply zqa|apply zqc)|exact HB.out)));(case aF=>exact(fun k_ h_=>Nat.ne_of_gt (Nat.lt_of_lt_of_le GT.out h_)));(case aS=>exact(zqk (by repeat(first|(with_reducible first|exact HB.out|apply zqb|apply zqa|apply zqc)|exact HB.out))));(case aL=>simp only [List.length_append,List.length_cons,List.length_nil];have:=LY.out;omega);intro v20 w20 ho hb hg hat;have HG_:=zqd.mk ((hg.block w1.heap.size (by have h_:=GT.out;simpa using h_) (fun e_=>HO.out.1 _ e_.symm rfl)).trans (by first|exact HG.out|simpa using HG.out));have GT_:=zqd.mk (Nat.lt_of_lt_of_le GT.out (by have h_:=hg.size;simpa using h_));clear HG GT;have HG:=HG_;have GT:=GT_;clear HG_ GT_;have n0_:=zqd.mk hb;have n1_:=zqd.mk ho;clear HB HO;have HB:=n0_;have HO:=n1_;clear n0_ n1_ ho hb hg hat)|(at_builtin;refine Kd.zxl (Kd.int .u8) (w0:=w0) w0.heap.size rfl _ _ 30 5 (.int .u8 0) 1 rfl Tryd.underlying30 info5 rfl (by decide) (by omega) v20 (xs ++ [5] ++ y ++ [0]) ?np21 _ (fun k_=>k_≠w1.heap.size) (fun _=>False) rfl ?hx ?aP (fun _ hk=>hk.elim) ?aF ?aO ?aB ?aS ?aL ?_;(case aP=>exact rfl);(case hx=>first|exact rfl|(simp [go_sem];done));(case aO=>(with_reducible repeat(first|apply Kd.zq4|apply Kd.zq5|apply Kd.zq7));exact HO.out);(case aB=>exact(by repeat(first|(with_reducible first|exact HB.out|apply zqb|apply zqa|apply zqc)|exact HB.out)));(case aF=>exact(fun k_ h_=>Nat.ne_of_gt (Nat.lt_of_lt_of_le GT.out h_)));(case aS=>exact(zqk (by repeat(first|(with_reducible first|exact HB.out|apply zqb|apply zqa|apply zqc)|exact HB.out))));(case aL=>simp only [List.length_append,List.length_cons,List.length_nil];have:=LY.out;omega);intro v21 w21 ho hb hg hat;have HG_:=zqd.mk ((hg.block w1.heap.size (by have h_:=GT.out;simpa using h_) (fun e_=>HO.out.1 _ e_.symm rfl)).trans (by first|exact HG.out|simpa using HG.out));have GT_:=zqd.mk (Nat.lt_of_lt_of_le GT.out (by have h_:=hg.size;simpa using h_));clear HG GT;have HG:=HG_;have GT:=GT_;clear HG_ GT_;have n0_:=zqd.mk hb;have n1_:=zqd.mk ho;clear HB HO;have HB:=n0_;have HO:=n1_;clear n0_ n1_ ho hb hg hat))
    go_roundw
    case rel=>exact⟨j+1,by omega,by go_num,⟨by rw [HES.out];have h_:=HO.out;rw [List.append_assoc (xs ++ [5] ++ y),List.append_assoc (xs ++ [5])] at h_;exact h_⟩,HB,HG,GT⟩
    case measure=>simp [intOf];omega
   ·rw [if_neg hx0] at hes
    rw [hes,List.length_append] at hle
    have HES:=zqd.mk hes
    have LY:=zqd.mk (show xs.length+(zjp.esc ((bytesOf s).take j)).length+4<140737488355328 by have h_:=LM.out;simp at hle;omega)
    clear hes hle
    generalize zjp.esc ((bytesOf s).take j)=y at *
    have hq:(x == 0)=false:=by simpa using hx0
    go_wp2_with (at_builtin;refine Kd.zxl (Kd.int .u8) (w0:=w0) w0.heap.size rfl _ _ 30 5 (.int .u8 0) 1 rfl Tryd.underlying30 info5 rfl (by decide) (by omega) u0 (xs ++ [5] ++ y) ?np22 _ (fun k_=>k_≠w1.heap.size) (fun _=>False) rfl ?hx ?aP (fun _ hk=>hk.elim) ?aF ?aO ?aB ?aS ?aL ?_;(case aP=>exact rfl);(case hx=>first|exact rfl|(simp [go_sem];done));(case aO=>(with_reducible repeat(first|apply Kd.zq4|apply Kd.zq5|apply Kd.zq7));exact HO.out);(case aB=>exact(by repeat(first|(with_reducible first|exact HB.out|apply zqb|apply zqa|apply zqc)|exact HB.out)));(case aF=>exact(fun k_ h_=>Nat.ne_of_gt (Nat.lt_of_lt_of_le GT.out h_)));(case aS=>exact(zqk (by repeat(first|(with_reducible first|exact HB.out|apply zqb|apply zqa|apply zqc)|exact HB.out))));(case aL=>simp only [List.length_append,List.length_cons,List.length_nil];have:=LY.out;omega);intro v22 w22 ho hb hg hat;have HG_:=zqd.mk ((hg.block w1.heap.size (by have h_:=GT.out;simpa using h_) (fun e_=>HO.out.1 _ e_.symm rfl)).trans (by first|exact HG.out|simpa using HG.out));have GT_:=zqd.mk (Nat.lt_of_lt_of_le GT.out (by have h_:=hg.size;simpa using h_));clear HG GT;have HG:=HG_;have GT:=GT_;clear HG_ GT_;have n0_:=zqd.mk hb;have n1_:=zqd.mk ho;clear HB HO;have HB:=n0_;have HO:=n1_;clear n0_ n1_ ho hb hg hat)
    go_roundw
    case rel=>exact⟨j+1,by omega,by go_num,⟨by rw [HES.out];have h_:=HO.out;rw [List.append_assoc (xs ++ [5])] at h_;exact h_⟩,HB,HG,GT⟩
    case measure=>simp [intOf];omega
  ·obtain rfl:j=s.size:=by omega
   rw [show(bytesOf s).take s.size=bytesOf s from by rw [← bytesOf_length,List.take_length]] at HO
   go_wp2_with (at_builtin;refine Kd.R_append_rows (Kd.int .u8) (w0:=w0) w0.heap.size rfl _ _ 30 5 (.int .u8 0) 1 rfl Tryd.underlying30 info5 rfl (by decide) (by omega) u0 (xs ++ [5] ++ zjp.esc (bytesOf s)) [0,1] _ _ _ (fun k_=>k_≠w1.heap.size) (fun _=>False) rfl rfl ?aO ?aR (fun _ _ h=>h) (fun _ h=>h.elim) ?aF ?aB ?aS ?aL ?_;(case aO=>(with_reducible repeat(first|apply Kd.zq4|apply Kd.zq5|apply Kd.zq7));exact HO.out);(case aR=>exact zjp.lit2 (by simp [go_sem]) (by simp [go_sem]));(case aB=>exact(by repeat(first|(with_reducible first|exact HB.out|apply zqb|apply zqa|apply zqc)|exact HB.out)));(case aF=>exact(fun k_ h_=>by simp at h_;have:=GT.out;omega));(case aS=>exact(zqk (by repeat(first|(with_reducible first|exact HB.out|apply zqb|apply zqa|apply zqc)|exact HB.out))));(case aL=>have:=LM.out;simp;omega);intro v30 w30 ho hb hg hat;have n0_:=zqd.mk hb;have n1_:=zqd.mk ho;clear HB HO;have HB:=n0_;have HO:=n1_;clear n0_ n1_ ho hb hg hat)
   go_ret
   exact⟨_,rfl,by have h_:=Kd.zja HO.out (fun _ _=>trivial);rw [List.append_assoc,List.append_assoc] at h_;exact h_,HB.out⟩
set_option maxRecDepth 100000 in
set_option maxHeartbeats 4000000 in
theorem zjp.own (w0 w:World) (A0:Option Addr) (c0:Nat) (xs:List Int) (a b:Int) (s:ByteArray) (ho:Kd.R (Kd.int .u8) 5 w w0.heap.size (fun _=>True) (.slice A0 xs.length c0) xs) (hb:Below w0.heap.size w0 w)
  (hl:xs.length+(zjp.enc a b s).length<140737488355328) :
  Calls Tryd.prog 99 #[.slice A0 xs.length c0,.agg #[.int .i64 a,.int .i64 b,.string s]] w fun e w' => ∃ v:Value,e = .returned v∧Kd.R (Kd.int .u8) 5 w' w0.heap.size (fun _=>True) v (xs ++ zjp.enc a b s)∧Below w0.heap.size w0 w':=by
 by_cases h0:a=0
 ·exact zjp.null w0 w A0 c0 xs a b s ho hb hl h0
 by_cases h1:a=1
 ·exact zjp.truth w0 w A0 c0 xs a b s ho hb hl h1
 by_cases h2:a=2
 ·exact zjp.int_ w0 w A0 c0 xs a b s ho hb hl h2
 exact zjp.text w0 w A0 c0 xs a b s ho hb hl h0 h1 h2

/-! ### zj4: function 59, by hand -/
-- HAND rounds=1 making=1 laid=1 imports=Derived.Laws.Cover3
/-- The values one by one: each is looked at, and laid behind the bytes. -/
def zj4.run (k:Nat):List S38→List Int→Option (List Int × Int)
 | [],ys=>some (ys,0)
 | x :: r,ys=>(zjz.f k x.f0 x.f1 x.f2).bind fun e=>if e=0 then(if ys.length+(zjp.enc x.f0 x.f1 x.f2).length<140737488355328 then zj4.run k r (ys ++ zjp.enc x.f0 x.f1 x.f2) else none) else some ([],e)
def zj4.f (k:Nat) (l:List S38):Option (List Int × Int):=if(l.length:Int) > 14 then some ([],1) else zj4.run k l []
theorem zj4.mono_run:∀ (l:List S38) (ys:List Int) (k:Nat),LeO (zj4.run k l ys) (zj4.run (k+1) l ys)
 | [],_,_=>LeO.refl _
 | x :: r,ys,k=>by
  intro q h
  unfold zj4.run at h ⊢
  obtain ⟨e,he,h⟩:=Option.bind_eq_some_iff.1 h
  rw [zjz.mono _ _ _ _ _ he,Option.bind_some]
  split at h
  ·rename_i h0
   rw [if_pos h0]
   split at h
   ·rename_i h1
    rw [if_pos h1]
    exact zj4.mono_run r _ k _ h
   ·cases h
  ·rename_i h0
   rw [if_neg h0]
   exact h
theorem zj4.mono:∀ a0 k,LeO (zj4.f k a0) (zj4.f (k+1) a0):=by
 intro l k
 unfold zj4.f
 split
 ·exact LeO.refl _
 ·exact zj4.mono_run l [] k
theorem zj4.at_ {w:World} {A:Option Addr} {l:List S38} (h:Kd.C k38 w A l.length l) (h0:0<l.length):∃ b o,A=some ⟨b,o,none⟩ ∧ ∀ (i:Nat) (hi:i<l.length),
  w.cell? ⟨b,o+i * 3,none⟩=some (.int .i64 l[i].f0)∧w.cell? ⟨b,o+i * 3+1,none⟩=some (.int .i64 l[i].f1)∧w.cell? ⟨b,o+i * 3+2,none⟩=some (.string l[i].f2):=by
 obtain ⟨ad,rfl,g0,_⟩:=at_T38 h 0 (by omega) (by omega)
 have hs:ad.spot=none:=by
  cases hsp:ad.spot with
  | none=>rfl
  | some s=>
   exfalso
   rw [show ad.add ((0:Int).toNat * 3)=ad from by simp [Addr.add]] at g0
   unfold World.cell? at g0
   split at g0
   ·rw [hsp] at g0
    simp at g0
   ·cases g0
 obtain ⟨b,o,sp⟩:=ad
 dsimp only at hs
 subst hs
 refine⟨b,o,rfl,fun i hi=>?_⟩
 obtain ⟨ad,e,g0,g1,g2⟩:=at_T38 h (i:Int) (by omega) (by omega)
 cases e
 have ee:zqs l (i:Int)=l[i]:=by simp [zqs,List.getD_eq_getElem?_getD,hi]
 have ha:(⟨b,o,none⟩:Addr).add ((i:Int).toNat * 3)=⟨b,o+i * 3,none⟩:=by rw [Int.toNat_natCast];unfold Addr.add;split <;> simp_all
 rw [ee] at g0 g1 g2
 rw [ha] at g0 g1 g2
 exact⟨g0,g1,g2⟩
set_option maxRecDepth 100000 in
set_option maxHeartbeats 4000000 in
theorem zj4.calls (k:Nat) (A0:Option Addr) (c0:Nat) (l0:List S38) (r1:List Int) (r2:Int) (w:World) (hr0:Kd.C k38 w A0 l0.length l0) (hc0:l0.length≤c0) (hL:LD w) (h:zj4.f k l0=some (r1,r2)) :
  Calls Tryd.prog 59 #[.slice A0 l0.length c0] w fun e w' => ∃ v0_:Value,e = .returned (.tuple #[v0_,.int .i64 r2])∧Kd.R (Kd.int .u8) 5 w' w.heap.size (fun _=>True) v0_ r1∧Below w.heap.size w w':=by
 have hm:=hr0.2.1
 have HR:=zqd.mk hr0
 have HL:=zqd.mk hL
 clear hr0 hL
 unfold zj4.f at h
 by_cases hbig:(l0.length:Int) > 14
 ·rw [if_pos hbig] at h
  obtain ⟨rfl,rfl⟩:r1 = []∧r2=1:=by simpa [eq_comm] using h
  clear h
  go_enter Tryd.func59,Tryd.ntmps59
  go_wp2
  go_ret2
  exact⟨_,rfl,Kd.R_nil _ _ _ _ _,Below.refl _ _⟩
 rw [if_neg hbig] at h
 have HS:=zqd.mk h
 clear h
 go_enter Tryd.func59,Tryd.ntmps59
 go_wp2
 go_loopw [4,6,7,13] (fun o _ _ i wr => ∃ (j:Nat) (ys:List Int),j≤l0.length∧i = .int .i64 j∧zqd (zj4.run k (l0.drop j) ys=some (r1,r2))∧zqd (Kd.R (Kd.int .u8) 5 wr w.heap.size (fun _=>True) o ys)∧zqd (Below w.heap.size w wr)) (fun _ _ _ i _=>l0.length - (intOf i).toNat)
 case atStart=>exact⟨0, [],by omega,rfl,HS,⟨Kd.R_nil _ _ _ _ _⟩,⟨Below.refl _ _⟩⟩
 case round=>
  clear HS
  obtain ⟨j,ys,hj,rfl,HS,HO,HB⟩:=hrel
  by_cases hlt:j<l0.length
  ·obtain ⟨b,o,rfl,hcs⟩:=zj4.at_ HR.out (by omega)
   obtain ⟨p0,p1,p2⟩:=hcs j hlt
   have hg:=HS.out
   rw [List.drop_eq_getElem_cons hlt,zj4.run] at hg
   obtain ⟨c,hck,hg2⟩:=Option.bind_eq_some_iff.1 hg
   clear hg HS hcs
   generalize l0[j]=x at *
   replace p0:=zq6 HB.out p0
   replace p1:=zq6 HB.out p1
   replace p2:=zq6 HB.out p2
   have HCK:=zqd.mk hck
   have hL2:=zqd.mk (LD.below HL.out HB.out)
   obtain ⟨A1,c1,rfl⟩:=Kd.zx7 HO.out
   clear hck
   by_cases hc:c=0
   ·subst hc
    rw [if_pos rfl] at hg2
    split at hg2
    ·rename_i hlm
     have LM:=zqd.mk hlm
     have HS:=zqd.mk hg2
     clear hlm hg2
     go_wp2_with (first
      | (go_at_call 57;refine(zjz.calls k x.f0 x.f1 x.f2 0 _ (LD.below hL2.out (zqb (Below.refl _ _) _)) HCK.out).mono ?_;rintro e w1 ⟨rfl,hb⟩;have q0:w1.cell? ⟨wr.heap.size,0,none⟩=some (.int .i64 x.f0):=zq6 hb (show(wr.alloc _).cell? ⟨wr.heap.size,0,none⟩=some (.int .i64 x.f0) by simp [go_sem]);have q1:w1.cell? ⟨wr.heap.size,1,none⟩=some (.int .i64 x.f1):=zq6 hb (show(wr.alloc _).cell? ⟨wr.heap.size,1,none⟩=some (.int .i64 x.f1) by simp [go_sem]);have q2:w1.cell? ⟨wr.heap.size,2,none⟩=some (.string x.f2):=zq6 hb (show(wr.alloc _).cell? ⟨wr.heap.size,2,none⟩=some (.string x.f2) by simp [go_sem]);have HB1:=zqd.mk ((zqb HB.out _).trans (hb.mono (zqb HB.out _).size));have HO1:=zqd.mk (Kd.zxy (Kd.zq4 HO.out _) hb);clear hb)
      | (go_at_call 99;refine(zjp.own w _ A1 c1 ys x.f0 x.f1 x.f2 HO1.out HB1.out LM.out).mono ?_;rintro e w2 ⟨v2,rfl,ho2,hb2⟩;have HO2:=zqd.mk ho2;have HB2:=zqd.mk hb2;clear ho2 hb2))
     go_roundw
     case rel=>exact⟨j+1,_,by omega,by go_num,HS,HO2,HB2⟩
     case measure=>simp [intOf];omega
    ·cases hg2
   ·rw [if_neg hc] at hg2
    obtain ⟨rfl,rfl⟩:r1 = []∧r2=c:=by simpa [eq_comm] using hg2
    have hq:(r2 != 0)=true:=by simpa using hc
    clear hg2
    go_wp2_with (go_at_call 57;refine(zjz.calls k x.f0 x.f1 x.f2 r2 _ (LD.below hL2.out (zqb (Below.refl _ _) _)) HCK.out).mono ?_;rintro e w1 ⟨rfl,hb⟩;have q0:w1.cell? ⟨wr.heap.size,0,none⟩=some (.int .i64 x.f0):=zq6 hb (show(wr.alloc _).cell? ⟨wr.heap.size,0,none⟩=some (.int .i64 x.f0) by simp [go_sem]);have q1:w1.cell? ⟨wr.heap.size,1,none⟩=some (.int .i64 x.f1):=zq6 hb (show(wr.alloc _).cell? ⟨wr.heap.size,1,none⟩=some (.int .i64 x.f1) by simp [go_sem]);have q2:w1.cell? ⟨wr.heap.size,2,none⟩=some (.string x.f2):=zq6 hb (show(wr.alloc _).cell? ⟨wr.heap.size,2,none⟩=some (.string x.f2) by simp [go_sem]);have HB1:=zqd.mk ((zqb HB.out _).trans (hb.mono (zqb HB.out _).size));have HO1:=zqd.mk (Kd.zxy (Kd.zq4 HO.out _) hb);clear hb)
    go_ret2
    exact⟨_,rfl,Kd.R_nil _ _ _ _ _,HB1.out⟩
  ·obtain rfl:j=l0.length:=by omega
   have hg:=HS.out
   rw [List.drop_length,zj4.run] at hg
   obtain ⟨rfl,rfl⟩:r1=ys∧r2=0:=by simpa [eq_comm] using hg
   clear hg HS
   go_wp2
   go_ret2
   exact⟨_,rfl,HO.out,HB.out⟩

/-! ### zx4: function 97 -/
def zx4.f (a0:Int):Option (Int × Int × ByteArray):=some (2,a0,(⟨#[]⟩:ByteArray))
set_option maxHeartbeats 8000000 in
set_option maxRecDepth 100000 in
theorem zx4.calls (a0:Int) (r1:Int) (r2:Int) (r3:ByteArray) (w:World) (h:zx4.f a0=some (r1,r2,r3)) :
  Calls Tryd.prog 97 #[.int .i64 a0] w fun e w'=>e = .returned (.agg #[.int .i64 r1,.int .i64 r2,.string r3])∧Below w.heap.size w w':=by
 have hu38:=Tryd.underlying38
 have HB:=zqd.mk (Below.refl w.heap.size w)
 have H:(some (2,a0,(⟨#[]⟩:ByteArray)))=some (r1,r2,r3):=h
 clear h
 simp only [Option.some.injEq,Prod.mk.injEq] at H
 obtain ⟨rfl,rfl,rfl⟩:=H
 go_enter Tryd.func97,Tryd.ntmps97
 go_wp2_with (first|((with_reducible refine zqx (N:=2) rfl ?_);refine zqt ?hg (N:=2) ?hd (cs:=#[.int .i64 0,.int .i64 0,.string (⟨#[]⟩:ByteArray)]) (t:=38) ?hr ?_;(case hd=>rfl);(case hg=>rfl);(case hr=>first|(go_simp;done)|(go_simp;rfl));intro gb162 hg w2 hbox hb;have n0_:=zqd.mk (zqn (by repeat(first|(with_reducible first|exact HB.out|apply zqb|apply zqa|apply zqc)|exact HB.out)) hb);have n1_:=zqd.mk (hbox);have n2_:=zqd.mk ((by rw [hg];exact(zqk (by repeat(first|(with_reducible first|exact HB.out|apply zqb|apply zqa|apply zqc)|exact HB.out))):w.heap.size≤gb162));have n3_:=zqd.mk ((by rw [hg];exact(zqk (by repeat(first|(with_reducible first|exact HB.out|apply zqb|apply zqa|apply zqc)|exact HB.out))):w.heap.size≤gb162));clear HB;have HB:=n0_;have BK162:=n1_;have GW162:=n2_;have GE162:=n3_;clear n0_ n1_ n2_ n3_ hb hbox hg;have hcz3_0:w2.cell? ⟨gb162,0,none⟩=some (.int .i64 0):=(zqf BK162.out 0).trans rfl;have hcz3_1:w2.cell? ⟨gb162,1,none⟩=some (.int .i64 0):=(zqf BK162.out 1).trans rfl;have hcz3_2:w2.cell? ⟨gb162,2,none⟩=some (.string (⟨#[]⟩:ByteArray)):=(zqf BK162.out 2).trans rfl;have hfz3_0:=zqe BK162.out 0;have hfz3_1:=zqe BK162.out 1;have hfz3_2:=zqe BK162.out 2))
 refine bodyPost_ret (results_cell_row rfl _ _ gb162 38 #[.int .i64 2,.int .i64 a0,.string (⟨#[]⟩:ByteArray)] (0,0) _ rfl (by(with_reducible repeat(first|refine zqg ?_ _|refine zqj ?_|refine zqh ?_ _));refine zqu (cs:=#[.int .i64 2,.int .i64 a0,.string (⟨#[]⟩:ByteArray)]) ?_ 2 _ rfl;(with_reducible repeat(first|refine zqg ?_ _|refine zqj ?_|refine zqh ?_ _));refine zqu (cs:=#[.int .i64 2,.int .i64 0,.string (⟨#[]⟩:ByteArray)]) ?_ 1 _ rfl;(with_reducible repeat(first|refine zqg ?_ _|refine zqj ?_|refine zqh ?_ _));refine zqu (cs:=#[.int .i64 0,.int .i64 0,.string (⟨#[]⟩:ByteArray)]) ?_ 0 _ rfl;(with_reducible repeat(first|refine zqg ?_ _|refine zqj ?_|refine zqh ?_ _));exact BK162.out) Tryd.underlying38 rfl (by kernel_rfl)) rfl ?_
 exact⟨by first|rfl|(simp [zqm,zql] <;> rfl)|(simp [*,zqm,zql] <;> rfl),by repeat(first|(with_reducible first|exact HB.out|apply zqb|apply zqa|apply zqc|refine zqi ?_ GE162.out)|exact HB.out)⟩

end Go.Proofs.YthhejedfjgikdaaDoor.PRowEntries
