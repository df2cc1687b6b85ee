-- Written by wip/pp of this repo (over the kit's print, with additions of this session); Lean checks every line.
import Derived.Test.YthhejedfjgikdaaDoorPRowReadsx6
namespace Go.Proofs.YthhejedfjgikdaaDoor.PRowReads
open Go.RowKit Go.Proofs.YthhejedfjgikdaaDoorW.PrintWords Go.Proofs.YthhejedfjgikdaaDoorW.PrintLast Go.Proofs.YthhejedfjgikdaaDoorW.PrintMore
attribute [local go_sem] zjo zjm zjw zjv zja zq9 zjn zjl   -- for this text's walks alone
set_option linter.unusedVariables false
set_option linter.unusedSimpArgs false

/-! ### zqr: function 29 -/
mutual
def zqr.l0:Nat→List (S38)→List (S90)→Int→Int→Option (Int)
 | 0,_,_,_,_=>none
 | k+1,x1,x16,x17,x18=>if x18<x17 then(if 0≤x18 then(if x18<(x16.length:Int) then(if x18<(x1.length:Int) then((zql.f k ((qf x1 x18).f0) ((qf x1 x18).f1) ((qf x1 x18).f2)).bind fun t161=>(if t161=0 then(if((qf x1 x18).f0)=0 then(zqr.j1 k x1 x16 x17 x18 ((qg x16 x18).f2) ((qg x16 x18).f0) ((qg x16 x18).f1) ((qg x16 x18).f2) ((qf x1 x18).f0) ((qf x1 x18).f1) ((qf x1 x18).f2)) else (zqr.j1 k x1 x16 x17 x18 false ((qg x16 x18).f0) ((qg x16 x18).f1) ((qg x16 x18).f2) ((qf x1 x18).f0) ((qf x1 x18).f1) ((qf x1 x18).f2))) else (some t161))) else (none)) else (none)) else (none)) else (some 0)
def zqr.j1:Nat→List (S38)→List (S90)→Int→Int→Bool→ByteArray→Int→Bool→Int→Int→ByteArray→Option (Int)
 | 0,_,_,_,_,_,_,_,_,_,_,_=>none
 | k+1,x1,x16,x17,x18,x32,x159000,x159001,x159002,x161000,x161001,x161002=>if x32=true then(some 13) else (if x161000=0 then(zqr.l0 k x1 x16 x17 (wrap64 (x18+1))) else (if x161000=x159001 then(zqr.l0 k x1 x16 x17 (wrap64 (x18+1))) else (some 12)))
end
def zqr.f (k:Nat) (a0_0:ByteArray) (l0_1:List (S90)) (l0_2:List Int) (l0_3:List (S96)) (l1:List (S38)):Option (Int):=if(l1.length:Int)=(l0_1.length:Int) then(zqr.l0 k l1 l0_1 (l0_1.length:Int) 0) else (some 1)
theorem zqr.mono_l:∀ k,(∀ y0 y1 y2 y3,LeO (zqr.l0 k y0 y1 y2 y3) (zqr.l0 (k+1) y0 y1 y2 y3))∧(∀ y0 y1 y2 y3 y4 y5 y6 y7 y8 y9 y10,LeO (zqr.j1 k y0 y1 y2 y3 y4 y5 y6 y7 y8 y9 y10) (zqr.j1 (k+1) y0 y1 y2 y3 y4 y5 y6 y7 y8 y9 y10))
 | 0=>⟨fun _ _ _ _ r h=>by simp [zqr.l0] at h,fun _ _ _ _ _ _ _ _ _ _ _ r h=>by simp [zqr.j1] at h⟩
 | k+1=>by
  obtain ⟨ih0,ih1⟩:=zqr.mono_l k
  refine⟨?_,?_⟩
  ·intro y0 y1 y2 y3
   unfold zqr.l0
   repeat' first
   | (with_reducible first|exact ih0 _ _ _ _|exact ih1 _ _ _ _ _ _ _ _ _ _ _|exact zql.mono _ _ _ _|exact LeO.refl _|exact LeO.none _|refine LeO.ite ?_ ?_|refine LeO.bind ?_ (fun _=>?_))
   | exact ih0 _ _ _ _
   | exact ih1 _ _ _ _ _ _ _ _ _ _ _
   | exact zql.mono _ _ _ _
   | exact LeO.none _
   | refine LeO.ite ?_ ?_
   | refine LeO.bind ?_ (fun _=>?_)
  intro y0 y1 y2 y3 y4 y5 y6 y7 y8 y9 y10
  unfold zqr.j1
  repeat' first
  | (with_reducible first|exact ih0 _ _ _ _|exact ih1 _ _ _ _ _ _ _ _ _ _ _|exact zql.mono _ _ _ _|exact LeO.refl _|exact LeO.none _|refine LeO.ite ?_ ?_|refine LeO.bind ?_ (fun _=>?_))
  | exact ih0 _ _ _ _
  | exact ih1 _ _ _ _ _ _ _ _ _ _ _
  | exact zql.mono _ _ _ _
  | exact LeO.none _
  | refine LeO.ite ?_ ?_
  | refine LeO.bind ?_ (fun _=>?_)
theorem zqr.mono:∀ a0 a1 a2 a3 a4 k,LeO (zqr.f k a0 a1 a2 a3 a4) (zqr.f (k+1) a0 a1 a2 a3 a4):=by
 intro a0 a1 a2 a3 a4 k
 obtain ⟨ih0,ih1⟩:=zqr.mono_l k
 unfold zqr.f
 repeat' first
   | (with_reducible first|exact ih0 _ _ _ _|exact ih1 _ _ _ _ _ _ _ _ _ _ _|exact zql.mono _ _ _ _|exact LeO.refl _|exact LeO.none _|refine LeO.ite ?_ ?_|refine LeO.bind ?_ (fun _=>?_))
   | exact ih0 _ _ _ _
   | exact ih1 _ _ _ _ _ _ _ _ _ _ _
   | exact zql.mono _ _ _ _
   | exact LeO.none _
   | refine LeO.ite ?_ ?_
   | refine LeO.bind ?_ (fun _=>?_)
set_option maxHeartbeats 8000000 in
set_option maxRecDepth 100000 in
theorem zqr.calls (k:Nat) (a0_0:ByteArray) (A0_1:Option Addr) (c0_1:Nat) (l0_1:List (S90)) (A0_2:Option Addr) (c0_2:Nat) (l0_2:List Int) (A0_3:Option Addr) (c0_3:Nat) (l0_3:List (S96)) (A1:Option Addr) (c1:Nat) (l1:List (S38)) (r:Int) (w:World) (hr0_1:Kd.C k90 w A0_1 l0_1.length l0_1) (hc0_1:l0_1.length≤c0_1) (hr0_2:Kd.C (Kd.int .i64) w A0_2 l0_2.length l0_2) (hc0_2:l0_2.length≤c0_2) (hr0_3:Kd.C k96 w A0_3 l0_3.length l0_3) (hc0_3:l0_3.length≤c0_3) (hr1:Kd.C k38 w A1 l1.length l1) (hc1:l1.length≤c1) (hL:LD w) (h:zqr.f k a0_0 l0_1 l0_2 l0_3 l1=some r) :
  Calls Tryd.prog 29 #[.agg #[.string a0_0,.slice A0_1 l0_1.length c0_1,.slice A0_2 l0_2.length c0_2,.slice A0_3 l0_3.length c0_3],.slice A1 l1.length c1] w fun e w'=>e = .returned (.int .i64 r)∧Below w.heap.size w w':=by
 have hu61:=Tryd.underlying61
 have hu90:=Tryd.underlying90
 have hu38:=Tryd.underlying38
 have HLD:=zq.mk hL
 clear hL
 have HR0_1:=zq.mk hr0_1
 have HC0_1:=zq.mk hc0_1
 clear hr0_1 hc0_1
 have HR0_2:=zq.mk hr0_2
 have HC0_2:=zq.mk hc0_2
 clear hr0_2 hc0_2
 have HR0_3:=zq.mk hr0_3
 have HC0_3:=zq.mk hc0_3
 clear hr0_3 hc0_3
 have HR1:=zq.mk hr1
 have HC1:=zq.mk hc1
 clear hr1 hc1
 have HB:=zq.mk (Below.refl w.heap.size w)
 have H:(if(l1.length:Int)=(l0_1.length:Int) then(zqr.l0 k l1 l0_1 (l0_1.length:Int) 0) else (some 1))=some r:=h
 clear h
 by_cases c3:(l1.length:Int)=(l0_1.length:Int)
 ·rw [if_pos c3] at H
  have c3b0:((l1.length:Int) == (l0_1.length:Int))=true:=beq_iff_eq.mpr c3
  have c3b1:((l1.length:Int) != (l0_1.length:Int))=false:=bne_eq_false_iff_eq.mpr c3
  have c3b2:(l1.length == l0_1.length)=true:=by first|simpa using c3|(simp at c3 ⊢;omega)
  clear c3
  have H':=zq.mk H
  clear H
  go_enter Tryd.func29,Tryd.ntmps29
  go_wp2_with (first|((with_reducible refine qr (N:=2) rfl ?_);refine qm ?hg (N:=2) ?hd (cs:=#[.string a0_0,.slice A0_1 l0_1.length c0_1,.slice A0_2 l0_2.length c0_2,.slice A0_3 l0_3.length c0_3]) (t:=61) ?hr ?_;(case hd=>rfl);(case hg=>rfl);(case hr=>first|(go_simp;done)|(go_simp;rfl));intro gb156 hg w4 hbox hb;have BK156:=zq.mk (hbox);have GW156:=zq.mk ((by rw [hg];exact(zw bw):w.heap.size≤gb156));have GE156:=zq.mk ((by rw [hg];exact(zw bw):w.heap.size≤gb156));replace HB:=zq.mk (zn bw hb);clear hb hbox hg;obtain ⟨hcz5_0,hcz5_1,hcz5_2,hcz5_3,hfz5_0,hfz5_1,hfz5_2,hfz5_3⟩:=zqv BK156.out))
  go_loopg [18] k (fun kq v18 w' => ∃ (x18_1:Int),v18 = .int .i64 x18_1∧zq (zqr.l0 kq l1 l0_1 (l0_1.length:Int) x18_1=some r)∧zq (kq≤k)∧zq (w'.heap[gb156]? = some (.cells #[.string a0_0,(.slice A0_1 l0_1.length c0_1),(.slice A0_2 l0_2.length c0_2),(.slice A0_3 l0_3.length c0_3)] 61 (0,0)))∧zq (Below w.heap.size w w'))
  case atStart=>exact⟨(0),vr,H',⟨Nat.le_refl _⟩,⟨by(with_reducible repeat(first|refine zz ?_ _|refine zk ?_|refine zj ?_ _));exact BK156.out⟩,⟨bw⟩⟩
  case round=>
   clear H'
   (try clear c1);(try clear c3);(try clear c3b0);(try clear c3b1);(try clear c3b2);(try clear hcz5_0);(try clear hcz5_1);(try clear hcz5_2);(try clear hcz5_3);(try clear hfz5_0);(try clear hfz5_1);(try clear hfz5_2);(try clear hfz5_3)
   (try clear BK156)
   obtain ⟨x18_1,rfl,HA,HK1,BK156,HB⟩:=hrel
   cases gk with
   | zero=>exact absurd HA.out (by simp [zqr.l0])
   | succ k1=>
    have H:=HA.out
    clear HA
    simp only [zqr.l0] at H
    by_cases c6:x18_1<(l0_1.length:Int)
    ·rw [if_pos c6] at H
     have c6b0:=decide_eq_true c6
     clear c6
     by_cases c7:0≤x18_1
     ·rw [if_pos c7] at H
      have c7b0:=decide_eq_true c7
      clear c7
      by_cases c8:x18_1<(l0_1.length:Int)
      ·rw [if_pos c8] at H
       have c8b0:=decide_eq_true c8
       clear c8
       by_cases c9:x18_1<(l1.length:Int)
       ·rw [if_pos c9] at H
        have c9b0:=decide_eq_true c9
        clear c9
        replace H:=Option.bind_eq_some_iff.mp H
        obtain ⟨t161,A100,H⟩:=H
        replace H:(if t161=0 then(if((qf l1 x18_1).f0)=0 then(zqr.j1 k1 l1 l0_1 (l0_1.length:Int) x18_1 ((qg l0_1 x18_1).f2) ((qg l0_1 x18_1).f0) ((qg l0_1 x18_1).f1) ((qg l0_1 x18_1).f2) ((qf l1 x18_1).f0) ((qf l1 x18_1).f1) ((qf l1 x18_1).f2)) else (zqr.j1 k1 l1 l0_1 (l0_1.length:Int) x18_1 false ((qg l0_1 x18_1).f0) ((qg l0_1 x18_1).f1) ((qg l0_1 x18_1).f2) ((qf l1 x18_1).f0) ((qf l1 x18_1).f1) ((qf l1 x18_1).f2))) else (some t161))=some r:=H
        have A10:=zq.mk A100
        clear A100
        by_cases c11:t161=0
        ·rw [if_pos c11] at H
         have c11b0:(t161 == 0)=true:=beq_iff_eq.mpr c11
         have c11b1:(t161 != 0)=false:=bne_eq_false_iff_eq.mpr c11
         clear c11
         have HC12:=zq.mk H
         clear H
         have p157:0≤(x18_1:Int):=dt
         have q157:x18_1<(l0_1.length:Int):=dt
         obtain ⟨ad157,e157,hx157_0,hx157_1,hx157_2⟩:=zx1 HR0_1.out x18_1 p157 q157
         cases e157
         replace hx157_0:=(HB.out.cell (World.block_lt_of_cell? w _ hx157_0)).trans hx157_0
         replace hx157_1:=(HB.out.cell (World.block_lt_of_cell? w _ hx157_1)).trans hx157_1
         replace hx157_2:=(HB.out.cell (World.block_lt_of_cell? w _ hx157_2)).trans hx157_2
         replace p157:=eq_true p157
         replace q157:=eq_true q157
         go_upto_region 10 with (first|((with_reducible refine qr (N:=6) rfl ?_);refine qm ?hg (N:=6) ?hd (cs:=#[.string (⟨#[]⟩:ByteArray),.int .i64 0,.bool false]) (t:=90) ?hr ?_;(case hd=>rfl);(case hg=>rfl);(case hr=>first|(go_simp;done)|(go_simp;rfl));intro gb158 hg w13 hbox hb;have BK158:=zq.mk (hbox);have GW158:=zq.mk ((by rw [hg];exact(zw bw):w.heap.size≤gb158));have GE158:=zq.mk ((by rw [hg];exact(zw bw):w.heap.size≤gb158));replace HB:=zq.mk (zn bw hb);have NB156_158:=zq.mk ((by rw [hg];exact Nat.ne_of_lt (zq3 (g:=gb156) (o:=.cells #[.string a0_0,.slice (some ad157) l0_1.length c0_1,.slice A0_2 l0_2.length c0_2,.slice A0_3 l0_3.length c0_3] 61 (0,0)) (up BK156.out)):gb156≠gb158));have NB158_156:=zq.mk ((by rw [hg];exact Nat.ne_of_gt (zq3 (g:=gb156) (o:=.cells #[.string a0_0,.slice (some ad157) l0_1.length c0_1,.slice A0_2 l0_2.length c0_2,.slice A0_3 l0_3.length c0_3] 61 (0,0)) (up BK156.out)):gb158≠gb156));replace BK156:=zq.mk (ze (g:=gb156) (o:=.cells #[.string a0_0,.slice (some ad157) l0_1.length c0_1,.slice A0_2 l0_2.length c0_2,.slice A0_3 l0_3.length c0_3] 61 (0,0)) (up BK156.out) hb);clear hb hbox hg;have hnb14:=NB158_156.out;have hnc14:=NB156_158.out;obtain ⟨hcz15_0,hcz15_1,hcz15_2,hfz15_0,hfz15_1,hfz15_2⟩:=qd BK158.out;have p159:0≤(x18_1:Int):=dt;have q159:x18_1<(l1.length:Int):=dt;obtain ⟨ad159,e159,hx159_0,hx159_1,hx159_2⟩:=zxq HR1.out x18_1 p159 q159;cases e159;have hn159_0:ad159.block≠gb158:=Nat.ne_of_lt (Nat.lt_of_lt_of_le (by have:=World.block_lt_of_cell? _ _ hx159_0;first|rwa [add_block] at this|exact this) GW158.out);have hn159_1:ad159.block≠gb158:=Nat.ne_of_lt (Nat.lt_of_lt_of_le (by have:=World.block_lt_of_cell? _ _ hx159_0;first|rwa [add_block] at this|exact this) GW158.out);have hn159_2:ad159.block≠gb158:=Nat.ne_of_lt (Nat.lt_of_lt_of_le (by have:=World.block_lt_of_cell? _ _ hx159_0;first|rwa [add_block] at this|exact this) GW158.out);replace hx159_0:=(HB.out.cell (World.block_lt_of_cell? w _ hx159_0)).trans hx159_0;replace hx159_1:=(HB.out.cell (World.block_lt_of_cell? w _ hx159_1)).trans hx159_1;replace hx159_2:=(HB.out.cell (World.block_lt_of_cell? w _ hx159_2)).trans hx159_2;replace hx159_0:=(cell_far (p:=⟨gb158,0,none⟩) (by first|(rw [add_block];exact hn159_0)|(show(Addr.add _ _).block≠_;rw [add_block];exact hn159_0)|exact hn159_0) (.string ((qg l0_1 x18_1).f0))).trans hx159_0;replace hx159_1:=(cell_far (p:=⟨gb158,0,none⟩) (by first|(rw [add_block];exact hn159_0)|(show(Addr.add _ _).block≠_;rw [add_block];exact hn159_0)|exact hn159_0) (.string ((qg l0_1 x18_1).f0))).trans hx159_1;replace hx159_2:=(cell_far (p:=⟨gb158,0,none⟩) (by first|(rw [add_block];exact hn159_0)|(show(Addr.add _ _).block≠_;rw [add_block];exact hn159_0)|exact hn159_0) (.string ((qg l0_1 x18_1).f0))).trans hx159_2;replace hx159_0:=(cell_far (p:=⟨gb158,1,none⟩) (by first|(rw [add_block];exact hn159_1)|(show(Addr.add _ _).block≠_;rw [add_block];exact hn159_1)|exact hn159_1) (.int .i64 ((qg l0_1 x18_1).f1))).trans hx159_0;replace hx159_1:=(cell_far (p:=⟨gb158,1,none⟩) (by first|(rw [add_block];exact hn159_1)|(show(Addr.add _ _).block≠_;rw [add_block];exact hn159_1)|exact hn159_1) (.int .i64 ((qg l0_1 x18_1).f1))).trans hx159_1;replace hx159_2:=(cell_far (p:=⟨gb158,1,none⟩) (by first|(rw [add_block];exact hn159_1)|(show(Addr.add _ _).block≠_;rw [add_block];exact hn159_1)|exact hn159_1) (.int .i64 ((qg l0_1 x18_1).f1))).trans hx159_2;replace hx159_0:=(cell_far (p:=⟨gb158,2,none⟩) (by first|(rw [add_block];exact hn159_2)|(show(Addr.add _ _).block≠_;rw [add_block];exact hn159_2)|exact hn159_2) (.bool ((qg l0_1 x18_1).f2))).trans hx159_0;replace hx159_1:=(cell_far (p:=⟨gb158,2,none⟩) (by first|(rw [add_block];exact hn159_2)|(show(Addr.add _ _).block≠_;rw [add_block];exact hn159_2)|exact hn159_2) (.bool ((qg l0_1 x18_1).f2))).trans hx159_1;replace hx159_2:=(cell_far (p:=⟨gb158,2,none⟩) (by first|(rw [add_block];exact hn159_2)|(show(Addr.add _ _).block≠_;rw [add_block];exact hn159_2)|exact hn159_2) (.bool ((qg l0_1 x18_1).f2))).trans hx159_2;clear hn159_0 hn159_1 hn159_2;replace p159:=eq_true p159;replace q159:=eq_true q159)|((with_reducible refine qr (N:=7) rfl ?_);refine qm ?hg (N:=7) ?hd (cs:=#[.int .i64 0,.int .i64 0,.string (⟨#[]⟩:ByteArray)]) (t:=38) ?hr ?_;(case hd=>rfl);(case hg=>rfl);(case hr=>first|(go_simp;done)|(go_simp;rfl));intro gb160 hg w16 hbox hb;have BK160:=zq.mk (hbox);have GW160:=zq.mk ((by rw [hg];exact(zw bw):w.heap.size≤gb160));have GE160:=zq.mk ((by rw [hg];exact(zw bw):w.heap.size≤gb160));replace HB:=zq.mk (zn bw hb);have NB156_160:=zq.mk ((by rw [hg];exact Nat.ne_of_lt (zq3 (g:=gb156) (o:=.cells #[.string a0_0,.slice (some ad157) l0_1.length c0_1,.slice A0_2 l0_2.length c0_2,.slice A0_3 l0_3.length c0_3] 61 (0,0)) (by(with_reducible repeat(first|refine zz ?_ _|refine zk ?_|refine zj ?_ _));refine zqf ?_ NB156_158.out _;(with_reducible repeat(first|refine zz ?_ _|refine zk ?_|refine zj ?_ _));refine zqf ?_ NB156_158.out _;(with_reducible repeat(first|refine zz ?_ _|refine zk ?_|refine zj ?_ _));refine zqf ?_ NB156_158.out _;(with_reducible repeat(first|refine zz ?_ _|refine zk ?_|refine zj ?_ _));exact BK156.out)):gb156≠gb160));have NB160_156:=zq.mk ((by rw [hg];exact Nat.ne_of_gt (zq3 (g:=gb156) (o:=.cells #[.string a0_0,.slice (some ad157) l0_1.length c0_1,.slice A0_2 l0_2.length c0_2,.slice A0_3 l0_3.length c0_3] 61 (0,0)) (by(with_reducible repeat(first|refine zz ?_ _|refine zk ?_|refine zj ?_ _));refine zqf ?_ NB156_158.out _;(with_reducible repeat(first|refine zz ?_ _|refine zk ?_|refine zj ?_ _));refine zqf ?_ NB156_158.out _;(with_reducible repeat(first|refine zz ?_ _|refine zk ?_|refine zj ?_ _));refine zqf ?_ NB156_158.out _;(with_reducible repeat(first|refine zz ?_ _|refine zk ?_|refine zj ?_ _));exact BK156.out)):gb160≠gb156));replace BK156:=zq.mk (ze (g:=gb156) (o:=.cells #[.string a0_0,.slice (some ad157) l0_1.length c0_1,.slice A0_2 l0_2.length c0_2,.slice A0_3 l0_3.length c0_3] 61 (0,0)) (by(with_reducible repeat(first|refine zz ?_ _|refine zk ?_|refine zj ?_ _));refine zqf ?_ NB156_158.out _;(with_reducible repeat(first|refine zz ?_ _|refine zk ?_|refine zj ?_ _));refine zqf ?_ NB156_158.out _;(with_reducible repeat(first|refine zz ?_ _|refine zk ?_|refine zj ?_ _));refine zqf ?_ NB156_158.out _;(with_reducible repeat(first|refine zz ?_ _|refine zk ?_|refine zj ?_ _));exact BK156.out) hb);have NB158_160:=zq.mk ((by rw [hg];exact Nat.ne_of_lt (zq3 (g:=gb158) (o:=.cells #[.string ((qg l0_1 x18_1).f0),.int .i64 ((qg l0_1 x18_1).f1),.bool ((qg l0_1 x18_1).f2)] 90 (0,0)) (by(with_reducible repeat(first|refine zz ?_ _|refine zk ?_|refine zj ?_ _));refine qw (cs:=#[.string ((qg l0_1 x18_1).f0),.int .i64 ((qg l0_1 x18_1).f1),.bool false]) ?_ 2 _ rfl;(with_reducible repeat(first|refine zz ?_ _|refine zk ?_|refine zj ?_ _));refine qw (cs:=#[.string ((qg l0_1 x18_1).f0),.int .i64 0,.bool false]) ?_ 1 _ rfl;(with_reducible repeat(first|refine zz ?_ _|refine zk ?_|refine zj ?_ _));refine qw (cs:=#[.string (⟨#[]⟩:ByteArray),.int .i64 0,.bool false]) ?_ 0 _ rfl;(with_reducible repeat(first|refine zz ?_ _|refine zk ?_|refine zj ?_ _));exact BK158.out)):gb158≠gb160));have NB160_158:=zq.mk ((by rw [hg];exact Nat.ne_of_gt (zq3 (g:=gb158) (o:=.cells #[.string ((qg l0_1 x18_1).f0),.int .i64 ((qg l0_1 x18_1).f1),.bool ((qg l0_1 x18_1).f2)] 90 (0,0)) (by(with_reducible repeat(first|refine zz ?_ _|refine zk ?_|refine zj ?_ _));refine qw (cs:=#[.string ((qg l0_1 x18_1).f0),.int .i64 ((qg l0_1 x18_1).f1),.bool false]) ?_ 2 _ rfl;(with_reducible repeat(first|refine zz ?_ _|refine zk ?_|refine zj ?_ _));refine qw (cs:=#[.string ((qg l0_1 x18_1).f0),.int .i64 0,.bool false]) ?_ 1 _ rfl;(with_reducible repeat(first|refine zz ?_ _|refine zk ?_|refine zj ?_ _));refine qw (cs:=#[.string (⟨#[]⟩:ByteArray),.int .i64 0,.bool false]) ?_ 0 _ rfl;(with_reducible repeat(first|refine zz ?_ _|refine zk ?_|refine zj ?_ _));exact BK158.out)):gb160≠gb158));replace BK158:=zq.mk (ze (g:=gb158) (o:=.cells #[.string ((qg l0_1 x18_1).f0),.int .i64 ((qg l0_1 x18_1).f1),.bool ((qg l0_1 x18_1).f2)] 90 (0,0)) (by(with_reducible repeat(first|refine zz ?_ _|refine zk ?_|refine zj ?_ _));refine qw (cs:=#[.string ((qg l0_1 x18_1).f0),.int .i64 ((qg l0_1 x18_1).f1),.bool false]) ?_ 2 _ rfl;(with_reducible repeat(first|refine zz ?_ _|refine zk ?_|refine zj ?_ _));refine qw (cs:=#[.string ((qg l0_1 x18_1).f0),.int .i64 0,.bool false]) ?_ 1 _ rfl;(with_reducible repeat(first|refine zz ?_ _|refine zk ?_|refine zj ?_ _));refine qw (cs:=#[.string (⟨#[]⟩:ByteArray),.int .i64 0,.bool false]) ?_ 0 _ rfl;(with_reducible repeat(first|refine zz ?_ _|refine zk ?_|refine zj ?_ _));exact BK158.out) hb);clear hb hbox hg;have hnb17:=NB160_156.out;have hnc17:=NB156_160.out;have hnb18:=NB160_158.out;have hnc18:=NB158_160.out;obtain ⟨hcz19_0,hcz19_1,hcz19_2,hfz19_0,hfz19_1,hfz19_2⟩:=qd BK160.out)|((with_reducible refine qh (f:=57) rfl ?_);refine zqn (some 28) rfl rfl Tryd.func57 (by kernel_rfl) rfl #[.agg #[.int .i64 ((qf l1 x18_1).f0),.int .i64 ((qf l1 x18_1).f1),.string ((qf l1 x18_1).f2)]] rfl gs ?_;(with_reducible refine(zql.calls k1 ((qf l1 x18_1).f0) ((qf l1 x18_1).f1) ((qf l1 x18_1).f2) t161 _ ?side1 A10.out).mono ?_);(case side1=>exact LD.below HLD.out (by first|(with_reducible exact Below.refl _ _)|((repeat(first|(with_reducible exact Below.refl _ _)|(with_reducible apply zl)|(with_reducible apply zr)|(with_reducible apply qx)));done)|exact bw));rintro e w20 ⟨rfl,hb⟩;refine⟨_,rfl,?_⟩;replace BK156:=zq.mk (ze (g:=gb156) (o:=.cells #[.string a0_0,.slice (some ad157) l0_1.length c0_1,.slice A0_2 l0_2.length c0_2,.slice A0_3 l0_3.length c0_3] 61 (0,0)) (by(with_reducible repeat(first|refine zz ?_ _|refine zk ?_|refine zj ?_ _));refine zqf ?_ NB156_160.out _;(with_reducible repeat(first|refine zz ?_ _|refine zk ?_|refine zj ?_ _));refine zqf ?_ NB156_160.out _;(with_reducible repeat(first|refine zz ?_ _|refine zk ?_|refine zj ?_ _));refine zqf ?_ NB156_160.out _;(with_reducible repeat(first|refine zz ?_ _|refine zk ?_|refine zj ?_ _));exact BK156.out) hb);replace BK158:=zq.mk (ze (g:=gb158) (o:=.cells #[.string ((qg l0_1 x18_1).f0),.int .i64 ((qg l0_1 x18_1).f1),.bool ((qg l0_1 x18_1).f2)] 90 (0,0)) (by(with_reducible repeat(first|refine zz ?_ _|refine zk ?_|refine zj ?_ _));refine zqf ?_ NB158_160.out _;(with_reducible repeat(first|refine zz ?_ _|refine zk ?_|refine zj ?_ _));refine zqf ?_ NB158_160.out _;(with_reducible repeat(first|refine zz ?_ _|refine zk ?_|refine zj ?_ _));refine zqf ?_ NB158_160.out _;(with_reducible repeat(first|refine zz ?_ _|refine zk ?_|refine zj ?_ _));exact BK158.out) hb);replace BK160:=zq.mk (ze (g:=gb160) (o:=.cells #[.int .i64 ((qf l1 x18_1).f0),.int .i64 ((qf l1 x18_1).f1),.string ((qf l1 x18_1).f2)] 38 (0,0)) (by(with_reducible repeat(first|refine zz ?_ _|refine zk ?_|refine zj ?_ _));refine qw (cs:=#[.int .i64 ((qf l1 x18_1).f0),.int .i64 ((qf l1 x18_1).f1),.string (⟨#[]⟩:ByteArray)]) ?_ 2 _ rfl;(with_reducible repeat(first|refine zz ?_ _|refine zk ?_|refine zj ?_ _));refine qw (cs:=#[.int .i64 ((qf l1 x18_1).f0),.int .i64 0,.string (⟨#[]⟩:ByteArray)]) ?_ 1 _ rfl;(with_reducible repeat(first|refine zz ?_ _|refine zk ?_|refine zj ?_ _));refine qw (cs:=#[.int .i64 0,.int .i64 0,.string (⟨#[]⟩:ByteArray)]) ?_ 0 _ rfl;(with_reducible repeat(first|refine zz ?_ _|refine zk ?_|refine zj ?_ _));exact BK160.out) hb);replace HB:=zq.mk (zn bw hb);(try clear hb);(try clear hb2);(try clear hk);(try clear hi)))
         (try simp only [Act.put,List.setIfInBounds_toArray,List.set_cons_zero,List.set_cons_succ])
         go_cut [32] (fun v32 wc => ∃ (kq:Nat) (x32_11:Bool),v32 = .bool x32_11∧zq (zqr.j1 kq l1 l0_1 (l0_1.length:Int) x18_1 x32_11 ((qg l0_1 x18_1).f0) ((qg l0_1 x18_1).f1) ((qg l0_1 x18_1).f2) ((qf l1 x18_1).f0) ((qf l1 x18_1).f1) ((qf l1 x18_1).f2)=some r)∧zq (kq≤k1)∧zq (wc.heap[gb156]? = some (.cells #[.string a0_0,(.slice (some ad157) l0_1.length c0_1),(.slice A0_2 l0_2.length c0_2),(.slice A0_3 l0_3.length c0_3)] 61 (0,0)))∧zq (wc.heap[gb158]? = some (.cells #[.string ((qg l0_1 x18_1).f0),.int .i64 ((qg l0_1 x18_1).f1),.bool ((qg l0_1 x18_1).f2)] 90 (0,0)))∧zq (wc.heap[gb160]? = some (.cells #[.int .i64 ((qf l1 x18_1).f0),.int .i64 ((qf l1 x18_1).f1),.string ((qf l1 x18_1).f2)] 38 (0,0)))∧zq (Below w.heap.size w wc))
         case first=>
          have H:=HC12.out
          clear HC12
          by_cases c21:((qf l1 x18_1).f0)=0
          ·rw [if_pos c21] at H
           have c21b0:(((qf l1 x18_1).f0) == 0)=true:=beq_iff_eq.mpr c21
           have c21b1:(((qf l1 x18_1).f0) != 0)=false:=bne_eq_false_iff_eq.mpr c21
           clear c21
           (first|rw [c21b0]|(simp only [zqp,zqq];rw [c21b0])|skip)
           have H':=zq.mk H
           clear H
           have hnb22:=NB160_156.out
           have hnc22:=NB156_160.out
           have hnb23:=NB160_158.out
           have hnc23:=NB158_160.out
           obtain ⟨hcz24_0,hcz24_1,hcz24_2,hfz24_0,hfz24_1,hfz24_2⟩:=qd BK160.out
           have hnb25:=NB158_156.out
           have hnc25:=NB156_158.out
           obtain ⟨hcz26_0,hcz26_1,hcz26_2,hfz26_0,hfz26_1,hfz26_2⟩:=qd BK158.out
           go_wp2
           go_meet
           case rel=>exact⟨_,((qg l0_1 x18_1).f2),vr,H',⟨by have:=HK1.out;first|omega|exact Nat.le_refl _⟩,⟨by(with_reducible repeat(first|refine zz ?_ _|refine zk ?_|refine zj ?_ _));exact BK156.out⟩,⟨by(with_reducible repeat(first|refine zz ?_ _|refine zk ?_|refine zj ?_ _));exact BK158.out⟩,⟨by(with_reducible repeat(first|refine zz ?_ _|refine zk ?_|refine zj ?_ _));exact BK160.out⟩,⟨bw⟩⟩
          rw [if_neg c21] at H
          have c21b0:(((qf l1 x18_1).f0) == 0)=false:=beq_eq_false_iff_ne.mpr c21
          have c21b1:(((qf l1 x18_1).f0) != 0)=true:=bne_iff_ne.mpr c21
          (first|rw [c21b0]|(simp only [zqp,zqq];rw [c21b0])|skip)
          have H':=zq.mk H
          clear H
          have hnb27:=NB160_156.out
          have hnc27:=NB156_160.out
          have hnb28:=NB160_158.out
          have hnc28:=NB158_160.out
          obtain ⟨hcz29_0,hcz29_1,hcz29_2,hfz29_0,hfz29_1,hfz29_2⟩:=qd BK160.out
          go_wp2
          go_meet
          case rel=>exact⟨_,(false),vr,H',⟨by have:=HK1.out;first|omega|exact Nat.le_refl _⟩,⟨by(with_reducible repeat(first|refine zz ?_ _|refine zk ?_|refine zj ?_ _));exact BK156.out⟩,⟨by(with_reducible repeat(first|refine zz ?_ _|refine zk ?_|refine zj ?_ _));exact BK158.out⟩,⟨by(with_reducible repeat(first|refine zz ?_ _|refine zk ?_|refine zj ?_ _));exact BK160.out⟩,⟨bw⟩⟩
         case rest=>
          clear HC12
          (try clear c1);(try clear c3);(try clear c3b0);(try clear c3b1);(try clear c3b2);(try clear c6);(try clear c6b0);(try clear c7);(try clear c7b0);(try clear c8);(try clear c8b0);(try clear c9);(try clear c9b0);(try clear c11);(try clear c11b0);(try clear c11b1);(try clear hcz15_0);(try clear hcz15_1);(try clear hcz15_2);(try clear hcz19_0);(try clear hcz19_1);(try clear hcz19_2);(try clear hcz5_0);(try clear hcz5_1);(try clear hcz5_2);(try clear hcz5_3);(try clear hfz15_0);(try clear hfz15_1);(try clear hfz15_2);(try clear hfz19_0);(try clear hfz19_1);(try clear hfz19_2);(try clear hfz5_0);(try clear hfz5_1);(try clear hfz5_2);(try clear hfz5_3);(try clear hx157_0);(try clear hx157_1);(try clear hx157_2);(try clear hx159_0);(try clear hx159_1);(try clear hx159_2);(try clear p157);(try clear p159);(try clear q157);(try clear q159)
          obtain ⟨kq,x32_11,rfl,HA,HJ11,BK156,BK158,BK160,HB⟩:=hcut
          cases kq with
          | zero=>exact absurd HA.out (by simp [zqr.j1])
          | succ kj11=>
           have H:=HA.out
           clear HA
           simp only [zqr.j1] at H
           by_cases c30:x32_11=true
           ·subst c30
            rw [if_pos rfl] at H
            obtain rfl:=Option.some.inj H
            go_wp2
            go_ret
            exact⟨by first|rfl|(simp [zg,zy] <;> rfl)|(simp [*,zg,zy] <;> rfl),bw⟩
           replace c30:=Bool.eq_false_iff.mpr c30
           subst c30
           rw [if_neg (show ¬ (false=true) by decide)] at H
           by_cases c31:((qf l1 x18_1).f0)=0
           ·rw [if_pos c31] at H
            have c31b0:(((qf l1 x18_1).f0) == 0)=true:=beq_iff_eq.mpr c31
            have c31b1:(((qf l1 x18_1).f0) != 0)=false:=bne_eq_false_iff_eq.mpr c31
            clear c31
            have H':=zq.mk H
            clear H
            have hnb32:=NB160_156.out
            have hnc32:=NB156_160.out
            have hnb33:=NB160_158.out
            have hnc33:=NB158_160.out
            obtain ⟨hcz34_0,hcz34_1,hcz34_2,hfz34_0,hfz34_1,hfz34_2⟩:=qd BK160.out
            go_wp2
            go_roundg kj11
            case measure=>have:=HK1.out;have:=HJ11.out;omega
            case rel=>exact⟨(wrap64 (x18_1+1)),vr,H',⟨by have:=HK1.out;have:=HJ11.out;omega⟩,⟨by(with_reducible repeat(first|refine zz ?_ _|refine zk ?_|refine zj ?_ _));exact BK156.out⟩,⟨bw⟩⟩
           rw [if_neg c31] at H
           have c31b0:(((qf l1 x18_1).f0) == 0)=false:=beq_eq_false_iff_ne.mpr c31
           have c31b1:(((qf l1 x18_1).f0) != 0)=true:=bne_iff_ne.mpr c31
           by_cases c35:((qf l1 x18_1).f0)=((qg l0_1 x18_1).f1)
           ·rw [if_pos c35] at H
            have c35b0:(((qf l1 x18_1).f0) == ((qg l0_1 x18_1).f1))=true:=beq_iff_eq.mpr c35
            have c35b1:(((qf l1 x18_1).f0) != ((qg l0_1 x18_1).f1))=false:=bne_eq_false_iff_eq.mpr c35
            clear c35
            have H':=zq.mk H
            clear H
            have hnb36:=NB160_156.out
            have hnc36:=NB156_160.out
            have hnb37:=NB160_158.out
            have hnc37:=NB158_160.out
            obtain ⟨hcz38_0,hcz38_1,hcz38_2,hfz38_0,hfz38_1,hfz38_2⟩:=qd BK160.out
            have hnb39:=NB158_156.out
            have hnc39:=NB156_158.out
            obtain ⟨hcz40_0,hcz40_1,hcz40_2,hfz40_0,hfz40_1,hfz40_2⟩:=qd BK158.out
            go_wp2
            go_roundg kj11
            case measure=>have:=HK1.out;have:=HJ11.out;omega
            case rel=>exact⟨(wrap64 (x18_1+1)),vr,H',⟨by have:=HK1.out;have:=HJ11.out;omega⟩,⟨by(with_reducible repeat(first|refine zz ?_ _|refine zk ?_|refine zj ?_ _));exact BK156.out⟩,⟨bw⟩⟩
           rw [if_neg c35] at H
           have c35b0:(((qf l1 x18_1).f0) == ((qg l0_1 x18_1).f1))=false:=beq_eq_false_iff_ne.mpr c35
           have c35b1:(((qf l1 x18_1).f0) != ((qg l0_1 x18_1).f1))=true:=bne_iff_ne.mpr c35
           obtain rfl:=Option.some.inj H
           have hnb41:=NB160_156.out
           have hnc41:=NB156_160.out
           have hnb42:=NB160_158.out
           have hnc42:=NB158_160.out
           obtain ⟨hcz43_0,hcz43_1,hcz43_2,hfz43_0,hfz43_1,hfz43_2⟩:=qd BK160.out
           have hnb44:=NB158_156.out
           have hnc44:=NB156_158.out
           obtain ⟨hcz45_0,hcz45_1,hcz45_2,hfz45_0,hfz45_1,hfz45_2⟩:=qd BK158.out
           go_wp2
           go_ret
           exact⟨by first|rfl|(simp [zg,zy] <;> rfl)|(simp [*,zg,zy] <;> rfl),bw⟩
        rw [if_neg c11] at H
        have c11b0:(t161 == 0)=false:=beq_eq_false_iff_ne.mpr c11
        have c11b1:(t161 != 0)=true:=bne_iff_ne.mpr c11
        obtain rfl:=Option.some.inj H
        have p157:0≤(x18_1:Int):=dt
        have q157:x18_1<(l0_1.length:Int):=dt
        obtain ⟨ad157,e157,hx157_0,hx157_1,hx157_2⟩:=zx1 HR0_1.out x18_1 p157 q157
        cases e157
        replace hx157_0:=(HB.out.cell (World.block_lt_of_cell? w _ hx157_0)).trans hx157_0
        replace hx157_1:=(HB.out.cell (World.block_lt_of_cell? w _ hx157_1)).trans hx157_1
        replace hx157_2:=(HB.out.cell (World.block_lt_of_cell? w _ hx157_2)).trans hx157_2
        replace p157:=eq_true p157
        replace q157:=eq_true q157
        go_wp2_with (first|((with_reducible refine qr (N:=6) rfl ?_);refine qm ?hg (N:=6) ?hd (cs:=#[.string (⟨#[]⟩:ByteArray),.int .i64 0,.bool false]) (t:=90) ?hr ?_;(case hd=>rfl);(case hg=>rfl);(case hr=>first|(go_simp;done)|(go_simp;rfl));intro gb158 hg w46 hbox hb;have BK158:=zq.mk (hbox);have GW158:=zq.mk ((by rw [hg];exact(zw bw):w.heap.size≤gb158));have GE158:=zq.mk ((by rw [hg];exact(zw bw):w.heap.size≤gb158));replace HB:=zq.mk (zn bw hb);have NB156_158:=zq.mk ((by rw [hg];exact Nat.ne_of_lt (zq3 (g:=gb156) (o:=.cells #[.string a0_0,.slice (some ad157) l0_1.length c0_1,.slice A0_2 l0_2.length c0_2,.slice A0_3 l0_3.length c0_3] 61 (0,0)) (up BK156.out)):gb156≠gb158));have NB158_156:=zq.mk ((by rw [hg];exact Nat.ne_of_gt (zq3 (g:=gb156) (o:=.cells #[.string a0_0,.slice (some ad157) l0_1.length c0_1,.slice A0_2 l0_2.length c0_2,.slice A0_3 l0_3.length c0_3] 61 (0,0)) (up BK156.out)):gb158≠gb156));replace BK156:=zq.mk (ze (g:=gb156) (o:=.cells #[.string a0_0,.slice (some ad157) l0_1.length c0_1,.slice A0_2 l0_2.length c0_2,.slice A0_3 l0_3.length c0_3] 61 (0,0)) (up BK156.out) hb);clear hb hbox hg;have hnb47:=NB158_156.out;have hnc47:=NB156_158.out;obtain ⟨hcz48_0,hcz48_1,hcz48_2,hfz48_0,hfz48_1,hfz48_2⟩:=qd BK158.out;have p159:0≤(x18_1:Int):=dt;have q159:x18_1<(l1.length:Int):=dt;obtain ⟨ad159,e159,hx159_0,hx159_1,hx159_2⟩:=zxq HR1.out x18_1 p159 q159;cases e159;have hn159_0:ad159.block≠gb158:=Nat.ne_of_lt (Nat.lt_of_lt_of_le (by have:=World.block_lt_of_cell? _ _ hx159_0;first|rwa [add_block] at this|exact this) GW158.out);have hn159_1:ad159.block≠gb158:=Nat.ne_of_lt (Nat.lt_of_lt_of_le (by have:=World.block_lt_of_cell? _ _ hx159_0;first|rwa [add_block] at this|exact this) GW158.out);have hn159_2:ad159.block≠gb158:=Nat.ne_of_lt (Nat.lt_of_lt_of_le (by have:=World.block_lt_of_cell? _ _ hx159_0;first|rwa [add_block] at this|exact this) GW158.out);replace hx159_0:=(HB.out.cell (World.block_lt_of_cell? w _ hx159_0)).trans hx159_0;replace hx159_1:=(HB.out.cell (World.block_lt_of_cell? w _ hx159_1)).trans hx159_1;replace hx159_2:=(HB.out.cell (World.block_lt_of_cell? w _ hx159_2)).trans hx159_2;replace hx159_0:=(cell_far (p:=⟨gb158,0,none⟩) (by first|(rw [add_block];exact hn159_0)|(show(Addr.add _ _).block≠_;rw [add_block];exact hn159_0)|exact hn159_0) (.string ((qg l0_1 x18_1).f0))).trans hx159_0;replace hx159_1:=(cell_far (p:=⟨gb158,0,none⟩) (by first|(rw [add_block];exact hn159_0)|(show(Addr.add _ _).block≠_;rw [add_block];exact hn159_0)|exact hn159_0) (.string ((qg l0_1 x18_1).f0))).trans hx159_1;replace hx159_2:=(cell_far (p:=⟨gb158,0,none⟩) (by first|(rw [add_block];exact hn159_0)|(show(Addr.add _ _).block≠_;rw [add_block];exact hn159_0)|exact hn159_0) (.string ((qg l0_1 x18_1).f0))).trans hx159_2;replace hx159_0:=(cell_far (p:=⟨gb158,1,none⟩) (by first|(rw [add_block];exact hn159_1)|(show(Addr.add _ _).block≠_;rw [add_block];exact hn159_1)|exact hn159_1) (.int .i64 ((qg l0_1 x18_1).f1))).trans hx159_0;replace hx159_1:=(cell_far (p:=⟨gb158,1,none⟩) (by first|(rw [add_block];exact hn159_1)|(show(Addr.add _ _).block≠_;rw [add_block];exact hn159_1)|exact hn159_1) (.int .i64 ((qg l0_1 x18_1).f1))).trans hx159_1;replace hx159_2:=(cell_far (p:=⟨gb158,1,none⟩) (by first|(rw [add_block];exact hn159_1)|(show(Addr.add _ _).block≠_;rw [add_block];exact hn159_1)|exact hn159_1) (.int .i64 ((qg l0_1 x18_1).f1))).trans hx159_2;replace hx159_0:=(cell_far (p:=⟨gb158,2,none⟩) (by first|(rw [add_block];exact hn159_2)|(show(Addr.add _ _).block≠_;rw [add_block];exact hn159_2)|exact hn159_2) (.bool ((qg l0_1 x18_1).f2))).trans hx159_0;replace hx159_1:=(cell_far (p:=⟨gb158,2,none⟩) (by first|(rw [add_block];exact hn159_2)|(show(Addr.add _ _).block≠_;rw [add_block];exact hn159_2)|exact hn159_2) (.bool ((qg l0_1 x18_1).f2))).trans hx159_1;replace hx159_2:=(cell_far (p:=⟨gb158,2,none⟩) (by first|(rw [add_block];exact hn159_2)|(show(Addr.add _ _).block≠_;rw [add_block];exact hn159_2)|exact hn159_2) (.bool ((qg l0_1 x18_1).f2))).trans hx159_2;clear hn159_0 hn159_1 hn159_2;replace p159:=eq_true p159;replace q159:=eq_true q159)|((with_reducible refine qr (N:=7) rfl ?_);refine qm ?hg (N:=7) ?hd (cs:=#[.int .i64 0,.int .i64 0,.string (⟨#[]⟩:ByteArray)]) (t:=38) ?hr ?_;(case hd=>rfl);(case hg=>rfl);(case hr=>first|(go_simp;done)|(go_simp;rfl));intro gb160 hg w49 hbox hb;have BK160:=zq.mk (hbox);have GW160:=zq.mk ((by rw [hg];exact(zw bw):w.heap.size≤gb160));have GE160:=zq.mk ((by rw [hg];exact(zw bw):w.heap.size≤gb160));replace HB:=zq.mk (zn bw hb);have NB156_160:=zq.mk ((by rw [hg];exact Nat.ne_of_lt (zq3 (g:=gb156) (o:=.cells #[.string a0_0,.slice (some ad157) l0_1.length c0_1,.slice A0_2 l0_2.length c0_2,.slice A0_3 l0_3.length c0_3] 61 (0,0)) (by(with_reducible repeat(first|refine zz ?_ _|refine zk ?_|refine zj ?_ _));refine zqf ?_ NB156_158.out _;(with_reducible repeat(first|refine zz ?_ _|refine zk ?_|refine zj ?_ _));refine zqf ?_ NB156_158.out _;(with_reducible repeat(first|refine zz ?_ _|refine zk ?_|refine zj ?_ _));refine zqf ?_ NB156_158.out _;(with_reducible repeat(first|refine zz ?_ _|refine zk ?_|refine zj ?_ _));exact BK156.out)):gb156≠gb160));have NB160_156:=zq.mk ((by rw [hg];exact Nat.ne_of_gt (zq3 (g:=gb156) (o:=.cells #[.string a0_0,.slice (some ad157) l0_1.length c0_1,.slice A0_2 l0_2.length c0_2,.slice A0_3 l0_3.length c0_3] 61 (0,0)) (by(with_reducible repeat(first|refine zz ?_ _|refine zk ?_|refine zj ?_ _));refine zqf ?_ NB156_158.out _;(with_reducible repeat(first|refine zz ?_ _|refine zk ?_|refine zj ?_ _));refine zqf ?_ NB156_158.out _;(with_reducible repeat(first|refine zz ?_ _|refine zk ?_|refine zj ?_ _));refine zqf ?_ NB156_158.out _;(with_reducible repeat(first|refine zz ?_ _|refine zk ?_|refine zj ?_ _));exact BK156.out)):gb160≠gb156));replace BK156:=zq.mk (ze (g:=gb156) (o:=.cells #[.string a0_0,.slice (some ad157) l0_1.length c0_1,.slice A0_2 l0_2.length c0_2,.slice A0_3 l0_3.length c0_3] 61 (0,0)) (by(with_reducible repeat(first|refine zz ?_ _|refine zk ?_|refine zj ?_ _));refine zqf ?_ NB156_158.out _;(with_reducible repeat(first|refine zz ?_ _|refine zk ?_|refine zj ?_ _));refine zqf ?_ NB156_158.out _;(with_reducible repeat(first|refine zz ?_ _|refine zk ?_|refine zj ?_ _));refine zqf ?_ NB156_158.out _;(with_reducible repeat(first|refine zz ?_ _|refine zk ?_|refine zj ?_ _));exact BK156.out) hb);have NB158_160:=zq.mk ((by rw [hg];exact Nat.ne_of_lt (zq3 (g:=gb158) (o:=.cells #[.string ((qg l0_1 x18_1).f0),.int .i64 ((qg l0_1 x18_1).f1),.bool ((qg l0_1 x18_1).f2)] 90 (0,0)) (by(with_reducible repeat(first|refine zz ?_ _|refine zk ?_|refine zj ?_ _));refine qw (cs:=#[.string ((qg l0_1 x18_1).f0),.int .i64 ((qg l0_1 x18_1).f1),.bool false]) ?_ 2 _ rfl;(with_reducible repeat(first|refine zz ?_ _|refine zk ?_|refine zj ?_ _));refine qw (cs:=#[.string ((qg l0_1 x18_1).f0),.int .i64 0,.bool false]) ?_ 1 _ rfl;(with_reducible repeat(first|refine zz ?_ _|refine zk ?_|refine zj ?_ _));refine qw (cs:=#[.string (⟨#[]⟩:ByteArray),.int .i64 0,.bool false]) ?_ 0 _ rfl;(with_reducible repeat(first|refine zz ?_ _|refine zk ?_|refine zj ?_ _));exact BK158.out)):gb158≠gb160));have NB160_158:=zq.mk ((by rw [hg];exact Nat.ne_of_gt (zq3 (g:=gb158) (o:=.cells #[.string ((qg l0_1 x18_1).f0),.int .i64 ((qg l0_1 x18_1).f1),.bool ((qg l0_1 x18_1).f2)] 90 (0,0)) (by(with_reducible repeat(first|refine zz ?_ _|refine zk ?_|refine zj ?_ _));refine qw (cs:=#[.string ((qg l0_1 x18_1).f0),.int .i64 ((qg l0_1 x18_1).f1),.bool false]) ?_ 2 _ rfl;(with_reducible repeat(first|refine zz ?_ _|refine zk ?_|refine zj ?_ _));refine qw (cs:=#[.string ((qg l0_1 x18_1).f0),.int .i64 0,.bool false]) ?_ 1 _ rfl;(with_reducible repeat(first|refine zz ?_ _|refine zk ?_|refine zj ?_ _));refine qw (cs:=#[.string (⟨#[]⟩:ByteArray),.int .i64 0,.bool false]) ?_ 0 _ rfl;(with_reducible repeat(first|refine zz ?_ _|refine zk ?_|refine zj ?_ _));exact BK158.out)):gb160≠gb158));replace BK158:=zq.mk (ze (g:=gb158) (o:=.cells #[.string ((qg l0_1 x18_1).f0),.int .i64 ((qg l0_1 x18_1).f1),.bool ((qg l0_1 x18_1).f2)] 90 (0,0)) (by(with_reducible repeat(first|refine zz ?_ _|refine zk ?_|refine zj ?_ _));refine qw (cs:=#[.string ((qg l0_1 x18_1).f0),.int .i64 ((qg l0_1 x18_1).f1),.bool false]) ?_ 2 _ rfl;(with_reducible repeat(first|refine zz ?_ _|refine zk ?_|refine zj ?_ _));refine qw (cs:=#[.string ((qg l0_1 x18_1).f0),.int .i64 0,.bool false]) ?_ 1 _ rfl;(with_reducible repeat(first|refine zz ?_ _|refine zk ?_|refine zj ?_ _));refine qw (cs:=#[.string (⟨#[]⟩:ByteArray),.int .i64 0,.bool false]) ?_ 0 _ rfl;(with_reducible repeat(first|refine zz ?_ _|refine zk ?_|refine zj ?_ _));exact BK158.out) hb);clear hb hbox hg;have hnb50:=NB160_156.out;have hnc50:=NB156_160.out;have hnb51:=NB160_158.out;have hnc51:=NB158_160.out;obtain ⟨hcz52_0,hcz52_1,hcz52_2,hfz52_0,hfz52_1,hfz52_2⟩:=qd BK160.out)|((with_reducible refine qh (f:=57) rfl ?_);refine zqn (some 28) rfl rfl Tryd.func57 (by kernel_rfl) rfl #[.agg #[.int .i64 ((qf l1 x18_1).f0),.int .i64 ((qf l1 x18_1).f1),.string ((qf l1 x18_1).f2)]] rfl gs ?_;(with_reducible refine(zql.calls k1 ((qf l1 x18_1).f0) ((qf l1 x18_1).f1) ((qf l1 x18_1).f2) t161 _ ?side1 A10.out).mono ?_);(case side1=>exact LD.below HLD.out (by first|(with_reducible exact Below.refl _ _)|((repeat(first|(with_reducible exact Below.refl _ _)|(with_reducible apply zl)|(with_reducible apply zr)|(with_reducible apply qx)));done)|exact bw));rintro e w53 ⟨rfl,hb⟩;refine⟨_,rfl,?_⟩;replace BK156:=zq.mk (ze (g:=gb156) (o:=.cells #[.string a0_0,.slice (some ad157) l0_1.length c0_1,.slice A0_2 l0_2.length c0_2,.slice A0_3 l0_3.length c0_3] 61 (0,0)) (by(with_reducible repeat(first|refine zz ?_ _|refine zk ?_|refine zj ?_ _));refine zqf ?_ NB156_160.out _;(with_reducible repeat(first|refine zz ?_ _|refine zk ?_|refine zj ?_ _));refine zqf ?_ NB156_160.out _;(with_reducible repeat(first|refine zz ?_ _|refine zk ?_|refine zj ?_ _));refine zqf ?_ NB156_160.out _;(with_reducible repeat(first|refine zz ?_ _|refine zk ?_|refine zj ?_ _));exact BK156.out) hb);replace BK158:=zq.mk (ze (g:=gb158) (o:=.cells #[.string ((qg l0_1 x18_1).f0),.int .i64 ((qg l0_1 x18_1).f1),.bool ((qg l0_1 x18_1).f2)] 90 (0,0)) (by(with_reducible repeat(first|refine zz ?_ _|refine zk ?_|refine zj ?_ _));refine zqf ?_ NB158_160.out _;(with_reducible repeat(first|refine zz ?_ _|refine zk ?_|refine zj ?_ _));refine zqf ?_ NB158_160.out _;(with_reducible repeat(first|refine zz ?_ _|refine zk ?_|refine zj ?_ _));refine zqf ?_ NB158_160.out _;(with_reducible repeat(first|refine zz ?_ _|refine zk ?_|refine zj ?_ _));exact BK158.out) hb);replace BK160:=zq.mk (ze (g:=gb160) (o:=.cells #[.int .i64 ((qf l1 x18_1).f0),.int .i64 ((qf l1 x18_1).f1),.string ((qf l1 x18_1).f2)] 38 (0,0)) (by(with_reducible repeat(first|refine zz ?_ _|refine zk ?_|refine zj ?_ _));refine qw (cs:=#[.int .i64 ((qf l1 x18_1).f0),.int .i64 ((qf l1 x18_1).f1),.string (⟨#[]⟩:ByteArray)]) ?_ 2 _ rfl;(with_reducible repeat(first|refine zz ?_ _|refine zk ?_|refine zj ?_ _));refine qw (cs:=#[.int .i64 ((qf l1 x18_1).f0),.int .i64 0,.string (⟨#[]⟩:ByteArray)]) ?_ 1 _ rfl;(with_reducible repeat(first|refine zz ?_ _|refine zk ?_|refine zj ?_ _));refine qw (cs:=#[.int .i64 0,.int .i64 0,.string (⟨#[]⟩:ByteArray)]) ?_ 0 _ rfl;(with_reducible repeat(first|refine zz ?_ _|refine zk ?_|refine zj ?_ _));exact BK160.out) hb);replace HB:=zq.mk (zn bw hb);(try clear hb);(try clear hb2);(try clear hk);(try clear hi)))
        go_ret
        exact⟨by first|rfl|(simp [zg,zy] <;> rfl)|(simp [*,zg,zy] <;> rfl),bw⟩
       rw [if_neg c9] at H
       exact absurd H (by simp)
      rw [if_neg c8] at H
      exact absurd H (by simp)
     rw [if_neg c7] at H
     exact absurd H (by simp)
    rw [if_neg c6] at H
    have c6b0:=decide_eq_false c6
    clear c6
    obtain rfl:=Option.some.inj H
    go_wp2
    go_ret
    exact⟨by first|rfl|(simp [zg,zy] <;> rfl)|(simp [*,zg,zy] <;> rfl),bw⟩
 rw [if_neg c3] at H
 have c3b0:((l1.length:Int) == (l0_1.length:Int))=false:=beq_eq_false_iff_ne.mpr c3
 have c3b1:((l1.length:Int) != (l0_1.length:Int))=true:=bne_iff_ne.mpr c3
 have c3b2:(l1.length == l0_1.length)=false:=by first|simpa using c3|(simp at c3 ⊢;omega)
 obtain rfl:=Option.some.inj H
 go_enter Tryd.func29,Tryd.ntmps29
 go_wp2_with (first|((with_reducible refine qr (N:=2) rfl ?_);refine qm ?hg (N:=2) ?hd (cs:=#[.string a0_0,.slice A0_1 l0_1.length c0_1,.slice A0_2 l0_2.length c0_2,.slice A0_3 l0_3.length c0_3]) (t:=61) ?hr ?_;(case hd=>rfl);(case hg=>rfl);(case hr=>first|(go_simp;done)|(go_simp;rfl));intro gb156 hg w54 hbox hb;have BK156:=zq.mk (hbox);have GW156:=zq.mk ((by rw [hg];exact(zw bw):w.heap.size≤gb156));have GE156:=zq.mk ((by rw [hg];exact(zw bw):w.heap.size≤gb156));replace HB:=zq.mk (zn bw hb);clear hb hbox hg;obtain ⟨hcz55_0,hcz55_1,hcz55_2,hcz55_3,hfz55_0,hfz55_1,hfz55_2,hfz55_3⟩:=zqv BK156.out))
 go_ret
 exact⟨by first|rfl|(simp [zg,zy] <;> rfl)|(simp [*,zg,zy] <;> rfl),bw⟩

/-! ### qv: function 99, by hand -/
-- HAND rounds=0 making=1 imports=Derived.Lib.ConvBytes
-- INFO 5
def qv.f (_a0:Int):Option Int:=none
def qv.esc (l:List Int):List Int:=l.flatMap fun x=>if x=0 then [0,255] else [x]
def qv.byte (n:Int) (i:Nat):Int:=n / 2 ^ (56 - 8 * i) % 256
def qv.bytes (n:Int) (j:Nat):List Int:=(List.range j).map (qv.byte n)
def qv.enc (a b:Int) (s:ByteArray):List Int:=
 if a=0 then [1] else if a=1 then [(2+b) % 256]
 else if a=2 then 4 :: qv.bytes (Go.bits .xor .u64 (IntKind.u64.wrap b) 9223372036854775808) 8
 else 5 :: (qv.esc (bytesOf s) ++ [0,1])
theorem qv.zjx (n:Int) (j:Nat):(qv.bytes n j).length=j:=by simp [qv.bytes]
theorem qv.zxs (n:Int) (j:Nat):qv.bytes n (j+1)=qv.bytes n j ++ [qv.byte n j]:=by simp [qv.bytes,List.range_succ]
theorem qv.b0 (n:Int):qv.byte n 0=n / 72057594037927936 % 256:=by simp [qv.byte]
theorem qv.b1 (n:Int):qv.byte n 1=n / 281474976710656 % 256:=by simp [qv.byte]
theorem qv.b2 (n:Int):qv.byte n 2=n / 1099511627776 % 256:=by simp [qv.byte]
theorem qv.b3 (n:Int):qv.byte n 3=n / 4294967296 % 256:=by simp [qv.byte]
theorem qv.b4 (n:Int):qv.byte n 4=n / 16777216 % 256:=by simp [qv.byte]
theorem qv.b5 (n:Int):qv.byte n 5=n / 65536 % 256:=by simp [qv.byte]
theorem qv.b6 (n:Int):qv.byte n 6=n / 256 % 256:=by simp [qv.byte]
theorem qv.b7 (n:Int):qv.byte n 7=n % 256:=by simp [qv.byte]
theorem qv.esc_take (l:List Int) (j:Nat) (h:j<l.length):qv.esc (l.take (j+1))=qv.esc (l.take j) ++ (if l[j]=0 then [0,255] else [l[j]]):=by
 rw [List.take_succ_eq_append_getElem h,qv.esc,List.flatMap_append]
 simp [qv.esc]
theorem qv.esc_le (l:List Int) (j:Nat):(qv.esc (l.take j)).length≤(qv.esc l).length:=by
 have h:(qv.esc (l.take j) ++ qv.esc (l.drop j)).length=(qv.esc l).length:=by
  unfold qv.esc
  rw [← List.flatMap_append,List.take_append_drop]
 rw [List.length_append] at h
 omega
theorem qv.esc_ge (l:List Int):l.length≤(qv.esc l).length:=by
 induction l with
 | nil=>exact Nat.le_refl _
 | cons x r ih=>
  have e:qv.esc (x :: r)=(if x=0 then [0,255] else [x]) ++ qv.esc r:=by simp [qv.esc]
  rw [e,List.length_append,List.length_cons]
  split <;> simp <;> omega
theorem qv.lit2 {w:World} {b:Nat} {x y:Int} (h0:w.cell? ⟨b,0,none⟩=some (.int .u8 x)) (h1:w.cell? ⟨b,1,none⟩=some (.int .u8 y)) :
  Kd.C (Kd.int .u8) w (some ⟨b,0,none⟩) [x,y].length [x,y]:=by
 refine⟨rfl,by simp,fun _=>⟨_,rfl,fun j q hq=>⟨[.int .u8 q],rfl,rfl,fun i u hu=>?_⟩⟩⟩
 obtain rfl:i=0:=by
  rcases i with _|i
  ·rfl
  simp at hu
 obtain rfl:Value.int .u8 q=u:=by simpa using hu
 rw [show(⟨b,0,none⟩:Addr).add (j * (Kd.int .u8).sz+0)=⟨b,j,none⟩ from by rw [add_plain];show(⟨_,j * 1+0,none⟩:Addr)=_;simp]
 have hj:j<2:=(List.getElem?_eq_some_iff.1 hq).1
 have hj':j=0∨j=1:=by omega
 rcases hj' with rfl|rfl <;> (simp at hq;subst hq;assumption)
set_option maxRecDepth 100000 in
set_option maxHeartbeats 4000000 in
theorem qv.null (w0 w:World) (A0:Option Addr) (c0:Nat) (xs:List Int) (a b:Int) (s:ByteArray) (ho:Kd.R (Kd.int .u8) 5 w w0.heap.size (fun _=>True) (.slice A0 xs.length c0) xs) (hb:Below w0.heap.size w0 w)
  (hl:xs.length+(qv.enc a b s).length<140737488355328) (ha:a=0) :
  Calls Tryd.prog 99 #[.slice A0 xs.length c0,.agg #[.int .i64 a,.int .i64 b,.string s]] w fun e w' => ∃ v:Value,e = .returned v∧Kd.R (Kd.int .u8) 5 w' w0.heap.size (fun _=>True) v (xs ++ qv.enc a b s)∧Below w0.heap.size w0 w':=by
 subst ha
 have HO:=zq.mk ho
 have HB:=zq.mk hb
 have LM:=zq.mk (show xs.length+1<140737488355328 from hl)
 have he:qv.enc 0 b s = [1]:=rfl
 rw [he]
 clear ho hb hl he
 go_enter Tryd.func99,Tryd.ntmps99
 go_wp2_with (at_builtin;refine Kd.zjj (Kd.int .u8) (w0:=w0) w0.heap.size rfl _ _ 30 5 (.int .u8 0) 1 rfl Tryd.underlying30 zxr rfl (by decide) (by omega) (.slice A0 xs.length c0) (xs) ?np1 _ (fun _=>True) (fun _=>False) rfl ?hx ?aP (fun _ hk=>hk.elim) ?aF ?aO ?aB ?aS ?aL ?_;(case aP=>exact rfl);(case hx=>first|exact rfl|(simp [go_sem];done));(case aO=>(with_reducible repeat(first|apply Kd.zq5|apply Kd.zq7|apply Kd.zjf));exact HO.out);(case aB=>exact bw);(case aF=>exact(fun _ _=>trivial));(case aS=>exact(zw bw));(case aL=>have:=LM.out;omega);intro v1 w1 ho hb hg hat;have n0_:=zq.mk hb;have n1_:=zq.mk ho;clear HB HO;have HB:=n0_;have HO:=n1_;clear n0_ n1_ ho hb hg hat)
 go_ret
 exact⟨_,rfl,HO.out,HB.out⟩
set_option maxRecDepth 100000 in
set_option maxHeartbeats 4000000 in
theorem qv.truth (w0 w:World) (A0:Option Addr) (c0:Nat) (xs:List Int) (a b:Int) (s:ByteArray) (ho:Kd.R (Kd.int .u8) 5 w w0.heap.size (fun _=>True) (.slice A0 xs.length c0) xs) (hb:Below w0.heap.size w0 w)
  (hl:xs.length+(qv.enc a b s).length<140737488355328) (ha:a=1) :
  Calls Tryd.prog 99 #[.slice A0 xs.length c0,.agg #[.int .i64 a,.int .i64 b,.string s]] w fun e w' => ∃ v:Value,e = .returned v∧Kd.R (Kd.int .u8) 5 w' w0.heap.size (fun _=>True) v (xs ++ qv.enc a b s)∧Below w0.heap.size w0 w':=by
 subst ha
 have HO:=zq.mk ho
 have HB:=zq.mk hb
 have LM:=zq.mk (show xs.length+1<140737488355328 from hl)
 have he:qv.enc 1 b s = [(2+b) % 256]:=rfl
 rw [he]
 clear ho hb hl he
 go_enter Tryd.func99,Tryd.ntmps99
 go_wp2_with (at_builtin;refine Kd.zjj (Kd.int .u8) (w0:=w0) w0.heap.size rfl _ _ 30 5 (.int .u8 0) 1 rfl Tryd.underlying30 zxr rfl (by decide) (by omega) (.slice A0 xs.length c0) (xs) ?np1 _ (fun _=>True) (fun _=>False) rfl ?hx ?aP (fun _ hk=>hk.elim) ?aF ?aO ?aB ?aS ?aL ?_;(case aP=>exact rfl);(case hx=>first|exact rfl|(simp [go_sem];done));(case aO=>(with_reducible repeat(first|apply Kd.zq5|apply Kd.zq7|apply Kd.zjf));exact HO.out);(case aB=>exact bw);(case aF=>exact(fun _ _=>trivial));(case aS=>exact(zw bw));(case aL=>have:=LM.out;omega);intro v1 w1 ho hb hg hat;have n0_:=zq.mk hb;have n1_:=zq.mk ho;clear HB HO;have HB:=n0_;have HO:=n1_;clear n0_ n1_ ho hb hg hat)
 go_ret
 exact⟨_,rfl,HO.out,HB.out⟩
set_option maxRecDepth 100000 in
set_option maxHeartbeats 4000000 in
theorem qv.int_ (w0 w:World) (A0:Option Addr) (c0:Nat) (xs:List Int) (a b:Int) (s:ByteArray) (ho:Kd.R (Kd.int .u8) 5 w w0.heap.size (fun _=>True) (.slice A0 xs.length c0) xs) (hb:Below w0.heap.size w0 w)
  (hl:xs.length+(qv.enc a b s).length<140737488355328) (ha:a=2) :
  Calls Tryd.prog 99 #[.slice A0 xs.length c0,.agg #[.int .i64 a,.int .i64 b,.string s]] w fun e w' => ∃ v:Value,e = .returned v∧Kd.R (Kd.int .u8) 5 w' w0.heap.size (fun _=>True) v (xs ++ qv.enc a b s)∧Below w0.heap.size w0 w':=by
 subst ha
 have HO:=zq.mk (Kd.zqy (Kd.zxc ho) (fun k hk=>Nat.ne_of_lt hk.2.2.1):Kd.R (Kd.int .u8) 5 w w0.heap.size (fun k_=>k_≠w.heap.size) (.slice A0 xs.length c0) xs)
 have HB:=zq.mk hb
 have he:qv.enc 2 b s=4 :: qv.bytes (Go.bits .xor .u64 (IntKind.u64.wrap b) 9223372036854775808) 8:=rfl
 rw [he] at hl ⊢
 have LM:=zq.mk (show xs.length+9<140737488355328 by rw [List.length_cons,qv.zjx] at hl;exact hl)
 clear ho hb hl he
 go_enter Tryd.func99,Tryd.ntmps99
 go_wp2_with (at_builtin;refine Kd.zjj (Kd.int .u8) (w0:=w0) w0.heap.size rfl _ _ 30 5 (.int .u8 0) 1 rfl Tryd.underlying30 zxr rfl (by decide) (by omega) (.slice A0 xs.length c0) (xs) ?np1 _ (fun k_=>k_≠w.heap.size) (fun _=>False) rfl ?hx ?aP (fun _ hk=>hk.elim) ?aF ?aO ?aB ?aS ?aL ?_;(case aP=>exact rfl);(case hx=>first|exact rfl|(simp [go_sem];done));(case aO=>(with_reducible repeat(first|apply Kd.zq5|apply Kd.zq7|apply Kd.zjf));exact HO.out);(case aB=>exact bw);(case aF=>exact(fun k_ h_=>by simp at h_;omega));(case aS=>exact(zw bw));(case aL=>have:=LM.out;omega);intro v1 w1 ho hb hg hat;have hx1:w1.cell? ⟨w.heap.size,1,none⟩=some (.int .i64 b):=(hg.cell_far ⟨w.heap.size,1,none⟩ (by simp [go_sem]) (fun e_=>HO.out.1 _ e_.symm rfl)).trans (by simp [go_sem]);have GS:=zq.mk (show w.heap.size<w1.heap.size by have h_:=hg.size;simp at h_;omega);have n0_:=zq.mk hb;have n1_:=zq.mk ho;clear HB HO;have HB:=n0_;have HO:=n1_;clear n0_ n1_ ho hb hg hat)
 generalize hN:Go.bits .xor .u64 (IntKind.u64.wrap b) 9223372036854775808=n at *
 go_loopw [0,6] (fun o i wr => ∃ j:Nat,j≤8∧i = .int .i64 (56 - 8 * (j:Int))∧zq (Kd.R (Kd.int .u8) 5 wr w0.heap.size (fun _=>True) o (xs ++ [4] ++ qv.bytes n j))∧zq (Below w0.heap.size w0 wr)) (fun _ i _=>(intOf i+8).toNat)
 case atStart=>exact⟨0,by omega,rfl,⟨by rw [show qv.bytes n 0 = [] from rfl,List.append_nil];exact Kd.zqy HO.out (fun _ _=>trivial)⟩,HB⟩
 case round=>
  obtain ⟨j,hj,rfl,HO,HB⟩:=hrel
  have hj':j=0∨j=1∨j=2∨j=3∨j=4∨j=5∨j=6∨j=7∨j=8:=by omega
  rcases hj' with rfl|rfl|rfl|rfl|rfl|rfl|rfl|rfl|rfl
  ·go_wp2_with (at_builtin;refine Kd.zjj (Kd.int .u8) (w0:=w0) w0.heap.size rfl _ _ 30 5 (.int .u8 0) 1 rfl Tryd.underlying30 zxr rfl (by decide) (by omega) u0 (xs ++ [4] ++ qv.bytes n 0) ?np2 _ (fun _=>True) (fun _=>False) rfl ?hx ?aP (fun _ hk=>hk.elim) ?aF ?aO ?aB ?aS ?aL ?_;(case aP=>exact rfl);(case hx=>first|exact rfl|(simp [go_sem];done));(case aO=>(with_reducible repeat(first|apply Kd.zq5|apply Kd.zq7|apply Kd.zjf));exact HO.out);(case aB=>exact bw);(case aF=>exact(fun _ _=>trivial));(case aS=>exact(zw bw));(case aL=>rw [List.length_append,List.length_append,qv.zjx];have:=LM.out;simp;omega);intro v2 w2 ho hb hg hat;have n0_:=zq.mk hb;have n1_:=zq.mk ho;clear HB HO;have HB:=n0_;have HO:=n1_;clear n0_ n1_ ho hb hg hat)
   go_roundw
   case rel=>exact⟨1,by omega,by go_num,⟨by have h_:=HO.out;rw [← qv.b0,List.append_assoc, ← qv.zxs] at h_;exact h_⟩,HB⟩
   case measure=>simp [intOf]
  ·go_wp2_with (at_builtin;refine Kd.zjj (Kd.int .u8) (w0:=w0) w0.heap.size rfl _ _ 30 5 (.int .u8 0) 1 rfl Tryd.underlying30 zxr rfl (by decide) (by omega) u0 (xs ++ [4] ++ qv.bytes n 1) ?np3 _ (fun _=>True) (fun _=>False) rfl ?hx ?aP (fun _ hk=>hk.elim) ?aF ?aO ?aB ?aS ?aL ?_;(case aP=>exact rfl);(case hx=>first|exact rfl|(simp [go_sem];done));(case aO=>(with_reducible repeat(first|apply Kd.zq5|apply Kd.zq7|apply Kd.zjf));exact HO.out);(case aB=>exact bw);(case aF=>exact(fun _ _=>trivial));(case aS=>exact(zw bw));(case aL=>rw [List.length_append,List.length_append,qv.zjx];have:=LM.out;simp;omega);intro v3 w3 ho hb hg hat;have n0_:=zq.mk hb;have n1_:=zq.mk ho;clear HB HO;have HB:=n0_;have HO:=n1_;clear n0_ n1_ ho hb hg hat)
   go_roundw
   case rel=>exact⟨2,by omega,by go_num,⟨by have h_:=HO.out;rw [← qv.b1,List.append_assoc, ← qv.zxs] at h_;exact h_⟩,HB⟩
   case measure=>simp [intOf]
  ·go_wp2_with (at_builtin;refine Kd.zjj (Kd.int .u8) (w0:=w0) w0.heap.size rfl _ _ 30 5 (.int .u8 0) 1 rfl Tryd.underlying30 zxr rfl (by decide) (by omega) u0 (xs ++ [4] ++ qv.bytes n 2) ?np4 _ (fun _=>True) (fun _=>False) rfl ?hx ?aP (fun _ hk=>hk.elim) ?aF ?aO ?aB ?aS ?aL ?_;(case aP=>exact rfl);(case hx=>first|exact rfl|(simp [go_sem];done));(case aO=>(with_reducible repeat(first|apply Kd.zq5|apply Kd.zq7|apply Kd.zjf));exact HO.out);(case aB=>exact bw);(case aF=>exact(fun _ _=>trivial));(case aS=>exact(zw bw));(case aL=>rw [List.length_append,List.length_append,qv.zjx];have:=LM.out;simp;omega);intro v4 w4 ho hb hg hat;have n0_:=zq.mk hb;have n1_:=zq.mk ho;clear HB HO;have HB:=n0_;have HO:=n1_;clear n0_ n1_ ho hb hg hat)
   go_roundw
   case rel=>exact⟨3,by omega,by go_num,⟨by have h_:=HO.out;rw [← qv.b2,List.append_assoc, ← qv.zxs] at h_;exact h_⟩,HB⟩
   case measure=>simp [intOf]
  ·go_wp2_with (at_builtin;refine Kd.zjj (Kd.int .u8) (w0:=w0) w0.heap.size rfl _ _ 30 5 (.int .u8 0) 1 rfl Tryd.underlying30 zxr rfl (by decide) (by omega) u0 (xs ++ [4] ++ qv.bytes n 3) ?np5 _ (fun _=>True) (fun _=>False) rfl ?hx ?aP (fun _ hk=>hk.elim) ?aF ?aO ?aB ?aS ?aL ?_;(case aP=>exact rfl);(case hx=>first|exact rfl|(simp [go_sem];done));(case aO=>(with_reducible repeat(first|apply Kd.zq5|apply Kd.zq7|apply Kd.zjf));exact HO.out);(case aB=>exact bw);(case aF=>exact(fun _ _=>trivial));(case aS=>exact(zw bw));(case aL=>rw [List.length_append,List.length_append,qv.zjx];have:=LM.out;simp;omega);intro v5 w5 ho hb hg hat;have n0_:=zq.mk hb;have n1_:=zq.mk ho;clear HB HO;have HB:=n0_;have HO:=n1_;clear n0_ n1_ ho hb hg hat)
   go_roundw
   case rel=>exact⟨4,by omega,by go_num,⟨by have h_:=HO.out;rw [← qv.b3,List.append_assoc, ← qv.zxs] at h_;exact h_⟩,HB⟩
   case measure=>simp [intOf]
  ·go_wp2_with (at_builtin;refine Kd.zjj (Kd.int .u8) (w0:=w0) w0.heap.size rfl _ _ 30 5 (.int .u8 0) 1 rfl Tryd.underlying30 zxr rfl (by decide) (by omega) u0 (xs ++ [4] ++ qv.bytes n 4) ?np6 _ (fun _=>True) (fun _=>False) rfl ?hx ?aP (fun _ hk=>hk.elim) ?aF ?aO ?aB ?aS ?aL ?_;(case aP=>exact rfl);(case hx=>first|exact rfl|(simp [go_sem];done));(case aO=>(with_reducible repeat(first|apply Kd.zq5|apply Kd.zq7|apply Kd.zjf));exact HO.out);(case aB=>exact bw);(case aF=>exact(fun _ _=>trivial));(case aS=>exact(zw bw));(case aL=>rw [List.length_append,List.length_append,qv.zjx];have:=LM.out;simp;omega);intro v6 w6 ho hb hg hat;have n0_:=zq.mk hb;have n1_:=zq.mk ho;clear HB HO;have HB:=n0_;have HO:=n1_;clear n0_ n1_ ho hb hg hat)
   go_roundw
   case rel=>exact⟨5,by omega,by go_num,⟨by have h_:=HO.out;rw [← qv.b4,List.append_assoc, ← qv.zxs] at h_;exact h_⟩,HB⟩
   case measure=>simp [intOf]
  ·go_wp2_with (at_builtin;refine Kd.zjj (Kd.int .u8) (w0:=w0) w0.heap.size rfl _ _ 30 5 (.int .u8 0) 1 rfl Tryd.underlying30 zxr rfl (by decide) (by omega) u0 (xs ++ [4] ++ qv.bytes n 5) ?np7 _ (fun _=>True) (fun _=>False) rfl ?hx ?aP (fun _ hk=>hk.elim) ?aF ?aO ?aB ?aS ?aL ?_;(case aP=>exact rfl);(case hx=>first|exact rfl|(simp [go_sem];done));(case aO=>(with_reducible repeat(first|apply Kd.zq5|apply Kd.zq7|apply Kd.zjf));exact HO.out);(case aB=>exact bw);(case aF=>exact(fun _ _=>trivial));(case aS=>exact(zw bw));(case aL=>rw [List.length_append,List.length_append,qv.zjx];have:=LM.out;simp;omega);intro v7 w7 ho hb hg hat;have n0_:=zq.mk hb;have n1_:=zq.mk ho;clear HB HO;have HB:=n0_;have HO:=n1_;clear n0_ n1_ ho hb hg hat)
   go_roundw
   case rel=>exact⟨6,by omega,by go_num,⟨by have h_:=HO.out;rw [← qv.b5,List.append_assoc, ← qv.zxs] at h_;exact h_⟩,HB⟩
   case measure=>simp [intOf]
  ·go_wp2_with (at_builtin;refine Kd.zjj (Kd.int .u8) (w0:=w0) w0.heap.size rfl _ _ 30 5 (.int .u8 0) 1 rfl Tryd.underlying30 zxr rfl (by decide) (by omega) u0 (xs ++ [4] ++ qv.bytes n 6) ?np8 _ (fun _=>True) (fun _=>False) rfl ?hx ?aP (fun _ hk=>hk.elim) ?aF ?aO ?aB ?aS ?aL ?_;(case aP=>exact rfl);(case hx=>first|exact rfl|(simp [go_sem];done));(case aO=>(with_reducible repeat(first|apply Kd.zq5|apply Kd.zq7|apply Kd.zjf));exact HO.out);(case aB=>exact bw);(case aF=>exact(fun _ _=>trivial));(case aS=>exact(zw bw));(case aL=>rw [List.length_append,List.length_append,qv.zjx];have:=LM.out;simp;omega);intro v8 w8 ho hb hg hat;have n0_:=zq.mk hb;have n1_:=zq.mk ho;clear HB HO;have HB:=n0_;have HO:=n1_;clear n0_ n1_ ho hb hg hat)
   go_roundw
   case rel=>exact⟨7,by omega,by go_num,⟨by have h_:=HO.out;rw [← qv.b6,List.append_assoc, ← qv.zxs] at h_;exact h_⟩,HB⟩
   case measure=>simp [intOf]
  ·go_wp2_with (at_builtin;refine Kd.zjj (Kd.int .u8) (w0:=w0) w0.heap.size rfl _ _ 30 5 (.int .u8 0) 1 rfl Tryd.underlying30 zxr rfl (by decide) (by omega) u0 (xs ++ [4] ++ qv.bytes n 7) ?np9 _ (fun _=>True) (fun _=>False) rfl ?hx ?aP (fun _ hk=>hk.elim) ?aF ?aO ?aB ?aS ?aL ?_;(case aP=>exact rfl);(case hx=>first|exact rfl|(simp [go_sem];done));(case aO=>(with_reducible repeat(first|apply Kd.zq5|apply Kd.zq7|apply Kd.zjf));exact HO.out);(case aB=>exact bw);(case aF=>exact(fun _ _=>trivial));(case aS=>exact(zw bw));(case aL=>rw [List.length_append,List.length_append,qv.zjx];have:=LM.out;simp;omega);intro v9 w9 ho hb hg hat;have n0_:=zq.mk hb;have n1_:=zq.mk ho;clear HB HO;have HB:=n0_;have HO:=n1_;clear n0_ n1_ ho hb hg hat)
   go_roundw
   case rel=>exact⟨8,by omega,by go_num,⟨by have h_:=HO.out;rw [← qv.b7,List.append_assoc, ← qv.zxs] at h_;exact h_⟩,HB⟩
   case measure=>simp [intOf]
  go_wp2
  go_ret
  subst hN
  exact⟨_,rfl,by have h_:=HO.out;rw [List.append_assoc] at h_;exact h_,HB.out⟩
set_option maxRecDepth 100000 in
set_option maxHeartbeats 4000000 in
theorem qv.text (w0 w:World) (A0:Option Addr) (c0:Nat) (xs:List Int) (a b:Int) (s:ByteArray) (ho:Kd.R (Kd.int .u8) 5 w w0.heap.size (fun _=>True) (.slice A0 xs.length c0) xs) (hb:Below w0.heap.size w0 w)
  (hl:xs.length+(qv.enc a b s).length<140737488355328) (h0:a≠0) (h1:a≠1) (h2:a≠2) :
  Calls Tryd.prog 99 #[.slice A0 xs.length c0,.agg #[.int .i64 a,.int .i64 b,.string s]] w fun e w' => ∃ v:Value,e = .returned v∧Kd.R (Kd.int .u8) 5 w' w0.heap.size (fun _=>True) v (xs ++ qv.enc a b s)∧Below w0.heap.size w0 w':=by
 have HO:=zq.mk (Kd.zqy (Kd.zxc ho) (fun k hk=>Nat.ne_of_lt hk.2.2.1):Kd.R (Kd.int .u8) 5 w w0.heap.size (fun k_=>k_≠w.heap.size) (.slice A0 xs.length c0) xs)
 have HB:=zq.mk hb
 have he:qv.enc a b s=5 :: (qv.esc (bytesOf s) ++ [0,1]):=by unfold qv.enc;rw [if_neg h0,if_neg h1,if_neg h2]
 rw [he] at hl ⊢
 have LM:=zq.mk (show xs.length+(qv.esc (bytesOf s)).length+3<140737488355328 by rw [List.length_cons,List.length_append] at hl;simp at hl;omega)
 have hcv:=fun W:World=>print_bytes (P:=Tryd.prog) 9 30 5 Tryd.underlying9 Tryd.underlying30 Tryd.underlying5 s W
 have hs:s.size≤140737488355328:=by
  have h_:=qv.esc_ge (bytesOf s)
  rw [bytesOf_length] at h_
  have:=LM.out
  omega
 have q0:(a == 0)=false:=by simpa using h0
 have q1:(a == 1)=false:=by simpa using h1
 have q2:(a == 2)=false:=by simpa using h2
 clear ho hb hl he
 go_enter Tryd.func99,Tryd.ntmps99
 go_wp2_with (at_builtin;refine Kd.zjj (Kd.int .u8) (w0:=w0) w0.heap.size rfl _ _ 30 5 (.int .u8 0) 1 rfl Tryd.underlying30 zxr rfl (by decide) (by omega) (.slice A0 xs.length c0) (xs) ?np1 _ (fun k_=>k_≠w.heap.size) (fun _=>False) rfl ?hx ?aP (fun _ hk=>hk.elim) ?aF ?aO ?aB ?aS ?aL ?_;(case aP=>exact rfl);(case hx=>first|exact rfl|(simp [go_sem];done));(case aO=>(with_reducible repeat(first|apply Kd.zq5|apply Kd.zq7|apply Kd.zjf));exact HO.out);(case aB=>exact bw);(case aF=>exact(fun k_ h_=>by simp at h_;omega));(case aS=>exact(zw bw));(case aL=>have:=LM.out;omega);intro v1 w1 ho hb hg hat;have hx1:w1.cell? ⟨w.heap.size,2,none⟩=some (.string s):=(hg.cell_far ⟨w.heap.size,2,none⟩ (by simp [go_sem]) (fun e_=>HO.out.1 _ e_.symm rfl)).trans (by simp [go_sem]);have GS:=zq.mk (show w.heap.size<w1.heap.size by have h_:=hg.size;simp at h_;omega);have n0_:=zq.mk hb;have n1_:=zq.mk ho;clear HB HO;have HB:=n0_;have HO:=n1_;clear n0_ n1_ ho hb hg hat)
 have HX:=zq.mk (fun j hj=>Lib.bytesWorld_cell w1 5 s j hj)
 have HG:=zq.mk (Lib.bytesWorld_at_new w1 5 s)
 have HB2:=zq.mk (zwb HB.out (zw HB.out) 5 s)
 have HO2:=zq.mk (Kd.zqy (Kd.zxc (Kd.zq4 (w1:=Lib.bytesWorld w1 5 s) (Kd.zqy (Kd.zxc HO.out) (fun k hk=>Nat.ne_of_lt hk.2.2.1):Kd.R (Kd.int .u8) 5 w1 w0.heap.size (fun k_=>k_≠w1.heap.size) v1 (xs ++ [5])) (zwb (Below.refl _ _) (Nat.le_refl _) 5 s))) (fun k hk=>hk.1):Kd.R (Kd.int .u8) 5 (Lib.bytesWorld w1 5 s) w0.heap.size (fun k_=>k_≠w1.heap.size) v1 (xs ++ [5]))
 have GT:=zq.mk (show w1.heap.size<(Lib.bytesWorld w1 5 s).heap.size by rw [Lib.bytesWorld_size];omega)
 clear HO HB hx1 GS hcv
 generalize hcap:grownCap w1 s.size 0 5=cap_
 clear hcap
 go_loopw [0,8,53] (fun o x i wr => ∃ j:Nat,j≤s.size∧i = .int .i64 j∧zq (Kd.R (Kd.int .u8) 5 wr w0.heap.size (fun k_=>k_≠w1.heap.size) o (xs ++ [5] ++ qv.esc ((bytesOf s).take j)))∧zq (Below w0.heap.size w0 wr)∧zq (wr.heap[w1.heap.size]? = some (.cells (Lib.bytesCells w1 5 s) 5 ((Lib.bytesCells w1 5 s).size,(Lib.bytesCells w1 5 s).size+1)))∧zq (w1.heap.size<wr.heap.size)) (fun _ _ i _=>s.size - (intOf i).toNat)
 case atStart=>exact⟨0,by omega,rfl,⟨by rw [List.take_zero,show qv.esc [] = [] from rfl,List.append_nil];exact HO2.out⟩,HB2,HG,GT⟩
 case round=>
  clear HO2 HB2 HG GT
  obtain ⟨j,hj,rfl,HO,HB,HG,GT⟩:=hrel
  by_cases hlt:j<s.size
  ·have hbl:j<(bytesOf s).length:=by rw [bytesOf_length];exact hlt
   have hce:wr.cell? ⟨w1.heap.size,j,none⟩=some (.int .u8 (bytesOf s)[j]):=by
    have h_:=HX.out j hlt
    have e_:wr.cell? ⟨w1.heap.size,j,none⟩=(Lib.bytesWorld w1 5 s).cell? ⟨w1.heap.size,j,none⟩:=by simp only [World.cell?,HG.out,Lib.bytesWorld_at_new]
    rw [e_,h_]
    simp [bytesOf,List.getD_eq_getElem?_getD]
    rw [Array.getElem?_eq_getElem (show j<s.data.size from hlt)]
    rfl
   have hes:=qv.esc_take (bytesOf s) j hbl
   have hle:=qv.esc_le (bytesOf s) (j+1)
   generalize (bytesOf s)[j]=x at *
   by_cases hx0:x=0
   ·subst hx0
    rw [if_pos rfl] at hes
    rw [hes,List.length_append] at hle
    have HES:=zq.mk hes
    have LY:=zq.mk (show xs.length+(qv.esc ((bytesOf s).take j)).length+5<140737488355328 by have h_:=LM.out;simp at hle;omega)
    clear hes hle
    generalize qv.esc ((bytesOf s).take j)=y at *
    go_wp2_with (first|(at_builtin;refine Kd.zjj (Kd.int .u8) (w0:=w0) w0.heap.size rfl _ _ 30 5 (.int .u8 0) 1 rfl Tryd.underlying30 zxr rfl (by decide) (by omega) u0 (xs ++ [5] ++ y) ?np20 _ (fun k_=>k_≠w1.heap.size) (fun _=>False) rfl ?hx ?aP (fun _ hk=>hk.elim) ?aF ?aO ?aB ?aS ?aL ?_;(case aP=>exact rfl);(case hx=>first|exact rfl|(simp [go_sem];done));(case aO=>(with_reducible repeat(first|apply Kd.zq5|apply Kd.zq7|apply Kd.zjf));exact HO.out);(case aB=>exact bw);(case aF=>exact(fun k_ h_=>Nat.ne_of_gt (Nat.lt_of_lt_of_le GT.out h_)));(case aS=>exact(zw bw));(case aL=>simp only [List.length_append,List.length_cons,List.length_nil];have:=LY.out;omega);intro v20 w20 ho hb hg hat;have HG_:=zq.mk ((hg.block w1.heap.size (by have h_:=GT.out;simpa using h_) (fun e_=>HO.out.1 _ e_.symm rfl)).trans (by first|exact HG.out|simpa using HG.out));have GT_:=zq.mk (Nat.lt_of_lt_of_le GT.out (by have h_:=hg.size;simpa using h_));clear HG GT;have HG:=HG_;have GT:=GT_;clear HG_ GT_;have n0_:=zq.mk hb;have n1_:=zq.mk ho;clear HB HO;have HB:=n0_;have HO:=n1_;clear n0_ n1_ ho hb hg hat)|(at_builtin;refine Kd.zjj (Kd.int .u8) (w0:=w0) w0.heap.size rfl _ _ 30 5 (.int .u8 0) 1 rfl Tryd.underlying30 zxr rfl (by decide) (by omega) v20 (xs ++ [5] ++ y ++ [0]) ?np21 _ (fun k_=>k_≠w1.heap.size) (fun _=>False) rfl ?hx ?aP (fun _ hk=>hk.elim) ?aF ?aO ?aB ?aS ?aL ?_;(case aP=>exact rfl);(case hx=>first|exact rfl|(simp [go_sem];done));(case aO=>(with_reducible repeat(first|apply Kd.zq5|apply Kd.zq7|apply Kd.zjf));exact HO.out);(case aB=>exact bw);(case aF=>exact(fun k_ h_=>Nat.ne_of_gt (Nat.lt_of_lt_of_le GT.out h_)));(case aS=>exact(zw bw));(case aL=>simp only [List.length_append,List.length_cons,List.length_nil];have:=LY.out;omega);intro v21 w21 ho hb hg hat;have HG_:=zq.mk ((hg.block w1.heap.size (by have h_:=GT.out;simpa using h_) (fun e_=>HO.out.1 _ e_.symm rfl)).trans (by first|exact HG.out|simpa using HG.out));have GT_:=zq.mk (Nat.lt_of_lt_of_le GT.out (by have h_:=hg.size;simpa using h_));clear HG GT;have HG:=HG_;have GT:=GT_;clear HG_ GT_;have n0_:=zq.mk hb;have n1_:=zq.mk ho;clear HB HO;have HB:=n0_;have HO:=n1_;clear n0_ n1_ ho hb hg hat))
    go_roundw
    case rel=>exact⟨j+1,by omega,by go_num,⟨by rw [HES.out];have h_:=HO.out;rw [List.append_assoc (xs ++ [5] ++ y),List.append_assoc (xs ++ [5])] at h_;exact h_⟩,HB,HG,GT⟩
    case measure=>simp [intOf];omega
   rw [if_neg hx0] at hes
   rw [hes,List.length_append] at hle
   have HES:=zq.mk hes
   have LY:=zq.mk (show xs.length+(qv.esc ((bytesOf s).take j)).length+4<140737488355328 by have h_:=LM.out;simp at hle;omega)
   clear hes hle
   generalize qv.esc ((bytesOf s).take j)=y at *
   have hq:(x == 0)=false:=by simpa using hx0
   go_wp2_with (at_builtin;refine Kd.zjj (Kd.int .u8) (w0:=w0) w0.heap.size rfl _ _ 30 5 (.int .u8 0) 1 rfl Tryd.underlying30 zxr rfl (by decide) (by omega) u0 (xs ++ [5] ++ y) ?np22 _ (fun k_=>k_≠w1.heap.size) (fun _=>False) rfl ?hx ?aP (fun _ hk=>hk.elim) ?aF ?aO ?aB ?aS ?aL ?_;(case aP=>exact rfl);(case hx=>first|exact rfl|(simp [go_sem];done));(case aO=>(with_reducible repeat(first|apply Kd.zq5|apply Kd.zq7|apply Kd.zjf));exact HO.out);(case aB=>exact bw);(case aF=>exact(fun k_ h_=>Nat.ne_of_gt (Nat.lt_of_lt_of_le GT.out h_)));(case aS=>exact(zw bw));(case aL=>simp only [List.length_append,List.length_cons,List.length_nil];have:=LY.out;omega);intro v22 w22 ho hb hg hat;have HG_:=zq.mk ((hg.block w1.heap.size (by have h_:=GT.out;simpa using h_) (fun e_=>HO.out.1 _ e_.symm rfl)).trans (by first|exact HG.out|simpa using HG.out));have GT_:=zq.mk (Nat.lt_of_lt_of_le GT.out (by have h_:=hg.size;simpa using h_));clear HG GT;have HG:=HG_;have GT:=GT_;clear HG_ GT_;have n0_:=zq.mk hb;have n1_:=zq.mk ho;clear HB HO;have HB:=n0_;have HO:=n1_;clear n0_ n1_ ho hb hg hat)
   go_roundw
   case rel=>exact⟨j+1,by omega,by go_num,⟨by rw [HES.out];have h_:=HO.out;rw [List.append_assoc (xs ++ [5])] at h_;exact h_⟩,HB,HG,GT⟩
   case measure=>simp [intOf];omega
  obtain rfl:j=s.size:=by omega
  rw [show(bytesOf s).take s.size=bytesOf s from by rw [← bytesOf_length,List.take_length]] at HO
  go_wp2_with (at_builtin;refine Kd.zka (Kd.int .u8) (w0:=w0) w0.heap.size rfl _ _ 30 5 (.int .u8 0) 1 rfl Tryd.underlying30 zxr rfl (by decide) (by omega) u0 (xs ++ [5] ++ qv.esc (bytesOf s)) [0,1] _ _ _ (fun k_=>k_≠w1.heap.size) (fun _=>False) rfl rfl ?aO ?aR (fun _ _ h=>h) (fun _ h=>h.elim) ?aF ?aB ?aS ?aL ?_;(case aO=>(with_reducible repeat(first|apply Kd.zq5|apply Kd.zq7|apply Kd.zjf));exact HO.out);(case aR=>exact qv.lit2 (by simp [go_sem]) (by simp [go_sem]));(case aB=>exact bw);(case aF=>exact(fun k_ h_=>by simp at h_;have:=GT.out;omega));(case aS=>exact(zw bw));(case aL=>have:=LM.out;simp;omega);intro v30 w30 ho hb hg hat;have n0_:=zq.mk hb;have n1_:=zq.mk ho;clear HB HO;have HB:=n0_;have HO:=n1_;clear n0_ n1_ ho hb hg hat)
  go_ret
  exact⟨_,rfl,by have h_:=Kd.zqy HO.out (fun _ _=>trivial);rw [List.append_assoc,List.append_assoc] at h_;exact h_,HB.out⟩
set_option maxRecDepth 100000 in
set_option maxHeartbeats 4000000 in
theorem qv.own (w0 w:World) (A0:Option Addr) (c0:Nat) (xs:List Int) (a b:Int) (s:ByteArray) (ho:Kd.R (Kd.int .u8) 5 w w0.heap.size (fun _=>True) (.slice A0 xs.length c0) xs) (hb:Below w0.heap.size w0 w)
  (hl:xs.length+(qv.enc a b s).length<140737488355328) :
  Calls Tryd.prog 99 #[.slice A0 xs.length c0,.agg #[.int .i64 a,.int .i64 b,.string s]] w fun e w' => ∃ v:Value,e = .returned v∧Kd.R (Kd.int .u8) 5 w' w0.heap.size (fun _=>True) v (xs ++ qv.enc a b s)∧Below w0.heap.size w0 w':=by
 by_cases h0:a=0
 ·exact qv.null w0 w A0 c0 xs a b s ho hb hl h0
 by_cases h1:a=1
 ·exact qv.truth w0 w A0 c0 xs a b s ho hb hl h1
 by_cases h2:a=2
 ·exact qv.int_ w0 w A0 c0 xs a b s ho hb hl h2
 exact qv.text w0 w A0 c0 xs a b s ho hb hl h0 h1 h2

/-! ### zq1: function 59, by hand -/
-- HAND rounds=1 making=1 laid=1 imports=Derived.Laws.Cover3
def zq1.run (k:Nat):List S38→List Int→Option (List Int × Int)
 | [],ys=>some (ys,0)
 | x :: r,ys=>(zql.f k x.f0 x.f1 x.f2).bind fun e=>if e=0 then(if ys.length+(qv.enc x.f0 x.f1 x.f2).length<140737488355328 then zq1.run k r (ys ++ qv.enc x.f0 x.f1 x.f2) else none) else some ([],e)
def zq1.f (k:Nat) (l:List S38):Option (List Int × Int):=if(l.length:Int) > 14 then some ([],1) else zq1.run k l []
theorem zq1.mono_run:∀ (l:List S38) (ys:List Int) (k:Nat),LeO (zq1.run k l ys) (zq1.run (k+1) l ys)
 | [],_,_=>LeO.refl _
 | x :: r,ys,k=>by
  intro q h
  unfold zq1.run at h ⊢
  obtain ⟨e,he,h⟩:=Option.bind_eq_some_iff.1 h
  rw [zql.mono _ _ _ _ _ he,Option.bind_some]
  split at h
  ·rename_i h0
   rw [if_pos h0]
   split at h
   ·rename_i h1
    rw [if_pos h1]
    exact zq1.mono_run r _ k _ h
   cases h
  rename_i h0
  rw [if_neg h0]
  exact h
theorem zq1.mono:∀ a0 k,LeO (zq1.f k a0) (zq1.f (k+1) a0):=by
 intro l k
 unfold zq1.f
 split
 ·exact LeO.refl _
 exact zq1.mono_run l [] k
theorem zq1.at_ {w:World} {A:Option Addr} {l:List S38} (h:Kd.C k38 w A l.length l) (h0:0<l.length):∃ b o,A=some ⟨b,o,none⟩ ∧ ∀ (i:Nat) (hi:i<l.length),
  w.cell? ⟨b,o+i * 3,none⟩=some (.int .i64 l[i].f0)∧w.cell? ⟨b,o+i * 3+1,none⟩=some (.int .i64 l[i].f1)∧w.cell? ⟨b,o+i * 3+2,none⟩=some (.string l[i].f2):=by
 obtain ⟨ad,rfl,g0,_⟩:=zxq h 0 (by omega) (by omega)
 have hs:ad.spot=none:=by
  cases hsp:ad.spot with
  | none=>rfl
  | some s=>
   exfalso
   rw [show ad.add ((0:Int).toNat * 3)=ad from by simp [Addr.add]] at g0
   unfold World.cell? at g0
   split at g0
   ·rw [hsp] at g0
    simp at g0
   cases g0
 obtain ⟨b,o,sp⟩:=ad
 dsimp only at hs
 subst hs
 refine⟨b,o,rfl,fun i hi=>?_⟩
 obtain ⟨ad,e,g0,g1,g2⟩:=zxq h (i:Int) (by omega) (by omega)
 cases e
 have ee:qf l (i:Int)=l[i]:=by simp [qf,List.getD_eq_getElem?_getD,hi]
 have ha:(⟨b,o,none⟩:Addr).add ((i:Int).toNat * 3)=⟨b,o+i * 3,none⟩:=by rw [Int.toNat_natCast];unfold Addr.add;split <;> simp_all
 rw [ee] at g0 g1 g2
 rw [ha] at g0 g1 g2
 exact⟨g0,g1,g2⟩
set_option maxRecDepth 100000 in
set_option maxHeartbeats 4000000 in
theorem zq1.calls (k:Nat) (A0:Option Addr) (c0:Nat) (l0:List S38) (r1:List Int) (r2:Int) (w:World) (hr0:Kd.C k38 w A0 l0.length l0) (hc0:l0.length≤c0) (hL:LD w) (h:zq1.f k l0=some (r1,r2)) :
  Calls Tryd.prog 59 #[.slice A0 l0.length c0] w fun e w' => ∃ v0_:Value,e = .returned (.tuple #[v0_,.int .i64 r2])∧Kd.R (Kd.int .u8) 5 w' w.heap.size (fun _=>True) v0_ r1∧Below w.heap.size w w':=by
 have hm:=hr0.2.1
 have HR:=zq.mk hr0
 have HL:=zq.mk hL
 clear hr0 hL
 unfold zq1.f at h
 by_cases hbig:(l0.length:Int) > 14
 ·rw [if_pos hbig] at h
  obtain ⟨rfl,rfl⟩:r1 = []∧r2=1:=by simpa [eq_comm] using h
  clear h
  go_enter Tryd.func59,Tryd.ntmps59
  go_wp2
  go_ret2
  exact⟨_,rfl,Kd.zxf _ _ _ _ _,Below.refl _ _⟩
 rw [if_neg hbig] at h
 have HS:=zq.mk h
 clear h
 go_enter Tryd.func59,Tryd.ntmps59
 go_wp2
 go_loopw [4,6,7,13] (fun o _ _ i wr => ∃ (j:Nat) (ys:List Int),j≤l0.length∧i = .int .i64 j∧zq (zq1.run k (l0.drop j) ys=some (r1,r2))∧zq (Kd.R (Kd.int .u8) 5 wr w.heap.size (fun _=>True) o ys)∧zq (Below w.heap.size w wr)) (fun _ _ _ i _=>l0.length - (intOf i).toNat)
 case atStart=>exact⟨0, [],by omega,rfl,HS,⟨Kd.zxf _ _ _ _ _⟩,⟨Below.refl _ _⟩⟩
 case round=>
  clear HS
  obtain ⟨j,ys,hj,rfl,HS,HO,HB⟩:=hrel
  by_cases hlt:j<l0.length
  ·obtain ⟨b,o,rfl,hcs⟩:=zq1.at_ HR.out (by omega)
   obtain ⟨p0,p1,p2⟩:=hcs j hlt
   have hg:=HS.out
   rw [List.drop_eq_getElem_cons hlt,zq1.run] at hg
   obtain ⟨c,hck,hg2⟩:=Option.bind_eq_some_iff.1 hg
   clear hg HS hcs
   generalize l0[j]=x at *
   replace p0:=zqw HB.out p0
   replace p1:=zqw HB.out p1
   replace p2:=zqw HB.out p2
   have HCK:=zq.mk hck
   have hL2:=zq.mk (LD.below HL.out HB.out)
   obtain ⟨A1,c1,rfl⟩:=Kd.zje HO.out
   clear hck
   by_cases hc:c=0
   ·subst hc
    rw [if_pos rfl] at hg2
    split at hg2
    ·rename_i hlm
     have LM:=zq.mk hlm
     have HS:=zq.mk hg2
     clear hlm hg2
     go_wp2_with (first
      | (go_at_call 57;refine(zql.calls k x.f0 x.f1 x.f2 0 _ (LD.below hL2.out (zl (Below.refl _ _) _)) HCK.out).mono ?_;rintro e w1 ⟨rfl,hb⟩;have q0:w1.cell? ⟨wr.heap.size,0,none⟩=some (.int .i64 x.f0):=zqw hb (show(wr.alloc _).cell? ⟨wr.heap.size,0,none⟩=some (.int .i64 x.f0) by simp [go_sem]);have q1:w1.cell? ⟨wr.heap.size,1,none⟩=some (.int .i64 x.f1):=zqw hb (show(wr.alloc _).cell? ⟨wr.heap.size,1,none⟩=some (.int .i64 x.f1) by simp [go_sem]);have q2:w1.cell? ⟨wr.heap.size,2,none⟩=some (.string x.f2):=zqw hb (show(wr.alloc _).cell? ⟨wr.heap.size,2,none⟩=some (.string x.f2) by simp [go_sem]);have HB1:=zq.mk ((zl HB.out _).trans (hb.mono (zl HB.out _).size));have HO1:=zq.mk (Kd.zq4 (Kd.zq5 HO.out _) hb);clear hb)
      | (go_at_call 99;refine(qv.own w _ A1 c1 ys x.f0 x.f1 x.f2 HO1.out HB1.out LM.out).mono ?_;rintro e w2 ⟨v2,rfl,ho2,hb2⟩;have HO2:=zq.mk ho2;have HB2:=zq.mk hb2;clear ho2 hb2))
     go_roundw
     case rel=>exact⟨j+1,_,by omega,by go_num,HS,HO2,HB2⟩
     case measure=>simp [intOf];omega
    cases hg2
   rw [if_neg hc] at hg2
   obtain ⟨rfl,rfl⟩:r1 = []∧r2=c:=by simpa [eq_comm] using hg2
   have hq:(r2 != 0)=true:=by simpa using hc
   clear hg2
   go_wp2_with (go_at_call 57;refine(zql.calls k x.f0 x.f1 x.f2 r2 _ (LD.below hL2.out (zl (Below.refl _ _) _)) HCK.out).mono ?_;rintro e w1 ⟨rfl,hb⟩;have q0:w1.cell? ⟨wr.heap.size,0,none⟩=some (.int .i64 x.f0):=zqw hb (show(wr.alloc _).cell? ⟨wr.heap.size,0,none⟩=some (.int .i64 x.f0) by simp [go_sem]);have q1:w1.cell? ⟨wr.heap.size,1,none⟩=some (.int .i64 x.f1):=zqw hb (show(wr.alloc _).cell? ⟨wr.heap.size,1,none⟩=some (.int .i64 x.f1) by simp [go_sem]);have q2:w1.cell? ⟨wr.heap.size,2,none⟩=some (.string x.f2):=zqw hb (show(wr.alloc _).cell? ⟨wr.heap.size,2,none⟩=some (.string x.f2) by simp [go_sem]);have HB1:=zq.mk ((zl HB.out _).trans (hb.mono (zl HB.out _).size));have HO1:=zq.mk (Kd.zq4 (Kd.zq5 HO.out _) hb);clear hb)
   go_ret2
   exact⟨_,rfl,Kd.zxf _ _ _ _ _,HB1.out⟩
  obtain rfl:j=l0.length:=by omega
  have hg:=HS.out
  rw [List.drop_length,zq1.run] at hg
  obtain ⟨rfl,rfl⟩:r1=ys∧r2=0:=by simpa [eq_comm] using hg
  clear hg HS
  go_wp2
  go_ret2
  exact⟨_,rfl,HO.out,HB.out⟩

/-! ### zxg: function 97 -/
def zxg.f (a0:Int):Option (Int × Int × ByteArray):=some (2,a0,(⟨#[]⟩:ByteArray))
set_option maxHeartbeats 8000000 in
set_option maxRecDepth 100000 in
theorem zxg.calls (a0:Int) (r1:Int) (r2:Int) (r3:ByteArray) (w:World) (h:zxg.f a0=some (r1,r2,r3)) :
  Calls Tryd.prog 97 #[.int .i64 a0] w fun e w'=>e = .returned (.agg #[.int .i64 r1,.int .i64 r2,.string r3])∧Below w.heap.size w w':=by
 have hu38:=Tryd.underlying38
 have HB:=zq.mk (Below.refl w.heap.size w)
 have H:(some (2,a0,(⟨#[]⟩:ByteArray)))=some (r1,r2,r3):=h
 clear h
 simp only [Option.some.injEq,Prod.mk.injEq] at H
 obtain ⟨rfl,rfl,rfl⟩:=H
 go_enter Tryd.func97,Tryd.ntmps97
 go_wp2_with (first|((with_reducible refine qr (N:=2) rfl ?_);refine qm ?hg (N:=2) ?hd (cs:=#[.int .i64 0,.int .i64 0,.string (⟨#[]⟩:ByteArray)]) (t:=38) ?hr ?_;(case hd=>rfl);(case hg=>rfl);(case hr=>first|(go_simp;done)|(go_simp;rfl));intro gb162 hg w2 hbox hb;have BK162:=zq.mk (hbox);have GW162:=zq.mk ((by rw [hg];exact(zw bw):w.heap.size≤gb162));have GE162:=zq.mk ((by rw [hg];exact(zw bw):w.heap.size≤gb162));replace HB:=zq.mk (zn bw hb);clear hb hbox hg;obtain ⟨hcz3_0,hcz3_1,hcz3_2,hfz3_0,hfz3_1,hfz3_2⟩:=qd BK162.out))
 refine bodyPost_ret (results_cell_row rfl _ _ gb162 38 #[.int .i64 2,.int .i64 a0,.string (⟨#[]⟩:ByteArray)] (0,0) _ rfl (by(with_reducible repeat(first|refine zz ?_ _|refine zk ?_|refine zj ?_ _));refine qw (cs:=#[.int .i64 2,.int .i64 a0,.string (⟨#[]⟩:ByteArray)]) ?_ 2 _ rfl;(with_reducible repeat(first|refine zz ?_ _|refine zk ?_|refine zj ?_ _));refine qw (cs:=#[.int .i64 2,.int .i64 0,.string (⟨#[]⟩:ByteArray)]) ?_ 1 _ rfl;(with_reducible repeat(first|refine zz ?_ _|refine zk ?_|refine zj ?_ _));refine qw (cs:=#[.int .i64 0,.int .i64 0,.string (⟨#[]⟩:ByteArray)]) ?_ 0 _ rfl;(with_reducible repeat(first|refine zz ?_ _|refine zk ?_|refine zj ?_ _));exact BK162.out) Tryd.underlying38 rfl (by kernel_rfl)) rfl ?_
 exact⟨by first|rfl|(simp [zg,zy] <;> rfl)|(simp [*,zg,zy] <;> rfl),bw⟩

end Go.Proofs.YthhejedfjgikdaaDoor.PRowReads
