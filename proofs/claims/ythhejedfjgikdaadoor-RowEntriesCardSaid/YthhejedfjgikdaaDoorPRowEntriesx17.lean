-- Written by wip/pp of this repo (over the kit's print, with additions of this session); Lean checks every line.
import Derived.Test.YthhejedfjgikdaaDoorPRowEntriesx16
namespace Go.Proofs.YthhejedfjgikdaaDoor.PRowEntries
open Go.RowKit Go.Proofs.YthhejedfjgikdaaDoorW.PrintWords Go.Proofs.YthhejedfjgikdaaDoorW.PrintLast Go.Proofs.YthhejedfjgikdaaDoorW.PrintMore
attribute [local go_sem] zxq zxo zx0 zxz zxg zxf zxp zxn   -- for this text's walks alone
set_option linter.unusedVariables false
set_option linter.unusedSimpArgs false

/-! ### zjl: function 32 -/
mutual
def zjl.l0:Nat→List (S38)→Int→ByteArray→List (S90)→List Int→List (S96)→Option (Int)
 | 0,_,_,_,_,_,_=>none
 | k+1,x1,x5,x238000,x238001,x238002,x238003=>if x5<(x1.length:Int) then(if 0≤x5 then((zjh.f k ((zqs x1 x5).f0) ((zqs x1 x5).f1) ((zqs x1 x5).f2)).bind fun t239=>(if t239=0 then(if((zqs x1 x5).f0)=0 then(zjl.j1 k x1 x5 false x238000 x238001 x238002 x238003) else (if x5<(x238001.length:Int) then(zjl.j1 k x1 x5 (((zqs x1 x5).f0) != ((zqp x238001 x5).f1)) x238000 x238001 x238002 x238003) else (none))) else (some t239))) else (none)) else (some 0)
def zjl.j1:Nat→List (S38)→Int→Bool→ByteArray→List (S90)→List Int→List (S96)→Option (Int)
 | 0,_,_,_,_,_,_,_=>none
 | k+1,x1,x5,x46,x238000,x238001,x238002,x238003=>if x46=true then(some 12) else (if 0≤x5 then(if x5<(x1.length:Int) then(if((zqs x1 x5).f0)=0 then(if x5<(x238001.length:Int) then(if(zqp x238001 x5).f2=true then(some 13) else (zjl.l0 k x1 (wrap64 (x5+1)) x238000 x238001 x238002 x238003)) else (none)) else (zjl.l0 k x1 (wrap64 (x5+1)) x238000 x238001 x238002 x238003)) else (none)) else (none))
end
def zjl.f (k:Nat) (a0_0:ByteArray) (l0_1:List (S90)) (l0_2:List Int) (l0_3:List (S96)) (l1:List (S38)):Option (Int):=if(l1.length:Int)=(l0_1.length:Int) then(zjl.l0 k l1 0 a0_0 l0_1 l0_2 l0_3) else (some 1)
theorem zjl.mono_l:∀ k,(∀ y0 y1 y2 y3 y4 y5,LeO (zjl.l0 k y0 y1 y2 y3 y4 y5) (zjl.l0 (k+1) y0 y1 y2 y3 y4 y5))∧(∀ y0 y1 y2 y3 y4 y5 y6,LeO (zjl.j1 k y0 y1 y2 y3 y4 y5 y6) (zjl.j1 (k+1) y0 y1 y2 y3 y4 y5 y6))
 | 0=>⟨fun _ _ _ _ _ _ r h=>by simp [zjl.l0] at h,fun _ _ _ _ _ _ _ r h=>by simp [zjl.j1] at h⟩
 | k+1=>by
  obtain ⟨ih0,ih1⟩:=zjl.mono_l k
  refine⟨?_,?_⟩
  ·intro y0 y1 y2 y3 y4 y5
   unfold zjl.l0
   repeat' first
   | (with_reducible first|exact ih0 _ _ _ _ _ _|exact ih1 _ _ _ _ _ _ _|exact zjh.mono _ _ _ _|exact LeO.refl _|exact LeO.none _|refine LeO.ite ?_ ?_|refine LeO.bind ?_ (fun _=>?_))
   | exact ih0 _ _ _ _ _ _
   | exact ih1 _ _ _ _ _ _ _
   | exact zjh.mono _ _ _ _
   | exact LeO.none _
   | refine LeO.ite ?_ ?_
   | refine LeO.bind ?_ (fun _=>?_)
  ·intro y0 y1 y2 y3 y4 y5 y6
   unfold zjl.j1
   repeat' first
   | (with_reducible first|exact ih0 _ _ _ _ _ _|exact ih1 _ _ _ _ _ _ _|exact zjh.mono _ _ _ _|exact LeO.refl _|exact LeO.none _|refine LeO.ite ?_ ?_|refine LeO.bind ?_ (fun _=>?_))
   | exact ih0 _ _ _ _ _ _
   | exact ih1 _ _ _ _ _ _ _
   | exact zjh.mono _ _ _ _
   | exact LeO.none _
   | refine LeO.ite ?_ ?_
   | refine LeO.bind ?_ (fun _=>?_)
theorem zjl.mono:∀ a0 a1 a2 a3 a4 k,LeO (zjl.f k a0 a1 a2 a3 a4) (zjl.f (k+1) a0 a1 a2 a3 a4):=by
 intro a0 a1 a2 a3 a4 k
 obtain ⟨ih0,ih1⟩:=zjl.mono_l k
 unfold zjl.f
 repeat' first
   | (with_reducible first|exact ih0 _ _ _ _ _ _|exact ih1 _ _ _ _ _ _ _|exact zjh.mono _ _ _ _|exact LeO.refl _|exact LeO.none _|refine LeO.ite ?_ ?_|refine LeO.bind ?_ (fun _=>?_))
   | exact ih0 _ _ _ _ _ _
   | exact ih1 _ _ _ _ _ _ _
   | exact zjh.mono _ _ _ _
   | exact LeO.none _
   | refine LeO.ite ?_ ?_
   | refine LeO.bind ?_ (fun _=>?_)
set_option maxHeartbeats 8000000 in
set_option maxRecDepth 100000 in
theorem zjl.calls (k:Nat) (a0_0:ByteArray) (A0_1:Option Addr) (c0_1:Nat) (l0_1:List (S90)) (A0_2:Option Addr) (c0_2:Nat) (l0_2:List Int) (A0_3:Option Addr) (c0_3:Nat) (l0_3:List (S96)) (A1:Option Addr) (c1:Nat) (l1:List (S38)) (r:Int) (w:World) (hr0_1:Kd.C k90 w A0_1 l0_1.length l0_1) (hc0_1:l0_1.length≤c0_1) (hr0_2:Kd.C (Kd.int .i64) w A0_2 l0_2.length l0_2) (hc0_2:l0_2.length≤c0_2) (hr0_3:Kd.C k96 w A0_3 l0_3.length l0_3) (hc0_3:l0_3.length≤c0_3) (hr1:Kd.C k38 w A1 l1.length l1) (hc1:l1.length≤c1) (h:zjl.f k a0_0 l0_1 l0_2 l0_3 l1=some r) :
  Calls Tryd.prog 32 #[.agg #[.string a0_0,.slice A0_1 l0_1.length c0_1,.slice A0_2 l0_2.length c0_2,.slice A0_3 l0_3.length c0_3],.slice A1 l1.length c1] w fun e w'=>e = .returned (.int .i64 r)∧Below w.heap.size w w':=by
 have hu61:=Tryd.underlying61
 have hu38:=Tryd.underlying38
 have HR0_1:=zqd.mk hr0_1
 have HC0_1:=zqd.mk hc0_1
 clear hr0_1 hc0_1
 have HR0_2:=zqd.mk hr0_2
 have HC0_2:=zqd.mk hc0_2
 clear hr0_2 hc0_2
 have HR0_3:=zqd.mk hr0_3
 have HC0_3:=zqd.mk hc0_3
 clear hr0_3 hc0_3
 have HR1:=zqd.mk hr1
 have HC1:=zqd.mk hc1
 clear hr1 hc1
 have HB:=zqd.mk (Below.refl w.heap.size w)
 have H:(if(l1.length:Int)=(l0_1.length:Int) then(zjl.l0 k l1 0 a0_0 l0_1 l0_2 l0_3) else (some 1))=some r:=h
 clear h
 by_cases c3:(l1.length:Int)=(l0_1.length:Int)
 ·rw [if_pos c3] at H
  have c3b0:((l1.length:Int) == (l0_1.length:Int))=true:=beq_iff_eq.mpr c3
  have c3b1:((l1.length:Int) != (l0_1.length:Int))=false:=bne_eq_false_iff_eq.mpr c3
  have c3b2:(l1.length == l0_1.length)=true:=by first|simpa using c3|(simp at c3 ⊢;omega)
  clear c3
  have H':=zqd.mk H
  clear H
  go_enter Tryd.func32,Tryd.ntmps32
  go_wp2_with (first|((with_reducible refine zqx (N:=2) rfl ?_);refine zqt ?hg (N:=2) ?hd (cs:=#[.string a0_0,.slice A0_1 l0_1.length c0_1,.slice A0_2 l0_2.length c0_2,.slice A0_3 l0_3.length c0_3]) (t:=61) ?hr ?_;(case hd=>rfl);(case hg=>rfl);(case hr=>first|(go_simp;done)|(go_simp;rfl));intro gb237 hg w4 hbox hb;have n0_:=zqd.mk (zqn (by repeat(first|(with_reducible first|exact HB.out|apply zqb|apply zqa|apply zqc)|exact HB.out)) hb);have n1_:=zqd.mk (hbox);have n2_:=zqd.mk ((by rw [hg];exact(zqk (by repeat(first|(with_reducible first|exact HB.out|apply zqb|apply zqa|apply zqc)|exact HB.out))):w.heap.size≤gb237));have n3_:=zqd.mk ((by rw [hg];exact(zqk (by repeat(first|(with_reducible first|exact HB.out|apply zqb|apply zqa|apply zqc)|exact HB.out))):w.heap.size≤gb237));clear HB;have HB:=n0_;have BK237:=n1_;have GW237:=n2_;have GE237:=n3_;clear n0_ n1_ n2_ n3_ hb hbox hg;have hcz5_0:w4.cell? ⟨gb237,0,none⟩=some (.string a0_0):=(zqf BK237.out 0).trans rfl;have hcz5_1:w4.cell? ⟨gb237,1,none⟩=some (.slice A0_1 l0_1.length c0_1):=(zqf BK237.out 1).trans rfl;have hcz5_2:w4.cell? ⟨gb237,2,none⟩=some (.slice A0_2 l0_2.length c0_2):=(zqf BK237.out 2).trans rfl;have hcz5_3:w4.cell? ⟨gb237,3,none⟩=some (.slice A0_3 l0_3.length c0_3):=(zqf BK237.out 3).trans rfl;have hfz5_0:=zqe BK237.out 0;have hfz5_1:=zqe BK237.out 1;have hfz5_2:=zqe BK237.out 2;have hfz5_3:=zqe BK237.out 3))
  repeat(go_quiet (first|((with_reducible refine zqx (N:=2) rfl ?_);refine zqt ?hg (N:=2) ?hd (cs:=#[.string a0_0,.slice A0_1 l0_1.length c0_1,.slice A0_2 l0_2.length c0_2,.slice A0_3 l0_3.length c0_3]) (t:=61) ?hr ?_;(case hd=>rfl);(case hg=>rfl);(case hr=>first|(go_simp;done)|(go_simp;rfl));intro gb237 hg w4 hbox hb;have n0_:=zqd.mk (zqn (by repeat(first|(with_reducible first|exact HB.out|apply zqb|apply zqa|apply zqc)|exact HB.out)) hb);have n1_:=zqd.mk (hbox);have n2_:=zqd.mk ((by rw [hg];exact(zqk (by repeat(first|(with_reducible first|exact HB.out|apply zqb|apply zqa|apply zqc)|exact HB.out))):w.heap.size≤gb237));have n3_:=zqd.mk ((by rw [hg];exact(zqk (by repeat(first|(with_reducible first|exact HB.out|apply zqb|apply zqa|apply zqc)|exact HB.out))):w.heap.size≤gb237));clear HB;have HB:=n0_;have BK237:=n1_;have GW237:=n2_;have GE237:=n3_;clear n0_ n1_ n2_ n3_ hb hbox hg;have hcz5_0:w4.cell? ⟨gb237,0,none⟩=some (.string a0_0):=(zqf BK237.out 0).trans rfl;have hcz5_1:w4.cell? ⟨gb237,1,none⟩=some (.slice A0_1 l0_1.length c0_1):=(zqf BK237.out 1).trans rfl;have hcz5_2:w4.cell? ⟨gb237,2,none⟩=some (.slice A0_2 l0_2.length c0_2):=(zqf BK237.out 2).trans rfl;have hcz5_3:w4.cell? ⟨gb237,3,none⟩=some (.slice A0_3 l0_3.length c0_3):=(zqf BK237.out 3).trans rfl;have hfz5_0:=zqe BK237.out 0;have hfz5_1:=zqe BK237.out 1;have hfz5_2:=zqe BK237.out 2;have hfz5_3:=zqe BK237.out 3));try go_wp2_with (first|((with_reducible refine zqx (N:=2) rfl ?_);refine zqt ?hg (N:=2) ?hd (cs:=#[.string a0_0,.slice A0_1 l0_1.length c0_1,.slice A0_2 l0_2.length c0_2,.slice A0_3 l0_3.length c0_3]) (t:=61) ?hr ?_;(case hd=>rfl);(case hg=>rfl);(case hr=>first|(go_simp;done)|(go_simp;rfl));intro gb237 hg w4 hbox hb;have n0_:=zqd.mk (zqn (by repeat(first|(with_reducible first|exact HB.out|apply zqb|apply zqa|apply zqc)|exact HB.out)) hb);have n1_:=zqd.mk (hbox);have n2_:=zqd.mk ((by rw [hg];exact(zqk (by repeat(first|(with_reducible first|exact HB.out|apply zqb|apply zqa|apply zqc)|exact HB.out))):w.heap.size≤gb237));have n3_:=zqd.mk ((by rw [hg];exact(zqk (by repeat(first|(with_reducible first|exact HB.out|apply zqb|apply zqa|apply zqc)|exact HB.out))):w.heap.size≤gb237));clear HB;have HB:=n0_;have BK237:=n1_;have GW237:=n2_;have GE237:=n3_;clear n0_ n1_ n2_ n3_ hb hbox hg;have hcz5_0:w4.cell? ⟨gb237,0,none⟩=some (.string a0_0):=(zqf BK237.out 0).trans rfl;have hcz5_1:w4.cell? ⟨gb237,1,none⟩=some (.slice A0_1 l0_1.length c0_1):=(zqf BK237.out 1).trans rfl;have hcz5_2:w4.cell? ⟨gb237,2,none⟩=some (.slice A0_2 l0_2.length c0_2):=(zqf BK237.out 2).trans rfl;have hcz5_3:w4.cell? ⟨gb237,3,none⟩=some (.slice A0_3 l0_3.length c0_3):=(zqf BK237.out 3).trans rfl;have hfz5_0:=zqe BK237.out 0;have hfz5_1:=zqe BK237.out 1;have hfz5_2:=zqe BK237.out 2;have hfz5_3:=zqe BK237.out 3)))
  go_loopg [5] k (fun kq v5 w' => ∃ (x5_1:Int),v5 = .int .i64 x5_1∧zqd (zjl.l0 kq l1 x5_1 a0_0 l0_1 l0_2 l0_3=some r)∧zqd (kq≤k)∧zqd (w'.heap[gb237]? = some (.cells #[.string a0_0,(.slice A0_1 l0_1.length c0_1),(.slice A0_2 l0_2.length c0_2),(.slice A0_3 l0_3.length c0_3)] 61 (0,0)))∧zqd (Below w.heap.size w w'))
  case atStart=>exact⟨(0),(by first|rfl|(simp;done)|(simp [*];done)|(generalize ByteArray.toList _=q_;cases q_ <;> rfl)),H',⟨Nat.le_refl _⟩,⟨by(with_reducible repeat(first|refine zqg ?_ _|refine zqj ?_|refine zqh ?_ _));exact BK237.out⟩,⟨by repeat(first|(with_reducible first|exact HB.out|apply zqb|apply zqa|apply zqc|refine zqi ?_ GE237.out)|exact HB.out)⟩⟩
  case round=>
   clear H'
   try clear c1
   try clear p2
   try clear c3
   try clear c3b0
   try clear c3b1
   try clear c3b2
   try clear hcz5_0
   try clear hcz5_1
   try clear hcz5_2
   try clear hcz5_3
   try clear hfz5_0
   try clear hfz5_1
   try clear hfz5_2
   try clear hfz5_3
   obtain ⟨x5_1,rfl,HA,HK1,BK237,HB⟩:=hrel
   cases gk with
   | zero=>exact absurd HA.out (by simp [zjl.l0])
   | succ k1=>
    have H:=HA.out
    clear HA
    simp only [zjl.l0] at H
    by_cases c6:x5_1<(l1.length:Int)
    ·rw [if_pos c6] at H
     have c6b0:decide (x5_1<(l1.length:Int))=true:=decide_eq_true c6
     clear c6
     by_cases c7:0≤x5_1
     ·rw [if_pos c7] at H
      have c7b0:decide (0≤x5_1)=true:=decide_eq_true c7
      clear c7
      replace H:=Option.bind_eq_some_iff.mp H
      obtain ⟨t239,A80,H⟩:=H
      replace H:(if t239=0 then(if((zqs l1 x5_1).f0)=0 then(zjl.j1 k1 l1 x5_1 false a0_0 l0_1 l0_2 l0_3) else (if x5_1<(l0_1.length:Int) then(zjl.j1 k1 l1 x5_1 (((zqs l1 x5_1).f0) != ((zqp l0_1 x5_1).f1)) a0_0 l0_1 l0_2 l0_3) else (none))) else (some t239))=some r:=H
      have A8:=zqd.mk A80
      clear A80
      by_cases c9:t239=0
      ·rw [if_pos c9] at H
       have c9b0:(t239 == 0)=true:=beq_iff_eq.mpr c9
       have c9b1:(t239 != 0)=false:=bne_eq_false_iff_eq.mpr c9
       clear c9
       have HC10:=zqd.mk H
       clear H
       have p238:0≤(x5_1:Int):=of_decide_eq_true (by first|(with_reducible assumption)|assumption)
       have q238:x5_1<(l1.length:Int):=of_decide_eq_true (by first|(with_reducible assumption)|assumption)
       obtain ⟨ad238,e238,hx238_0,hx238_1,hx238_2⟩:=at_T38 HR1.out x5_1 p238 q238
       cases e238
       replace hx238_0:=(HB.out.cell (World.block_lt_of_cell? w _ hx238_0)).trans hx238_0
       replace hx238_1:=(HB.out.cell (World.block_lt_of_cell? w _ hx238_1)).trans hx238_1
       replace hx238_2:=(HB.out.cell (World.block_lt_of_cell? w _ hx238_2)).trans hx238_2
       replace p238:=eq_true p238
       replace q238:=eq_true q238
       go_upto_region 9 with (first|(go_at_call 61;(with_reducible refine(zjh.calls k1 ((zqs l1 x5_1).f0) ((zqs l1 x5_1).f1) ((zqs l1 x5_1).f2) t239 _ A8.out).mono ?_);rintro e w11 ⟨rfl,hb⟩;have n0_:=zqd.mk (zqr (g:=gb237) (o:=.cells #[.string a0_0,.slice A0_1 l0_1.length c0_1,.slice A0_2 l0_2.length c0_2,.slice A0_3 l0_3.length c0_3] 61 (0,0)) (by(with_reducible repeat(first|refine zqg ?_ _|refine zqj ?_|refine zqh ?_ _));exact BK237.out) hb);have n1_:=zqd.mk (zqn (by repeat(first|(with_reducible first|exact HB.out|apply zqb|apply zqa|apply zqc|refine zqi ?_ GE237.out)|exact HB.out)) hb);clear BK237 HB;have BK237:=n0_;have HB:=n1_;clear n0_ n1_;(try clear hb);(try clear hb2);(try clear hk);(try clear hi)))
       repeat(go_quiet (first|(go_at_call 61;(with_reducible refine(zjh.calls k1 ((zqs l1 x5_1).f0) ((zqs l1 x5_1).f1) ((zqs l1 x5_1).f2) t239 _ A8.out).mono ?_);rintro e w11 ⟨rfl,hb⟩;have n0_:=zqd.mk (zqr (g:=gb237) (o:=.cells #[.string a0_0,.slice A0_1 l0_1.length c0_1,.slice A0_2 l0_2.length c0_2,.slice A0_3 l0_3.length c0_3] 61 (0,0)) (by(with_reducible repeat(first|refine zqg ?_ _|refine zqj ?_|refine zqh ?_ _));exact BK237.out) hb);have n1_:=zqd.mk (zqn (by repeat(first|(with_reducible first|exact HB.out|apply zqb|apply zqa|apply zqc|refine zqi ?_ GE237.out)|exact HB.out)) hb);clear BK237 HB;have BK237:=n0_;have HB:=n1_;clear n0_ n1_;(try clear hb);(try clear hb2);(try clear hk);(try clear hi)));go_upto_region 9 with (first|(go_at_call 61;(with_reducible refine(zjh.calls k1 ((zqs l1 x5_1).f0) ((zqs l1 x5_1).f1) ((zqs l1 x5_1).f2) t239 _ A8.out).mono ?_);rintro e w11 ⟨rfl,hb⟩;have n0_:=zqd.mk (zqr (g:=gb237) (o:=.cells #[.string a0_0,.slice A0_1 l0_1.length c0_1,.slice A0_2 l0_2.length c0_2,.slice A0_3 l0_3.length c0_3] 61 (0,0)) (by(with_reducible repeat(first|refine zqg ?_ _|refine zqj ?_|refine zqh ?_ _));exact BK237.out) hb);have n1_:=zqd.mk (zqn (by repeat(first|(with_reducible first|exact HB.out|apply zqb|apply zqa|apply zqc|refine zqi ?_ GE237.out)|exact HB.out)) hb);clear BK237 HB;have BK237:=n0_;have HB:=n1_;clear n0_ n1_;(try clear hb);(try clear hb2);(try clear hk);(try clear hi))))
       (try simp only [Act.put,List.setIfInBounds_toArray,List.set_cons_zero,List.set_cons_succ])
       go_cut [46] (fun v46 wc => ∃ (kq:Nat) (x46_9:Bool),v46 = .bool x46_9∧zqd (zjl.j1 kq l1 x5_1 x46_9 a0_0 l0_1 l0_2 l0_3=some r)∧zqd (kq≤k1)∧zqd (wc.heap[gb237]? = some (.cells #[.string a0_0,(.slice A0_1 l0_1.length c0_1),(.slice A0_2 l0_2.length c0_2),(.slice A0_3 l0_3.length c0_3)] 61 (0,0)))∧zqd (Below w.heap.size w wc))
       case first=>
        have H:=HC10.out
        clear HC10
        by_cases c12:((zqs l1 x5_1).f0)=0
        ·rw [if_pos c12] at H
         have c12b0:(((zqs l1 x5_1).f0) == 0)=true:=beq_iff_eq.mpr c12
         have c12b1:(((zqs l1 x5_1).f0) != 0)=false:=bne_eq_false_iff_eq.mpr c12
         clear c12
         (first|rw [c12b0]|(simp only [zx6,zx8];rw [c12b0])|skip)
         have H':=zqd.mk H
         clear H
         have p240:0≤(x5_1:Int):=of_decide_eq_true (by first|(with_reducible assumption)|assumption)
         have q240:x5_1<(l1.length:Int):=of_decide_eq_true (by first|(with_reducible assumption)|assumption)
         obtain ⟨ad240,e240,hx240_0,hx240_1,hx240_2⟩:=at_T38 HR1.out x5_1 p240 q240
         obtain rfl:ad238=ad240:=(by injection e240)
         replace hx240_0:=(HB.out.cell (World.block_lt_of_cell? w _ hx240_0)).trans hx240_0
         replace hx240_1:=(HB.out.cell (World.block_lt_of_cell? w _ hx240_1)).trans hx240_1
         replace hx240_2:=(HB.out.cell (World.block_lt_of_cell? w _ hx240_2)).trans hx240_2
         replace p240:=eq_true p240
         replace q240:=eq_true q240
         go_wp2
         repeat(go_quiet (fail);try go_wp2)
         go_meet
         case rel=>exact⟨_,(false),(by first|rfl|(simp;done)|(simp [*];done)|(generalize ByteArray.toList _=q_;cases q_ <;> rfl)),H',⟨by have:=HK1.out;first|omega|exact Nat.le_refl _⟩,⟨by(with_reducible repeat(first|refine zqg ?_ _|refine zqj ?_|refine zqh ?_ _));exact BK237.out⟩,⟨by repeat(first|(with_reducible first|exact HB.out|apply zqb|apply zqa|apply zqc|refine zqi ?_ GE237.out)|exact HB.out)⟩⟩
        ·rw [if_neg c12] at H
         have c12b0:(((zqs l1 x5_1).f0) == 0)=false:=beq_eq_false_iff_ne.mpr c12
         have c12b1:(((zqs l1 x5_1).f0) != 0)=true:=bne_iff_ne.mpr c12
         (first|rw [c12b0]|(simp only [zx6,zx8];rw [c12b0])|skip)
         by_cases c13:x5_1<(l0_1.length:Int)
         ·rw [if_pos c13] at H
          have c13b0:decide (x5_1<(l0_1.length:Int))=true:=decide_eq_true c13
          clear c13
          have H':=zqd.mk H
          clear H
          have p240:0≤(x5_1:Int):=of_decide_eq_true (by first|(with_reducible assumption)|assumption)
          have q240:x5_1<(l1.length:Int):=of_decide_eq_true (by first|(with_reducible assumption)|assumption)
          obtain ⟨ad240,e240,hx240_0,hx240_1,hx240_2⟩:=at_T38 HR1.out x5_1 p240 q240
          obtain rfl:ad238=ad240:=(by injection e240)
          replace hx240_0:=(HB.out.cell (World.block_lt_of_cell? w _ hx240_0)).trans hx240_0
          replace hx240_1:=(HB.out.cell (World.block_lt_of_cell? w _ hx240_1)).trans hx240_1
          replace hx240_2:=(HB.out.cell (World.block_lt_of_cell? w _ hx240_2)).trans hx240_2
          replace p240:=eq_true p240
          replace q240:=eq_true q240
          have p241:0≤(x5_1:Int):=of_decide_eq_true (by first|(with_reducible assumption)|assumption)
          have q241:x5_1<(l1.length:Int):=of_decide_eq_true (by first|(with_reducible assumption)|assumption)
          obtain ⟨ad241,e241,hx241_0,hx241_1,hx241_2⟩:=at_T38 HR1.out x5_1 p241 q241
          obtain rfl:ad238=ad241:=(by injection e241)
          replace hx241_0:=(HB.out.cell (World.block_lt_of_cell? w _ hx241_0)).trans hx241_0
          replace hx241_1:=(HB.out.cell (World.block_lt_of_cell? w _ hx241_1)).trans hx241_1
          replace hx241_2:=(HB.out.cell (World.block_lt_of_cell? w _ hx241_2)).trans hx241_2
          replace p241:=eq_true p241
          replace q241:=eq_true q241
          have hcz14_0:w11.cell? ⟨gb237,0,none⟩=some (.string a0_0):=(zqf BK237.out 0).trans rfl
          have hcz14_1:w11.cell? ⟨gb237,1,none⟩=some (.slice A0_1 l0_1.length c0_1):=(zqf BK237.out 1).trans rfl
          have hcz14_2:w11.cell? ⟨gb237,2,none⟩=some (.slice A0_2 l0_2.length c0_2):=(zqf BK237.out 2).trans rfl
          have hcz14_3:w11.cell? ⟨gb237,3,none⟩=some (.slice A0_3 l0_3.length c0_3):=(zqf BK237.out 3).trans rfl
          have hfz14_0:=zqe BK237.out 0
          have hfz14_1:=zqe BK237.out 1
          have hfz14_2:=zqe BK237.out 2
          have hfz14_3:=zqe BK237.out 3
          have p242:0≤(x5_1:Int):=of_decide_eq_true (by first|(with_reducible assumption)|assumption)
          have q242:x5_1<(l0_1.length:Int):=of_decide_eq_true (by first|(with_reducible assumption)|assumption)
          obtain ⟨ad242,e242,hx242_0,hx242_1,hx242_2⟩:=at_T90 HR0_1.out x5_1 p242 q242
          cases e242
          replace hx242_0:=(HB.out.cell (World.block_lt_of_cell? w _ hx242_0)).trans hx242_0
          replace hx242_1:=(HB.out.cell (World.block_lt_of_cell? w _ hx242_1)).trans hx242_1
          replace hx242_2:=(HB.out.cell (World.block_lt_of_cell? w _ hx242_2)).trans hx242_2
          replace p242:=eq_true p242
          replace q242:=eq_true q242
          go_wp2
          repeat(go_quiet (fail);try go_wp2)
          go_meet
          case rel=>exact⟨_,((((zqs l1 x5_1).f0) != ((zqp l0_1 x5_1).f1))),(by first|rfl|(simp;done)|(simp [*];done)|(generalize ByteArray.toList _=q_;cases q_ <;> rfl)),H',⟨by have:=HK1.out;first|omega|exact Nat.le_refl _⟩,⟨by(with_reducible repeat(first|refine zqg ?_ _|refine zqj ?_|refine zqh ?_ _));exact BK237.out⟩,⟨by repeat(first|(with_reducible first|exact HB.out|apply zqb|apply zqa|apply zqc|refine zqi ?_ GE237.out)|exact HB.out)⟩⟩
         ·rw [if_neg c13] at H
          exact absurd H (by simp)
       case rest=>
        clear HC10
        try clear c1
        try clear p2
        try clear q2
        try clear hx2
        try clear c3
        try clear c3b0
        try clear c3b1
        try clear c3b2
        try clear c6
        try clear c6b0
        try clear c7
        try clear c7b0
        try clear c9
        try clear c9b0
        try clear c9b1
        try clear c12
        try clear c12b0
        try clear c12b1
        try clear c13
        try clear c13b0
        try clear hcz14_0
        try clear hcz14_1
        try clear hcz14_2
        try clear hcz14_3
        try clear hcz5_0
        try clear hcz5_1
        try clear hcz5_2
        try clear hcz5_3
        try clear hfz14_0
        try clear hfz14_1
        try clear hfz14_2
        try clear hfz14_3
        try clear hfz5_0
        try clear hfz5_1
        try clear hfz5_2
        try clear hfz5_3
        try clear hx238_0
        try clear hx238_1
        try clear hx238_2
        try clear hx240_0
        try clear hx240_1
        try clear hx240_2
        try clear hx241_0
        try clear hx241_1
        try clear hx241_2
        try clear hx242_0
        try clear hx242_1
        try clear hx242_2
        try clear p2
        try clear p238
        try clear p240
        try clear p241
        try clear p242
        try clear q238
        try clear q240
        try clear q241
        try clear q242
        obtain ⟨kq,x46_9,rfl,HA,HJ9,BK237,HB⟩:=hcut
        cases kq with
        | zero=>exact absurd HA.out (by simp [zjl.j1])
        | succ kj9=>
         have H:=HA.out
         clear HA
         simp only [zjl.j1] at H
         by_cases c15:x46_9=true
         ·subst c15
          have H1:(some 12)=some r:=by rw [if_pos rfl] at H;exact H
          clear H
          have H:=H1
          clear H1
          obtain rfl:=Option.some.inj H
          go_wp2
          repeat(go_quiet (fail);try go_wp2)
          go_ret
          exact⟨by first|rfl|(simp [zqm,zql] <;> rfl)|(simp [*,zqm,zql] <;> rfl),by repeat(first|(with_reducible first|exact HB.out|apply zqb|apply zqa|apply zqc|refine zqi ?_ GE237.out)|exact HB.out)⟩
         ·replace c15:=Bool.eq_false_iff.mpr c15
          subst c15
          have H1:(if 0≤x5_1 then(if x5_1<(l1.length:Int) then(if((zqs l1 x5_1).f0)=0 then(if x5_1<(l0_1.length:Int) then(if(zqp l0_1 x5_1).f2=true then(some 13) else (zjl.l0 kj9 l1 (wrap64 (x5_1+1)) a0_0 l0_1 l0_2 l0_3)) else (none)) else (zjl.l0 kj9 l1 (wrap64 (x5_1+1)) a0_0 l0_1 l0_2 l0_3)) else (none)) else (none))=some r:=by rw [if_neg (show ¬ (false=true) by decide)] at H;exact H
          clear H
          have H:=H1
          clear H1
          by_cases c16:0≤x5_1
          ·rw [if_pos c16] at H
           have c16b0:decide (0≤x5_1)=true:=decide_eq_true c16
           clear c16
           by_cases c17:x5_1<(l1.length:Int)
           ·rw [if_pos c17] at H
            have c17b0:decide (x5_1<(l1.length:Int))=true:=decide_eq_true c17
            clear c17
            by_cases c18:((zqs l1 x5_1).f0)=0
            ·rw [if_pos c18] at H
             have c18b0:(((zqs l1 x5_1).f0) == 0)=true:=beq_iff_eq.mpr c18
             have c18b1:(((zqs l1 x5_1).f0) != 0)=false:=bne_eq_false_iff_eq.mpr c18
             clear c18
             by_cases c19:x5_1<(l0_1.length:Int)
             ·rw [if_pos c19] at H
              have c19b0:decide (x5_1<(l0_1.length:Int))=true:=decide_eq_true c19
              clear c19
              obtain ⟨bq20,hbq20⟩:∃ b_:Bool,b_=((zqp l0_1 x5_1).f2):=⟨_,rfl⟩
              replace H:(if bq20=true then(some 13) else (zjl.l0 kj9 l1 (wrap64 (x5_1+1)) a0_0 l0_1 l0_2 l0_3))=some r:=by rw [← hbq20] at H;exact H
              have Nbq20:=zqd.mk hbq20
              clear hbq20
              by_cases c21:bq20=true
              ·subst c21
               have H1:(some 13)=some r:=by rw [if_pos rfl] at H;exact H
               clear H
               have H:=H1
               clear H1
               (try rw [← Nbq20.out] at hx238_0)
               (try rw [← Nbq20.out] at hx238_1)
               (try rw [← Nbq20.out] at hx238_2)
               (try rw [← Nbq20.out] at hx240_0)
               (try rw [← Nbq20.out] at hx240_1)
               (try rw [← Nbq20.out] at hx240_2)
               (try rw [← Nbq20.out] at hx241_0)
               (try rw [← Nbq20.out] at hx241_1)
               (try rw [← Nbq20.out] at hx241_2)
               (try rw [← Nbq20.out] at hx242_0)
               (try rw [← Nbq20.out] at hx242_1)
               (try rw [← Nbq20.out] at hx242_2)
               (try rw [← Nbq20.out])
               obtain rfl:=Option.some.inj H
               have p243:0≤(x5_1:Int):=of_decide_eq_true (by first|(with_reducible assumption)|assumption)
               have q243:x5_1<(l1.length:Int):=of_decide_eq_true (by first|(with_reducible assumption)|assumption)
               obtain ⟨ad243,e243,hx243_0,hx243_1,hx243_2⟩:=at_T38 HR1.out x5_1 p243 q243
               obtain rfl:ad238=ad243:=(by injection e243)
               replace hx243_0:=(HB.out.cell (World.block_lt_of_cell? w _ hx243_0)).trans hx243_0
               replace hx243_1:=(HB.out.cell (World.block_lt_of_cell? w _ hx243_1)).trans hx243_1
               replace hx243_2:=(HB.out.cell (World.block_lt_of_cell? w _ hx243_2)).trans hx243_2
               replace p243:=eq_true p243
               replace q243:=eq_true q243
               have hcz22_0:wc.cell? ⟨gb237,0,none⟩=some (.string a0_0):=(zqf BK237.out 0).trans rfl
               have hcz22_1:wc.cell? ⟨gb237,1,none⟩=some (.slice A0_1 l0_1.length c0_1):=(zqf BK237.out 1).trans rfl
               have hcz22_2:wc.cell? ⟨gb237,2,none⟩=some (.slice A0_2 l0_2.length c0_2):=(zqf BK237.out 2).trans rfl
               have hcz22_3:wc.cell? ⟨gb237,3,none⟩=some (.slice A0_3 l0_3.length c0_3):=(zqf BK237.out 3).trans rfl
               have hfz22_0:=zqe BK237.out 0
               have hfz22_1:=zqe BK237.out 1
               have hfz22_2:=zqe BK237.out 2
               have hfz22_3:=zqe BK237.out 3
               have p244:0≤(x5_1:Int):=of_decide_eq_true (by first|(with_reducible assumption)|assumption)
               have q244:x5_1<(l0_1.length:Int):=of_decide_eq_true (by first|(with_reducible assumption)|assumption)
               obtain ⟨ad244,e244,hx244_0,hx244_1,hx244_2⟩:=at_T90 HR0_1.out x5_1 p244 q244
               (try rw [← Nbq20.out] at hx244_2)
               cases e244
               replace hx244_0:=(HB.out.cell (World.block_lt_of_cell? w _ hx244_0)).trans hx244_0
               replace hx244_1:=(HB.out.cell (World.block_lt_of_cell? w _ hx244_1)).trans hx244_1
               replace hx244_2:=(HB.out.cell (World.block_lt_of_cell? w _ hx244_2)).trans hx244_2
               replace p244:=eq_true p244
               replace q244:=eq_true q244
               go_wp2
               repeat(go_quiet (fail);try go_wp2)
               go_ret
               exact⟨by first|rfl|(simp [zqm,zql] <;> rfl)|(simp [*,zqm,zql] <;> rfl),by repeat(first|(with_reducible first|exact HB.out|apply zqb|apply zqa|apply zqc|refine zqi ?_ GE237.out)|exact HB.out)⟩
              ·replace c21:=Bool.eq_false_iff.mpr c21
               subst c21
               have H1:(zjl.l0 kj9 l1 (wrap64 (x5_1+1)) a0_0 l0_1 l0_2 l0_3)=some r:=by rw [if_neg (show ¬ (false=true) by decide)] at H;exact H
               clear H
               have H:=H1
               clear H1
               (try rw [← Nbq20.out] at hx238_0)
               (try rw [← Nbq20.out] at hx238_1)
               (try rw [← Nbq20.out] at hx238_2)
               (try rw [← Nbq20.out] at hx240_0)
               (try rw [← Nbq20.out] at hx240_1)
               (try rw [← Nbq20.out] at hx240_2)
               (try rw [← Nbq20.out] at hx241_0)
               (try rw [← Nbq20.out] at hx241_1)
               (try rw [← Nbq20.out] at hx241_2)
               (try rw [← Nbq20.out] at hx242_0)
               (try rw [← Nbq20.out] at hx242_1)
               (try rw [← Nbq20.out] at hx242_2)
               (try rw [← Nbq20.out] at hx243_0)
               (try rw [← Nbq20.out] at hx243_1)
               (try rw [← Nbq20.out] at hx243_2)
               (try rw [← Nbq20.out] at hx244_0)
               (try rw [← Nbq20.out] at hx244_1)
               (try rw [← Nbq20.out] at hx244_2)
               (try rw [← Nbq20.out])
               have H':=zqd.mk H
               clear H
               have p243:0≤(x5_1:Int):=of_decide_eq_true (by first|(with_reducible assumption)|assumption)
               have q243:x5_1<(l1.length:Int):=of_decide_eq_true (by first|(with_reducible assumption)|assumption)
               obtain ⟨ad243,e243,hx243_0,hx243_1,hx243_2⟩:=at_T38 HR1.out x5_1 p243 q243
               obtain rfl:ad238=ad243:=(by injection e243)
               replace hx243_0:=(HB.out.cell (World.block_lt_of_cell? w _ hx243_0)).trans hx243_0
               replace hx243_1:=(HB.out.cell (World.block_lt_of_cell? w _ hx243_1)).trans hx243_1
               replace hx243_2:=(HB.out.cell (World.block_lt_of_cell? w _ hx243_2)).trans hx243_2
               replace p243:=eq_true p243
               replace q243:=eq_true q243
               have hcz23_0:wc.cell? ⟨gb237,0,none⟩=some (.string a0_0):=(zqf BK237.out 0).trans rfl
               have hcz23_1:wc.cell? ⟨gb237,1,none⟩=some (.slice A0_1 l0_1.length c0_1):=(zqf BK237.out 1).trans rfl
               have hcz23_2:wc.cell? ⟨gb237,2,none⟩=some (.slice A0_2 l0_2.length c0_2):=(zqf BK237.out 2).trans rfl
               have hcz23_3:wc.cell? ⟨gb237,3,none⟩=some (.slice A0_3 l0_3.length c0_3):=(zqf BK237.out 3).trans rfl
               have hfz23_0:=zqe BK237.out 0
               have hfz23_1:=zqe BK237.out 1
               have hfz23_2:=zqe BK237.out 2
               have hfz23_3:=zqe BK237.out 3
               have p244:0≤(x5_1:Int):=of_decide_eq_true (by first|(with_reducible assumption)|assumption)
               have q244:x5_1<(l0_1.length:Int):=of_decide_eq_true (by first|(with_reducible assumption)|assumption)
               obtain ⟨ad244,e244,hx244_0,hx244_1,hx244_2⟩:=at_T90 HR0_1.out x5_1 p244 q244
               (try rw [← Nbq20.out] at hx244_2)
               cases e244
               replace hx244_0:=(HB.out.cell (World.block_lt_of_cell? w _ hx244_0)).trans hx244_0
               replace hx244_1:=(HB.out.cell (World.block_lt_of_cell? w _ hx244_1)).trans hx244_1
               replace hx244_2:=(HB.out.cell (World.block_lt_of_cell? w _ hx244_2)).trans hx244_2
               replace p244:=eq_true p244
               replace q244:=eq_true q244
               go_wp2
               repeat(go_quiet (fail);try go_wp2)
               go_roundg kj9
               case measure=>have:=HK1.out;have:=HJ9.out;omega
               case rel=>first|(exact⟨(wrap64 (x5_1+1)),(by first|rfl|(simp;done)|(simp [*];done)|(generalize ByteArray.toList _=q_;cases q_ <;> rfl)),H',⟨by have:=HK1.out;have:=HJ9.out;omega⟩,⟨by(with_reducible repeat(first|refine zqg ?_ _|refine zqj ?_|refine zqh ?_ _));exact BK237.out⟩,⟨by repeat(first|(with_reducible first|exact HB.out|apply zqb|apply zqa|apply zqc|refine zqi ?_ GE237.out)|exact HB.out)⟩⟩)|(simp only [← Nbq20.out];exact⟨(wrap64 (x5_1+1)),(by first|rfl|(simp;done)|(simp [*];done)|(generalize ByteArray.toList _=q_;cases q_ <;> rfl)),H',⟨by have:=HK1.out;have:=HJ9.out;omega⟩,⟨by(with_reducible repeat(first|refine zqg ?_ _|refine zqj ?_|refine zqh ?_ _));exact BK237.out⟩,⟨by repeat(first|(with_reducible first|exact HB.out|apply zqb|apply zqa|apply zqc|refine zqi ?_ GE237.out)|exact HB.out)⟩⟩)
             ·rw [if_neg c19] at H
              exact absurd H (by simp)
            ·rw [if_neg c18] at H
             have c18b0:(((zqs l1 x5_1).f0) == 0)=false:=beq_eq_false_iff_ne.mpr c18
             have c18b1:(((zqs l1 x5_1).f0) != 0)=true:=bne_iff_ne.mpr c18
             have H':=zqd.mk H
             clear H
             have p243:0≤(x5_1:Int):=of_decide_eq_true (by first|(with_reducible assumption)|assumption)
             have q243:x5_1<(l1.length:Int):=of_decide_eq_true (by first|(with_reducible assumption)|assumption)
             obtain ⟨ad243,e243,hx243_0,hx243_1,hx243_2⟩:=at_T38 HR1.out x5_1 p243 q243
             obtain rfl:ad238=ad243:=(by injection e243)
             replace hx243_0:=(HB.out.cell (World.block_lt_of_cell? w _ hx243_0)).trans hx243_0
             replace hx243_1:=(HB.out.cell (World.block_lt_of_cell? w _ hx243_1)).trans hx243_1
             replace hx243_2:=(HB.out.cell (World.block_lt_of_cell? w _ hx243_2)).trans hx243_2
             replace p243:=eq_true p243
             replace q243:=eq_true q243
             go_wp2
             repeat(go_quiet (fail);try go_wp2)
             go_roundg kj9
             case measure=>have:=HK1.out;have:=HJ9.out;omega
             case rel=>exact⟨(wrap64 (x5_1+1)),(by first|rfl|(simp;done)|(simp [*];done)|(generalize ByteArray.toList _=q_;cases q_ <;> rfl)),H',⟨by have:=HK1.out;have:=HJ9.out;omega⟩,⟨by(with_reducible repeat(first|refine zqg ?_ _|refine zqj ?_|refine zqh ?_ _));exact BK237.out⟩,⟨by repeat(first|(with_reducible first|exact HB.out|apply zqb|apply zqa|apply zqc|refine zqi ?_ GE237.out)|exact HB.out)⟩⟩
           ·rw [if_neg c17] at H
            exact absurd H (by simp)
          ·rw [if_neg c16] at H
           exact absurd H (by simp)
      ·rw [if_neg c9] at H
       have c9b0:(t239 == 0)=false:=beq_eq_false_iff_ne.mpr c9
       have c9b1:(t239 != 0)=true:=bne_iff_ne.mpr c9
       obtain rfl:=Option.some.inj H
       have p238:0≤(x5_1:Int):=of_decide_eq_true (by first|(with_reducible assumption)|assumption)
       have q238:x5_1<(l1.length:Int):=of_decide_eq_true (by first|(with_reducible assumption)|assumption)
       obtain ⟨ad238,e238,hx238_0,hx238_1,hx238_2⟩:=at_T38 HR1.out x5_1 p238 q238
       cases e238
       replace hx238_0:=(HB.out.cell (World.block_lt_of_cell? w _ hx238_0)).trans hx238_0
       replace hx238_1:=(HB.out.cell (World.block_lt_of_cell? w _ hx238_1)).trans hx238_1
       replace hx238_2:=(HB.out.cell (World.block_lt_of_cell? w _ hx238_2)).trans hx238_2
       replace p238:=eq_true p238
       replace q238:=eq_true q238
       go_wp2_with (first|(go_at_call 61;(with_reducible refine(zjh.calls k1 ((zqs l1 x5_1).f0) ((zqs l1 x5_1).f1) ((zqs l1 x5_1).f2) t239 _ A8.out).mono ?_);rintro e w24 ⟨rfl,hb⟩;have n0_:=zqd.mk (zqr (g:=gb237) (o:=.cells #[.string a0_0,.slice A0_1 l0_1.length c0_1,.slice A0_2 l0_2.length c0_2,.slice A0_3 l0_3.length c0_3] 61 (0,0)) (by(with_reducible repeat(first|refine zqg ?_ _|refine zqj ?_|refine zqh ?_ _));exact BK237.out) hb);have n1_:=zqd.mk (zqn (by repeat(first|(with_reducible first|exact HB.out|apply zqb|apply zqa|apply zqc|refine zqi ?_ GE237.out)|exact HB.out)) hb);clear BK237 HB;have BK237:=n0_;have HB:=n1_;clear n0_ n1_;(try clear hb);(try clear hb2);(try clear hk);(try clear hi)))
       repeat(go_quiet (first|(go_at_call 61;(with_reducible refine(zjh.calls k1 ((zqs l1 x5_1).f0) ((zqs l1 x5_1).f1) ((zqs l1 x5_1).f2) t239 _ A8.out).mono ?_);rintro e w24 ⟨rfl,hb⟩;have n0_:=zqd.mk (zqr (g:=gb237) (o:=.cells #[.string a0_0,.slice A0_1 l0_1.length c0_1,.slice A0_2 l0_2.length c0_2,.slice A0_3 l0_3.length c0_3] 61 (0,0)) (by(with_reducible repeat(first|refine zqg ?_ _|refine zqj ?_|refine zqh ?_ _));exact BK237.out) hb);have n1_:=zqd.mk (zqn (by repeat(first|(with_reducible first|exact HB.out|apply zqb|apply zqa|apply zqc|refine zqi ?_ GE237.out)|exact HB.out)) hb);clear BK237 HB;have BK237:=n0_;have HB:=n1_;clear n0_ n1_;(try clear hb);(try clear hb2);(try clear hk);(try clear hi)));try go_wp2_with (first|(go_at_call 61;(with_reducible refine(zjh.calls k1 ((zqs l1 x5_1).f0) ((zqs l1 x5_1).f1) ((zqs l1 x5_1).f2) t239 _ A8.out).mono ?_);rintro e w24 ⟨rfl,hb⟩;have n0_:=zqd.mk (zqr (g:=gb237) (o:=.cells #[.string a0_0,.slice A0_1 l0_1.length c0_1,.slice A0_2 l0_2.length c0_2,.slice A0_3 l0_3.length c0_3] 61 (0,0)) (by(with_reducible repeat(first|refine zqg ?_ _|refine zqj ?_|refine zqh ?_ _));exact BK237.out) hb);have n1_:=zqd.mk (zqn (by repeat(first|(with_reducible first|exact HB.out|apply zqb|apply zqa|apply zqc|refine zqi ?_ GE237.out)|exact HB.out)) hb);clear BK237 HB;have BK237:=n0_;have HB:=n1_;clear n0_ n1_;(try clear hb);(try clear hb2);(try clear hk);(try clear hi))))
       go_ret
       exact⟨by first|rfl|(simp [zqm,zql] <;> rfl)|(simp [*,zqm,zql] <;> rfl),by repeat(first|(with_reducible first|exact HB.out|apply zqb|apply zqa|apply zqc|refine zqi ?_ GE237.out)|exact HB.out)⟩
     ·rw [if_neg c7] at H
      exact absurd H (by simp)
    ·rw [if_neg c6] at H
     have c6b0:decide (x5_1<(l1.length:Int))=false:=decide_eq_false c6
     clear c6
     obtain rfl:=Option.some.inj H
     go_wp2
     repeat(go_quiet (fail);try go_wp2)
     go_ret
     exact⟨by first|rfl|(simp [zqm,zql] <;> rfl)|(simp [*,zqm,zql] <;> rfl),by repeat(first|(with_reducible first|exact HB.out|apply zqb|apply zqa|apply zqc|refine zqi ?_ GE237.out)|exact HB.out)⟩
 ·rw [if_neg c3] at H
  have c3b0:((l1.length:Int) == (l0_1.length:Int))=false:=beq_eq_false_iff_ne.mpr c3
  have c3b1:((l1.length:Int) != (l0_1.length:Int))=true:=bne_iff_ne.mpr c3
  have c3b2:(l1.length == l0_1.length)=false:=by first|simpa using c3|(simp at c3 ⊢;omega)
  obtain rfl:=Option.some.inj H
  go_enter Tryd.func32,Tryd.ntmps32
  go_wp2_with (first|((with_reducible refine zqx (N:=2) rfl ?_);refine zqt ?hg (N:=2) ?hd (cs:=#[.string a0_0,.slice A0_1 l0_1.length c0_1,.slice A0_2 l0_2.length c0_2,.slice A0_3 l0_3.length c0_3]) (t:=61) ?hr ?_;(case hd=>rfl);(case hg=>rfl);(case hr=>first|(go_simp;done)|(go_simp;rfl));intro gb237 hg w25 hbox hb;have n0_:=zqd.mk (zqn (by repeat(first|(with_reducible first|exact HB.out|apply zqb|apply zqa|apply zqc)|exact HB.out)) hb);have n1_:=zqd.mk (hbox);have n2_:=zqd.mk ((by rw [hg];exact(zqk (by repeat(first|(with_reducible first|exact HB.out|apply zqb|apply zqa|apply zqc)|exact HB.out))):w.heap.size≤gb237));have n3_:=zqd.mk ((by rw [hg];exact(zqk (by repeat(first|(with_reducible first|exact HB.out|apply zqb|apply zqa|apply zqc)|exact HB.out))):w.heap.size≤gb237));clear HB;have HB:=n0_;have BK237:=n1_;have GW237:=n2_;have GE237:=n3_;clear n0_ n1_ n2_ n3_ hb hbox hg;have hcz26_0:w25.cell? ⟨gb237,0,none⟩=some (.string a0_0):=(zqf BK237.out 0).trans rfl;have hcz26_1:w25.cell? ⟨gb237,1,none⟩=some (.slice A0_1 l0_1.length c0_1):=(zqf BK237.out 1).trans rfl;have hcz26_2:w25.cell? ⟨gb237,2,none⟩=some (.slice A0_2 l0_2.length c0_2):=(zqf BK237.out 2).trans rfl;have hcz26_3:w25.cell? ⟨gb237,3,none⟩=some (.slice A0_3 l0_3.length c0_3):=(zqf BK237.out 3).trans rfl;have hfz26_0:=zqe BK237.out 0;have hfz26_1:=zqe BK237.out 1;have hfz26_2:=zqe BK237.out 2;have hfz26_3:=zqe BK237.out 3))
  repeat(go_quiet (first|((with_reducible refine zqx (N:=2) rfl ?_);refine zqt ?hg (N:=2) ?hd (cs:=#[.string a0_0,.slice A0_1 l0_1.length c0_1,.slice A0_2 l0_2.length c0_2,.slice A0_3 l0_3.length c0_3]) (t:=61) ?hr ?_;(case hd=>rfl);(case hg=>rfl);(case hr=>first|(go_simp;done)|(go_simp;rfl));intro gb237 hg w25 hbox hb;have n0_:=zqd.mk (zqn (by repeat(first|(with_reducible first|exact HB.out|apply zqb|apply zqa|apply zqc)|exact HB.out)) hb);have n1_:=zqd.mk (hbox);have n2_:=zqd.mk ((by rw [hg];exact(zqk (by repeat(first|(with_reducible first|exact HB.out|apply zqb|apply zqa|apply zqc)|exact HB.out))):w.heap.size≤gb237));have n3_:=zqd.mk ((by rw [hg];exact(zqk (by repeat(first|(with_reducible first|exact HB.out|apply zqb|apply zqa|apply zqc)|exact HB.out))):w.heap.size≤gb237));clear HB;have HB:=n0_;have BK237:=n1_;have GW237:=n2_;have GE237:=n3_;clear n0_ n1_ n2_ n3_ hb hbox hg;have hcz26_0:w25.cell? ⟨gb237,0,none⟩=some (.string a0_0):=(zqf BK237.out 0).trans rfl;have hcz26_1:w25.cell? ⟨gb237,1,none⟩=some (.slice A0_1 l0_1.length c0_1):=(zqf BK237.out 1).trans rfl;have hcz26_2:w25.cell? ⟨gb237,2,none⟩=some (.slice A0_2 l0_2.length c0_2):=(zqf BK237.out 2).trans rfl;have hcz26_3:w25.cell? ⟨gb237,3,none⟩=some (.slice A0_3 l0_3.length c0_3):=(zqf BK237.out 3).trans rfl;have hfz26_0:=zqe BK237.out 0;have hfz26_1:=zqe BK237.out 1;have hfz26_2:=zqe BK237.out 2;have hfz26_3:=zqe BK237.out 3));try go_wp2_with (first|((with_reducible refine zqx (N:=2) rfl ?_);refine zqt ?hg (N:=2) ?hd (cs:=#[.string a0_0,.slice A0_1 l0_1.length c0_1,.slice A0_2 l0_2.length c0_2,.slice A0_3 l0_3.length c0_3]) (t:=61) ?hr ?_;(case hd=>rfl);(case hg=>rfl);(case hr=>first|(go_simp;done)|(go_simp;rfl));intro gb237 hg w25 hbox hb;have n0_:=zqd.mk (zqn (by repeat(first|(with_reducible first|exact HB.out|apply zqb|apply zqa|apply zqc)|exact HB.out)) hb);have n1_:=zqd.mk (hbox);have n2_:=zqd.mk ((by rw [hg];exact(zqk (by repeat(first|(with_reducible first|exact HB.out|apply zqb|apply zqa|apply zqc)|exact HB.out))):w.heap.size≤gb237));have n3_:=zqd.mk ((by rw [hg];exact(zqk (by repeat(first|(with_reducible first|exact HB.out|apply zqb|apply zqa|apply zqc)|exact HB.out))):w.heap.size≤gb237));clear HB;have HB:=n0_;have BK237:=n1_;have GW237:=n2_;have GE237:=n3_;clear n0_ n1_ n2_ n3_ hb hbox hg;have hcz26_0:w25.cell? ⟨gb237,0,none⟩=some (.string a0_0):=(zqf BK237.out 0).trans rfl;have hcz26_1:w25.cell? ⟨gb237,1,none⟩=some (.slice A0_1 l0_1.length c0_1):=(zqf BK237.out 1).trans rfl;have hcz26_2:w25.cell? ⟨gb237,2,none⟩=some (.slice A0_2 l0_2.length c0_2):=(zqf BK237.out 2).trans rfl;have hcz26_3:w25.cell? ⟨gb237,3,none⟩=some (.slice A0_3 l0_3.length c0_3):=(zqf BK237.out 3).trans rfl;have hfz26_0:=zqe BK237.out 0;have hfz26_1:=zqe BK237.out 1;have hfz26_2:=zqe BK237.out 2;have hfz26_3:=zqe BK237.out 3)))
  go_ret
  exact⟨by first|rfl|(simp [zqm,zql] <;> rfl)|(simp [*,zqm,zql] <;> rfl),by repeat(first|(with_reducible first|exact HB.out|apply zqb|apply zqa|apply zqc|refine zqi ?_ GE237.out)|exact HB.out)⟩

/-! ### zj7: function 62 -/
def zj7.f (a0:Int):Option (Int × Int × ByteArray):=some (2,a0,(⟨#[]⟩:ByteArray))
set_option maxHeartbeats 8000000 in
set_option maxRecDepth 100000 in
theorem zj7.calls (a0:Int) (r1:Int) (r2:Int) (r3:ByteArray) (w:World) (h:zj7.f a0=some (r1,r2,r3)) :
  Calls Tryd.prog 62 #[.int .i64 a0] w fun e w'=>e = .returned (.agg #[.int .i64 r1,.int .i64 r2,.string r3])∧Below w.heap.size w w':=by
 have hu38:=Tryd.underlying38
 have HB:=zqd.mk (Below.refl w.heap.size w)
 have H:(some (2,a0,(⟨#[]⟩:ByteArray)))=some (r1,r2,r3):=h
 clear h
 simp only [Option.some.injEq,Prod.mk.injEq] at H
 obtain ⟨rfl,rfl,rfl⟩:=H
 go_enter Tryd.func62,Tryd.ntmps62
 go_wp2_with (first|((with_reducible refine zqx (N:=2) rfl ?_);refine zqt ?hg (N:=2) ?hd (cs:=#[.int .i64 0,.int .i64 0,.string (⟨#[]⟩:ByteArray)]) (t:=38) ?hr ?_;(case hd=>rfl);(case hg=>rfl);(case hr=>first|(go_simp;done)|(go_simp;rfl));intro gb245 hg w2 hbox hb;have n0_:=zqd.mk (zqn (by repeat(first|(with_reducible first|exact HB.out|apply zqb|apply zqa|apply zqc)|exact HB.out)) hb);have n1_:=zqd.mk (hbox);have n2_:=zqd.mk ((by rw [hg];exact(zqk (by repeat(first|(with_reducible first|exact HB.out|apply zqb|apply zqa|apply zqc)|exact HB.out))):w.heap.size≤gb245));have n3_:=zqd.mk ((by rw [hg];exact(zqk (by repeat(first|(with_reducible first|exact HB.out|apply zqb|apply zqa|apply zqc)|exact HB.out))):w.heap.size≤gb245));clear HB;have HB:=n0_;have BK245:=n1_;have GW245:=n2_;have GE245:=n3_;clear n0_ n1_ n2_ n3_ hb hbox hg;have hcz3_0:w2.cell? ⟨gb245,0,none⟩=some (.int .i64 0):=(zqf BK245.out 0).trans rfl;have hcz3_1:w2.cell? ⟨gb245,1,none⟩=some (.int .i64 0):=(zqf BK245.out 1).trans rfl;have hcz3_2:w2.cell? ⟨gb245,2,none⟩=some (.string (⟨#[]⟩:ByteArray)):=(zqf BK245.out 2).trans rfl;have hfz3_0:=zqe BK245.out 0;have hfz3_1:=zqe BK245.out 1;have hfz3_2:=zqe BK245.out 2))
 refine bodyPost_ret (results_cell_row rfl _ _ gb245 38 #[.int .i64 2,.int .i64 a0,.string (⟨#[]⟩:ByteArray)] (0,0) _ rfl (by(with_reducible repeat(first|refine zqg ?_ _|refine zqj ?_|refine zqh ?_ _));refine zqu (cs:=#[.int .i64 2,.int .i64 a0,.string (⟨#[]⟩:ByteArray)]) ?_ 2 _ rfl;(with_reducible repeat(first|refine zqg ?_ _|refine zqj ?_|refine zqh ?_ _));refine zqu (cs:=#[.int .i64 2,.int .i64 0,.string (⟨#[]⟩:ByteArray)]) ?_ 1 _ rfl;(with_reducible repeat(first|refine zqg ?_ _|refine zqj ?_|refine zqh ?_ _));refine zqu (cs:=#[.int .i64 0,.int .i64 0,.string (⟨#[]⟩:ByteArray)]) ?_ 0 _ rfl;(with_reducible repeat(first|refine zqg ?_ _|refine zqj ?_|refine zqh ?_ _));exact BK245.out) Tryd.underlying38 rfl (by kernel_rfl)) rfl ?_
 exact⟨by first|rfl|(simp [zqm,zql] <;> rfl)|(simp [*,zqm,zql] <;> rfl),by repeat(first|(with_reducible first|exact HB.out|apply zqb|apply zqa|apply zqc|refine zqi ?_ GE245.out)|exact HB.out)⟩

end Go.Proofs.YthhejedfjgikdaaDoor.PRowEntries
