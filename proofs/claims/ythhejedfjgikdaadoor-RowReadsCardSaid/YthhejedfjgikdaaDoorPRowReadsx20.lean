-- Written by wip/pp of this repo (over the kit's print, with additions of this session); Lean checks every line.
import Derived.Test.YthhejedfjgikdaaDoorPRowReadsx19
namespace Go.Proofs.YthhejedfjgikdaaDoor.PRowReads
open Go.RowKit Go.Proofs.YthhejedfjgikdaaDoorW.PrintWords Go.Proofs.YthhejedfjgikdaaDoorW.PrintLast Go.Proofs.YthhejedfjgikdaaDoorW.PrintMore
attribute [local go_sem] zjo zjm zjw zjv zja zq9 zjn zjl   -- for this text's walks alone
set_option linter.unusedVariables false
set_option linter.unusedSimpArgs false

/-! ### qj: function 32 -/
mutual
def qj.l0:Nat→List (S38)→Int→ByteArray→List (S90)→List Int→List (S96)→Option (Int)
 | 0,_,_,_,_,_,_=>none
 | k+1,x1,x5,x298000,x298001,x298002,x298003=>if x5<(x1.length:Int) then(if 0≤x5 then((zc.f k ((qf x1 x5).f0) ((qf x1 x5).f1) ((qf x1 x5).f2)).bind fun t299=>(if t299=0 then(if((qf x1 x5).f0)=0 then(qj.j1 k x1 x5 false x298000 x298001 x298002 x298003) else (if x5<(x298001.length:Int) then(qj.j1 k x1 x5 (((qf x1 x5).f0) != ((qg x298001 x5).f1)) x298000 x298001 x298002 x298003) else (none))) else (some t299))) else (none)) else (some 0)
def qj.j1:Nat→List (S38)→Int→Bool→ByteArray→List (S90)→List Int→List (S96)→Option (Int)
 | 0,_,_,_,_,_,_,_=>none
 | k+1,x1,x5,x46,x298000,x298001,x298002,x298003=>if x46=true then(some 12) else (if 0≤x5 then(if x5<(x1.length:Int) then(if((qf x1 x5).f0)=0 then(if x5<(x298001.length:Int) then(if(qg x298001 x5).f2=true then(some 13) else (qj.l0 k x1 (wrap64 (x5+1)) x298000 x298001 x298002 x298003)) else (none)) else (qj.l0 k x1 (wrap64 (x5+1)) x298000 x298001 x298002 x298003)) else (none)) else (none))
end
def qj.f (k:Nat) (a0_0:ByteArray) (l0_1:List (S90)) (l0_2:List Int) (l0_3:List (S96)) (l1:List (S38)):Option (Int):=if(l1.length:Int)=(l0_1.length:Int) then(qj.l0 k l1 0 a0_0 l0_1 l0_2 l0_3) else (some 1)
theorem qj.mono_l:∀ k,(∀ y0 y1 y2 y3 y4 y5,LeO (qj.l0 k y0 y1 y2 y3 y4 y5) (qj.l0 (k+1) y0 y1 y2 y3 y4 y5))∧(∀ y0 y1 y2 y3 y4 y5 y6,LeO (qj.j1 k y0 y1 y2 y3 y4 y5 y6) (qj.j1 (k+1) y0 y1 y2 y3 y4 y5 y6))
 | 0=>⟨fun _ _ _ _ _ _ r h=>by simp [qj.l0] at h,fun _ _ _ _ _ _ _ r h=>by simp [qj.j1] at h⟩
 | k+1=>by
  obtain ⟨ih0,ih1⟩:=qj.mono_l k
  refine⟨?_,?_⟩
  ·intro y0 y1 y2 y3 y4 y5
   unfold qj.l0
   repeat' first
   | (with_reducible first|exact ih0 _ _ _ _ _ _|exact ih1 _ _ _ _ _ _ _|exact zc.mono _ _ _ _|exact LeO.refl _|exact LeO.none _|refine LeO.ite ?_ ?_|refine LeO.bind ?_ (fun _=>?_))
   | exact ih0 _ _ _ _ _ _
   | exact ih1 _ _ _ _ _ _ _
   | exact zc.mono _ _ _ _
   | exact LeO.none _
   | refine LeO.ite ?_ ?_
   | refine LeO.bind ?_ (fun _=>?_)
  intro y0 y1 y2 y3 y4 y5 y6
  unfold qj.j1
  repeat' first
  | (with_reducible first|exact ih0 _ _ _ _ _ _|exact ih1 _ _ _ _ _ _ _|exact zc.mono _ _ _ _|exact LeO.refl _|exact LeO.none _|refine LeO.ite ?_ ?_|refine LeO.bind ?_ (fun _=>?_))
  | exact ih0 _ _ _ _ _ _
  | exact ih1 _ _ _ _ _ _ _
  | exact zc.mono _ _ _ _
  | exact LeO.none _
  | refine LeO.ite ?_ ?_
  | refine LeO.bind ?_ (fun _=>?_)
theorem qj.mono:∀ a0 a1 a2 a3 a4 k,LeO (qj.f k a0 a1 a2 a3 a4) (qj.f (k+1) a0 a1 a2 a3 a4):=by
 intro a0 a1 a2 a3 a4 k
 obtain ⟨ih0,ih1⟩:=qj.mono_l k
 unfold qj.f
 repeat' first
   | (with_reducible first|exact ih0 _ _ _ _ _ _|exact ih1 _ _ _ _ _ _ _|exact zc.mono _ _ _ _|exact LeO.refl _|exact LeO.none _|refine LeO.ite ?_ ?_|refine LeO.bind ?_ (fun _=>?_))
   | exact ih0 _ _ _ _ _ _
   | exact ih1 _ _ _ _ _ _ _
   | exact zc.mono _ _ _ _
   | exact LeO.none _
   | refine LeO.ite ?_ ?_
   | refine LeO.bind ?_ (fun _=>?_)
set_option maxHeartbeats 8000000 in
set_option maxRecDepth 100000 in
theorem qj.calls (k:Nat) (a0_0:ByteArray) (A0_1:Option Addr) (c0_1:Nat) (l0_1:List (S90)) (A0_2:Option Addr) (c0_2:Nat) (l0_2:List Int) (A0_3:Option Addr) (c0_3:Nat) (l0_3:List (S96)) (A1:Option Addr) (c1:Nat) (l1:List (S38)) (r:Int) (w:World) (hr0_1:Kd.C k90 w A0_1 l0_1.length l0_1) (hc0_1:l0_1.length≤c0_1) (hr0_2:Kd.C (Kd.int .i64) w A0_2 l0_2.length l0_2) (hc0_2:l0_2.length≤c0_2) (hr0_3:Kd.C k96 w A0_3 l0_3.length l0_3) (hc0_3:l0_3.length≤c0_3) (hr1:Kd.C k38 w A1 l1.length l1) (hc1:l1.length≤c1) (h:qj.f k a0_0 l0_1 l0_2 l0_3 l1=some r) :
  Calls Tryd.prog 32 #[.agg #[.string a0_0,.slice A0_1 l0_1.length c0_1,.slice A0_2 l0_2.length c0_2,.slice A0_3 l0_3.length c0_3],.slice A1 l1.length c1] w fun e w'=>e = .returned (.int .i64 r)∧Below w.heap.size w w':=by
 have hu61:=Tryd.underlying61
 have hu38:=Tryd.underlying38
 have HR0_1:=zq.mk hr0_1
 have HC0_1:=zq.mk hc0_1
 clear hr0_1 hc0_1
 have HR0_2:=zq.mk hr0_2
 have HC0_2:=zq.mk hc0_2
 clear hr0_2 hc0_2
 have HR0_3:=zq.mk hr0_3
 have HC0_3:=zq.mk hc0_3
 clear hr0_3 hc0_3
 have HR1:=zq.mk hr1
 have HC1:=zq.mk hc1
 clear hr1 hc1
 have HB:=zq.mk (Below.refl w.heap.size w)
 have H:(if(l1.length:Int)=(l0_1.length:Int) then(qj.l0 k l1 0 a0_0 l0_1 l0_2 l0_3) else (some 1))=some r:=h
 clear h
 by_cases c3:(l1.length:Int)=(l0_1.length:Int)
 ·rw [if_pos c3] at H
  have c3b0:((l1.length:Int) == (l0_1.length:Int))=true:=beq_iff_eq.mpr c3
  have c3b1:((l1.length:Int) != (l0_1.length:Int))=false:=bne_eq_false_iff_eq.mpr c3
  have c3b2:(l1.length == l0_1.length)=true:=by first|simpa using c3|(simp at c3 ⊢;omega)
  clear c3
  have H':=zq.mk H
  clear H
  go_enter Tryd.func32,Tryd.ntmps32
  go_wp2_with (first|((with_reducible refine qr (N:=2) rfl ?_);refine qm ?hg (N:=2) ?hd (cs:=#[.string a0_0,.slice A0_1 l0_1.length c0_1,.slice A0_2 l0_2.length c0_2,.slice A0_3 l0_3.length c0_3]) (t:=61) ?hr ?_;(case hd=>rfl);(case hg=>rfl);(case hr=>first|(go_simp;done)|(go_simp;rfl));intro gb297 hg w4 hbox hb;have BK297:=zq.mk (hbox);have GW297:=zq.mk ((by rw [hg];exact(zw bw):w.heap.size≤gb297));have GE297:=zq.mk ((by rw [hg];exact(zw bw):w.heap.size≤gb297));replace HB:=zq.mk (zn bw hb);clear hb hbox hg;obtain ⟨hcz5_0,hcz5_1,hcz5_2,hcz5_3,hfz5_0,hfz5_1,hfz5_2,hfz5_3⟩:=zqv BK297.out))
  repeat(go_quiet (first|((with_reducible refine qr (N:=2) rfl ?_);refine qm ?hg (N:=2) ?hd (cs:=#[.string a0_0,.slice A0_1 l0_1.length c0_1,.slice A0_2 l0_2.length c0_2,.slice A0_3 l0_3.length c0_3]) (t:=61) ?hr ?_;(case hd=>rfl);(case hg=>rfl);(case hr=>first|(go_simp;done)|(go_simp;rfl));intro gb297 hg w4 hbox hb;have BK297:=zq.mk (hbox);have GW297:=zq.mk ((by rw [hg];exact(zw bw):w.heap.size≤gb297));have GE297:=zq.mk ((by rw [hg];exact(zw bw):w.heap.size≤gb297));replace HB:=zq.mk (zn bw hb);clear hb hbox hg;obtain ⟨hcz5_0,hcz5_1,hcz5_2,hcz5_3,hfz5_0,hfz5_1,hfz5_2,hfz5_3⟩:=zqv BK297.out));try go_wp2_with (first|((with_reducible refine qr (N:=2) rfl ?_);refine qm ?hg (N:=2) ?hd (cs:=#[.string a0_0,.slice A0_1 l0_1.length c0_1,.slice A0_2 l0_2.length c0_2,.slice A0_3 l0_3.length c0_3]) (t:=61) ?hr ?_;(case hd=>rfl);(case hg=>rfl);(case hr=>first|(go_simp;done)|(go_simp;rfl));intro gb297 hg w4 hbox hb;have BK297:=zq.mk (hbox);have GW297:=zq.mk ((by rw [hg];exact(zw bw):w.heap.size≤gb297));have GE297:=zq.mk ((by rw [hg];exact(zw bw):w.heap.size≤gb297));replace HB:=zq.mk (zn bw hb);clear hb hbox hg;obtain ⟨hcz5_0,hcz5_1,hcz5_2,hcz5_3,hfz5_0,hfz5_1,hfz5_2,hfz5_3⟩:=zqv BK297.out)))
  go_loopg [5] k (fun kq v5 w' => ∃ (x5_1:Int),v5 = .int .i64 x5_1∧zq (qj.l0 kq l1 x5_1 a0_0 l0_1 l0_2 l0_3=some r)∧zq (kq≤k)∧zq (w'.heap[gb297]? = some (.cells #[.string a0_0,(.slice A0_1 l0_1.length c0_1),(.slice A0_2 l0_2.length c0_2),(.slice A0_3 l0_3.length c0_3)] 61 (0,0)))∧zq (Below w.heap.size w w'))
  case atStart=>exact⟨(0),vr,H',⟨Nat.le_refl _⟩,⟨by(with_reducible repeat(first|refine zz ?_ _|refine zk ?_|refine zj ?_ _));exact BK297.out⟩,⟨bw⟩⟩
  case round=>
   clear H'
   (try clear c1);(try clear c3);(try clear c3b0);(try clear c3b1);(try clear c3b2);(try clear hcz5_0);(try clear hcz5_1);(try clear hcz5_2);(try clear hcz5_3);(try clear hfz5_0);(try clear hfz5_1);(try clear hfz5_2);(try clear hfz5_3)
   (try clear BK297)
   obtain ⟨x5_1,rfl,HA,HK1,BK297,HB⟩:=hrel
   cases gk with
   | zero=>exact absurd HA.out (by simp [qj.l0])
   | succ k1=>
    have H:=HA.out
    clear HA
    simp only [qj.l0] at H
    by_cases c6:x5_1<(l1.length:Int)
    ·rw [if_pos c6] at H
     have c6b0:=decide_eq_true c6
     clear c6
     by_cases c7:0≤x5_1
     ·rw [if_pos c7] at H
      have c7b0:=decide_eq_true c7
      clear c7
      replace H:=Option.bind_eq_some_iff.mp H
      obtain ⟨t299,A80,H⟩:=H
      replace H:(if t299=0 then(if((qf l1 x5_1).f0)=0 then(qj.j1 k1 l1 x5_1 false a0_0 l0_1 l0_2 l0_3) else (if x5_1<(l0_1.length:Int) then(qj.j1 k1 l1 x5_1 (((qf l1 x5_1).f0) != ((qg l0_1 x5_1).f1)) a0_0 l0_1 l0_2 l0_3) else (none))) else (some t299))=some r:=H
      have A8:=zq.mk A80
      clear A80
      by_cases c9:t299=0
      ·rw [if_pos c9] at H
       have c9b0:(t299 == 0)=true:=beq_iff_eq.mpr c9
       have c9b1:(t299 != 0)=false:=bne_eq_false_iff_eq.mpr c9
       clear c9
       have HC10:=zq.mk H
       clear H
       have p298:0≤(x5_1:Int):=dt
       have q298:x5_1<(l1.length:Int):=dt
       obtain ⟨ad298,e298,hx298_0,hx298_1,hx298_2⟩:=zxq HR1.out x5_1 p298 q298
       cases e298
       replace hx298_0:=(HB.out.cell (World.block_lt_of_cell? w _ hx298_0)).trans hx298_0
       replace hx298_1:=(HB.out.cell (World.block_lt_of_cell? w _ hx298_1)).trans hx298_1
       replace hx298_2:=(HB.out.cell (World.block_lt_of_cell? w _ hx298_2)).trans hx298_2
       replace p298:=eq_true p298
       replace q298:=eq_true q298
       go_upto_region 9 with (first|(go_at_call 61;(with_reducible refine(zc.calls k1 ((qf l1 x5_1).f0) ((qf l1 x5_1).f1) ((qf l1 x5_1).f2) t299 _ A8.out).mono ?_);rintro e w11 ⟨rfl,hb⟩;replace BK297:=zq.mk (ze (g:=gb297) (o:=.cells #[.string a0_0,.slice A0_1 l0_1.length c0_1,.slice A0_2 l0_2.length c0_2,.slice A0_3 l0_3.length c0_3] 61 (0,0)) (up BK297.out) hb);replace HB:=zq.mk (zn bw hb);(try clear hb);(try clear hb2);(try clear hk);(try clear hi)))
       repeat(go_quiet (first|(go_at_call 61;(with_reducible refine(zc.calls k1 ((qf l1 x5_1).f0) ((qf l1 x5_1).f1) ((qf l1 x5_1).f2) t299 _ A8.out).mono ?_);rintro e w11 ⟨rfl,hb⟩;replace BK297:=zq.mk (ze (g:=gb297) (o:=.cells #[.string a0_0,.slice A0_1 l0_1.length c0_1,.slice A0_2 l0_2.length c0_2,.slice A0_3 l0_3.length c0_3] 61 (0,0)) (up BK297.out) hb);replace HB:=zq.mk (zn bw hb);(try clear hb);(try clear hb2);(try clear hk);(try clear hi)));go_upto_region 9 with (first|(go_at_call 61;(with_reducible refine(zc.calls k1 ((qf l1 x5_1).f0) ((qf l1 x5_1).f1) ((qf l1 x5_1).f2) t299 _ A8.out).mono ?_);rintro e w11 ⟨rfl,hb⟩;replace BK297:=zq.mk (ze (g:=gb297) (o:=.cells #[.string a0_0,.slice A0_1 l0_1.length c0_1,.slice A0_2 l0_2.length c0_2,.slice A0_3 l0_3.length c0_3] 61 (0,0)) (up BK297.out) hb);replace HB:=zq.mk (zn bw hb);(try clear hb);(try clear hb2);(try clear hk);(try clear hi))))
       (try simp only [Act.put,List.setIfInBounds_toArray,List.set_cons_zero,List.set_cons_succ])
       go_cut [46] (fun v46 wc => ∃ (kq:Nat) (x46_9:Bool),v46 = .bool x46_9∧zq (qj.j1 kq l1 x5_1 x46_9 a0_0 l0_1 l0_2 l0_3=some r)∧zq (kq≤k1)∧zq (wc.heap[gb297]? = some (.cells #[.string a0_0,(.slice A0_1 l0_1.length c0_1),(.slice A0_2 l0_2.length c0_2),(.slice A0_3 l0_3.length c0_3)] 61 (0,0)))∧zq (Below w.heap.size w wc))
       case first=>
        have H:=HC10.out
        clear HC10
        by_cases c12:((qf l1 x5_1).f0)=0
        ·rw [if_pos c12] at H
         have c12b0:(((qf l1 x5_1).f0) == 0)=true:=beq_iff_eq.mpr c12
         have c12b1:(((qf l1 x5_1).f0) != 0)=false:=bne_eq_false_iff_eq.mpr c12
         clear c12
         (first|rw [c12b0]|(simp only [zqp,zqq];rw [c12b0])|skip)
         have H':=zq.mk H
         clear H
         have p300:0≤(x5_1:Int):=dt
         have q300:x5_1<(l1.length:Int):=dt
         obtain ⟨ad300,e300,hx300_0,hx300_1,hx300_2⟩:=zxq HR1.out x5_1 p300 q300
         obtain rfl:ad298=ad300:=(by injection e300)
         replace hx300_0:=(HB.out.cell (World.block_lt_of_cell? w _ hx300_0)).trans hx300_0
         replace hx300_1:=(HB.out.cell (World.block_lt_of_cell? w _ hx300_1)).trans hx300_1
         replace hx300_2:=(HB.out.cell (World.block_lt_of_cell? w _ hx300_2)).trans hx300_2
         replace p300:=eq_true p300
         replace q300:=eq_true q300
         go_wp2
         repeat(go_quiet (fail);try go_wp2)
         go_meet
         case rel=>exact⟨_,(false),vr,H',⟨by have:=HK1.out;first|omega|exact Nat.le_refl _⟩,⟨by(with_reducible repeat(first|refine zz ?_ _|refine zk ?_|refine zj ?_ _));exact BK297.out⟩,⟨bw⟩⟩
        rw [if_neg c12] at H
        have c12b0:(((qf l1 x5_1).f0) == 0)=false:=beq_eq_false_iff_ne.mpr c12
        have c12b1:(((qf l1 x5_1).f0) != 0)=true:=bne_iff_ne.mpr c12
        (first|rw [c12b0]|(simp only [zqp,zqq];rw [c12b0])|skip)
        by_cases c13:x5_1<(l0_1.length:Int)
        ·rw [if_pos c13] at H
         have c13b0:=decide_eq_true c13
         clear c13
         have H':=zq.mk H
         clear H
         have p300:0≤(x5_1:Int):=dt
         have q300:x5_1<(l1.length:Int):=dt
         obtain ⟨ad300,e300,hx300_0,hx300_1,hx300_2⟩:=zxq HR1.out x5_1 p300 q300
         obtain rfl:ad298=ad300:=(by injection e300)
         replace hx300_0:=(HB.out.cell (World.block_lt_of_cell? w _ hx300_0)).trans hx300_0
         replace hx300_1:=(HB.out.cell (World.block_lt_of_cell? w _ hx300_1)).trans hx300_1
         replace hx300_2:=(HB.out.cell (World.block_lt_of_cell? w _ hx300_2)).trans hx300_2
         replace p300:=eq_true p300
         replace q300:=eq_true q300
         have p301:0≤(x5_1:Int):=dt
         have q301:x5_1<(l1.length:Int):=dt
         obtain ⟨ad301,e301,hx301_0,hx301_1,hx301_2⟩:=zxq HR1.out x5_1 p301 q301
         obtain rfl:ad298=ad301:=(by injection e301)
         replace hx301_0:=(HB.out.cell (World.block_lt_of_cell? w _ hx301_0)).trans hx301_0
         replace hx301_1:=(HB.out.cell (World.block_lt_of_cell? w _ hx301_1)).trans hx301_1
         replace hx301_2:=(HB.out.cell (World.block_lt_of_cell? w _ hx301_2)).trans hx301_2
         replace p301:=eq_true p301
         replace q301:=eq_true q301
         obtain ⟨hcz14_0,hcz14_1,hcz14_2,hcz14_3,hfz14_0,hfz14_1,hfz14_2,hfz14_3⟩:=zqv BK297.out
         have p302:0≤(x5_1:Int):=dt
         have q302:x5_1<(l0_1.length:Int):=dt
         obtain ⟨ad302,e302,hx302_0,hx302_1,hx302_2⟩:=zx1 HR0_1.out x5_1 p302 q302
         cases e302
         replace hx302_0:=(HB.out.cell (World.block_lt_of_cell? w _ hx302_0)).trans hx302_0
         replace hx302_1:=(HB.out.cell (World.block_lt_of_cell? w _ hx302_1)).trans hx302_1
         replace hx302_2:=(HB.out.cell (World.block_lt_of_cell? w _ hx302_2)).trans hx302_2
         replace p302:=eq_true p302
         replace q302:=eq_true q302
         go_wp2
         repeat(go_quiet (fail);try go_wp2)
         go_meet
         case rel=>exact⟨_,((((qf l1 x5_1).f0) != ((qg l0_1 x5_1).f1))),vr,H',⟨by have:=HK1.out;first|omega|exact Nat.le_refl _⟩,⟨by(with_reducible repeat(first|refine zz ?_ _|refine zk ?_|refine zj ?_ _));exact BK297.out⟩,⟨bw⟩⟩
        rw [if_neg c13] at H
        exact absurd H (by simp)
       case rest=>
        clear HC10
        (try clear c1);(try clear c3);(try clear c3b0);(try clear c3b1);(try clear c3b2);(try clear c6);(try clear c6b0);(try clear c7);(try clear c7b0);(try clear c9);(try clear c9b0);(try clear c9b1);(try clear hcz5_0);(try clear hcz5_1);(try clear hcz5_2);(try clear hcz5_3);(try clear hfz5_0);(try clear hfz5_1);(try clear hfz5_2);(try clear hfz5_3);(try clear hx298_0);(try clear hx298_1);(try clear hx298_2);(try clear p298);(try clear q298)
        (try clear BK297)
        obtain ⟨kq,x46_9,rfl,HA,HJ9,BK297,HB⟩:=hcut
        cases kq with
        | zero=>exact absurd HA.out (by simp [qj.j1])
        | succ kj9=>
         have H:=HA.out
         clear HA
         simp only [qj.j1] at H
         by_cases c15:x46_9=true
         ·subst c15
          rw [if_pos rfl] at H
          obtain rfl:=Option.some.inj H
          go_wp2
          repeat(go_quiet (fail);try go_wp2)
          go_ret
          exact⟨by first|rfl|(simp [zg,zy] <;> rfl)|(simp [*,zg,zy] <;> rfl),bw⟩
         replace c15:=Bool.eq_false_iff.mpr c15
         subst c15
         rw [if_neg (show ¬ (false=true) by decide)] at H
         by_cases c16:0≤x5_1
         ·rw [if_pos c16] at H
          have c16b0:=decide_eq_true c16
          clear c16
          by_cases c17:x5_1<(l1.length:Int)
          ·rw [if_pos c17] at H
           have c17b0:=decide_eq_true c17
           clear c17
           by_cases c18:((qf l1 x5_1).f0)=0
           ·rw [if_pos c18] at H
            have c18b0:(((qf l1 x5_1).f0) == 0)=true:=beq_iff_eq.mpr c18
            have c18b1:(((qf l1 x5_1).f0) != 0)=false:=bne_eq_false_iff_eq.mpr c18
            clear c18
            by_cases c19:x5_1<(l0_1.length:Int)
            ·rw [if_pos c19] at H
             have c19b0:=decide_eq_true c19
             clear c19
             obtain ⟨bq20,hbq20⟩:∃ b_:Bool,b_=((qg l0_1 x5_1).f2):=⟨_,rfl⟩
             replace H:(if bq20=true then(some 13) else (qj.l0 kj9 l1 (wrap64 (x5_1+1)) a0_0 l0_1 l0_2 l0_3))=some r:=by rw [← hbq20] at H;exact H
             have Nbq20:=zq.mk hbq20
             clear hbq20
             by_cases c21:bq20=true
             ·subst c21
              rw [if_pos rfl] at H
              (try rw [← Nbq20.out] at hx298_0)
              (try rw [← Nbq20.out] at hx298_1)
              (try rw [← Nbq20.out] at hx298_2)
              (try rw [← Nbq20.out] at hx300_0)
              (try rw [← Nbq20.out] at hx300_1)
              (try rw [← Nbq20.out] at hx300_2)
              (try rw [← Nbq20.out] at hx301_0)
              (try rw [← Nbq20.out] at hx301_1)
              (try rw [← Nbq20.out] at hx301_2)
              (try rw [← Nbq20.out] at hx302_0)
              (try rw [← Nbq20.out] at hx302_1)
              (try rw [← Nbq20.out] at hx302_2)
              (try rw [← Nbq20.out])
              obtain rfl:=Option.some.inj H
              have p303:0≤(x5_1:Int):=dt
              have q303:x5_1<(l1.length:Int):=dt
              obtain ⟨ad303,e303,hx303_0,hx303_1,hx303_2⟩:=zxq HR1.out x5_1 p303 q303
              obtain rfl:ad298=ad303:=(by injection e303)
              replace hx303_0:=(HB.out.cell (World.block_lt_of_cell? w _ hx303_0)).trans hx303_0
              replace hx303_1:=(HB.out.cell (World.block_lt_of_cell? w _ hx303_1)).trans hx303_1
              replace hx303_2:=(HB.out.cell (World.block_lt_of_cell? w _ hx303_2)).trans hx303_2
              replace p303:=eq_true p303
              replace q303:=eq_true q303
              obtain ⟨hcz22_0,hcz22_1,hcz22_2,hcz22_3,hfz22_0,hfz22_1,hfz22_2,hfz22_3⟩:=zqv BK297.out
              have p304:0≤(x5_1:Int):=dt
              have q304:x5_1<(l0_1.length:Int):=dt
              obtain ⟨ad304,e304,hx304_0,hx304_1,hx304_2⟩:=zx1 HR0_1.out x5_1 p304 q304
              (try rw [← Nbq20.out] at hx304_2)
              cases e304
              replace hx304_0:=(HB.out.cell (World.block_lt_of_cell? w _ hx304_0)).trans hx304_0
              replace hx304_1:=(HB.out.cell (World.block_lt_of_cell? w _ hx304_1)).trans hx304_1
              replace hx304_2:=(HB.out.cell (World.block_lt_of_cell? w _ hx304_2)).trans hx304_2
              replace p304:=eq_true p304
              replace q304:=eq_true q304
              go_wp2
              repeat(go_quiet (fail);try go_wp2)
              go_ret
              exact⟨by first|rfl|(simp [zg,zy] <;> rfl)|(simp [*,zg,zy] <;> rfl),bw⟩
             replace c21:=Bool.eq_false_iff.mpr c21
             subst c21
             rw [if_neg (show ¬ (false=true) by decide)] at H
             (try rw [← Nbq20.out] at hx298_0)
             (try rw [← Nbq20.out] at hx298_1)
             (try rw [← Nbq20.out] at hx298_2)
             (try rw [← Nbq20.out] at hx300_0)
             (try rw [← Nbq20.out] at hx300_1)
             (try rw [← Nbq20.out] at hx300_2)
             (try rw [← Nbq20.out] at hx301_0)
             (try rw [← Nbq20.out] at hx301_1)
             (try rw [← Nbq20.out] at hx301_2)
             (try rw [← Nbq20.out] at hx302_0)
             (try rw [← Nbq20.out] at hx302_1)
             (try rw [← Nbq20.out] at hx302_2)
             (try rw [← Nbq20.out] at hx303_0)
             (try rw [← Nbq20.out] at hx303_1)
             (try rw [← Nbq20.out] at hx303_2)
             (try rw [← Nbq20.out] at hx304_0)
             (try rw [← Nbq20.out] at hx304_1)
             (try rw [← Nbq20.out] at hx304_2)
             (try rw [← Nbq20.out])
             have H':=zq.mk H
             clear H
             have p303:0≤(x5_1:Int):=dt
             have q303:x5_1<(l1.length:Int):=dt
             obtain ⟨ad303,e303,hx303_0,hx303_1,hx303_2⟩:=zxq HR1.out x5_1 p303 q303
             obtain rfl:ad298=ad303:=(by injection e303)
             replace hx303_0:=(HB.out.cell (World.block_lt_of_cell? w _ hx303_0)).trans hx303_0
             replace hx303_1:=(HB.out.cell (World.block_lt_of_cell? w _ hx303_1)).trans hx303_1
             replace hx303_2:=(HB.out.cell (World.block_lt_of_cell? w _ hx303_2)).trans hx303_2
             replace p303:=eq_true p303
             replace q303:=eq_true q303
             obtain ⟨hcz23_0,hcz23_1,hcz23_2,hcz23_3,hfz23_0,hfz23_1,hfz23_2,hfz23_3⟩:=zqv BK297.out
             have p304:0≤(x5_1:Int):=dt
             have q304:x5_1<(l0_1.length:Int):=dt
             obtain ⟨ad304,e304,hx304_0,hx304_1,hx304_2⟩:=zx1 HR0_1.out x5_1 p304 q304
             (try rw [← Nbq20.out] at hx304_2)
             cases e304
             replace hx304_0:=(HB.out.cell (World.block_lt_of_cell? w _ hx304_0)).trans hx304_0
             replace hx304_1:=(HB.out.cell (World.block_lt_of_cell? w _ hx304_1)).trans hx304_1
             replace hx304_2:=(HB.out.cell (World.block_lt_of_cell? w _ hx304_2)).trans hx304_2
             replace p304:=eq_true p304
             replace q304:=eq_true q304
             go_wp2
             repeat(go_quiet (fail);try go_wp2)
             go_roundg kj9
             case measure=>have:=HK1.out;have:=HJ9.out;omega
             case rel=>first|(exact⟨(wrap64 (x5_1+1)),vr,H',⟨by have:=HK1.out;have:=HJ9.out;omega⟩,⟨by(with_reducible repeat(first|refine zz ?_ _|refine zk ?_|refine zj ?_ _));exact BK297.out⟩,⟨bw⟩⟩)|(simp only [← Nbq20.out];exact⟨(wrap64 (x5_1+1)),vr,H',⟨by have:=HK1.out;have:=HJ9.out;omega⟩,⟨by(with_reducible repeat(first|refine zz ?_ _|refine zk ?_|refine zj ?_ _));exact BK297.out⟩,⟨bw⟩⟩)
            rw [if_neg c19] at H
            exact absurd H (by simp)
           rw [if_neg c18] at H
           have c18b0:(((qf l1 x5_1).f0) == 0)=false:=beq_eq_false_iff_ne.mpr c18
           have c18b1:(((qf l1 x5_1).f0) != 0)=true:=bne_iff_ne.mpr c18
           have H':=zq.mk H
           clear H
           have p303:0≤(x5_1:Int):=dt
           have q303:x5_1<(l1.length:Int):=dt
           obtain ⟨ad303,e303,hx303_0,hx303_1,hx303_2⟩:=zxq HR1.out x5_1 p303 q303
           obtain rfl:ad298=ad303:=(by injection e303)
           replace hx303_0:=(HB.out.cell (World.block_lt_of_cell? w _ hx303_0)).trans hx303_0
           replace hx303_1:=(HB.out.cell (World.block_lt_of_cell? w _ hx303_1)).trans hx303_1
           replace hx303_2:=(HB.out.cell (World.block_lt_of_cell? w _ hx303_2)).trans hx303_2
           replace p303:=eq_true p303
           replace q303:=eq_true q303
           go_wp2
           repeat(go_quiet (fail);try go_wp2)
           go_roundg kj9
           case measure=>have:=HK1.out;have:=HJ9.out;omega
           case rel=>exact⟨(wrap64 (x5_1+1)),vr,H',⟨by have:=HK1.out;have:=HJ9.out;omega⟩,⟨by(with_reducible repeat(first|refine zz ?_ _|refine zk ?_|refine zj ?_ _));exact BK297.out⟩,⟨bw⟩⟩
          rw [if_neg c17] at H
          exact absurd H (by simp)
         rw [if_neg c16] at H
         exact absurd H (by simp)
      rw [if_neg c9] at H
      have c9b0:(t299 == 0)=false:=beq_eq_false_iff_ne.mpr c9
      have c9b1:(t299 != 0)=true:=bne_iff_ne.mpr c9
      obtain rfl:=Option.some.inj H
      have p298:0≤(x5_1:Int):=dt
      have q298:x5_1<(l1.length:Int):=dt
      obtain ⟨ad298,e298,hx298_0,hx298_1,hx298_2⟩:=zxq HR1.out x5_1 p298 q298
      cases e298
      replace hx298_0:=(HB.out.cell (World.block_lt_of_cell? w _ hx298_0)).trans hx298_0
      replace hx298_1:=(HB.out.cell (World.block_lt_of_cell? w _ hx298_1)).trans hx298_1
      replace hx298_2:=(HB.out.cell (World.block_lt_of_cell? w _ hx298_2)).trans hx298_2
      replace p298:=eq_true p298
      replace q298:=eq_true q298
      go_wp2_with (first|(go_at_call 61;(with_reducible refine(zc.calls k1 ((qf l1 x5_1).f0) ((qf l1 x5_1).f1) ((qf l1 x5_1).f2) t299 _ A8.out).mono ?_);rintro e w24 ⟨rfl,hb⟩;replace BK297:=zq.mk (ze (g:=gb297) (o:=.cells #[.string a0_0,.slice A0_1 l0_1.length c0_1,.slice A0_2 l0_2.length c0_2,.slice A0_3 l0_3.length c0_3] 61 (0,0)) (up BK297.out) hb);replace HB:=zq.mk (zn bw hb);(try clear hb);(try clear hb2);(try clear hk);(try clear hi)))
      repeat(go_quiet (first|(go_at_call 61;(with_reducible refine(zc.calls k1 ((qf l1 x5_1).f0) ((qf l1 x5_1).f1) ((qf l1 x5_1).f2) t299 _ A8.out).mono ?_);rintro e w24 ⟨rfl,hb⟩;replace BK297:=zq.mk (ze (g:=gb297) (o:=.cells #[.string a0_0,.slice A0_1 l0_1.length c0_1,.slice A0_2 l0_2.length c0_2,.slice A0_3 l0_3.length c0_3] 61 (0,0)) (up BK297.out) hb);replace HB:=zq.mk (zn bw hb);(try clear hb);(try clear hb2);(try clear hk);(try clear hi)));try go_wp2_with (first|(go_at_call 61;(with_reducible refine(zc.calls k1 ((qf l1 x5_1).f0) ((qf l1 x5_1).f1) ((qf l1 x5_1).f2) t299 _ A8.out).mono ?_);rintro e w24 ⟨rfl,hb⟩;replace BK297:=zq.mk (ze (g:=gb297) (o:=.cells #[.string a0_0,.slice A0_1 l0_1.length c0_1,.slice A0_2 l0_2.length c0_2,.slice A0_3 l0_3.length c0_3] 61 (0,0)) (up BK297.out) hb);replace HB:=zq.mk (zn bw hb);(try clear hb);(try clear hb2);(try clear hk);(try clear hi))))
      go_ret
      exact⟨by first|rfl|(simp [zg,zy] <;> rfl)|(simp [*,zg,zy] <;> rfl),bw⟩
     rw [if_neg c7] at H
     exact absurd H (by simp)
    rw [if_neg c6] at H
    have c6b0:=decide_eq_false c6
    clear c6
    obtain rfl:=Option.some.inj H
    go_wp2
    repeat(go_quiet (fail);try go_wp2)
    go_ret
    exact⟨by first|rfl|(simp [zg,zy] <;> rfl)|(simp [*,zg,zy] <;> rfl),bw⟩
 rw [if_neg c3] at H
 have c3b0:((l1.length:Int) == (l0_1.length:Int))=false:=beq_eq_false_iff_ne.mpr c3
 have c3b1:((l1.length:Int) != (l0_1.length:Int))=true:=bne_iff_ne.mpr c3
 have c3b2:(l1.length == l0_1.length)=false:=by first|simpa using c3|(simp at c3 ⊢;omega)
 obtain rfl:=Option.some.inj H
 go_enter Tryd.func32,Tryd.ntmps32
 go_wp2_with (first|((with_reducible refine qr (N:=2) rfl ?_);refine qm ?hg (N:=2) ?hd (cs:=#[.string a0_0,.slice A0_1 l0_1.length c0_1,.slice A0_2 l0_2.length c0_2,.slice A0_3 l0_3.length c0_3]) (t:=61) ?hr ?_;(case hd=>rfl);(case hg=>rfl);(case hr=>first|(go_simp;done)|(go_simp;rfl));intro gb297 hg w25 hbox hb;have BK297:=zq.mk (hbox);have GW297:=zq.mk ((by rw [hg];exact(zw bw):w.heap.size≤gb297));have GE297:=zq.mk ((by rw [hg];exact(zw bw):w.heap.size≤gb297));replace HB:=zq.mk (zn bw hb);clear hb hbox hg;obtain ⟨hcz26_0,hcz26_1,hcz26_2,hcz26_3,hfz26_0,hfz26_1,hfz26_2,hfz26_3⟩:=zqv BK297.out))
 repeat(go_quiet (first|((with_reducible refine qr (N:=2) rfl ?_);refine qm ?hg (N:=2) ?hd (cs:=#[.string a0_0,.slice A0_1 l0_1.length c0_1,.slice A0_2 l0_2.length c0_2,.slice A0_3 l0_3.length c0_3]) (t:=61) ?hr ?_;(case hd=>rfl);(case hg=>rfl);(case hr=>first|(go_simp;done)|(go_simp;rfl));intro gb297 hg w25 hbox hb;have BK297:=zq.mk (hbox);have GW297:=zq.mk ((by rw [hg];exact(zw bw):w.heap.size≤gb297));have GE297:=zq.mk ((by rw [hg];exact(zw bw):w.heap.size≤gb297));replace HB:=zq.mk (zn bw hb);clear hb hbox hg;obtain ⟨hcz26_0,hcz26_1,hcz26_2,hcz26_3,hfz26_0,hfz26_1,hfz26_2,hfz26_3⟩:=zqv BK297.out));try go_wp2_with (first|((with_reducible refine qr (N:=2) rfl ?_);refine qm ?hg (N:=2) ?hd (cs:=#[.string a0_0,.slice A0_1 l0_1.length c0_1,.slice A0_2 l0_2.length c0_2,.slice A0_3 l0_3.length c0_3]) (t:=61) ?hr ?_;(case hd=>rfl);(case hg=>rfl);(case hr=>first|(go_simp;done)|(go_simp;rfl));intro gb297 hg w25 hbox hb;have BK297:=zq.mk (hbox);have GW297:=zq.mk ((by rw [hg];exact(zw bw):w.heap.size≤gb297));have GE297:=zq.mk ((by rw [hg];exact(zw bw):w.heap.size≤gb297));replace HB:=zq.mk (zn bw hb);clear hb hbox hg;obtain ⟨hcz26_0,hcz26_1,hcz26_2,hcz26_3,hfz26_0,hfz26_1,hfz26_2,hfz26_3⟩:=zqv BK297.out)))
 go_ret
 exact⟨by first|rfl|(simp [zg,zy] <;> rfl)|(simp [*,zg,zy] <;> rfl),bw⟩

/-! ### zjh: function 62 -/
def zjh.f (a0:Int):Option (Int × Int × ByteArray):=some (2,a0,(⟨#[]⟩:ByteArray))
set_option maxHeartbeats 8000000 in
set_option maxRecDepth 100000 in
theorem zjh.calls (a0:Int) (r1:Int) (r2:Int) (r3:ByteArray) (w:World) (h:zjh.f a0=some (r1,r2,r3)) :
  Calls Tryd.prog 62 #[.int .i64 a0] w fun e w'=>e = .returned (.agg #[.int .i64 r1,.int .i64 r2,.string r3])∧Below w.heap.size w w':=by
 have hu38:=Tryd.underlying38
 have HB:=zq.mk (Below.refl w.heap.size w)
 have H:(some (2,a0,(⟨#[]⟩:ByteArray)))=some (r1,r2,r3):=h
 clear h
 simp only [Option.some.injEq,Prod.mk.injEq] at H
 obtain ⟨rfl,rfl,rfl⟩:=H
 go_enter Tryd.func62,Tryd.ntmps62
 go_wp2_with (first|((with_reducible refine qr (N:=2) rfl ?_);refine qm ?hg (N:=2) ?hd (cs:=#[.int .i64 0,.int .i64 0,.string (⟨#[]⟩:ByteArray)]) (t:=38) ?hr ?_;(case hd=>rfl);(case hg=>rfl);(case hr=>first|(go_simp;done)|(go_simp;rfl));intro gb305 hg w2 hbox hb;have BK305:=zq.mk (hbox);have GW305:=zq.mk ((by rw [hg];exact(zw bw):w.heap.size≤gb305));have GE305:=zq.mk ((by rw [hg];exact(zw bw):w.heap.size≤gb305));replace HB:=zq.mk (zn bw hb);clear hb hbox hg;obtain ⟨hcz3_0,hcz3_1,hcz3_2,hfz3_0,hfz3_1,hfz3_2⟩:=qd BK305.out))
 refine bodyPost_ret (results_cell_row rfl _ _ gb305 38 #[.int .i64 2,.int .i64 a0,.string (⟨#[]⟩:ByteArray)] (0,0) _ rfl (by(with_reducible repeat(first|refine zz ?_ _|refine zk ?_|refine zj ?_ _));refine qw (cs:=#[.int .i64 2,.int .i64 a0,.string (⟨#[]⟩:ByteArray)]) ?_ 2 _ rfl;(with_reducible repeat(first|refine zz ?_ _|refine zk ?_|refine zj ?_ _));refine qw (cs:=#[.int .i64 2,.int .i64 0,.string (⟨#[]⟩:ByteArray)]) ?_ 1 _ rfl;(with_reducible repeat(first|refine zz ?_ _|refine zk ?_|refine zj ?_ _));refine qw (cs:=#[.int .i64 0,.int .i64 0,.string (⟨#[]⟩:ByteArray)]) ?_ 0 _ rfl;(with_reducible repeat(first|refine zz ?_ _|refine zk ?_|refine zj ?_ _));exact BK305.out) Tryd.underlying38 rfl (by kernel_rfl)) rfl ?_
 exact⟨by first|rfl|(simp [zg,zy] <;> rfl)|(simp [*,zg,zy] <;> rfl),bw⟩

end Go.Proofs.YthhejedfjgikdaaDoor.PRowReads
