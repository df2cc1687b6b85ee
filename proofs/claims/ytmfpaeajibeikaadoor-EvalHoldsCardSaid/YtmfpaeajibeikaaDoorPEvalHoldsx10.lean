-- Written by wip/pp of this repo (over the kit's print, with additions of this session); Lean checks every line.
import Derived.Test.YtmfpaeajibeikaaDoorPEvalHoldsx0
namespace Go.Proofs.YtmfpaeajibeikaaDoor.PEvalHolds
open Go.RowKit Go.Proofs.YtmfpaeajibeikaaDoorW.PrintWords Go.Proofs.YtmfpaeajibeikaaDoorW.PrintLast Go.Proofs.YtmfpaeajibeikaaDoorW.PrintMore
attribute [local go_sem] zje zjc zjo zjn zq1 zq0 zjd zjb   -- for this text's walks alone
set_option linter.unusedVariables false
set_option linter.unusedSimpArgs false

/-! ### qc: function 50 -/
mutual
def qc.l0:Nat→Int→Int→List (S33)→Int→Int→Option (Int)
 | 0,_,_,_,_,_=>none
 | k+1,x1,x5,x11,x12,x13=>if x13<x12 then(if 0≤x13 then(if x13<(x11.length:Int) then((qc.f k ((zg x11 x13).f0) ((zg x11 x13).f1.f0) ((zg x11 x13).f1.f1) ((zg x11 x13).f1.f2) ((zg x11 x13).f2) ((zg x11 x13).f3) ((zg x11 x13).f4) ((zg x11 x13).f5) (wrap64 (x1 - 1))).bind fun t176=>(qc.l0 k x1 (mx x5 t176) x11 x12 (wrap64 (x13+1)))) else (none)) else (none)) else (some (wrap64 (x5+1)))
def qc.f:Nat→Int→Int→Int→ByteArray→ByteArray→ByteArray→Int→List (S33)→Int→Option (Int)
 | 0,_,_,_,_,_,_,_,_,_=>none
 | k+1,a0_0,a0_1,a0_2,a0_3,a0_4,a0_5,a0_6,l0_7,a1=>if a1 > 0 then(qc.l0 k a1 0 l0_7 (l0_7.length:Int) 0) else (some (0+1))
end
theorem qc.mono_l:∀ k,(∀ y0 y1 y2 y3 y4 y5 y6 y7 y8,LeO (qc.f k y0 y1 y2 y3 y4 y5 y6 y7 y8) (qc.f (k+1) y0 y1 y2 y3 y4 y5 y6 y7 y8))∧(∀ y0 y1 y2 y3 y4,LeO (qc.l0 k y0 y1 y2 y3 y4) (qc.l0 (k+1) y0 y1 y2 y3 y4))
 | 0=>⟨fun _ _ _ _ _ _ _ _ _ r h=>by simp [qc.f] at h,fun _ _ _ _ _ r h=>by simp [qc.l0] at h⟩
 | k+1=>by
  obtain ⟨ih0,ih1⟩:=qc.mono_l k
  refine⟨?_,?_⟩
  ·intro y0 y1 y2 y3 y4 y5 y6 y7 y8
   unfold qc.f
   repeat' first
   | (with_reducible first|exact ih0 _ _ _ _ _ _ _ _ _|exact ih1 _ _ _ _ _|exact LeO.refl _|exact LeO.none _|refine LeO.ite ?_ ?_|refine LeO.bind ?_ (fun _=>?_))
   | exact ih0 _ _ _ _ _ _ _ _ _
   | exact ih1 _ _ _ _ _
   | exact LeO.none _
   | refine LeO.ite ?_ ?_
   | refine LeO.bind ?_ (fun _=>?_)
  intro y0 y1 y2 y3 y4
  unfold qc.l0
  repeat' first
  | (with_reducible first|exact ih0 _ _ _ _ _ _ _ _ _|exact ih1 _ _ _ _ _|exact LeO.refl _|exact LeO.none _|refine LeO.ite ?_ ?_|refine LeO.bind ?_ (fun _=>?_))
  | exact ih0 _ _ _ _ _ _ _ _ _
  | exact ih1 _ _ _ _ _
  | exact LeO.none _
  | refine LeO.ite ?_ ?_
  | refine LeO.bind ?_ (fun _=>?_)
theorem qc.mono:∀ a0 a1 a2 a3 a4 a5 a6 a7 a8 k,LeO (qc.f k a0 a1 a2 a3 a4 a5 a6 a7 a8) (qc.f (k+1) a0 a1 a2 a3 a4 a5 a6 a7 a8):=by
 intro a0 a1 a2 a3 a4 a5 a6 a7 a8 k
 obtain ⟨ih0,ih1⟩:=qc.mono_l k
 exact ih0 a0 a1 a2 a3 a4 a5 a6 a7 a8
set_option maxHeartbeats 8000000 in
set_option maxRecDepth 100000 in
theorem qc.calls (k:Nat):∀ (a0_0:Int) (a0_1:Int) (a0_2:Int) (a0_3:ByteArray) (a0_4:ByteArray) (a0_5:ByteArray) (a0_6:Int) (A0_7:Option Addr) (c0_7:Nat) (l0_7:List (S33)) (a1:Int) (r:Int) (w:World) (hr0_7:Kd.C k33 w A0_7 l0_7.length l0_7) (hc0_7:l0_7.length≤c0_7) (h:qc.f k a0_0 a0_1 a0_2 a0_3 a0_4 a0_5 a0_6 l0_7 a1=some r),
  Calls Tryd.prog 50 #[.agg #[.int .i64 a0_0,.int .i64 a0_1,.int .i64 a0_2,.string a0_3,.string a0_4,.string a0_5,.int .i64 a0_6,.slice A0_7 l0_7.length c0_7],.int .i64 a1] w fun e w'=>e = .returned (.int .i64 r)∧Below w.heap.size w w':=by
 induction k using Nat.strongRecOn with
 | _ k ih=>
 intro a0_0 a0_1 a0_2 a0_3 a0_4 a0_5 a0_6 A0_7 c0_7 l0_7 a1 r w hr0_7 hc0_7 h
 cases k with
 | zero=>exact absurd h (by simp [qc.f])
 | succ k=>
 simp only [qc.f] at h
 have hu33:=Tryd.underlying33
 have HR0_7:=zq.mk hr0_7
 have HC0_7:=zq.mk hc0_7
 clear hr0_7 hc0_7
 have HB:=zq.mk (Below.refl w.heap.size w)
 have H:(if a1 > 0 then(qc.l0 k a1 0 l0_7 (l0_7.length:Int) 0) else (some (0+1)))=some r:=h
 clear h
 by_cases c3:a1 > 0
 ·rw [if_pos c3] at H
  have c3b0:=decide_eq_true c3
  clear c3
  have H':=zq.mk H
  clear H
  go_enter Tryd.func50,Tryd.ntmps50
  go_wp2_with (first|((with_reducible refine ql (N:=2) rfl ?_);refine qh ?hg (N:=2) ?hd (cs:=#[.int .i64 a0_0,.int .i64 a0_1,.int .i64 a0_2,.string a0_3,.string a0_4,.string a0_5,.int .i64 a0_6,.slice A0_7 l0_7.length c0_7]) (t:=33) ?hr ?_;(case hd=>rfl);(case hg=>rfl);(case hr=>first|(go_simp;done)|(go_simp;rfl));intro gb173 hg w4 hbox hb;have BK173:=zq.mk (hbox);have GW173:=zq.mk ((by rw [hg];exact(zv bw):w.heap.size≤gb173));have GE173:=zq.mk ((by rw [hg];exact(zv bw):w.heap.size≤gb173));replace HB:=zq.mk (zb bw hb);clear hb hbox hg;obtain ⟨hcz5_0,hcz5_1,hcz5_2,hcz5_3,hcz5_4,hcz5_5,hcz5_6,hcz5_7,hfz5_0,hfz5_1,hfz5_2,hfz5_3,hfz5_4,hfz5_5,hfz5_6,hfz5_7⟩:=zql BK173.out))
  go_loopg [5,13] k (fun kq v5 v13 w' => ∃ (x5_1:Int) (x13_1:Int),v5 = .int .i64 x5_1∧v13 = .int .i64 x13_1∧zq (qc.l0 kq a1 x5_1 l0_7 (l0_7.length:Int) x13_1=some r)∧zq (kq≤k)∧zq (w'.heap[gb173]? = some (.cells #[.int .i64 a0_0,.int .i64 a0_1,.int .i64 a0_2,.string a0_3,.string a0_4,.string a0_5,.int .i64 a0_6,(.slice A0_7 l0_7.length c0_7)] 33 (0,0)))∧zq (Below w.heap.size w w'))
  case atStart=>exact⟨(0),(0),vr,vr,H',⟨Nat.le_refl _⟩,⟨by(with_reducible repeat(first|refine zn ?_ _|refine zt ?_|refine zy ?_ _));exact BK173.out⟩,⟨bw⟩⟩
  case round=>
   clear H'
   (try clear c3);(try clear c3b0);(try clear hcz5_0);(try clear hcz5_1);(try clear hcz5_2);(try clear hcz5_3);(try clear hcz5_4);(try clear hcz5_5);(try clear hcz5_6);(try clear hcz5_7);(try clear hfz5_0);(try clear hfz5_1);(try clear hfz5_2);(try clear hfz5_3);(try clear hfz5_4);(try clear hfz5_5);(try clear hfz5_6);(try clear hfz5_7)
   (try clear BK173)
   obtain ⟨x5_1,x13_1,rfl,rfl,HA,HK1,BK173,HB⟩:=hrel
   cases gk with
   | zero=>exact absurd HA.out (by simp [qc.l0])
   | succ k1=>
    have H:=HA.out
    clear HA
    simp only [qc.l0] at H
    by_cases c6:x13_1<(l0_7.length:Int)
    ·rw [if_pos c6] at H
     have c6b0:=decide_eq_true c6
     clear c6
     by_cases c7:0≤x13_1
     ·rw [if_pos c7] at H
      have c7b0:=decide_eq_true c7
      clear c7
      by_cases c8:x13_1<(l0_7.length:Int)
      ·rw [if_pos c8] at H
       have c8b0:=decide_eq_true c8
       clear c8
       replace H:=Option.bind_eq_some_iff.mp H
       obtain ⟨t176,A90,H⟩:=H
       replace H:(qc.l0 k1 a1 (mx x5_1 t176) l0_7 (l0_7.length:Int) (wrap64 (x13_1+1)))=some r:=H
       have A9:=zq.mk A90
       clear A90
       obtain ⟨ji10,hji10⟩:∃ j_:Int,(mx x5_1 t176)=j_:=⟨_,rfl⟩
       replace H:(qc.l0 k1 a1 ji10 l0_7 (l0_7.length:Int) (wrap64 (x13_1+1)))=some r:=by first|(rw [hji10] at H;exact H)|(simp only [hji10] at H ⊢;exact H)
       (try rw [hji10] at A9)
       have hji10_:(if x5_1<t176 then t176 else x5_1)=ji10:=hji10
       have H':=zq.mk H
       clear H
       have p174:0≤(x13_1:Int):=dt
       have q174:x13_1<(l0_7.length:Int):=dt
       obtain ⟨ad174,A174_7,c174_7,e174,hx174_0,hx174_1,hx174_2,hx174_3,hx174_4,hx174_5,hx174_6,hx174_7,hl174_7,hi174_7⟩:=zxc HR0_7.out x13_1 p174 q174
       cases e174
       replace hx174_0:=(HB.out.cell (World.block_lt_of_cell? w _ hx174_0)).trans hx174_0
       replace hx174_1:=(HB.out.cell (World.block_lt_of_cell? w _ hx174_1)).trans hx174_1
       replace hx174_2:=(HB.out.cell (World.block_lt_of_cell? w _ hx174_2)).trans hx174_2
       replace hx174_3:=(HB.out.cell (World.block_lt_of_cell? w _ hx174_3)).trans hx174_3
       replace hx174_4:=(HB.out.cell (World.block_lt_of_cell? w _ hx174_4)).trans hx174_4
       replace hx174_5:=(HB.out.cell (World.block_lt_of_cell? w _ hx174_5)).trans hx174_5
       replace hx174_6:=(HB.out.cell (World.block_lt_of_cell? w _ hx174_6)).trans hx174_6
       replace hx174_7:=(HB.out.cell (World.block_lt_of_cell? w _ hx174_7)).trans hx174_7
       have HR174_7:=zq.mk hi174_7
       have HC174_7:=zq.mk hl174_7
       clear hi174_7 hl174_7
       replace p174:=eq_true p174
       replace q174:=eq_true q174
       go_wp2_with (first|((with_reducible refine ql (N:=7) rfl ?_);refine qh ?hg (N:=7) ?hd (cs:=#[.int .i64 0,.int .i64 0,.int .i64 0,.string (⟨#[]⟩:ByteArray),.string (⟨#[]⟩:ByteArray),.string (⟨#[]⟩:ByteArray),.int .i64 0,.slice none 0 0]) (t:=33) ?hr ?_;(case hd=>rfl);(case hg=>rfl);(case hr=>first|(go_simp;done)|(go_simp;rfl));intro gb175 hg w11 hbox hb;have BK175:=zq.mk (hbox);have GW175:=zq.mk ((by rw [hg];exact(zv bw):w.heap.size≤gb175));have GE175:=zq.mk ((by rw [hg];exact(zv bw):w.heap.size≤gb175));replace HB:=zq.mk (zb bw hb);have NB173_175:=zq.mk ((by rw [hg];exact Nat.ne_of_lt (qf (g:=gb173) (o:=.cells #[.int .i64 a0_0,.int .i64 a0_1,.int .i64 a0_2,.string a0_3,.string a0_4,.string a0_5,.int .i64 a0_6,.slice (some ad174) l0_7.length c0_7] 33 (0,0)) (up BK173.out)):gb173≠gb175));have NB175_173:=zq.mk ((by rw [hg];exact Nat.ne_of_gt (qf (g:=gb173) (o:=.cells #[.int .i64 a0_0,.int .i64 a0_1,.int .i64 a0_2,.string a0_3,.string a0_4,.string a0_5,.int .i64 a0_6,.slice (some ad174) l0_7.length c0_7] 33 (0,0)) (up BK173.out)):gb175≠gb173));replace BK173:=zq.mk (zf (g:=gb173) (o:=.cells #[.int .i64 a0_0,.int .i64 a0_1,.int .i64 a0_2,.string a0_3,.string a0_4,.string a0_5,.int .i64 a0_6,.slice (some ad174) l0_7.length c0_7] 33 (0,0)) (up BK173.out) hb);clear hb hbox hg;have hnb12:=NB175_173.out;have hnc12:=NB173_175.out;obtain ⟨hcz13_0,hcz13_1,hcz13_2,hcz13_3,hcz13_4,hcz13_5,hcz13_6,hcz13_7,hfz13_0,hfz13_1,hfz13_2,hfz13_3,hfz13_4,hfz13_5,hfz13_6,hfz13_7⟩:=zql BK175.out)|((with_reducible refine zs (f:=50) rfl ?_);refine qo (some 21) rfl rfl Tryd.func50 (by kernel_rfl) rfl #[.agg #[.int .i64 ((zg l0_7 x13_1).f0),.int .i64 ((zg l0_7 x13_1).f1.f0),.int .i64 ((zg l0_7 x13_1).f1.f1),.string ((zg l0_7 x13_1).f1.f2),.string ((zg l0_7 x13_1).f2),.string ((zg l0_7 x13_1).f3),.int .i64 ((zg l0_7 x13_1).f4),.slice A174_7 ((zg l0_7 x13_1).f5).length c174_7],.int .i64 (wrap64 (a1 - 1))] rfl gs ?_;(with_reducible refine(ih k1 (by have:=HK1.out;omega) ((zg l0_7 x13_1).f0) ((zg l0_7 x13_1).f1.f0) ((zg l0_7 x13_1).f1.f1) ((zg l0_7 x13_1).f1.f2) ((zg l0_7 x13_1).f2) ((zg l0_7 x13_1).f3) ((zg l0_7 x13_1).f4) _ _ ((zg l0_7 x13_1).f5) (wrap64 (a1 - 1)) t176 _ ?side1 ?side2 A9.out).mono ?_);(case side1=>exact Kd.zqe HR174_7.out bw);(case side2=>exact HC174_7.out);rintro e w14 ⟨rfl,hb⟩;refine⟨_,rfl,?_⟩;replace BK173:=zq.mk (zf (g:=gb173) (o:=.cells #[.int .i64 a0_0,.int .i64 a0_1,.int .i64 a0_2,.string a0_3,.string a0_4,.string a0_5,.int .i64 a0_6,.slice (some ad174) l0_7.length c0_7] 33 (0,0)) (by(with_reducible repeat(first|refine zn ?_ _|refine zt ?_|refine zy ?_ _));refine zqv ?_ NB173_175.out _;(with_reducible repeat(first|refine zn ?_ _|refine zt ?_|refine zy ?_ _));refine zqv ?_ NB173_175.out _;(with_reducible repeat(first|refine zn ?_ _|refine zt ?_|refine zy ?_ _));refine zqv ?_ NB173_175.out _;(with_reducible repeat(first|refine zn ?_ _|refine zt ?_|refine zy ?_ _));refine zqv ?_ NB173_175.out _;(with_reducible repeat(first|refine zn ?_ _|refine zt ?_|refine zy ?_ _));refine zqv ?_ NB173_175.out _;(with_reducible repeat(first|refine zn ?_ _|refine zt ?_|refine zy ?_ _));refine zqv ?_ NB173_175.out _;(with_reducible repeat(first|refine zn ?_ _|refine zt ?_|refine zy ?_ _));refine zqv ?_ NB173_175.out _;(with_reducible repeat(first|refine zn ?_ _|refine zt ?_|refine zy ?_ _));refine zqv ?_ NB173_175.out _;(with_reducible repeat(first|refine zn ?_ _|refine zt ?_|refine zy ?_ _));exact BK173.out) hb);replace BK175:=zq.mk (zf (g:=gb175) (o:=.cells #[.int .i64 ((zg l0_7 x13_1).f0),.int .i64 ((zg l0_7 x13_1).f1.f0),.int .i64 ((zg l0_7 x13_1).f1.f1),.string ((zg l0_7 x13_1).f1.f2),.string ((zg l0_7 x13_1).f2),.string ((zg l0_7 x13_1).f3),.int .i64 ((zg l0_7 x13_1).f4),.slice A174_7 ((zg l0_7 x13_1).f5).length c174_7] 33 (0,0)) (by(with_reducible repeat(first|refine zn ?_ _|refine zt ?_|refine zy ?_ _));refine zl (cs:=#[.int .i64 ((zg l0_7 x13_1).f0),.int .i64 ((zg l0_7 x13_1).f1.f0),.int .i64 ((zg l0_7 x13_1).f1.f1),.string ((zg l0_7 x13_1).f1.f2),.string ((zg l0_7 x13_1).f2),.string ((zg l0_7 x13_1).f3),.int .i64 ((zg l0_7 x13_1).f4),.slice none 0 0]) ?_ 7 _ rfl;(with_reducible repeat(first|refine zn ?_ _|refine zt ?_|refine zy ?_ _));refine zl (cs:=#[.int .i64 ((zg l0_7 x13_1).f0),.int .i64 ((zg l0_7 x13_1).f1.f0),.int .i64 ((zg l0_7 x13_1).f1.f1),.string ((zg l0_7 x13_1).f1.f2),.string ((zg l0_7 x13_1).f2),.string ((zg l0_7 x13_1).f3),.int .i64 0,.slice none 0 0]) ?_ 6 _ rfl;(with_reducible repeat(first|refine zn ?_ _|refine zt ?_|refine zy ?_ _));refine zl (cs:=#[.int .i64 ((zg l0_7 x13_1).f0),.int .i64 ((zg l0_7 x13_1).f1.f0),.int .i64 ((zg l0_7 x13_1).f1.f1),.string ((zg l0_7 x13_1).f1.f2),.string ((zg l0_7 x13_1).f2),.string (⟨#[]⟩:ByteArray),.int .i64 0,.slice none 0 0]) ?_ 5 _ rfl;(with_reducible repeat(first|refine zn ?_ _|refine zt ?_|refine zy ?_ _));refine zl (cs:=#[.int .i64 ((zg l0_7 x13_1).f0),.int .i64 ((zg l0_7 x13_1).f1.f0),.int .i64 ((zg l0_7 x13_1).f1.f1),.string ((zg l0_7 x13_1).f1.f2),.string (⟨#[]⟩:ByteArray),.string (⟨#[]⟩:ByteArray),.int .i64 0,.slice none 0 0]) ?_ 4 _ rfl;(with_reducible repeat(first|refine zn ?_ _|refine zt ?_|refine zy ?_ _));refine zl (cs:=#[.int .i64 ((zg l0_7 x13_1).f0),.int .i64 ((zg l0_7 x13_1).f1.f0),.int .i64 ((zg l0_7 x13_1).f1.f1),.string (⟨#[]⟩:ByteArray),.string (⟨#[]⟩:ByteArray),.string (⟨#[]⟩:ByteArray),.int .i64 0,.slice none 0 0]) ?_ 3 _ rfl;(with_reducible repeat(first|refine zn ?_ _|refine zt ?_|refine zy ?_ _));refine zl (cs:=#[.int .i64 ((zg l0_7 x13_1).f0),.int .i64 ((zg l0_7 x13_1).f1.f0),.int .i64 0,.string (⟨#[]⟩:ByteArray),.string (⟨#[]⟩:ByteArray),.string (⟨#[]⟩:ByteArray),.int .i64 0,.slice none 0 0]) ?_ 2 _ rfl;(with_reducible repeat(first|refine zn ?_ _|refine zt ?_|refine zy ?_ _));refine zl (cs:=#[.int .i64 ((zg l0_7 x13_1).f0),.int .i64 0,.int .i64 0,.string (⟨#[]⟩:ByteArray),.string (⟨#[]⟩:ByteArray),.string (⟨#[]⟩:ByteArray),.int .i64 0,.slice none 0 0]) ?_ 1 _ rfl;(with_reducible repeat(first|refine zn ?_ _|refine zt ?_|refine zy ?_ _));refine zl (cs:=#[.int .i64 0,.int .i64 0,.int .i64 0,.string (⟨#[]⟩:ByteArray),.string (⟨#[]⟩:ByteArray),.string (⟨#[]⟩:ByteArray),.int .i64 0,.slice none 0 0]) ?_ 0 _ rfl;(with_reducible repeat(first|refine zn ?_ _|refine zt ?_|refine zy ?_ _));exact BK175.out) hb);replace HB:=zq.mk (zb bw hb);(try clear hb);(try clear hb2);(try clear hk);(try clear hi)))
       go_roundg k1
       case measure=>have:=HK1.out;omega
       case rel=>exact⟨(ji10),(wrap64 (x13_1+1)),(by first|rfl|(simp;done)|(simp only [← hji10] <;> (first|rfl|simp))|(simp [*];done)|(generalize ByteArray.toList _=q_;cases q_ <;> rfl)),vr,H',⟨by have:=HK1.out;omega⟩,⟨by(with_reducible repeat(first|refine zn ?_ _|refine zt ?_|refine zy ?_ _));exact BK173.out⟩,⟨bw⟩⟩
      rw [if_neg c8] at H
      exact absurd H (by simp)
     rw [if_neg c7] at H
     exact absurd H (by simp)
    rw [if_neg c6] at H
    have c6b0:=decide_eq_false c6
    clear c6
    obtain rfl:=Option.some.inj H
    go_wp2
    go_ret
    exact⟨by first|rfl|(simp [zk,zx] <;> rfl)|(simp [*,zk,zx] <;> rfl),bw⟩
 rw [if_neg c3] at H
 have c3b0:=decide_eq_false c3
 clear c3
 obtain rfl:=Option.some.inj H
 go_enter Tryd.func50,Tryd.ntmps50
 go_wp2_with (first|((with_reducible refine ql (N:=2) rfl ?_);refine qh ?hg (N:=2) ?hd (cs:=#[.int .i64 a0_0,.int .i64 a0_1,.int .i64 a0_2,.string a0_3,.string a0_4,.string a0_5,.int .i64 a0_6,.slice A0_7 l0_7.length c0_7]) (t:=33) ?hr ?_;(case hd=>rfl);(case hg=>rfl);(case hr=>first|(go_simp;done)|(go_simp;rfl));intro gb173 hg w15 hbox hb;have BK173:=zq.mk (hbox);have GW173:=zq.mk ((by rw [hg];exact(zv bw):w.heap.size≤gb173));have GE173:=zq.mk ((by rw [hg];exact(zv bw):w.heap.size≤gb173));replace HB:=zq.mk (zb bw hb);clear hb hbox hg))
 go_ret
 exact⟨by first|rfl|(simp [zk,zx] <;> rfl)|(simp [*,zk,zx] <;> rfl),bw⟩

end Go.Proofs.YtmfpaeajibeikaaDoor.PEvalHolds
