-- Written by wip/pp of this repo (over the kit's print, with additions of this session); Lean checks every line.
import Derived.Test.YtkgllmjlhaimcaaDoorPEvalEvalsx14
namespace Go.Proofs.YtkgllmjlhaimcaaDoor.PEvalEvals
open Go.RowKit Go.Proofs.YtkgllmjlhaimcaaDoorW.PrintWords Go.Proofs.YtkgllmjlhaimcaaDoorW.PrintLast Go.Proofs.YtkgllmjlhaimcaaDoorW.PrintMore
attribute [local go_sem] zje zjc zjo zjn zq4 zq3 zjd zjb   -- for this text's walks alone
set_option linter.unusedVariables false
set_option linter.unusedSimpArgs false

attribute [local go_sem high] eqA23
/-! ### commonholdlaw_EvalEvals: function 3 -/
def commonholdlaw_EvalEvals.f (k:Nat) (a0_0:Int) (a0_1:Int) (a0_2:Int) (a0_3:ByteArray) (a0_4:ByteArray) (a0_5:ByteArray) (a0_6:Int) (l0_7:List (S26)) (l1:List (S23)):Option (Bool):=(zql.f l1).bind fun t258=>((qf.f k a0_0 a0_1 a0_2 a0_3 a0_4 a0_5 a0_6 l0_7 t258).bind fun bt261=>((zqg.f k a0_0 a0_1 a0_2 a0_3 a0_4 a0_5 a0_6 l0_7 l1).bind fun bt266=>(if(bt261.1 == bt266.1 && (bt261.2.1 == bt266.2.1 && (bt261.2.2.1.toList == bt266.2.2.1.toList)))=true then(some (bt261.2.2.2 == bt266.2.2.2)) else (some false))))
theorem commonholdlaw_EvalEvals.mono:∀ a0 a1 a2 a3 a4 a5 a6 a7 a8 k,LeO (commonholdlaw_EvalEvals.f k a0 a1 a2 a3 a4 a5 a6 a7 a8) (commonholdlaw_EvalEvals.f (k+1) a0 a1 a2 a3 a4 a5 a6 a7 a8):=by
 intro a0 a1 a2 a3 a4 a5 a6 a7 a8 k
 unfold commonholdlaw_EvalEvals.f
 repeat' first
   | (with_reducible first|exact zqg.mono _ _ _ _ _ _ _ _ _ _|exact qf.mono _ _ _ _ _ _ _ _ _ _|exact LeO.refl _|exact LeO.none _|refine LeO.ite ?_ ?_|refine LeO.bind ?_ (fun _=>?_))
   | exact zqg.mono _ _ _ _ _ _ _ _ _ _
   | exact qf.mono _ _ _ _ _ _ _ _ _ _
   | exact LeO.none _
   | refine LeO.ite ?_ ?_
   | refine LeO.bind ?_ (fun _=>?_)
def commonholdlaw_EvalEvals.T1:Bool × List (List Nat × List Nat):=(true, [([], []),([], []),([1], [1]),([0,2,2], [0,2]),([3], [3]),([4], [4]),([4], [4]),([], []),([7,5,3,0,1,2,3,4,5,7], [5,7]),([6,8,0,1,2,3,4,5,6,7,8], [6])])
def commonholdlaw_EvalEvals.B1:List Nat := [0,0,2,7,15,31,31,0,191,511]
theorem commonholdlaw_EvalEvals.tab1:rtab .any (opsOf Tryd.f3 1)=commonholdlaw_EvalEvals.T1:=by kernel_rfl
theorem commonholdlaw_EvalEvals.bits1:zxy commonholdlaw_EvalEvals.T1.2 commonholdlaw_EvalEvals.B1=true:=by kernel_rfl
set_option maxHeartbeats 8000000 in
set_option maxRecDepth 100000 in
theorem commonholdlaw_EvalEvals.calls (k:Nat) (a0_0:Int) (a0_1:Int) (a0_2:Int) (a0_3:ByteArray) (a0_4:ByteArray) (a0_5:ByteArray) (a0_6:Int) (A0_7:Option Addr) (c0_7:Nat) (l0_7:List (S26)) (A1:Option Addr) (c1:Nat) (l1:List (S23)) (r:Bool) (w:World) (hr0_7:Kd.C k26 w A0_7 l0_7.length l0_7) (hc0_7:l0_7.length≤c0_7) (hr1:Kd.C k23 w A1 l1.length l1) (hc1:l1.length≤c1) (hL:LD w) (h:commonholdlaw_EvalEvals.f k a0_0 a0_1 a0_2 a0_3 a0_4 a0_5 a0_6 l0_7 l1=some r) :
  Calls Tryd.prog 3 #[.agg #[.int .i64 a0_0,.int .i64 a0_1,.int .i64 a0_2,.string a0_3,.string a0_4,.string a0_5,.int .i64 a0_6,.slice A0_7 l0_7.length c0_7],.slice A1 l1.length c1] w fun e w'=>e = .returned (.bool r)∧Below w.heap.size w w':=by
 have hu26:=Tryd.underlying26
 have hu23:=Tryd.underlying23
 have HLD:=zq.mk hL
 clear hL
 have HR0_7:=zq.mk hr0_7
 have HC0_7:=zq.mk hc0_7
 clear hr0_7 hc0_7
 have HR1:=zq.mk hr1
 have HC1:=zq.mk hc1
 clear hr1 hc1
 have HB:=zq.mk (Below.refl w.heap.size w)
 have H:((zql.f l1).bind fun t258=>((qf.f k a0_0 a0_1 a0_2 a0_3 a0_4 a0_5 a0_6 l0_7 t258).bind fun bt261=>((zqg.f k a0_0 a0_1 a0_2 a0_3 a0_4 a0_5 a0_6 l0_7 l1).bind fun bt266=>(if(bt261.1 == bt266.1 && (bt261.2.1 == bt266.2.1 && (bt261.2.2.1.toList == bt266.2.2.1.toList)))=true then(some (bt261.2.2.2 == bt266.2.2.2)) else (some false)))))=some r:=h
 clear h
 replace H:=Option.bind_eq_some_iff.mp H
 obtain ⟨t258,A30,H⟩:=H
 replace H:((qf.f k a0_0 a0_1 a0_2 a0_3 a0_4 a0_5 a0_6 l0_7 t258).bind fun bt261=>((zqg.f k a0_0 a0_1 a0_2 a0_3 a0_4 a0_5 a0_6 l0_7 l1).bind fun bt266=>(if(bt261.1 == bt266.1 && (bt261.2.1 == bt266.2.1 && (bt261.2.2.1.toList == bt266.2.2.1.toList)))=true then(some (bt261.2.2.2 == bt266.2.2.2)) else (some false))))=some r:=H
 have A3:=zq.mk A30
 clear A30
 replace H:=Option.bind_eq_some_iff.mp H
 obtain ⟨⟨t261,t262,t263,t264⟩,A40,H⟩:=H
 replace H:((zqg.f k a0_0 a0_1 a0_2 a0_3 a0_4 a0_5 a0_6 l0_7 l1).bind fun bt266=>(if(t261 == bt266.1 && (t262 == bt266.2.1 && (t263.toList == bt266.2.2.1.toList)))=true then(some (t264 == bt266.2.2.2)) else (some false)))=some r:=H
 have A4:=zq.mk A40
 clear A40
 replace H:=Option.bind_eq_some_iff.mp H
 obtain ⟨⟨t266,t267,t268,t269⟩,A50,H⟩:=H
 replace H:(if(t261 == t266 && (t262 == t267 && (t263.toList == t268.toList)))=true then(some (t264 == t269)) else (some false))=some r:=H
 have A5:=zq.mk A50
 clear A50
 by_cases c6:(t261 == t266 && (t262 == t267 && (t263.toList == t268.toList)))=true
 ·rw [if_pos c6] at H
  have c6b0:(t261 == t266 && (t262 == t267 && (t263.toList == t268.toList)))=true:=c6
  (try(have c6b1:decide (t261=t266 && (t262 == t267 && (t263.toList == t268.toList)))=true:=by simpa using c6))
  (try(have c6b2:(t261 == t266 && (t262 == t267 && (t263.toList == t268.toList)))=true:=by simpa using c6))
  clear c6
  obtain rfl:=Option.some.inj H
  go_enter Tryd.func3,Tryd.ntmps3
  try go_wp2_with (first|((with_reducible refine qc (N:=2) rfl ?_);refine qn ?hg (N:=2) ?hd (cs:=#[.int .i64 a0_0,.int .i64 a0_1,.int .i64 a0_2,.string a0_3,.string a0_4,.string a0_5,.int .i64 a0_6,.slice A0_7 l0_7.length c0_7]) (t:=26) ?hr ?_;(case hd=>rfl);(case hg=>rfl);(case hr=>first|(go_simp;done)|(go_simp;rfl));intro gb257 hg w7 hbox hb;have BK257:=zq.mk (hbox);have GW257:=zq.mk ((by rw [hg];exact(zw bw):w.heap.size≤gb257));have GE257:=zq.mk ((by rw [hg];exact(zw bw):w.heap.size≤gb257));replace HB:=zq.mk (zc bw hb);clear hb hbox hg))
  have n0_:=zq.mk (zf BK257.out)
  have n1_:=zq.mk (ql HB.out)
  clear BK257
  clear HB
  have BK257:=n0_
  have HB:=n1_
  clear n0_ n1_
  refine start_ (n:=10) (S:=fun w'=>w'.cell? ⟨gb257,0,none⟩=some (.int .i64 a0_0)∧w'.cell? ⟨gb257,1,none⟩=some (.int .i64 a0_1)∧w'.cell? ⟨gb257,2,none⟩=some (.int .i64 a0_2)∧w'.cell? ⟨gb257,3,none⟩=some (.string a0_3)∧w'.cell? ⟨gb257,4,none⟩=some (.string a0_4)∧w'.cell? ⟨gb257,5,none⟩=some (.string a0_5)∧w'.cell? ⟨gb257,6,none⟩=some (.int .i64 a0_6)∧w'.cell? ⟨gb257,7,none⟩=some (.slice A0_7 l0_7.length c0_7)) (ds := []) #[false,false,false,false,false,false,false,false,false,false] (by kernel_rfl) rfl rfl ⟨(zh BK257.out 0).trans rfl,(zh BK257.out 1).trans rfl,(zh BK257.out 2).trans rfl,(zh BK257.out 3).trans rfl,(zh BK257.out 4).trans rfl,(zh BK257.out 5).trans rfl,(zh BK257.out 6).trans rfl,(zh BK257.out 7).trans rfl⟩ (fun hHeld=>?_);refine with_tabW commonholdlaw_EvalEvals.tab1 commonholdlaw_EvalEvals.bits1 (fun HT_ HW_=>?_)
  generalize w7.drew=w8 at BK257 HB hHeld ⊢
  refine zj4 (i:=1) (N:=some 11) (v:=?_) (a':=?_) #[false,true,false,false,false,false,false,false,false,false] rfl rfl (zjr HT_.out (by kernel_rfl)) (fun _ _ _ h=>h) (Or.inl ⟨by rfl,?_⟩) ?_ ?_
  rotate_left
  ·intro w'
   go_simp
   with_reducible rfl
  rotate_left
  ·simp only [Act.put,List.setIfInBounds_toArray,List.set_cons_zero,List.set_cons_succ,zqq,zqr]
   rfl
  refine take_ (i:=0) (N:=some 10) (v:=?_) (a':=?_) #[true,true,false,false,false,false,false,false,false,false] rfl rfl (take_ofW HT_.out HW_.out (by kernel_rfl)) (fun _ _ _ h=>h) (Or.inl ⟨by rfl,?_⟩) hHeld ?_ ?_
  rotate_left
  ·rintro w' ⟨s0,s1,s2,s3,s4,s5,s6,s7⟩
   go_simp
   with_reducible rfl
  rotate_left
  ·simp only [Act.put,List.setIfInBounds_toArray,List.set_cons_zero,List.set_cons_succ,zqq,zqr]
   rfl
  refine join_ (σ:=Value × Nat) 2 #[true,true,true,true,true,true,true,true,false,false] (fun s_ => [(12,s_.1),(13,.tuple #[.agg #[.int .i64 t261,.int .i64 t262,.string t263],.int .i64 t264]),(5,.pointer (some ⟨s_.2,0,none⟩)),(9,.tuple #[.agg #[.int .i64 t261,.int .i64 t262,.string t263],.int .i64 t264]),(14,.agg #[.int .i64 t261,.int .i64 t262,.string t263]),(15,.int .i64 t264)]) (fun s_ w'=>(w'.cell? ⟨gb257,0,none⟩=some (.int .i64 a0_0)∧w'.cell? ⟨gb257,1,none⟩=some (.int .i64 a0_1)∧w'.cell? ⟨gb257,2,none⟩=some (.int .i64 a0_2)∧w'.cell? ⟨gb257,3,none⟩=some (.string a0_3)∧w'.cell? ⟨gb257,4,none⟩=some (.string a0_4)∧w'.cell? ⟨gb257,5,none⟩=some (.string a0_5)∧w'.cell? ⟨gb257,6,none⟩=some (.int .i64 a0_6)∧w'.cell? ⟨gb257,7,none⟩=some (.slice A0_7 l0_7.length c0_7))∧(Kd.R k23 23 w' w.heap.size (fun k_=>k_≠s_.2) s_.1 t258)∧(w'.heap[gb257]? = some (.cells #[.int .i64 a0_0,.int .i64 a0_1,.int .i64 a0_2,.string a0_3,.string a0_4,.string a0_5,.int .i64 a0_6,.slice A0_7 l0_7.length c0_7] 26 (0,0)))∧(w'.heap[s_.2]? = some (.cells #[.int .i64 0,.int .i64 0,.string (⟨#[]⟩:ByteArray)] 23 (0,0)))∧(w.heap.size≤s_.2)∧(w.heap.size≤s_.2)∧(gb257≠s_.2)∧(s_.2≠gb257)∧(Below w.heap.size w w')) ?_ ?_
  rotate_left
  ·intro hCont
   refine two_ (i:=2) (j:=7) (Ni:=some 12) (Nj:=some 5) #[true,true,true,false,false,false,false,false,false,false] #[true,true,false,false,false,false,false,true,false,false] rfl rfl rfl rfl (two_of HT_.out (by kernel_rfl)) (by decide) (by decide) (fun K hK=>?_) (fun K hK=>?_)
   ·skip
    refine goes_ Tryd.func9 (by kernel_rfl) rfl #[.slice A1 l1.length c1] (by rfl) rfl rfl gs ?_
    with_reducible refine(zql.calls _ _ l1 t258 _ ?side1 ?side2 A3.out).mono ?_
    (case side1=>exact Kd.cu (Kd.zqe HR1.out HB.out))
    (case side2=>exact HC1.out)
    rintro e w9 ⟨v259,rfl,ho0,hb⟩
    refine⟨_,rfl,?_⟩
    have n0_:=zq.mk (Kd.zxt ho0 (zw bw))
    have n1_:=zq.mk (zl (g:=gb257) (o:=.cells #[.int .i64 a0_0,.int .i64 a0_1,.int .i64 a0_2,.string a0_3,.string a0_4,.string a0_5,.int .i64 a0_6,.slice A0_7 l0_7.length c0_7] 26 (0,0)) (up BK257.out) hb)
    have n2_:=zq.mk (zc bw hb)
    clear BK257
    clear HB
    have HO260:=n0_
    have BK257:=n1_
    have HB:=n2_
    clear n0_ n1_ n2_
    (try clear hb)
    (try clear hb2)
    (try clear hk)
    (try clear hi)
    (try clear ho0)
    obtain ⟨Ao10,co10,eo10⟩:=Kd.zxi HO260.out
    (first|subst eo10|(injection eo10 with f1_ f2_ f3_;have f4_:=f1_.symm;have f5_:=f3_.symm;clear f1_ f2_ f3_;subst f4_;subst f5_))
    refine hK.out _ _ ⟨(zh BK257.out 0).trans rfl,(zh BK257.out 1).trans rfl,(zh BK257.out 2).trans rfl,(zh BK257.out 3).trans rfl,(zh BK257.out 4).trans rfl,(zh BK257.out 5).trans rfl,(zh BK257.out 6).trans rfl,(zh BK257.out 7).trans rfl⟩ (fun hHeld=>?_)
    clear hK K
    refine zj2 (a':=?_) ?_ ?_
    rotate_left
    ·show Act.put _ (some 12) _=_
     simp only [Act.put,List.setIfInBounds_toArray,List.set_cons_zero,List.set_cons_succ,zqq,zqr]
     rfl
    refine two_ (i:=3) (j:=7) (Ni:=some 13) (Nj:=some 5) #[true,true,true,true,false,false,false,false,false,false] #[true,true,true,false,false,false,false,true,false,false] rfl rfl rfl rfl (two_of HT_.out (by kernel_rfl)) (by decide) (by decide) (fun K hK=>?_) (fun K hK=>?_)
    ·skip
     refine goes_ Tryd.func8 (by kernel_rfl) rfl #[.agg #[.int .i64 a0_0,.int .i64 a0_1,.int .i64 a0_2,.string a0_3,.string a0_4,.string a0_5,.int .i64 a0_6,.slice A0_7 l0_7.length c0_7],.slice Ao10 t258.length co10] (by rfl) rfl rfl gs ?_
     with_reducible refine(qf.calls k a0_0 a0_1 a0_2 a0_3 a0_4 a0_5 a0_6 _ _ l0_7 _ _ t258 t261 t262 t263 t264 _ ?side1 ?side2 ?side3 ?side4 ?side5 A4.out).mono ?_
     (case side1=>exact Kd.cu (Kd.zqe HR0_7.out HB.out))
     (case side2=>exact HC0_7.out)
     (case side3=>exact Kd.cu (Kd.zji HO260.out).2.2)
     (case side4=>exact(Kd.zji HO260.out).2.1)
     (case side5=>exact LD.below HLD.out (by first|(with_reducible exact Below.refl _ _)|((repeat(first|(with_reducible exact Below.refl _ _)|(with_reducible apply zn)|(with_reducible apply qp)|(with_reducible apply ql)));done)|exact bw))
     rintro e w11 ⟨rfl,hb⟩
     refine⟨_,rfl,?_⟩
     have n0_:=zq.mk (Kd.zja (Kd.ru HO260.out) hb)
     have n1_:=zq.mk (zl (g:=gb257) (o:=.cells #[.int .i64 a0_0,.int .i64 a0_1,.int .i64 a0_2,.string a0_3,.string a0_4,.string a0_5,.int .i64 a0_6,.slice A0_7 l0_7.length c0_7] 26 (0,0)) (up BK257.out) hb)
     have n2_:=zq.mk (zc bw hb)
     clear HO260
     clear BK257
     clear HB
     have HO260:=n0_
     have BK257:=n1_
     have HB:=n2_
     clear n0_ n1_ n2_
     (try clear hb)
     (try clear hb2)
     (try clear hk)
     (try clear hi)
     refine hK.out _ _ ⟨(zh BK257.out 0).trans rfl,(zh BK257.out 1).trans rfl,(zh BK257.out 2).trans rfl,(zh BK257.out 3).trans rfl,(zh BK257.out 4).trans rfl,(zh BK257.out 5).trans rfl,(zh BK257.out 6).trans rfl,(zh BK257.out 7).trans rfl⟩ (fun hHeld=>?_)
     clear hK K
     refine zj2 (a':=?_) ?_ ?_
     rotate_left
     ·show Act.put _ (some 13) _=_
      simp only [Act.put,List.setIfInBounds_toArray,List.set_cons_zero,List.set_cons_succ,zqq,zqr]
      rfl
     refine zj4 (i:=4) (N:=some 9) (v:=?_) (a':=?_) #[true,true,true,true,true,false,false,false,false,false] rfl rfl (zjr HT_.out (by kernel_rfl)) (fun _ _ _ h=>h) (Or.inl ⟨by rfl,?_⟩) ?_ ?_
     rotate_left
     ·intro w'
      go_simp
      with_reducible rfl
     rotate_left
     ·simp only [Act.put,List.setIfInBounds_toArray,List.set_cons_zero,List.set_cons_succ,zqq,zqr]
      rfl
     refine zj4 (i:=5) (N:=some 14) (v:=?_) (a':=?_) #[true,true,true,true,true,true,false,false,false,false] rfl rfl (zjr HT_.out (by kernel_rfl)) (fun _ _ _ h=>h) (Or.inl ⟨by rfl,?_⟩) ?_ ?_
     rotate_left
     ·intro w'
      go_simp
      with_reducible rfl
     rotate_left
     ·simp only [Act.put,List.setIfInBounds_toArray,List.set_cons_zero,List.set_cons_succ,zqq,zqr]
      rfl
     refine zj4 (i:=6) (N:=some 15) (v:=?_) (a':=?_) #[true,true,true,true,true,true,true,false,false,false] rfl rfl (zjr HT_.out (by kernel_rfl)) (fun _ _ _ h=>h) (Or.inl ⟨by rfl,?_⟩) ?_ ?_
     rotate_left
     ·intro w'
      go_simp
      with_reducible rfl
     rotate_left
     ·simp only [Act.put,List.setIfInBounds_toArray,List.set_cons_zero,List.set_cons_succ,zqq,zqr]
      rfl
     refine one_ (i:=7) (N:=some 5) #[true,true,true,true,true,true,true,true,false,false] rfl rfl (zxe HT_.out (by kernel_rfl)) (by decide) (fun K hK=>?_)
     refine zxd ?hg (N:=5) ?hd (cs:=#[.int .i64 0,.int .i64 0,.string (⟨#[]⟩:ByteArray)]) (t:=23) ?hr ?_;(case hd=>rfl);(case hg=>rfl);(case hr=>first|(go_simp;done)|(go_simp;rfl))
     intro gb265 hg w12 hbox hb
     have n0_:=zq.mk (Kd.zja (Kd.zjz (Kd.ru HO260.out) gb265 (Nat.le_of_eq hg.symm)) hb)
     have n1_:=zq.mk (zl (g:=gb257) (o:=.cells #[.int .i64 a0_0,.int .i64 a0_1,.int .i64 a0_2,.string a0_3,.string a0_4,.string a0_5,.int .i64 a0_6,.slice A0_7 l0_7.length c0_7] 26 (0,0)) (up BK257.out) hb)
     have n2_:=zq.mk (zc bw hb)
     have n3_:=zq.mk (hbox)
     have n4_:=zq.mk ((by rw [hg];exact(zw bw):w.heap.size≤gb265))
     have n5_:=zq.mk ((by rw [hg];exact(zw bw):w.heap.size≤gb265))
     have n6_:=zq.mk ((by rw [hg];exact Nat.ne_of_lt (qd (g:=gb257) (o:=.cells #[.int .i64 a0_0,.int .i64 a0_1,.int .i64 a0_2,.string a0_3,.string a0_4,.string a0_5,.int .i64 a0_6,.slice A0_7 l0_7.length c0_7] 26 (0,0)) (up BK257.out)):gb257≠gb265))
     have n7_:=zq.mk ((by rw [hg];exact Nat.ne_of_gt (qd (g:=gb257) (o:=.cells #[.int .i64 a0_0,.int .i64 a0_1,.int .i64 a0_2,.string a0_3,.string a0_4,.string a0_5,.int .i64 a0_6,.slice A0_7 l0_7.length c0_7] 26 (0,0)) (up BK257.out)):gb265≠gb257))
     clear HO260
     clear BK257
     clear HB
     have HO260:=n0_
     have BK257:=n1_
     have HB:=n2_
     have BK265:=n3_
     have GW265:=n4_
     have GE265:=n5_
     have NB257_265:=n6_
     have NB265_257:=n7_
     clear n0_ n1_ n2_ n3_ n4_ n5_ n6_ n7_
     clear hb hbox hg
     refine hK.out _ _ ⟨(zh BK257.out 0).trans rfl,(zh BK257.out 1).trans rfl,(zh BK257.out 2).trans rfl,(zh BK257.out 3).trans rfl,(zh BK257.out 4).trans rfl,(zh BK257.out 5).trans rfl,(zh BK257.out 6).trans rfl,(zh BK257.out 7).trans rfl⟩ (fun hHeld=>?_)
     clear hK K
     refine zj2 (a':=?_) ?_ ?_
     rotate_left
     ·show Act.put _ (some 5) _=_
      simp only [Act.put,List.setIfInBounds_toArray,List.set_cons_zero,List.set_cons_succ,zqq,zqr]
      rfl
     exact zj2 (by simp only [zxc,Act.put,List.setIfInBounds_toArray,List.set_cons_zero,List.set_cons_succ]) (hCont (.slice Ao10 t258.length co10,gb265) _ ⟨hHeld,(Kd.ru (Kd.zjv HO260.out (fun _ hk=>hk.2))),(up BK257.out),(up BK265.out),GW265.out,GE265.out,NB257_265.out,NB265_257.out,bw⟩)
    skip
    refine zxd ?hg (N:=5) ?hd (cs:=#[.int .i64 0,.int .i64 0,.string (⟨#[]⟩:ByteArray)]) (t:=23) ?hr ?_;(case hd=>rfl);(case hg=>rfl);(case hr=>first|(go_simp;done)|(go_simp;rfl))
    intro gb265 hg w10 hbox hb
    have n0_:=zq.mk (Kd.zja (Kd.zjz (Kd.ru HO260.out) gb265 (Nat.le_of_eq hg.symm)) hb)
    have n1_:=zq.mk (zl (g:=gb257) (o:=.cells #[.int .i64 a0_0,.int .i64 a0_1,.int .i64 a0_2,.string a0_3,.string a0_4,.string a0_5,.int .i64 a0_6,.slice A0_7 l0_7.length c0_7] 26 (0,0)) (up BK257.out) hb)
    have n2_:=zq.mk (zc bw hb)
    have n3_:=zq.mk (hbox)
    have n4_:=zq.mk ((by rw [hg];exact(zw bw):w.heap.size≤gb265))
    have n5_:=zq.mk ((by rw [hg];exact(zw bw):w.heap.size≤gb265))
    have n6_:=zq.mk ((by rw [hg];exact Nat.ne_of_lt (qd (g:=gb257) (o:=.cells #[.int .i64 a0_0,.int .i64 a0_1,.int .i64 a0_2,.string a0_3,.string a0_4,.string a0_5,.int .i64 a0_6,.slice A0_7 l0_7.length c0_7] 26 (0,0)) (up BK257.out)):gb257≠gb265))
    have n7_:=zq.mk ((by rw [hg];exact Nat.ne_of_gt (qd (g:=gb257) (o:=.cells #[.int .i64 a0_0,.int .i64 a0_1,.int .i64 a0_2,.string a0_3,.string a0_4,.string a0_5,.int .i64 a0_6,.slice A0_7 l0_7.length c0_7] 26 (0,0)) (up BK257.out)):gb265≠gb257))
    clear HO260
    clear BK257
    clear HB
    have HO260:=n0_
    have BK257:=n1_
    have HB:=n2_
    have BK265:=n3_
    have GW265:=n4_
    have GE265:=n5_
    have NB257_265:=n6_
    have NB265_257:=n7_
    clear n0_ n1_ n2_ n3_ n4_ n5_ n6_ n7_
    clear hb hbox hg
    obtain ⟨Ao11,co11,eo11⟩:=Kd.zxi HO260.out
    (first|subst eo11|(injection eo11 with f1_ f2_ f3_;have f4_:=f1_.symm;have f5_:=f3_.symm;clear f1_ f2_ f3_;subst f4_;subst f5_))
    refine hK.out _ _ ⟨(zh BK257.out 0).trans rfl,(zh BK257.out 1).trans rfl,(zh BK257.out 2).trans rfl,(zh BK257.out 3).trans rfl,(zh BK257.out 4).trans rfl,(zh BK257.out 5).trans rfl,(zh BK257.out 6).trans rfl,(zh BK257.out 7).trans rfl⟩ (fun hHeld=>?_)
    clear hK K
    refine zj2 (a':=?_) ?_ ?_
    rotate_left
    ·show Act.put _ (some 5) _=_
     simp only [Act.put,List.setIfInBounds_toArray,List.set_cons_zero,List.set_cons_succ,zqq,zqr]
     rfl
    refine one_ (i:=3) (N:=some 13) #[true,true,true,true,false,false,false,true,false,false] rfl rfl (zxe HT_.out (by kernel_rfl)) (by decide) (fun K hK=>?_)
    refine goes_ Tryd.func8 (by kernel_rfl) rfl #[.agg #[.int .i64 a0_0,.int .i64 a0_1,.int .i64 a0_2,.string a0_3,.string a0_4,.string a0_5,.int .i64 a0_6,.slice A0_7 l0_7.length c0_7],.slice Ao11 t258.length co11] (by rfl) rfl rfl gs ?_
    with_reducible refine(qf.calls k a0_0 a0_1 a0_2 a0_3 a0_4 a0_5 a0_6 _ _ l0_7 _ _ t258 t261 t262 t263 t264 _ ?side1 ?side2 ?side3 ?side4 ?side5 A4.out).mono ?_
    (case side1=>exact Kd.cu (Kd.zqe HR0_7.out HB.out))
    (case side2=>exact HC0_7.out)
    (case side3=>exact Kd.cu (Kd.zji HO260.out).2.2)
    (case side4=>exact(Kd.zji HO260.out).2.1)
    (case side5=>exact LD.below HLD.out (by first|(with_reducible exact Below.refl _ _)|((repeat(first|(with_reducible exact Below.refl _ _)|(with_reducible apply zn)|(with_reducible apply qp)|(with_reducible apply ql)));done)|exact bw))
    rintro e w12 ⟨rfl,hb⟩
    refine⟨_,rfl,?_⟩
    have n0_:=zq.mk (Kd.zja (Kd.ru HO260.out) hb)
    have n1_:=zq.mk (zl (g:=gb257) (o:=.cells #[.int .i64 a0_0,.int .i64 a0_1,.int .i64 a0_2,.string a0_3,.string a0_4,.string a0_5,.int .i64 a0_6,.slice A0_7 l0_7.length c0_7] 26 (0,0)) (up BK257.out) hb)
    have n2_:=zq.mk (zl (g:=gb265) (o:=.cells #[.int .i64 0,.int .i64 0,.string (⟨#[]⟩:ByteArray)] 23 (0,0)) (up BK265.out) hb)
    have n3_:=zq.mk (zc bw hb)
    clear HO260
    clear BK257
    clear BK265
    clear HB
    have HO260:=n0_
    have BK257:=n1_
    have BK265:=n2_
    have HB:=n3_
    clear n0_ n1_ n2_ n3_
    (try clear hb)
    (try clear hb2)
    (try clear hk)
    (try clear hi)
    refine hK.out _ _ ⟨(zh BK257.out 0).trans rfl,(zh BK257.out 1).trans rfl,(zh BK257.out 2).trans rfl,(zh BK257.out 3).trans rfl,(zh BK257.out 4).trans rfl,(zh BK257.out 5).trans rfl,(zh BK257.out 6).trans rfl,(zh BK257.out 7).trans rfl⟩ (fun hHeld=>?_)
    clear hK K
    refine zj2 (a':=?_) ?_ ?_
    rotate_left
    ·show Act.put _ (some 13) _=_
     simp only [Act.put,List.setIfInBounds_toArray,List.set_cons_zero,List.set_cons_succ,zqq,zqr]
     rfl
    refine zj4 (i:=4) (N:=some 9) (v:=?_) (a':=?_) #[true,true,true,true,true,false,false,true,false,false] rfl rfl (zjr HT_.out (by kernel_rfl)) (fun _ _ _ h=>h) (Or.inl ⟨by rfl,?_⟩) ?_ ?_
    rotate_left
    ·intro w'
     go_simp
     with_reducible rfl
    rotate_left
    ·simp only [Act.put,List.setIfInBounds_toArray,List.set_cons_zero,List.set_cons_succ,zqq,zqr]
     rfl
    refine zj4 (i:=5) (N:=some 14) (v:=?_) (a':=?_) #[true,true,true,true,true,true,false,true,false,false] rfl rfl (zjr HT_.out (by kernel_rfl)) (fun _ _ _ h=>h) (Or.inl ⟨by rfl,?_⟩) ?_ ?_
    rotate_left
    ·intro w'
     go_simp
     with_reducible rfl
    rotate_left
    ·simp only [Act.put,List.setIfInBounds_toArray,List.set_cons_zero,List.set_cons_succ,zqq,zqr]
     rfl
    refine zj4 (i:=6) (N:=some 15) (v:=?_) (a':=?_) #[true,true,true,true,true,true,true,true,false,false] rfl rfl (zjr HT_.out (by kernel_rfl)) (fun _ _ _ h=>h) (Or.inl ⟨by rfl,?_⟩) ?_ ?_
    rotate_left
    ·intro w'
     go_simp
     with_reducible rfl
    rotate_left
    ·simp only [Act.put,List.setIfInBounds_toArray,List.set_cons_zero,List.set_cons_succ,zqq,zqr]
     rfl
    exact zj2 (by simp only [zxc,Act.put,List.setIfInBounds_toArray,List.set_cons_zero,List.set_cons_succ]) (hCont (.slice Ao11 t258.length co11,gb265) _ ⟨hHeld,(Kd.ru (Kd.zjv HO260.out (fun _ hk=>hk.2))),(up BK257.out),(up BK265.out),GW265.out,GE265.out,NB257_265.out,NB265_257.out,bw⟩)
   skip
   refine zxd ?hg (N:=5) ?hd (cs:=#[.int .i64 0,.int .i64 0,.string (⟨#[]⟩:ByteArray)]) (t:=23) ?hr ?_;(case hd=>rfl);(case hg=>rfl);(case hr=>first|(go_simp;done)|(go_simp;rfl))
   intro gb265 hg w9 hbox hb
   have n0_:=zq.mk (zl (g:=gb257) (o:=.cells #[.int .i64 a0_0,.int .i64 a0_1,.int .i64 a0_2,.string a0_3,.string a0_4,.string a0_5,.int .i64 a0_6,.slice A0_7 l0_7.length c0_7] 26 (0,0)) (up BK257.out) hb)
   have n1_:=zq.mk (zc bw hb)
   have n2_:=zq.mk (hbox)
   have n3_:=zq.mk ((by rw [hg];exact(zw bw):w.heap.size≤gb265))
   have n4_:=zq.mk ((by rw [hg];exact(zw bw):w.heap.size≤gb265))
   have n5_:=zq.mk ((by rw [hg];exact Nat.ne_of_lt (qd (g:=gb257) (o:=.cells #[.int .i64 a0_0,.int .i64 a0_1,.int .i64 a0_2,.string a0_3,.string a0_4,.string a0_5,.int .i64 a0_6,.slice A0_7 l0_7.length c0_7] 26 (0,0)) (up BK257.out)):gb257≠gb265))
   have n6_:=zq.mk ((by rw [hg];exact Nat.ne_of_gt (qd (g:=gb257) (o:=.cells #[.int .i64 a0_0,.int .i64 a0_1,.int .i64 a0_2,.string a0_3,.string a0_4,.string a0_5,.int .i64 a0_6,.slice A0_7 l0_7.length c0_7] 26 (0,0)) (up BK257.out)):gb265≠gb257))
   clear BK257
   clear HB
   have BK257:=n0_
   have HB:=n1_
   have BK265:=n2_
   have GW265:=n3_
   have GE265:=n4_
   have NB257_265:=n5_
   have NB265_257:=n6_
   clear n0_ n1_ n2_ n3_ n4_ n5_ n6_
   clear hb hbox hg
   refine hK.out _ _ ⟨(zh BK257.out 0).trans rfl,(zh BK257.out 1).trans rfl,(zh BK257.out 2).trans rfl,(zh BK257.out 3).trans rfl,(zh BK257.out 4).trans rfl,(zh BK257.out 5).trans rfl,(zh BK257.out 6).trans rfl,(zh BK257.out 7).trans rfl⟩ (fun hHeld=>?_)
   clear hK K
   refine zj2 (a':=?_) ?_ ?_
   rotate_left
   ·show Act.put _ (some 5) _=_
    simp only [Act.put,List.setIfInBounds_toArray,List.set_cons_zero,List.set_cons_succ,zqq,zqr]
    rfl
   refine one_ (i:=2) (N:=some 12) #[true,true,true,false,false,false,false,true,false,false] rfl rfl (zxe HT_.out (by kernel_rfl)) (by decide) (fun K hK=>?_)
   refine goes_ Tryd.func9 (by kernel_rfl) rfl #[.slice A1 l1.length c1] (by rfl) rfl rfl gs ?_
   with_reducible refine(zql.calls _ _ l1 t258 _ ?side1 ?side2 A3.out).mono ?_
   (case side1=>exact Kd.cu (Kd.zqe HR1.out HB.out))
   (case side2=>exact HC1.out)
   rintro e w10 ⟨v259,rfl,ho0,hb⟩
   refine⟨_,rfl,?_⟩
   have n0_:=zq.mk (Kd.zxt (Kd.R_newB ho0 (g:=gb265) (o:=.cells #[.int .i64 0,.int .i64 0,.string (⟨#[]⟩:ByteArray)] 23 (0,0)) (up BK265.out)) (zw bw))
   have n1_:=zq.mk (zl (g:=gb257) (o:=.cells #[.int .i64 a0_0,.int .i64 a0_1,.int .i64 a0_2,.string a0_3,.string a0_4,.string a0_5,.int .i64 a0_6,.slice A0_7 l0_7.length c0_7] 26 (0,0)) (up BK257.out) hb)
   have n2_:=zq.mk (zl (g:=gb265) (o:=.cells #[.int .i64 0,.int .i64 0,.string (⟨#[]⟩:ByteArray)] 23 (0,0)) (up BK265.out) hb)
   have n3_:=zq.mk (zc bw hb)
   clear BK257
   clear BK265
   clear HB
   have HO260:=n0_
   have BK257:=n1_
   have BK265:=n2_
   have HB:=n3_
   clear n0_ n1_ n2_ n3_
   (try clear hb)
   (try clear hb2)
   (try clear hk)
   (try clear hi)
   (try clear ho0)
   obtain ⟨Ao11,co11,eo11⟩:=Kd.zxi HO260.out
   (first|subst eo11|(injection eo11 with f1_ f2_ f3_;have f4_:=f1_.symm;have f5_:=f3_.symm;clear f1_ f2_ f3_;subst f4_;subst f5_))
   refine hK.out _ _ ⟨(zh BK257.out 0).trans rfl,(zh BK257.out 1).trans rfl,(zh BK257.out 2).trans rfl,(zh BK257.out 3).trans rfl,(zh BK257.out 4).trans rfl,(zh BK257.out 5).trans rfl,(zh BK257.out 6).trans rfl,(zh BK257.out 7).trans rfl⟩ (fun hHeld=>?_)
   clear hK K
   refine zj2 (a':=?_) ?_ ?_
   rotate_left
   ·show Act.put _ (some 12) _=_
    simp only [Act.put,List.setIfInBounds_toArray,List.set_cons_zero,List.set_cons_succ,zqq,zqr]
    rfl
   refine one_ (i:=3) (N:=some 13) #[true,true,true,true,false,false,false,true,false,false] rfl rfl (zxe HT_.out (by kernel_rfl)) (by decide) (fun K hK=>?_)
   refine goes_ Tryd.func8 (by kernel_rfl) rfl #[.agg #[.int .i64 a0_0,.int .i64 a0_1,.int .i64 a0_2,.string a0_3,.string a0_4,.string a0_5,.int .i64 a0_6,.slice A0_7 l0_7.length c0_7],.slice Ao11 t258.length co11] (by rfl) rfl rfl gs ?_
   with_reducible refine(qf.calls k a0_0 a0_1 a0_2 a0_3 a0_4 a0_5 a0_6 _ _ l0_7 _ _ t258 t261 t262 t263 t264 _ ?side1 ?side2 ?side3 ?side4 ?side5 A4.out).mono ?_
   (case side1=>exact Kd.cu (Kd.zqe HR0_7.out HB.out))
   (case side2=>exact HC0_7.out)
   (case side3=>exact Kd.cu (Kd.zji HO260.out).2.2)
   (case side4=>exact(Kd.zji HO260.out).2.1)
   (case side5=>exact LD.below HLD.out (by first|(with_reducible exact Below.refl _ _)|((repeat(first|(with_reducible exact Below.refl _ _)|(with_reducible apply zn)|(with_reducible apply qp)|(with_reducible apply ql)));done)|exact bw))
   rintro e w12 ⟨rfl,hb⟩
   refine⟨_,rfl,?_⟩
   have n0_:=zq.mk (Kd.zja (Kd.ru HO260.out) hb)
   have n1_:=zq.mk (zl (g:=gb257) (o:=.cells #[.int .i64 a0_0,.int .i64 a0_1,.int .i64 a0_2,.string a0_3,.string a0_4,.string a0_5,.int .i64 a0_6,.slice A0_7 l0_7.length c0_7] 26 (0,0)) (up BK257.out) hb)
   have n2_:=zq.mk (zl (g:=gb265) (o:=.cells #[.int .i64 0,.int .i64 0,.string (⟨#[]⟩:ByteArray)] 23 (0,0)) (up BK265.out) hb)
   have n3_:=zq.mk (zc bw hb)
   clear HO260
   clear BK257
   clear BK265
   clear HB
   have HO260:=n0_
   have BK257:=n1_
   have BK265:=n2_
   have HB:=n3_
   clear n0_ n1_ n2_ n3_
   (try clear hb)
   (try clear hb2)
   (try clear hk)
   (try clear hi)
   refine hK.out _ _ ⟨(zh BK257.out 0).trans rfl,(zh BK257.out 1).trans rfl,(zh BK257.out 2).trans rfl,(zh BK257.out 3).trans rfl,(zh BK257.out 4).trans rfl,(zh BK257.out 5).trans rfl,(zh BK257.out 6).trans rfl,(zh BK257.out 7).trans rfl⟩ (fun hHeld=>?_)
   clear hK K
   refine zj2 (a':=?_) ?_ ?_
   rotate_left
   ·show Act.put _ (some 13) _=_
    simp only [Act.put,List.setIfInBounds_toArray,List.set_cons_zero,List.set_cons_succ,zqq,zqr]
    rfl
   refine zj4 (i:=4) (N:=some 9) (v:=?_) (a':=?_) #[true,true,true,true,true,false,false,true,false,false] rfl rfl (zjr HT_.out (by kernel_rfl)) (fun _ _ _ h=>h) (Or.inl ⟨by rfl,?_⟩) ?_ ?_
   rotate_left
   ·intro w'
    go_simp
    with_reducible rfl
   rotate_left
   ·simp only [Act.put,List.setIfInBounds_toArray,List.set_cons_zero,List.set_cons_succ,zqq,zqr]
    rfl
   refine zj4 (i:=5) (N:=some 14) (v:=?_) (a':=?_) #[true,true,true,true,true,true,false,true,false,false] rfl rfl (zjr HT_.out (by kernel_rfl)) (fun _ _ _ h=>h) (Or.inl ⟨by rfl,?_⟩) ?_ ?_
   rotate_left
   ·intro w'
    go_simp
    with_reducible rfl
   rotate_left
   ·simp only [Act.put,List.setIfInBounds_toArray,List.set_cons_zero,List.set_cons_succ,zqq,zqr]
    rfl
   refine zj4 (i:=6) (N:=some 15) (v:=?_) (a':=?_) #[true,true,true,true,true,true,true,true,false,false] rfl rfl (zjr HT_.out (by kernel_rfl)) (fun _ _ _ h=>h) (Or.inl ⟨by rfl,?_⟩) ?_ ?_
   rotate_left
   ·intro w'
    go_simp
    with_reducible rfl
   rotate_left
   ·simp only [Act.put,List.setIfInBounds_toArray,List.set_cons_zero,List.set_cons_succ,zqq,zqr]
    rfl
   exact zj2 (by simp only [zxc,Act.put,List.setIfInBounds_toArray,List.set_cons_zero,List.set_cons_succ]) (hCont (.slice Ao11 t258.length co11,gb265) _ ⟨hHeld,(Kd.ru (Kd.zjv HO260.out (fun _ hk=>hk.2))),(up BK257.out),(up BK265.out),GW265.out,GE265.out,NB257_265.out,NB265_257.out,bw⟩)
  rintro ⟨v259,gb265⟩ w13 ⟨hS_,h0_,h1_,h2_,h3_,h4_,h5_,h6_,h7_⟩
  have n0_:zq (Kd.R k23 23 w13 w.heap.size (fun k_=>k_≠gb265) v259 t258):=⟨h0_⟩
  have n1_:zq (w13.heap[gb257]? = some (.cells #[.int .i64 a0_0,.int .i64 a0_1,.int .i64 a0_2,.string a0_3,.string a0_4,.string a0_5,.int .i64 a0_6,.slice A0_7 l0_7.length c0_7] 26 (0,0))):=⟨h1_⟩
  have n2_:zq (w13.heap[gb265]? = some (.cells #[.int .i64 0,.int .i64 0,.string (⟨#[]⟩:ByteArray)] 23 (0,0))):=⟨h2_⟩
  have n3_:zq (w.heap.size≤gb265):=⟨h3_⟩
  have n4_:zq (w.heap.size≤gb265):=⟨h4_⟩
  have n5_:zq (gb257≠gb265):=⟨h5_⟩
  have n6_:zq (gb265≠gb257):=⟨h6_⟩
  have n7_:zq (Below w.heap.size w w13):=⟨h7_⟩
  clear BK257
  clear HB
  clear h0_ h1_ h2_ h3_ h4_ h5_ h6_ h7_
  have HO260:=n0_
  have BK257:=n1_
  have BK265:=n2_
  have GW265:=n3_
  have GE265:=n4_
  have NB257_265:=n5_
  have NB265_257:=n6_
  have HB:=n7_
  clear n0_ n1_ n2_ n3_ n4_ n5_ n6_ n7_
  have hHeld:w13.cell? ⟨gb257,0,none⟩=some (.int .i64 a0_0)∧w13.cell? ⟨gb257,1,none⟩=some (.int .i64 a0_1)∧w13.cell? ⟨gb257,2,none⟩=some (.int .i64 a0_2)∧w13.cell? ⟨gb257,3,none⟩=some (.string a0_3)∧w13.cell? ⟨gb257,4,none⟩=some (.string a0_4)∧w13.cell? ⟨gb257,5,none⟩=some (.string a0_5)∧w13.cell? ⟨gb257,6,none⟩=some (.int .i64 a0_6)∧w13.cell? ⟨gb257,7,none⟩=some (.slice A0_7 l0_7.length c0_7):=hS_
  refine zj2 (a':=?_) ?_ ?_
  rotate_left
  ·simp only [zxc,Act.put,List.setIfInBounds_toArray,List.set_cons_zero,List.set_cons_succ]
   rfl
  refine one_ (i:=8) (N:=none) #[true,true,true,true,true,true,true,true,true,false] rfl rfl (zxe HT_.out (by kernel_rfl)) (by decide) (fun K hK=>?_)
  have hs14:w13.cell? ⟨gb265,0,none⟩=some (.int .i64 0):=(zh BK265.out 0).trans rfl
  have hfs14:=qj BK265.out 0
  have hns14_0:=NB257_265.out
  have hms14_0:=NB265_257.out
  have hs15:w13.cell? ⟨gb265,1,none⟩=some (.int .i64 0):=(zh BK265.out 1).trans rfl
  have hfs15:=qj BK265.out 1
  have hns15_0:=NB257_265.out
  have hms15_0:=NB265_257.out
  have hs16:w13.cell? ⟨gb265,2,none⟩=some (.string (⟨#[]⟩:ByteArray)):=(zh BK265.out 2).trans rfl
  have hfs16:=qj BK265.out 2
  have hns16_0:=NB257_265.out
  have hms16_0:=NB265_257.out
  refine skip_ (w1:=?_) (by rfl) rfl ?_ ?_
  rotate_left
  ·go_simp
   rfl
  refine hK.out _ _ ⟨((cell_far (p:=⟨gb265,_,none⟩) NB257_265.out _).trans (((cell_far (p:=⟨gb265,_,none⟩) NB257_265.out _).trans (((cell_far (p:=⟨gb265,_,none⟩) NB257_265.out _).trans (hHeld.1)))))),((cell_far (p:=⟨gb265,_,none⟩) NB257_265.out _).trans (((cell_far (p:=⟨gb265,_,none⟩) NB257_265.out _).trans (((cell_far (p:=⟨gb265,_,none⟩) NB257_265.out _).trans (hHeld.2.1)))))),((cell_far (p:=⟨gb265,_,none⟩) NB257_265.out _).trans (((cell_far (p:=⟨gb265,_,none⟩) NB257_265.out _).trans (((cell_far (p:=⟨gb265,_,none⟩) NB257_265.out _).trans (hHeld.2.2.1)))))),((cell_far (p:=⟨gb265,_,none⟩) NB257_265.out _).trans (((cell_far (p:=⟨gb265,_,none⟩) NB257_265.out _).trans (((cell_far (p:=⟨gb265,_,none⟩) NB257_265.out _).trans (hHeld.2.2.2.1)))))),((cell_far (p:=⟨gb265,_,none⟩) NB257_265.out _).trans (((cell_far (p:=⟨gb265,_,none⟩) NB257_265.out _).trans (((cell_far (p:=⟨gb265,_,none⟩) NB257_265.out _).trans (hHeld.2.2.2.2.1)))))),((cell_far (p:=⟨gb265,_,none⟩) NB257_265.out _).trans (((cell_far (p:=⟨gb265,_,none⟩) NB257_265.out _).trans (((cell_far (p:=⟨gb265,_,none⟩) NB257_265.out _).trans (hHeld.2.2.2.2.2.1)))))),((cell_far (p:=⟨gb265,_,none⟩) NB257_265.out _).trans (((cell_far (p:=⟨gb265,_,none⟩) NB257_265.out _).trans (((cell_far (p:=⟨gb265,_,none⟩) NB257_265.out _).trans (hHeld.2.2.2.2.2.2.1)))))),((cell_far (p:=⟨gb265,_,none⟩) NB257_265.out _).trans (((cell_far (p:=⟨gb265,_,none⟩) NB257_265.out _).trans (((cell_far (p:=⟨gb265,_,none⟩) NB257_265.out _).trans (hHeld.2.2.2.2.2.2.2))))))⟩ (fun hHeld=>?_)
  clear hK K
  refine zj4 (i:=9) (N:=some 6) (v:=?_) (a':=?_) #[true,true,true,true,true,true,true,true,true,true] rfl rfl (zjr HT_.out (by kernel_rfl)) (fun _ _ _ h=>h) (Or.inl ⟨by rfl,?_⟩) ?_ ?_
  rotate_left
  ·intro w'
   go_simp
   with_reducible rfl
  rotate_left
  ·simp only [Act.put,List.setIfInBounds_toArray,List.set_cons_zero,List.set_cons_succ,zqq,zqr]
   rfl
  refine done_ (done_of HT_.out (by kernel_rfl)) ?_
  have hnb17:=NB257_265.out
  have hnc17:=NB265_257.out
  obtain ⟨hcz18_0,hcz18_1,hcz18_2,hcz18_3,hcz18_4,hcz18_5,hcz18_6,hcz18_7,hfz18_0,hfz18_1,hfz18_2,hfz18_3,hfz18_4,hfz18_5,hfz18_6,hfz18_7⟩:=zqs BK257.out
  try go_wp2_with (first|((with_reducible refine zo (f:=10) rfl ?_);refine qo (some 19) rfl rfl Tryd.func10 (by kernel_rfl) rfl #[.agg #[.int .i64 a0_0,.int .i64 a0_1,.int .i64 a0_2,.string a0_3,.string a0_4,.string a0_5,.int .i64 a0_6,.slice A0_7 l0_7.length c0_7],.slice A1 l1.length c1] rfl gs ?_;(with_reducible refine(zqg.calls k a0_0 a0_1 a0_2 a0_3 a0_4 a0_5 a0_6 _ _ l0_7 _ _ l1 t266 t267 t268 t269 _ ?side1 ?side2 ?side3 ?side4 A5.out).mono ?_);(case side1=>exact Kd.zqe HR0_7.out bw);(case side2=>exact HC0_7.out);(case side3=>exact Kd.zqe HR1.out bw);(case side4=>exact HC1.out);rintro e w19 ⟨rfl,hb⟩;refine⟨_,rfl,?_⟩;replace HO260:=zq.mk (Kd.zja (Kd.ru (Kd.zjv (Kd.zxv (p:=⟨gb265,2,none⟩) (Kd.zxv (p:=⟨gb265,1,none⟩) (Kd.zxv (p:=⟨gb265,0,none⟩) (Kd.zjv HO260.out (fun k_ hk=>(⟨hk,hk⟩:_∧k_≠gb265))) (fun _ hk=>hk.2) (.int .i64 t261)) (fun _ hk=>hk.2) (.int .i64 t262)) (fun _ hk=>hk.2) (.string t263)) (fun _ h_=>h_.1))) hb);replace BK257:=zq.mk (zl (g:=gb257) (o:=.cells #[.int .i64 a0_0,.int .i64 a0_1,.int .i64 a0_2,.string a0_3,.string a0_4,.string a0_5,.int .i64 a0_6,.slice A0_7 l0_7.length c0_7] 26 (0,0)) (by(with_reducible repeat(first|refine zb ?_ _|refine zf ?_|refine zg ?_ _));refine zqv ?_ NB257_265.out _;(with_reducible repeat(first|refine zb ?_ _|refine zf ?_|refine zg ?_ _));refine zqv ?_ NB257_265.out _;(with_reducible repeat(first|refine zb ?_ _|refine zf ?_|refine zg ?_ _));refine zqv ?_ NB257_265.out _;(with_reducible repeat(first|refine zb ?_ _|refine zf ?_|refine zg ?_ _));exact BK257.out) hb);replace BK265:=zq.mk (zl (g:=gb265) (o:=.cells #[.int .i64 t261,.int .i64 t262,.string t263] 23 (0,0)) (by(with_reducible repeat(first|refine zb ?_ _|refine zf ?_|refine zg ?_ _));refine zr (cs:=#[.int .i64 t261,.int .i64 t262,.string (⟨#[]⟩:ByteArray)]) ?_ 2 _ rfl;(with_reducible repeat(first|refine zb ?_ _|refine zf ?_|refine zg ?_ _));refine zr (cs:=#[.int .i64 t261,.int .i64 0,.string (⟨#[]⟩:ByteArray)]) ?_ 1 _ rfl;(with_reducible repeat(first|refine zb ?_ _|refine zf ?_|refine zg ?_ _));refine zr (cs:=#[.int .i64 0,.int .i64 0,.string (⟨#[]⟩:ByteArray)]) ?_ 0 _ rfl;(with_reducible repeat(first|refine zb ?_ _|refine zf ?_|refine zg ?_ _));exact BK265.out) hb);replace HB:=zq.mk (zc bw hb);(try clear hb);(try clear hb2);(try clear hk);(try clear hi))|((with_reducible refine qc (N:=7) rfl ?_);refine qn ?hg (N:=7) ?hd (cs:=#[.int .i64 0,.int .i64 0,.string (⟨#[]⟩:ByteArray)]) (t:=23) ?hr ?_;(case hd=>rfl);(case hg=>rfl);(case hr=>first|(go_simp;done)|(go_simp;rfl));intro gb270 hg w20 hbox hb;replace HO260:=zq.mk (Kd.zja (Kd.zjz (Kd.ru HO260.out) gb270 (Nat.le_of_eq hg.symm)) hb);have BK270:=zq.mk (hbox);have GW270:=zq.mk ((by rw [hg];exact(zw bw):w.heap.size≤gb270));have GE270:=zq.mk ((by rw [hg];exact(zw bw):w.heap.size≤gb270));replace HB:=zq.mk (zc bw hb);have NB257_270:=zq.mk ((by rw [hg];exact Nat.ne_of_lt (qd (g:=gb257) (o:=.cells #[.int .i64 a0_0,.int .i64 a0_1,.int .i64 a0_2,.string a0_3,.string a0_4,.string a0_5,.int .i64 a0_6,.slice A0_7 l0_7.length c0_7] 26 (0,0)) (up BK257.out)):gb257≠gb270));have NB270_257:=zq.mk ((by rw [hg];exact Nat.ne_of_gt (qd (g:=gb257) (o:=.cells #[.int .i64 a0_0,.int .i64 a0_1,.int .i64 a0_2,.string a0_3,.string a0_4,.string a0_5,.int .i64 a0_6,.slice A0_7 l0_7.length c0_7] 26 (0,0)) (up BK257.out)):gb270≠gb257));replace BK257:=zq.mk (zl (g:=gb257) (o:=.cells #[.int .i64 a0_0,.int .i64 a0_1,.int .i64 a0_2,.string a0_3,.string a0_4,.string a0_5,.int .i64 a0_6,.slice A0_7 l0_7.length c0_7] 26 (0,0)) (up BK257.out) hb);have NB265_270:=zq.mk ((by rw [hg];exact Nat.ne_of_lt (qd (g:=gb265) (o:=.cells #[.int .i64 t261,.int .i64 t262,.string t263] 23 (0,0)) (up BK265.out)):gb265≠gb270));have NB270_265:=zq.mk ((by rw [hg];exact Nat.ne_of_gt (qd (g:=gb265) (o:=.cells #[.int .i64 t261,.int .i64 t262,.string t263] 23 (0,0)) (up BK265.out)):gb270≠gb265));replace BK265:=zq.mk (zl (g:=gb265) (o:=.cells #[.int .i64 t261,.int .i64 t262,.string t263] 23 (0,0)) (up BK265.out) hb);clear hb hbox hg;have hnb21:=NB270_257.out;have hnc21:=NB257_270.out;have hnb22:=NB270_265.out;have hnc22:=NB265_270.out;obtain ⟨hcz23_0,hcz23_1,hcz23_2,hfz23_0,hfz23_1,hfz23_2⟩:=zd BK270.out;obtain ⟨hcz24_0,hcz24_1,hcz24_2,hfz24_0,hfz24_1,hfz24_2⟩:=zd BK265.out))
  go_ret
  exact⟨by first|rfl|(simp [zk,zx] <;> rfl)|(simp [*,zk,zx] <;> rfl),bw⟩
 rw [if_neg c6] at H
 have c6b0:(t261 == t266 && (t262 == t267 && (t263.toList == t268.toList)))=false:=by simpa using c6
 (try(have c6b1:decide (t261=t266 && (t262 == t267 && (t263.toList == t268.toList)))=false:=by simpa using c6))
 (try(have c6b2:(t261 == t266 && (t262 == t267 && (t263.toList == t268.toList)))=false:=by simpa using c6))
 (try(have c6b3:¬ (t261=t266 && (t262 == t267 && (t263.toList == t268.toList))):=by simpa using c6))
 clear c6
 obtain rfl:=Option.some.inj H
 go_enter Tryd.func3,Tryd.ntmps3
 try go_wp2_with (first|((with_reducible refine qc (N:=2) rfl ?_);refine qn ?hg (N:=2) ?hd (cs:=#[.int .i64 a0_0,.int .i64 a0_1,.int .i64 a0_2,.string a0_3,.string a0_4,.string a0_5,.int .i64 a0_6,.slice A0_7 l0_7.length c0_7]) (t:=26) ?hr ?_;(case hd=>rfl);(case hg=>rfl);(case hr=>first|(go_simp;done)|(go_simp;rfl));intro gb257 hg w25 hbox hb;have BK257:=zq.mk (hbox);have GW257:=zq.mk ((by rw [hg];exact(zw bw):w.heap.size≤gb257));have GE257:=zq.mk ((by rw [hg];exact(zw bw):w.heap.size≤gb257));replace HB:=zq.mk (zc bw hb);clear hb hbox hg))
 have n0_:=zq.mk (zf BK257.out)
 have n1_:=zq.mk (ql HB.out)
 clear BK257
 clear HB
 have BK257:=n0_
 have HB:=n1_
 clear n0_ n1_
 refine start_ (n:=10) (S:=fun w'=>w'.cell? ⟨gb257,0,none⟩=some (.int .i64 a0_0)∧w'.cell? ⟨gb257,1,none⟩=some (.int .i64 a0_1)∧w'.cell? ⟨gb257,2,none⟩=some (.int .i64 a0_2)∧w'.cell? ⟨gb257,3,none⟩=some (.string a0_3)∧w'.cell? ⟨gb257,4,none⟩=some (.string a0_4)∧w'.cell? ⟨gb257,5,none⟩=some (.string a0_5)∧w'.cell? ⟨gb257,6,none⟩=some (.int .i64 a0_6)∧w'.cell? ⟨gb257,7,none⟩=some (.slice A0_7 l0_7.length c0_7)) (ds := []) #[false,false,false,false,false,false,false,false,false,false] (by kernel_rfl) rfl rfl ⟨(zh BK257.out 0).trans rfl,(zh BK257.out 1).trans rfl,(zh BK257.out 2).trans rfl,(zh BK257.out 3).trans rfl,(zh BK257.out 4).trans rfl,(zh BK257.out 5).trans rfl,(zh BK257.out 6).trans rfl,(zh BK257.out 7).trans rfl⟩ (fun hHeld=>?_);refine with_tabW commonholdlaw_EvalEvals.tab1 commonholdlaw_EvalEvals.bits1 (fun HT_ HW_=>?_)
 generalize w25.drew=w26 at BK257 HB hHeld ⊢
 refine zj4 (i:=1) (N:=some 11) (v:=?_) (a':=?_) #[false,true,false,false,false,false,false,false,false,false] rfl rfl (zjr HT_.out (by kernel_rfl)) (fun _ _ _ h=>h) (Or.inl ⟨by rfl,?_⟩) ?_ ?_
 rotate_left
 ·intro w'
  go_simp
  with_reducible rfl
 rotate_left
 ·simp only [Act.put,List.setIfInBounds_toArray,List.set_cons_zero,List.set_cons_succ,zqq,zqr]
  rfl
 refine take_ (i:=0) (N:=some 10) (v:=?_) (a':=?_) #[true,true,false,false,false,false,false,false,false,false] rfl rfl (take_ofW HT_.out HW_.out (by kernel_rfl)) (fun _ _ _ h=>h) (Or.inl ⟨by rfl,?_⟩) hHeld ?_ ?_
 rotate_left
 ·rintro w' ⟨s0,s1,s2,s3,s4,s5,s6,s7⟩
  go_simp
  with_reducible rfl
 rotate_left
 ·simp only [Act.put,List.setIfInBounds_toArray,List.set_cons_zero,List.set_cons_succ,zqq,zqr]
  rfl
 refine join_ (σ:=Value × Nat) 2 #[true,true,true,true,true,true,true,true,false,false] (fun s_ => [(12,s_.1),(13,.tuple #[.agg #[.int .i64 t261,.int .i64 t262,.string t263],.int .i64 t264]),(5,.pointer (some ⟨s_.2,0,none⟩)),(9,.tuple #[.agg #[.int .i64 t261,.int .i64 t262,.string t263],.int .i64 t264]),(14,.agg #[.int .i64 t261,.int .i64 t262,.string t263]),(15,.int .i64 t264)]) (fun s_ w'=>(w'.cell? ⟨gb257,0,none⟩=some (.int .i64 a0_0)∧w'.cell? ⟨gb257,1,none⟩=some (.int .i64 a0_1)∧w'.cell? ⟨gb257,2,none⟩=some (.int .i64 a0_2)∧w'.cell? ⟨gb257,3,none⟩=some (.string a0_3)∧w'.cell? ⟨gb257,4,none⟩=some (.string a0_4)∧w'.cell? ⟨gb257,5,none⟩=some (.string a0_5)∧w'.cell? ⟨gb257,6,none⟩=some (.int .i64 a0_6)∧w'.cell? ⟨gb257,7,none⟩=some (.slice A0_7 l0_7.length c0_7))∧(Kd.R k23 23 w' w.heap.size (fun k_=>k_≠s_.2) s_.1 t258)∧(w'.heap[gb257]? = some (.cells #[.int .i64 a0_0,.int .i64 a0_1,.int .i64 a0_2,.string a0_3,.string a0_4,.string a0_5,.int .i64 a0_6,.slice A0_7 l0_7.length c0_7] 26 (0,0)))∧(w'.heap[s_.2]? = some (.cells #[.int .i64 0,.int .i64 0,.string (⟨#[]⟩:ByteArray)] 23 (0,0)))∧(w.heap.size≤s_.2)∧(w.heap.size≤s_.2)∧(gb257≠s_.2)∧(s_.2≠gb257)∧(Below w.heap.size w w')) ?_ ?_
 rotate_left
 ·intro hCont
  refine two_ (i:=2) (j:=7) (Ni:=some 12) (Nj:=some 5) #[true,true,true,false,false,false,false,false,false,false] #[true,true,false,false,false,false,false,true,false,false] rfl rfl rfl rfl (two_of HT_.out (by kernel_rfl)) (by decide) (by decide) (fun K hK=>?_) (fun K hK=>?_)
  ·skip
   refine goes_ Tryd.func9 (by kernel_rfl) rfl #[.slice A1 l1.length c1] (by rfl) rfl rfl gs ?_
   with_reducible refine(zql.calls _ _ l1 t258 _ ?side1 ?side2 A3.out).mono ?_
   (case side1=>exact Kd.cu (Kd.zqe HR1.out HB.out))
   (case side2=>exact HC1.out)
   rintro e w27 ⟨v259,rfl,ho0,hb⟩
   refine⟨_,rfl,?_⟩
   have n0_:=zq.mk (Kd.zxt ho0 (zw bw))
   have n1_:=zq.mk (zl (g:=gb257) (o:=.cells #[.int .i64 a0_0,.int .i64 a0_1,.int .i64 a0_2,.string a0_3,.string a0_4,.string a0_5,.int .i64 a0_6,.slice A0_7 l0_7.length c0_7] 26 (0,0)) (up BK257.out) hb)
   have n2_:=zq.mk (zc bw hb)
   clear BK257
   clear HB
   have HO260:=n0_
   have BK257:=n1_
   have HB:=n2_
   clear n0_ n1_ n2_
   (try clear hb)
   (try clear hb2)
   (try clear hk)
   (try clear hi)
   (try clear ho0)
   obtain ⟨Ao28,co28,eo28⟩:=Kd.zxi HO260.out
   (first|subst eo28|(injection eo28 with f1_ f2_ f3_;have f4_:=f1_.symm;have f5_:=f3_.symm;clear f1_ f2_ f3_;subst f4_;subst f5_))
   refine hK.out _ _ ⟨(zh BK257.out 0).trans rfl,(zh BK257.out 1).trans rfl,(zh BK257.out 2).trans rfl,(zh BK257.out 3).trans rfl,(zh BK257.out 4).trans rfl,(zh BK257.out 5).trans rfl,(zh BK257.out 6).trans rfl,(zh BK257.out 7).trans rfl⟩ (fun hHeld=>?_)
   clear hK K
   refine zj2 (a':=?_) ?_ ?_
   rotate_left
   ·show Act.put _ (some 12) _=_
    simp only [Act.put,List.setIfInBounds_toArray,List.set_cons_zero,List.set_cons_succ,zqq,zqr]
    rfl
   refine two_ (i:=3) (j:=7) (Ni:=some 13) (Nj:=some 5) #[true,true,true,true,false,false,false,false,false,false] #[true,true,true,false,false,false,false,true,false,false] rfl rfl rfl rfl (two_of HT_.out (by kernel_rfl)) (by decide) (by decide) (fun K hK=>?_) (fun K hK=>?_)
   ·skip
    refine goes_ Tryd.func8 (by kernel_rfl) rfl #[.agg #[.int .i64 a0_0,.int .i64 a0_1,.int .i64 a0_2,.string a0_3,.string a0_4,.string a0_5,.int .i64 a0_6,.slice A0_7 l0_7.length c0_7],.slice Ao28 t258.length co28] (by rfl) rfl rfl gs ?_
    with_reducible refine(qf.calls k a0_0 a0_1 a0_2 a0_3 a0_4 a0_5 a0_6 _ _ l0_7 _ _ t258 t261 t262 t263 t264 _ ?side1 ?side2 ?side3 ?side4 ?side5 A4.out).mono ?_
    (case side1=>exact Kd.cu (Kd.zqe HR0_7.out HB.out))
    (case side2=>exact HC0_7.out)
    (case side3=>exact Kd.cu (Kd.zji HO260.out).2.2)
    (case side4=>exact(Kd.zji HO260.out).2.1)
    (case side5=>exact LD.below HLD.out (by first|(with_reducible exact Below.refl _ _)|((repeat(first|(with_reducible exact Below.refl _ _)|(with_reducible apply zn)|(with_reducible apply qp)|(with_reducible apply ql)));done)|exact bw))
    rintro e w29 ⟨rfl,hb⟩
    refine⟨_,rfl,?_⟩
    have n0_:=zq.mk (Kd.zja (Kd.ru HO260.out) hb)
    have n1_:=zq.mk (zl (g:=gb257) (o:=.cells #[.int .i64 a0_0,.int .i64 a0_1,.int .i64 a0_2,.string a0_3,.string a0_4,.string a0_5,.int .i64 a0_6,.slice A0_7 l0_7.length c0_7] 26 (0,0)) (up BK257.out) hb)
    have n2_:=zq.mk (zc bw hb)
    clear HO260
    clear BK257
    clear HB
    have HO260:=n0_
    have BK257:=n1_
    have HB:=n2_
    clear n0_ n1_ n2_
    (try clear hb)
    (try clear hb2)
    (try clear hk)
    (try clear hi)
    refine hK.out _ _ ⟨(zh BK257.out 0).trans rfl,(zh BK257.out 1).trans rfl,(zh BK257.out 2).trans rfl,(zh BK257.out 3).trans rfl,(zh BK257.out 4).trans rfl,(zh BK257.out 5).trans rfl,(zh BK257.out 6).trans rfl,(zh BK257.out 7).trans rfl⟩ (fun hHeld=>?_)
    clear hK K
    refine zj2 (a':=?_) ?_ ?_
    rotate_left
    ·show Act.put _ (some 13) _=_
     simp only [Act.put,List.setIfInBounds_toArray,List.set_cons_zero,List.set_cons_succ,zqq,zqr]
     rfl
    refine zj4 (i:=4) (N:=some 9) (v:=?_) (a':=?_) #[true,true,true,true,true,false,false,false,false,false] rfl rfl (zjr HT_.out (by kernel_rfl)) (fun _ _ _ h=>h) (Or.inl ⟨by rfl,?_⟩) ?_ ?_
    rotate_left
    ·intro w'
     go_simp
     with_reducible rfl
    rotate_left
    ·simp only [Act.put,List.setIfInBounds_toArray,List.set_cons_zero,List.set_cons_succ,zqq,zqr]
     rfl
    refine zj4 (i:=5) (N:=some 14) (v:=?_) (a':=?_) #[true,true,true,true,true,true,false,false,false,false] rfl rfl (zjr HT_.out (by kernel_rfl)) (fun _ _ _ h=>h) (Or.inl ⟨by rfl,?_⟩) ?_ ?_
    rotate_left
    ·intro w'
     go_simp
     with_reducible rfl
    rotate_left
    ·simp only [Act.put,List.setIfInBounds_toArray,List.set_cons_zero,List.set_cons_succ,zqq,zqr]
     rfl
    refine zj4 (i:=6) (N:=some 15) (v:=?_) (a':=?_) #[true,true,true,true,true,true,true,false,false,false] rfl rfl (zjr HT_.out (by kernel_rfl)) (fun _ _ _ h=>h) (Or.inl ⟨by rfl,?_⟩) ?_ ?_
    rotate_left
    ·intro w'
     go_simp
     with_reducible rfl
    rotate_left
    ·simp only [Act.put,List.setIfInBounds_toArray,List.set_cons_zero,List.set_cons_succ,zqq,zqr]
     rfl
    refine one_ (i:=7) (N:=some 5) #[true,true,true,true,true,true,true,true,false,false] rfl rfl (zxe HT_.out (by kernel_rfl)) (by decide) (fun K hK=>?_)
    refine zxd ?hg (N:=5) ?hd (cs:=#[.int .i64 0,.int .i64 0,.string (⟨#[]⟩:ByteArray)]) (t:=23) ?hr ?_;(case hd=>rfl);(case hg=>rfl);(case hr=>first|(go_simp;done)|(go_simp;rfl))
    intro gb265 hg w30 hbox hb
    have n0_:=zq.mk (Kd.zja (Kd.zjz (Kd.ru HO260.out) gb265 (Nat.le_of_eq hg.symm)) hb)
    have n1_:=zq.mk (zl (g:=gb257) (o:=.cells #[.int .i64 a0_0,.int .i64 a0_1,.int .i64 a0_2,.string a0_3,.string a0_4,.string a0_5,.int .i64 a0_6,.slice A0_7 l0_7.length c0_7] 26 (0,0)) (up BK257.out) hb)
    have n2_:=zq.mk (zc bw hb)
    have n3_:=zq.mk (hbox)
    have n4_:=zq.mk ((by rw [hg];exact(zw bw):w.heap.size≤gb265))
    have n5_:=zq.mk ((by rw [hg];exact(zw bw):w.heap.size≤gb265))
    have n6_:=zq.mk ((by rw [hg];exact Nat.ne_of_lt (qd (g:=gb257) (o:=.cells #[.int .i64 a0_0,.int .i64 a0_1,.int .i64 a0_2,.string a0_3,.string a0_4,.string a0_5,.int .i64 a0_6,.slice A0_7 l0_7.length c0_7] 26 (0,0)) (up BK257.out)):gb257≠gb265))
    have n7_:=zq.mk ((by rw [hg];exact Nat.ne_of_gt (qd (g:=gb257) (o:=.cells #[.int .i64 a0_0,.int .i64 a0_1,.int .i64 a0_2,.string a0_3,.string a0_4,.string a0_5,.int .i64 a0_6,.slice A0_7 l0_7.length c0_7] 26 (0,0)) (up BK257.out)):gb265≠gb257))
    clear HO260
    clear BK257
    clear HB
    have HO260:=n0_
    have BK257:=n1_
    have HB:=n2_
    have BK265:=n3_
    have GW265:=n4_
    have GE265:=n5_
    have NB257_265:=n6_
    have NB265_257:=n7_
    clear n0_ n1_ n2_ n3_ n4_ n5_ n6_ n7_
    clear hb hbox hg
    refine hK.out _ _ ⟨(zh BK257.out 0).trans rfl,(zh BK257.out 1).trans rfl,(zh BK257.out 2).trans rfl,(zh BK257.out 3).trans rfl,(zh BK257.out 4).trans rfl,(zh BK257.out 5).trans rfl,(zh BK257.out 6).trans rfl,(zh BK257.out 7).trans rfl⟩ (fun hHeld=>?_)
    clear hK K
    refine zj2 (a':=?_) ?_ ?_
    rotate_left
    ·show Act.put _ (some 5) _=_
     simp only [Act.put,List.setIfInBounds_toArray,List.set_cons_zero,List.set_cons_succ,zqq,zqr]
     rfl
    exact zj2 (by simp only [zxc,Act.put,List.setIfInBounds_toArray,List.set_cons_zero,List.set_cons_succ]) (hCont (.slice Ao28 t258.length co28,gb265) _ ⟨hHeld,(Kd.ru (Kd.zjv HO260.out (fun _ hk=>hk.2))),(up BK257.out),(up BK265.out),GW265.out,GE265.out,NB257_265.out,NB265_257.out,bw⟩)
   skip
   refine zxd ?hg (N:=5) ?hd (cs:=#[.int .i64 0,.int .i64 0,.string (⟨#[]⟩:ByteArray)]) (t:=23) ?hr ?_;(case hd=>rfl);(case hg=>rfl);(case hr=>first|(go_simp;done)|(go_simp;rfl))
   intro gb265 hg w28 hbox hb
   have n0_:=zq.mk (Kd.zja (Kd.zjz (Kd.ru HO260.out) gb265 (Nat.le_of_eq hg.symm)) hb)
   have n1_:=zq.mk (zl (g:=gb257) (o:=.cells #[.int .i64 a0_0,.int .i64 a0_1,.int .i64 a0_2,.string a0_3,.string a0_4,.string a0_5,.int .i64 a0_6,.slice A0_7 l0_7.length c0_7] 26 (0,0)) (up BK257.out) hb)
   have n2_:=zq.mk (zc bw hb)
   have n3_:=zq.mk (hbox)
   have n4_:=zq.mk ((by rw [hg];exact(zw bw):w.heap.size≤gb265))
   have n5_:=zq.mk ((by rw [hg];exact(zw bw):w.heap.size≤gb265))
   have n6_:=zq.mk ((by rw [hg];exact Nat.ne_of_lt (qd (g:=gb257) (o:=.cells #[.int .i64 a0_0,.int .i64 a0_1,.int .i64 a0_2,.string a0_3,.string a0_4,.string a0_5,.int .i64 a0_6,.slice A0_7 l0_7.length c0_7] 26 (0,0)) (up BK257.out)):gb257≠gb265))
   have n7_:=zq.mk ((by rw [hg];exact Nat.ne_of_gt (qd (g:=gb257) (o:=.cells #[.int .i64 a0_0,.int .i64 a0_1,.int .i64 a0_2,.string a0_3,.string a0_4,.string a0_5,.int .i64 a0_6,.slice A0_7 l0_7.length c0_7] 26 (0,0)) (up BK257.out)):gb265≠gb257))
   clear HO260
   clear BK257
   clear HB
   have HO260:=n0_
   have BK257:=n1_
   have HB:=n2_
   have BK265:=n3_
   have GW265:=n4_
   have GE265:=n5_
   have NB257_265:=n6_
   have NB265_257:=n7_
   clear n0_ n1_ n2_ n3_ n4_ n5_ n6_ n7_
   clear hb hbox hg
   obtain ⟨Ao29,co29,eo29⟩:=Kd.zxi HO260.out
   (first|subst eo29|(injection eo29 with f1_ f2_ f3_;have f4_:=f1_.symm;have f5_:=f3_.symm;clear f1_ f2_ f3_;subst f4_;subst f5_))
   refine hK.out _ _ ⟨(zh BK257.out 0).trans rfl,(zh BK257.out 1).trans rfl,(zh BK257.out 2).trans rfl,(zh BK257.out 3).trans rfl,(zh BK257.out 4).trans rfl,(zh BK257.out 5).trans rfl,(zh BK257.out 6).trans rfl,(zh BK257.out 7).trans rfl⟩ (fun hHeld=>?_)
   clear hK K
   refine zj2 (a':=?_) ?_ ?_
   rotate_left
   ·show Act.put _ (some 5) _=_
    simp only [Act.put,List.setIfInBounds_toArray,List.set_cons_zero,List.set_cons_succ,zqq,zqr]
    rfl
   refine one_ (i:=3) (N:=some 13) #[true,true,true,true,false,false,false,true,false,false] rfl rfl (zxe HT_.out (by kernel_rfl)) (by decide) (fun K hK=>?_)
   refine goes_ Tryd.func8 (by kernel_rfl) rfl #[.agg #[.int .i64 a0_0,.int .i64 a0_1,.int .i64 a0_2,.string a0_3,.string a0_4,.string a0_5,.int .i64 a0_6,.slice A0_7 l0_7.length c0_7],.slice Ao29 t258.length co29] (by rfl) rfl rfl gs ?_
   with_reducible refine(qf.calls k a0_0 a0_1 a0_2 a0_3 a0_4 a0_5 a0_6 _ _ l0_7 _ _ t258 t261 t262 t263 t264 _ ?side1 ?side2 ?side3 ?side4 ?side5 A4.out).mono ?_
   (case side1=>exact Kd.cu (Kd.zqe HR0_7.out HB.out))
   (case side2=>exact HC0_7.out)
   (case side3=>exact Kd.cu (Kd.zji HO260.out).2.2)
   (case side4=>exact(Kd.zji HO260.out).2.1)
   (case side5=>exact LD.below HLD.out (by first|(with_reducible exact Below.refl _ _)|((repeat(first|(with_reducible exact Below.refl _ _)|(with_reducible apply zn)|(with_reducible apply qp)|(with_reducible apply ql)));done)|exact bw))
   rintro e w30 ⟨rfl,hb⟩
   refine⟨_,rfl,?_⟩
   have n0_:=zq.mk (Kd.zja (Kd.ru HO260.out) hb)
   have n1_:=zq.mk (zl (g:=gb257) (o:=.cells #[.int .i64 a0_0,.int .i64 a0_1,.int .i64 a0_2,.string a0_3,.string a0_4,.string a0_5,.int .i64 a0_6,.slice A0_7 l0_7.length c0_7] 26 (0,0)) (up BK257.out) hb)
   have n2_:=zq.mk (zl (g:=gb265) (o:=.cells #[.int .i64 0,.int .i64 0,.string (⟨#[]⟩:ByteArray)] 23 (0,0)) (up BK265.out) hb)
   have n3_:=zq.mk (zc bw hb)
   clear HO260
   clear BK257
   clear BK265
   clear HB
   have HO260:=n0_
   have BK257:=n1_
   have BK265:=n2_
   have HB:=n3_
   clear n0_ n1_ n2_ n3_
   (try clear hb)
   (try clear hb2)
   (try clear hk)
   (try clear hi)
   refine hK.out _ _ ⟨(zh BK257.out 0).trans rfl,(zh BK257.out 1).trans rfl,(zh BK257.out 2).trans rfl,(zh BK257.out 3).trans rfl,(zh BK257.out 4).trans rfl,(zh BK257.out 5).trans rfl,(zh BK257.out 6).trans rfl,(zh BK257.out 7).trans rfl⟩ (fun hHeld=>?_)
   clear hK K
   refine zj2 (a':=?_) ?_ ?_
   rotate_left
   ·show Act.put _ (some 13) _=_
    simp only [Act.put,List.setIfInBounds_toArray,List.set_cons_zero,List.set_cons_succ,zqq,zqr]
    rfl
   refine zj4 (i:=4) (N:=some 9) (v:=?_) (a':=?_) #[true,true,true,true,true,false,false,true,false,false] rfl rfl (zjr HT_.out (by kernel_rfl)) (fun _ _ _ h=>h) (Or.inl ⟨by rfl,?_⟩) ?_ ?_
   rotate_left
   ·intro w'
    go_simp
    with_reducible rfl
   rotate_left
   ·simp only [Act.put,List.setIfInBounds_toArray,List.set_cons_zero,List.set_cons_succ,zqq,zqr]
    rfl
   refine zj4 (i:=5) (N:=some 14) (v:=?_) (a':=?_) #[true,true,true,true,true,true,false,true,false,false] rfl rfl (zjr HT_.out (by kernel_rfl)) (fun _ _ _ h=>h) (Or.inl ⟨by rfl,?_⟩) ?_ ?_
   rotate_left
   ·intro w'
    go_simp
    with_reducible rfl
   rotate_left
   ·simp only [Act.put,List.setIfInBounds_toArray,List.set_cons_zero,List.set_cons_succ,zqq,zqr]
    rfl
   refine zj4 (i:=6) (N:=some 15) (v:=?_) (a':=?_) #[true,true,true,true,true,true,true,true,false,false] rfl rfl (zjr HT_.out (by kernel_rfl)) (fun _ _ _ h=>h) (Or.inl ⟨by rfl,?_⟩) ?_ ?_
   rotate_left
   ·intro w'
    go_simp
    with_reducible rfl
   rotate_left
   ·simp only [Act.put,List.setIfInBounds_toArray,List.set_cons_zero,List.set_cons_succ,zqq,zqr]
    rfl
   exact zj2 (by simp only [zxc,Act.put,List.setIfInBounds_toArray,List.set_cons_zero,List.set_cons_succ]) (hCont (.slice Ao29 t258.length co29,gb265) _ ⟨hHeld,(Kd.ru (Kd.zjv HO260.out (fun _ hk=>hk.2))),(up BK257.out),(up BK265.out),GW265.out,GE265.out,NB257_265.out,NB265_257.out,bw⟩)
  skip
  refine zxd ?hg (N:=5) ?hd (cs:=#[.int .i64 0,.int .i64 0,.string (⟨#[]⟩:ByteArray)]) (t:=23) ?hr ?_;(case hd=>rfl);(case hg=>rfl);(case hr=>first|(go_simp;done)|(go_simp;rfl))
  intro gb265 hg w27 hbox hb
  have n0_:=zq.mk (zl (g:=gb257) (o:=.cells #[.int .i64 a0_0,.int .i64 a0_1,.int .i64 a0_2,.string a0_3,.string a0_4,.string a0_5,.int .i64 a0_6,.slice A0_7 l0_7.length c0_7] 26 (0,0)) (up BK257.out) hb)
  have n1_:=zq.mk (zc bw hb)
  have n2_:=zq.mk (hbox)
  have n3_:=zq.mk ((by rw [hg];exact(zw bw):w.heap.size≤gb265))
  have n4_:=zq.mk ((by rw [hg];exact(zw bw):w.heap.size≤gb265))
  have n5_:=zq.mk ((by rw [hg];exact Nat.ne_of_lt (qd (g:=gb257) (o:=.cells #[.int .i64 a0_0,.int .i64 a0_1,.int .i64 a0_2,.string a0_3,.string a0_4,.string a0_5,.int .i64 a0_6,.slice A0_7 l0_7.length c0_7] 26 (0,0)) (up BK257.out)):gb257≠gb265))
  have n6_:=zq.mk ((by rw [hg];exact Nat.ne_of_gt (qd (g:=gb257) (o:=.cells #[.int .i64 a0_0,.int .i64 a0_1,.int .i64 a0_2,.string a0_3,.string a0_4,.string a0_5,.int .i64 a0_6,.slice A0_7 l0_7.length c0_7] 26 (0,0)) (up BK257.out)):gb265≠gb257))
  clear BK257
  clear HB
  have BK257:=n0_
  have HB:=n1_
  have BK265:=n2_
  have GW265:=n3_
  have GE265:=n4_
  have NB257_265:=n5_
  have NB265_257:=n6_
  clear n0_ n1_ n2_ n3_ n4_ n5_ n6_
  clear hb hbox hg
  refine hK.out _ _ ⟨(zh BK257.out 0).trans rfl,(zh BK257.out 1).trans rfl,(zh BK257.out 2).trans rfl,(zh BK257.out 3).trans rfl,(zh BK257.out 4).trans rfl,(zh BK257.out 5).trans rfl,(zh BK257.out 6).trans rfl,(zh BK257.out 7).trans rfl⟩ (fun hHeld=>?_)
  clear hK K
  refine zj2 (a':=?_) ?_ ?_
  rotate_left
  ·show Act.put _ (some 5) _=_
   simp only [Act.put,List.setIfInBounds_toArray,List.set_cons_zero,List.set_cons_succ,zqq,zqr]
   rfl
  refine one_ (i:=2) (N:=some 12) #[true,true,true,false,false,false,false,true,false,false] rfl rfl (zxe HT_.out (by kernel_rfl)) (by decide) (fun K hK=>?_)
  refine goes_ Tryd.func9 (by kernel_rfl) rfl #[.slice A1 l1.length c1] (by rfl) rfl rfl gs ?_
  with_reducible refine(zql.calls _ _ l1 t258 _ ?side1 ?side2 A3.out).mono ?_
  (case side1=>exact Kd.cu (Kd.zqe HR1.out HB.out))
  (case side2=>exact HC1.out)
  rintro e w28 ⟨v259,rfl,ho0,hb⟩
  refine⟨_,rfl,?_⟩
  have n0_:=zq.mk (Kd.zxt (Kd.R_newB ho0 (g:=gb265) (o:=.cells #[.int .i64 0,.int .i64 0,.string (⟨#[]⟩:ByteArray)] 23 (0,0)) (up BK265.out)) (zw bw))
  have n1_:=zq.mk (zl (g:=gb257) (o:=.cells #[.int .i64 a0_0,.int .i64 a0_1,.int .i64 a0_2,.string a0_3,.string a0_4,.string a0_5,.int .i64 a0_6,.slice A0_7 l0_7.length c0_7] 26 (0,0)) (up BK257.out) hb)
  have n2_:=zq.mk (zl (g:=gb265) (o:=.cells #[.int .i64 0,.int .i64 0,.string (⟨#[]⟩:ByteArray)] 23 (0,0)) (up BK265.out) hb)
  have n3_:=zq.mk (zc bw hb)
  clear BK257
  clear BK265
  clear HB
  have HO260:=n0_
  have BK257:=n1_
  have BK265:=n2_
  have HB:=n3_
  clear n0_ n1_ n2_ n3_
  (try clear hb)
  (try clear hb2)
  (try clear hk)
  (try clear hi)
  (try clear ho0)
  obtain ⟨Ao29,co29,eo29⟩:=Kd.zxi HO260.out
  (first|subst eo29|(injection eo29 with f1_ f2_ f3_;have f4_:=f1_.symm;have f5_:=f3_.symm;clear f1_ f2_ f3_;subst f4_;subst f5_))
  refine hK.out _ _ ⟨(zh BK257.out 0).trans rfl,(zh BK257.out 1).trans rfl,(zh BK257.out 2).trans rfl,(zh BK257.out 3).trans rfl,(zh BK257.out 4).trans rfl,(zh BK257.out 5).trans rfl,(zh BK257.out 6).trans rfl,(zh BK257.out 7).trans rfl⟩ (fun hHeld=>?_)
  clear hK K
  refine zj2 (a':=?_) ?_ ?_
  rotate_left
  ·show Act.put _ (some 12) _=_
   simp only [Act.put,List.setIfInBounds_toArray,List.set_cons_zero,List.set_cons_succ,zqq,zqr]
   rfl
  refine one_ (i:=3) (N:=some 13) #[true,true,true,true,false,false,false,true,false,false] rfl rfl (zxe HT_.out (by kernel_rfl)) (by decide) (fun K hK=>?_)
  refine goes_ Tryd.func8 (by kernel_rfl) rfl #[.agg #[.int .i64 a0_0,.int .i64 a0_1,.int .i64 a0_2,.string a0_3,.string a0_4,.string a0_5,.int .i64 a0_6,.slice A0_7 l0_7.length c0_7],.slice Ao29 t258.length co29] (by rfl) rfl rfl gs ?_
  with_reducible refine(qf.calls k a0_0 a0_1 a0_2 a0_3 a0_4 a0_5 a0_6 _ _ l0_7 _ _ t258 t261 t262 t263 t264 _ ?side1 ?side2 ?side3 ?side4 ?side5 A4.out).mono ?_
  (case side1=>exact Kd.cu (Kd.zqe HR0_7.out HB.out))
  (case side2=>exact HC0_7.out)
  (case side3=>exact Kd.cu (Kd.zji HO260.out).2.2)
  (case side4=>exact(Kd.zji HO260.out).2.1)
  (case side5=>exact LD.below HLD.out (by first|(with_reducible exact Below.refl _ _)|((repeat(first|(with_reducible exact Below.refl _ _)|(with_reducible apply zn)|(with_reducible apply qp)|(with_reducible apply ql)));done)|exact bw))
  rintro e w30 ⟨rfl,hb⟩
  refine⟨_,rfl,?_⟩
  have n0_:=zq.mk (Kd.zja (Kd.ru HO260.out) hb)
  have n1_:=zq.mk (zl (g:=gb257) (o:=.cells #[.int .i64 a0_0,.int .i64 a0_1,.int .i64 a0_2,.string a0_3,.string a0_4,.string a0_5,.int .i64 a0_6,.slice A0_7 l0_7.length c0_7] 26 (0,0)) (up BK257.out) hb)
  have n2_:=zq.mk (zl (g:=gb265) (o:=.cells #[.int .i64 0,.int .i64 0,.string (⟨#[]⟩:ByteArray)] 23 (0,0)) (up BK265.out) hb)
  have n3_:=zq.mk (zc bw hb)
  clear HO260
  clear BK257
  clear BK265
  clear HB
  have HO260:=n0_
  have BK257:=n1_
  have BK265:=n2_
  have HB:=n3_
  clear n0_ n1_ n2_ n3_
  (try clear hb)
  (try clear hb2)
  (try clear hk)
  (try clear hi)
  refine hK.out _ _ ⟨(zh BK257.out 0).trans rfl,(zh BK257.out 1).trans rfl,(zh BK257.out 2).trans rfl,(zh BK257.out 3).trans rfl,(zh BK257.out 4).trans rfl,(zh BK257.out 5).trans rfl,(zh BK257.out 6).trans rfl,(zh BK257.out 7).trans rfl⟩ (fun hHeld=>?_)
  clear hK K
  refine zj2 (a':=?_) ?_ ?_
  rotate_left
  ·show Act.put _ (some 13) _=_
   simp only [Act.put,List.setIfInBounds_toArray,List.set_cons_zero,List.set_cons_succ,zqq,zqr]
   rfl
  refine zj4 (i:=4) (N:=some 9) (v:=?_) (a':=?_) #[true,true,true,true,true,false,false,true,false,false] rfl rfl (zjr HT_.out (by kernel_rfl)) (fun _ _ _ h=>h) (Or.inl ⟨by rfl,?_⟩) ?_ ?_
  rotate_left
  ·intro w'
   go_simp
   with_reducible rfl
  rotate_left
  ·simp only [Act.put,List.setIfInBounds_toArray,List.set_cons_zero,List.set_cons_succ,zqq,zqr]
   rfl
  refine zj4 (i:=5) (N:=some 14) (v:=?_) (a':=?_) #[true,true,true,true,true,true,false,true,false,false] rfl rfl (zjr HT_.out (by kernel_rfl)) (fun _ _ _ h=>h) (Or.inl ⟨by rfl,?_⟩) ?_ ?_
  rotate_left
  ·intro w'
   go_simp
   with_reducible rfl
  rotate_left
  ·simp only [Act.put,List.setIfInBounds_toArray,List.set_cons_zero,List.set_cons_succ,zqq,zqr]
   rfl
  refine zj4 (i:=6) (N:=some 15) (v:=?_) (a':=?_) #[true,true,true,true,true,true,true,true,false,false] rfl rfl (zjr HT_.out (by kernel_rfl)) (fun _ _ _ h=>h) (Or.inl ⟨by rfl,?_⟩) ?_ ?_
  rotate_left
  ·intro w'
   go_simp
   with_reducible rfl
  rotate_left
  ·simp only [Act.put,List.setIfInBounds_toArray,List.set_cons_zero,List.set_cons_succ,zqq,zqr]
   rfl
  exact zj2 (by simp only [zxc,Act.put,List.setIfInBounds_toArray,List.set_cons_zero,List.set_cons_succ]) (hCont (.slice Ao29 t258.length co29,gb265) _ ⟨hHeld,(Kd.ru (Kd.zjv HO260.out (fun _ hk=>hk.2))),(up BK257.out),(up BK265.out),GW265.out,GE265.out,NB257_265.out,NB265_257.out,bw⟩)
 rintro ⟨v259,gb265⟩ w31 ⟨hS_,h0_,h1_,h2_,h3_,h4_,h5_,h6_,h7_⟩
 have n0_:zq (Kd.R k23 23 w31 w.heap.size (fun k_=>k_≠gb265) v259 t258):=⟨h0_⟩
 have n1_:zq (w31.heap[gb257]? = some (.cells #[.int .i64 a0_0,.int .i64 a0_1,.int .i64 a0_2,.string a0_3,.string a0_4,.string a0_5,.int .i64 a0_6,.slice A0_7 l0_7.length c0_7] 26 (0,0))):=⟨h1_⟩
 have n2_:zq (w31.heap[gb265]? = some (.cells #[.int .i64 0,.int .i64 0,.string (⟨#[]⟩:ByteArray)] 23 (0,0))):=⟨h2_⟩
 have n3_:zq (w.heap.size≤gb265):=⟨h3_⟩
 have n4_:zq (w.heap.size≤gb265):=⟨h4_⟩
 have n5_:zq (gb257≠gb265):=⟨h5_⟩
 have n6_:zq (gb265≠gb257):=⟨h6_⟩
 have n7_:zq (Below w.heap.size w w31):=⟨h7_⟩
 clear BK257
 clear HB
 clear h0_ h1_ h2_ h3_ h4_ h5_ h6_ h7_
 have HO260:=n0_
 have BK257:=n1_
 have BK265:=n2_
 have GW265:=n3_
 have GE265:=n4_
 have NB257_265:=n5_
 have NB265_257:=n6_
 have HB:=n7_
 clear n0_ n1_ n2_ n3_ n4_ n5_ n6_ n7_
 have hHeld:w31.cell? ⟨gb257,0,none⟩=some (.int .i64 a0_0)∧w31.cell? ⟨gb257,1,none⟩=some (.int .i64 a0_1)∧w31.cell? ⟨gb257,2,none⟩=some (.int .i64 a0_2)∧w31.cell? ⟨gb257,3,none⟩=some (.string a0_3)∧w31.cell? ⟨gb257,4,none⟩=some (.string a0_4)∧w31.cell? ⟨gb257,5,none⟩=some (.string a0_5)∧w31.cell? ⟨gb257,6,none⟩=some (.int .i64 a0_6)∧w31.cell? ⟨gb257,7,none⟩=some (.slice A0_7 l0_7.length c0_7):=hS_
 refine zj2 (a':=?_) ?_ ?_
 rotate_left
 ·simp only [zxc,Act.put,List.setIfInBounds_toArray,List.set_cons_zero,List.set_cons_succ]
  rfl
 refine one_ (i:=8) (N:=none) #[true,true,true,true,true,true,true,true,true,false] rfl rfl (zxe HT_.out (by kernel_rfl)) (by decide) (fun K hK=>?_)
 have hs32:w31.cell? ⟨gb265,0,none⟩=some (.int .i64 0):=(zh BK265.out 0).trans rfl
 have hfs32:=qj BK265.out 0
 have hns32_0:=NB257_265.out
 have hms32_0:=NB265_257.out
 have hs33:w31.cell? ⟨gb265,1,none⟩=some (.int .i64 0):=(zh BK265.out 1).trans rfl
 have hfs33:=qj BK265.out 1
 have hns33_0:=NB257_265.out
 have hms33_0:=NB265_257.out
 have hs34:w31.cell? ⟨gb265,2,none⟩=some (.string (⟨#[]⟩:ByteArray)):=(zh BK265.out 2).trans rfl
 have hfs34:=qj BK265.out 2
 have hns34_0:=NB257_265.out
 have hms34_0:=NB265_257.out
 refine skip_ (w1:=?_) (by rfl) rfl ?_ ?_
 rotate_left
 ·go_simp
  rfl
 refine hK.out _ _ ⟨((cell_far (p:=⟨gb265,_,none⟩) NB257_265.out _).trans (((cell_far (p:=⟨gb265,_,none⟩) NB257_265.out _).trans (((cell_far (p:=⟨gb265,_,none⟩) NB257_265.out _).trans (hHeld.1)))))),((cell_far (p:=⟨gb265,_,none⟩) NB257_265.out _).trans (((cell_far (p:=⟨gb265,_,none⟩) NB257_265.out _).trans (((cell_far (p:=⟨gb265,_,none⟩) NB257_265.out _).trans (hHeld.2.1)))))),((cell_far (p:=⟨gb265,_,none⟩) NB257_265.out _).trans (((cell_far (p:=⟨gb265,_,none⟩) NB257_265.out _).trans (((cell_far (p:=⟨gb265,_,none⟩) NB257_265.out _).trans (hHeld.2.2.1)))))),((cell_far (p:=⟨gb265,_,none⟩) NB257_265.out _).trans (((cell_far (p:=⟨gb265,_,none⟩) NB257_265.out _).trans (((cell_far (p:=⟨gb265,_,none⟩) NB257_265.out _).trans (hHeld.2.2.2.1)))))),((cell_far (p:=⟨gb265,_,none⟩) NB257_265.out _).trans (((cell_far (p:=⟨gb265,_,none⟩) NB257_265.out _).trans (((cell_far (p:=⟨gb265,_,none⟩) NB257_265.out _).trans (hHeld.2.2.2.2.1)))))),((cell_far (p:=⟨gb265,_,none⟩) NB257_265.out _).trans (((cell_far (p:=⟨gb265,_,none⟩) NB257_265.out _).trans (((cell_far (p:=⟨gb265,_,none⟩) NB257_265.out _).trans (hHeld.2.2.2.2.2.1)))))),((cell_far (p:=⟨gb265,_,none⟩) NB257_265.out _).trans (((cell_far (p:=⟨gb265,_,none⟩) NB257_265.out _).trans (((cell_far (p:=⟨gb265,_,none⟩) NB257_265.out _).trans (hHeld.2.2.2.2.2.2.1)))))),((cell_far (p:=⟨gb265,_,none⟩) NB257_265.out _).trans (((cell_far (p:=⟨gb265,_,none⟩) NB257_265.out _).trans (((cell_far (p:=⟨gb265,_,none⟩) NB257_265.out _).trans (hHeld.2.2.2.2.2.2.2))))))⟩ (fun hHeld=>?_)
 clear hK K
 refine zj4 (i:=9) (N:=some 6) (v:=?_) (a':=?_) #[true,true,true,true,true,true,true,true,true,true] rfl rfl (zjr HT_.out (by kernel_rfl)) (fun _ _ _ h=>h) (Or.inl ⟨by rfl,?_⟩) ?_ ?_
 rotate_left
 ·intro w'
  go_simp
  with_reducible rfl
 rotate_left
 ·simp only [Act.put,List.setIfInBounds_toArray,List.set_cons_zero,List.set_cons_succ,zqq,zqr]
  rfl
 refine done_ (done_of HT_.out (by kernel_rfl)) ?_
 have hnb35:=NB257_265.out
 have hnc35:=NB265_257.out
 obtain ⟨hcz36_0,hcz36_1,hcz36_2,hcz36_3,hcz36_4,hcz36_5,hcz36_6,hcz36_7,hfz36_0,hfz36_1,hfz36_2,hfz36_3,hfz36_4,hfz36_5,hfz36_6,hfz36_7⟩:=zqs BK257.out
 try go_wp2_with (first|((with_reducible refine zo (f:=10) rfl ?_);refine qo (some 19) rfl rfl Tryd.func10 (by kernel_rfl) rfl #[.agg #[.int .i64 a0_0,.int .i64 a0_1,.int .i64 a0_2,.string a0_3,.string a0_4,.string a0_5,.int .i64 a0_6,.slice A0_7 l0_7.length c0_7],.slice A1 l1.length c1] rfl gs ?_;(with_reducible refine(zqg.calls k a0_0 a0_1 a0_2 a0_3 a0_4 a0_5 a0_6 _ _ l0_7 _ _ l1 t266 t267 t268 t269 _ ?side1 ?side2 ?side3 ?side4 A5.out).mono ?_);(case side1=>exact Kd.zqe HR0_7.out bw);(case side2=>exact HC0_7.out);(case side3=>exact Kd.zqe HR1.out bw);(case side4=>exact HC1.out);rintro e w37 ⟨rfl,hb⟩;refine⟨_,rfl,?_⟩;replace HO260:=zq.mk (Kd.zja (Kd.ru (Kd.zjv (Kd.zxv (p:=⟨gb265,2,none⟩) (Kd.zxv (p:=⟨gb265,1,none⟩) (Kd.zxv (p:=⟨gb265,0,none⟩) (Kd.zjv HO260.out (fun k_ hk=>(⟨hk,hk⟩:_∧k_≠gb265))) (fun _ hk=>hk.2) (.int .i64 t261)) (fun _ hk=>hk.2) (.int .i64 t262)) (fun _ hk=>hk.2) (.string t263)) (fun _ h_=>h_.1))) hb);replace BK257:=zq.mk (zl (g:=gb257) (o:=.cells #[.int .i64 a0_0,.int .i64 a0_1,.int .i64 a0_2,.string a0_3,.string a0_4,.string a0_5,.int .i64 a0_6,.slice A0_7 l0_7.length c0_7] 26 (0,0)) (by(with_reducible repeat(first|refine zb ?_ _|refine zf ?_|refine zg ?_ _));refine zqv ?_ NB257_265.out _;(with_reducible repeat(first|refine zb ?_ _|refine zf ?_|refine zg ?_ _));refine zqv ?_ NB257_265.out _;(with_reducible repeat(first|refine zb ?_ _|refine zf ?_|refine zg ?_ _));refine zqv ?_ NB257_265.out _;(with_reducible repeat(first|refine zb ?_ _|refine zf ?_|refine zg ?_ _));exact BK257.out) hb);replace BK265:=zq.mk (zl (g:=gb265) (o:=.cells #[.int .i64 t261,.int .i64 t262,.string t263] 23 (0,0)) (by(with_reducible repeat(first|refine zb ?_ _|refine zf ?_|refine zg ?_ _));refine zr (cs:=#[.int .i64 t261,.int .i64 t262,.string (⟨#[]⟩:ByteArray)]) ?_ 2 _ rfl;(with_reducible repeat(first|refine zb ?_ _|refine zf ?_|refine zg ?_ _));refine zr (cs:=#[.int .i64 t261,.int .i64 0,.string (⟨#[]⟩:ByteArray)]) ?_ 1 _ rfl;(with_reducible repeat(first|refine zb ?_ _|refine zf ?_|refine zg ?_ _));refine zr (cs:=#[.int .i64 0,.int .i64 0,.string (⟨#[]⟩:ByteArray)]) ?_ 0 _ rfl;(with_reducible repeat(first|refine zb ?_ _|refine zf ?_|refine zg ?_ _));exact BK265.out) hb);replace HB:=zq.mk (zc bw hb);(try clear hb);(try clear hb2);(try clear hk);(try clear hi))|((with_reducible refine qc (N:=7) rfl ?_);refine qn ?hg (N:=7) ?hd (cs:=#[.int .i64 0,.int .i64 0,.string (⟨#[]⟩:ByteArray)]) (t:=23) ?hr ?_;(case hd=>rfl);(case hg=>rfl);(case hr=>first|(go_simp;done)|(go_simp;rfl));intro gb270 hg w38 hbox hb;replace HO260:=zq.mk (Kd.zja (Kd.zjz (Kd.ru HO260.out) gb270 (Nat.le_of_eq hg.symm)) hb);have BK270:=zq.mk (hbox);have GW270:=zq.mk ((by rw [hg];exact(zw bw):w.heap.size≤gb270));have GE270:=zq.mk ((by rw [hg];exact(zw bw):w.heap.size≤gb270));replace HB:=zq.mk (zc bw hb);have NB257_270:=zq.mk ((by rw [hg];exact Nat.ne_of_lt (qd (g:=gb257) (o:=.cells #[.int .i64 a0_0,.int .i64 a0_1,.int .i64 a0_2,.string a0_3,.string a0_4,.string a0_5,.int .i64 a0_6,.slice A0_7 l0_7.length c0_7] 26 (0,0)) (up BK257.out)):gb257≠gb270));have NB270_257:=zq.mk ((by rw [hg];exact Nat.ne_of_gt (qd (g:=gb257) (o:=.cells #[.int .i64 a0_0,.int .i64 a0_1,.int .i64 a0_2,.string a0_3,.string a0_4,.string a0_5,.int .i64 a0_6,.slice A0_7 l0_7.length c0_7] 26 (0,0)) (up BK257.out)):gb270≠gb257));replace BK257:=zq.mk (zl (g:=gb257) (o:=.cells #[.int .i64 a0_0,.int .i64 a0_1,.int .i64 a0_2,.string a0_3,.string a0_4,.string a0_5,.int .i64 a0_6,.slice A0_7 l0_7.length c0_7] 26 (0,0)) (up BK257.out) hb);have NB265_270:=zq.mk ((by rw [hg];exact Nat.ne_of_lt (qd (g:=gb265) (o:=.cells #[.int .i64 t261,.int .i64 t262,.string t263] 23 (0,0)) (up BK265.out)):gb265≠gb270));have NB270_265:=zq.mk ((by rw [hg];exact Nat.ne_of_gt (qd (g:=gb265) (o:=.cells #[.int .i64 t261,.int .i64 t262,.string t263] 23 (0,0)) (up BK265.out)):gb270≠gb265));replace BK265:=zq.mk (zl (g:=gb265) (o:=.cells #[.int .i64 t261,.int .i64 t262,.string t263] 23 (0,0)) (up BK265.out) hb);clear hb hbox hg;have hnb39:=NB270_257.out;have hnc39:=NB257_270.out;have hnb40:=NB270_265.out;have hnc40:=NB265_270.out;obtain ⟨hcz41_0,hcz41_1,hcz41_2,hfz41_0,hfz41_1,hfz41_2⟩:=zd BK270.out;obtain ⟨hcz42_0,hcz42_1,hcz42_2,hfz42_0,hfz42_1,hfz42_2⟩:=zd BK265.out))
 go_ret
 exact⟨by first|rfl|(simp [zk,zx] <;> rfl)|(simp [*,zk,zx] <;> rfl),bw⟩

def gd23 (x_:S23):Prop:=(fun n_:Int=>(Lit.int .i64 n_).wf=true) x_.f0∧(fun n_:Int=>(Lit.int .i64 n_).wf=true) x_.f1∧(fun s_:ByteArray=>s_.size≤9223372036854775807) x_.f2
def zd23 (x_:S23):Prop:=(fun _:Int=>True) x_.f0∧(fun _:Int=>True) x_.f1∧(fun s_:ByteArray=>s_.size≤140737488351232) x_.f2
def bd23 (x_:S23):Nat:=((fun _:Int=>1) x_.f0+((fun _:Int=>1) x_.f1+(fun s_:ByteArray=>s_.size+1) x_.f2))+1
inductive gd26:S26→Prop
 | mk (x_:S26):(fun n_:Int=>(Lit.int .i64 n_).wf=true) x_.f0→gd23 x_.f1→(fun s_:ByteArray=>s_.size≤9223372036854775807) x_.f2→(fun s_:ByteArray=>s_.size≤9223372036854775807) x_.f3→(fun n_:Int=>(Lit.int .i64 n_).wf=true) x_.f4→x_.f5.length≤9223372036854775807→(∀ y_ ∈ x_.f5,gd26 y_)→gd26 x_
inductive zd26:S26→Prop
 | mk (x_:S26):(fun _:Int=>True) x_.f0→zd23 x_.f1→(fun s_:ByteArray=>s_.size≤140737488351232) x_.f2→(fun s_:ByteArray=>s_.size≤140737488351232) x_.f3→(fun _:Int=>True) x_.f4→x_.f5.length * 104≤140737488351232→(∀ y_ ∈ x_.f5,zd26 y_)→zd26 x_
def bd26 (x_:S26):Nat:=((fun _:Int=>1) x_.f0+(bd23 x_.f1+((fun s_:ByteArray=>s_.size+1) x_.f2+((fun s_:ByteArray=>s_.size+1) x_.f3+((fun _:Int=>1) x_.f4+((x_.f5.attach.map fun y_=>bd26 y_.1).sum+1))))))+1
termination_by SizeOf.sizeOf x_
decreasing_by all_goals (have h_:=List.sizeOf_lt_of_mem y_.2;cases x_;simp at h_ ⊢;omega)
theorem bd26_eq (x_:S26):bd26 x_=((fun _:Int=>1) x_.f0+(bd23 x_.f1+((fun s_:ByteArray=>s_.size+1) x_.f2+((fun s_:ByteArray=>s_.size+1) x_.f3+((fun _:Int=>1) x_.f4+((x_.f5.map bd26).sum+1))))))+1:=by
 rw [bd26]
 simp
def commonholdlaw_EvalEvals.Pure:Prop := ∀ (a0:S26) (a1:List (S23)),gd26 a0→(fun xs_:List (S23)=>xs_.length≤9223372036854775807 ∧ ∀ x_ ∈ xs_,gd23 x_) a1→zd26 a0→(fun xs_:List (S23)=>xs_.length * 32≤140737488351232 ∧ ∀ x_ ∈ xs_,zd23 x_) a1 → ∃ k,commonholdlaw_EvalEvals.f k a0.f0 a0.f1.f0 a0.f1.f1 a0.f1.f2 a0.f2 a0.f3 a0.f4 a0.f5 a1=some true

end Go.Proofs.YtkgllmjlhaimcaaDoor.PEvalEvals
