-- Written by wip/pp of this repo (over the kit's print, with additions of this session); Lean checks every line.
import Derived.Test.YthhejedfjgikdaaDoorPRowReadsx10
namespace Go.Proofs.YthhejedfjgikdaaDoor.PRowReads
open Go.RowKit Go.Proofs.YthhejedfjgikdaaDoorW.PrintWords Go.Proofs.YthhejedfjgikdaaDoorW.PrintLast Go.Proofs.YthhejedfjgikdaaDoorW.PrintMore
attribute [local go_sem] zjo zjm zjw zjv zja zq9 zjn zjl   -- for this text's walks alone
set_option linter.unusedVariables false
set_option linter.unusedSimpArgs false

theorem fld32_0 (a0 a1 : Value) (w : World) : Sem.run Tryd.prog (Instr.field 32 (.agg #[a0, a1]) 0) w = .ok a0 w := by kernel_rfl
attribute [local go_sem] fld32_0
/-! ### zjg: function 35 -/
def zjg.f (k:Nat) (a0_0:ByteArray) (l0_1:List (S90)) (l0_2:List Int) (l0_3:List (S96)) (a1:Int) (l2_0:List Int) (l2_1:List Int):Option ((List (S38)) × Int):=(zq2.f k l2_1).bind fun bt232=>(if bt232.2.2=0 then((zqr.f k a0_0 l0_1 l0_2 l0_3 bt232.1).bind fun t237=>(if t237=0 then((zqx.f k a1 0 bt232.1 (([l0_2]:List (List Int)))).bind fun bt241=>((bytes_Equal.f bt241.1 l2_0).bind fun t247=>(if t247=true then(some (bt232.1,0)) else (some (([]:List (S38)),4))))) else (some (([]:List (S38)),4)))) else (some (([]:List (S38)),4)))
theorem zjg.mono:∀ a0 a1 a2 a3 a4 a5 a6 k,LeO (zjg.f k a0 a1 a2 a3 a4 a5 a6) (zjg.f (k+1) a0 a1 a2 a3 a4 a5 a6):=by
 intro a0 a1 a2 a3 a4 a5 a6 k
 unfold zjg.f
 repeat' first
   | (with_reducible first|exact zq2.mono _ _|exact zqx.mono _ _ _ _ _|exact zqr.mono _ _ _ _ _ _|exact LeO.refl _|exact LeO.none _|refine LeO.ite ?_ ?_|refine LeO.bind ?_ (fun _=>?_))
   | exact zq2.mono _ _
   | exact zqx.mono _ _ _ _ _
   | exact zqr.mono _ _ _ _ _ _
   | exact LeO.none _
   | refine LeO.ite ?_ ?_
   | refine LeO.bind ?_ (fun _=>?_)
def zjg.T2:Bool × List (List Nat × List Nat):=(true, [([], []),([0], [0]),([1], [1]),([2], [2]),([2], [2]),([3,4,2,2], [2,3,4]),([5,2], [2,5]),([2,6], [2,6]),([7,5], [7]),([8], [8]),([8], [8]),([8], [8]),([11,8], [8,11]),([12,8], [8,12]),([9,10,13,8,8], [8,9,10,13]),([14,8], [8,14]),([8], [8]),([16,8], [8,16]),([15,17,14,8], [8,15,17]),([18,8], [8,18]),([8,19], [8,19])])
def zjg.B2:List Nat := [0,1,3,7,7,31,63,127,255,511,511,511,2559,6655,16383,32767,511,66047,262143,524287,1048575]
theorem zjg.tab2:rtab .any (opsOf Tryd.f35 2)=zjg.T2:=by kernel_rfl
theorem zjg.bits2:zv0 zjg.T2.2 zjg.B2=true:=by kernel_rfl
set_option maxHeartbeats 8000000 in
set_option maxRecDepth 100000 in
theorem zjg.calls (k:Nat) (a0_0:ByteArray) (A0_1:Option Addr) (c0_1:Nat) (l0_1:List (S90)) (P0_2_:Nat→Prop) (A0_2:Option Addr) (c0_2:Nat) (l0_2:List Int) (A0_3:Option Addr) (c0_3:Nat) (l0_3:List (S96)) (a1:Int) (A2_0:Option Addr) (c2_0:Nat) (l2_0:List Int) (A2_1:Option Addr) (c2_1:Nat) (l2_1:List Int) (r1:List (S38)) (r2:Int) (w:World) (hr0_1:Kd.C k90 w A0_1 l0_1.length l0_1) (hc0_1:l0_1.length≤c0_1) (hs0_2:Kd.V (Kd.int .i64) 3 w w.heap.size (fun k_=>P0_2_ k_) (.slice A0_2 l0_2.length c0_2) l0_2) (hr0_3:Kd.C k96 w A0_3 l0_3.length l0_3) (hc0_3:l0_3.length≤c0_3) (hr2_0:Kd.C (Kd.int .u8) w A2_0 l2_0.length l2_0) (hc2_0:l2_0.length≤c2_0) (hr2_1:Kd.C (Kd.int .u8) w A2_1 l2_1.length l2_1) (hc2_1:l2_1.length≤c2_1) (hL:LD w) (h:zjg.f k a0_0 l0_1 l0_2 l0_3 a1 l2_0 l2_1=some (r1,r2)) :
  Calls Tryd.prog 35 #[.agg #[.string a0_0,.slice A0_1 l0_1.length c0_1,.slice A0_2 l0_2.length c0_2,.slice A0_3 l0_3.length c0_3],.int .i64 a1,.agg #[.slice A2_0 l2_0.length c2_0,.slice A2_1 l2_1.length c2_1]] w fun e w' => ∃ v0_:Value,e = .returned (.tuple #[v0_,.int .i64 r2])∧Kd.R k38 38 w' w.heap.size (fun k_=>(w.heap.size≤k_)) v0_ r1∧Below w.heap.size w w':=by
 have hu61:=Tryd.underlying61
 have hu32:=Tryd.underlying32
 have HLD:=zq.mk hL
 clear hL
 have HR0_1:=zq.mk hr0_1
 have HC0_1:=zq.mk hc0_1
 clear hr0_1 hc0_1
 have HO0_2:=zq.mk (show Kd.V (Kd.int .i64) 3 w w.heap.size (fun k_=>(P0_2_ k_∨w.heap.size≤k_)) (.slice A0_2 l0_2.length c0_2) l0_2 from Kd.zjy hs0_2 (fun k_ hk=>.inl hk))
 have HR0_3:=zq.mk hr0_3
 have HC0_3:=zq.mk hc0_3
 clear hr0_3 hc0_3
 have HR2_0:=zq.mk hr2_0
 have HC2_0:=zq.mk hc2_0
 clear hr2_0 hc2_0
 have HR2_1:=zq.mk hr2_1
 have HC2_1:=zq.mk hc2_1
 clear hr2_1 hc2_1
 have HB:=zq.mk (Below.refl w.heap.size w)
 have H:((zq2.f k l2_1).bind fun bt232=>(if bt232.2.2=0 then((zqr.f k a0_0 l0_1 l0_2 l0_3 bt232.1).bind fun t237=>(if t237=0 then((zqx.f k a1 0 bt232.1 (([l0_2]:List (List Int)))).bind fun bt241=>((bytes_Equal.f bt241.1 l2_0).bind fun t247=>(if t247=true then(some (bt232.1,0)) else (some (([]:List (S38)),4))))) else (some (([]:List (S38)),4)))) else (some (([]:List (S38)),4))))=some (r1,r2):=h
 clear h
 replace H:=Option.bind_eq_some_iff.mp H
 obtain ⟨⟨t232,t233,t234⟩,A40,H⟩:=H
 replace H:(if t234=0 then((zqr.f k a0_0 l0_1 l0_2 l0_3 t232).bind fun t237=>(if t237=0 then((zqx.f k a1 0 t232 (([l0_2]:List (List Int)))).bind fun bt241=>((bytes_Equal.f bt241.1 l2_0).bind fun t247=>(if t247=true then(some (t232,0)) else (some (([]:List (S38)),4))))) else (some (([]:List (S38)),4)))) else (some (([]:List (S38)),4)))=some (r1,r2):=H
 have A4:=zq.mk A40
 clear A40
 by_cases c5:t234=0
 ·rw [if_pos c5] at H
  have c5b0:(t234 == 0)=true:=beq_iff_eq.mpr c5
  have c5b1:(t234 != 0)=false:=bne_eq_false_iff_eq.mpr c5
  clear c5
  replace H:=Option.bind_eq_some_iff.mp H
  obtain ⟨t237,A60,H⟩:=H
  replace H:(if t237=0 then((zqx.f k a1 0 t232 (([l0_2]:List (List Int)))).bind fun bt241=>((bytes_Equal.f bt241.1 l2_0).bind fun t247=>(if t247=true then(some (t232,0)) else (some (([]:List (S38)),4))))) else (some (([]:List (S38)),4)))=some (r1,r2):=H
  have A6:=zq.mk A60
  clear A60
  by_cases c7:t237=0
  ·rw [if_pos c7] at H
   have c7b0:(t237 == 0)=true:=beq_iff_eq.mpr c7
   have c7b1:(t237 != 0)=false:=bne_eq_false_iff_eq.mpr c7
   clear c7
   obtain ⟨y238,hy238⟩:∃ y_:List (List Int),y_=(([l0_2]:List (List Int))):=⟨_,rfl⟩
   replace H:((zqx.f k a1 0 t232 y238).bind fun bt241=>((bytes_Equal.f bt241.1 l2_0).bind fun t247=>(if t247=true then(some (t232,0)) else (some (([]:List (S38)),4)))))=some (r1,r2):=by first|(rw [hy238];with_reducible exact H)|(have H2_:=(Option.bind_some _ _).symm.trans H;rw [hy238];with_reducible exact H2_)|(have H2_:=(Option.bind_some _ _).symm.trans H;with_reducible exact H2_)|with_reducible exact H|(rw [hy238];exact H)|exact H
   have Ny238:=zq.mk hy238
   clear hy238
   replace H:=Option.bind_eq_some_iff.mp H
   obtain ⟨⟨t241,t244⟩,A80,H⟩:=H
   replace H:((bytes_Equal.f t241 l2_0).bind fun t247=>(if t247=true then(some (t232,0)) else (some (([]:List (S38)),4))))=some (r1,r2):=H
   have A8:=zq.mk A80
   clear A80
   replace H:=Option.bind_eq_some_iff.mp H
   obtain ⟨t247,A90,H⟩:=H
   replace H:(if t247=true then(some (t232,0)) else (some (([]:List (S38)),4)))=some (r1,r2):=H
   have A9:=zq.mk A90
   clear A90
   by_cases c10:t247=true
   ·subst c10
    rw [if_pos rfl] at H
    simp only [Option.some.injEq,Prod.mk.injEq] at H
    obtain ⟨rfl,rfl⟩:=H
    go_enter Tryd.func35,Tryd.ntmps35
    try go_wp2_with (first|((with_reducible refine qr (N:=3) rfl ?_);(try(refine ql (by rfl) ?_;dsimp only));refine qm ?hg (N:=3) ?hd (cs:=#[.string a0_0,.slice A0_1 l0_1.length c0_1,.slice A0_2 l0_2.length c0_2,.slice A0_3 l0_3.length c0_3]) (t:=61) ?hr ?_;(case hd=>rfl);(case hg=>rfl);(case hr=>first|(go_simp;done)|(go_simp;rfl));intro gb230 hg w11 hbox hb;replace HO0_2:=zq.mk (Kd.zjz (Kd.zj5 (Kd.vu HO0_2.out) gb230 (Nat.le_of_eq hg.symm)) hb);have BK230:=zq.mk (hbox);have GW230:=zq.mk ((by rw [hg];exact(zw bw):w.heap.size≤gb230));have GE230:=zq.mk ((by rw [hg];exact(zw bw):w.heap.size≤gb230));replace HB:=zq.mk (zn bw hb);clear hb hbox hg)|((with_reducible refine qr (N:=5) rfl ?_);(try(refine ql (by rfl) ?_;dsimp only));refine qm ?hg (N:=5) ?hd (cs:=#[.slice A2_0 l2_0.length c2_0,.slice A2_1 l2_1.length c2_1]) (t:=32) ?hr ?_;(case hd=>rfl);(case hg=>rfl);(case hr=>first|(go_simp;done)|(go_simp;rfl));intro gb231 hg w12 hbox hb;replace HO0_2:=zq.mk (Kd.zjz (Kd.zj5 (Kd.vu HO0_2.out) gb231 (Nat.le_of_eq hg.symm)) hb);have BK231:=zq.mk (hbox);have GW231:=zq.mk ((by rw [hg];exact(zw bw):w.heap.size≤gb231));have GE231:=zq.mk ((by rw [hg];exact(zw bw):w.heap.size≤gb231));replace HB:=zq.mk (zn bw hb);have NB230_231:=zq.mk ((by rw [hg];exact Nat.ne_of_lt (zq3 (g:=gb230) (o:=.cells #[.string a0_0,.slice A0_1 l0_1.length c0_1,.slice A0_2 l0_2.length c0_2,.slice A0_3 l0_3.length c0_3] 61 (0,0)) (up BK230.out)):gb230≠gb231));have NB231_230:=zq.mk ((by rw [hg];exact Nat.ne_of_gt (zq3 (g:=gb230) (o:=.cells #[.string a0_0,.slice A0_1 l0_1.length c0_1,.slice A0_2 l0_2.length c0_2,.slice A0_3 l0_3.length c0_3] 61 (0,0)) (up BK230.out)):gb231≠gb230));replace BK230:=zq.mk (ze (g:=gb230) (o:=.cells #[.string a0_0,.slice A0_1 l0_1.length c0_1,.slice A0_2 l0_2.length c0_2,.slice A0_3 l0_3.length c0_3] 61 (0,0)) (up BK230.out) hb);clear hb hbox hg;have hnb13:=NB231_230.out;have hnc13:=NB230_231.out;obtain ⟨hcz14_0,hcz14_1,hfz14_0,hfz14_1⟩:=zji BK231.out)|((with_reducible refine qh (f:=64) rfl ?_);refine zqn (some 14) rfl rfl Tryd.func64 (by kernel_rfl) rfl #[.slice A2_1 l2_1.length c2_1] rfl gs ?_;(with_reducible refine(zq2.calls k _ _ l2_1 t232 t233 t234 _ ?side1 ?side2 ?side3 A4.out).mono ?_);(case side1=>exact Kd.cu (Kd.qu HR2_1.out HB.out));(case side2=>exact HC2_1.out);(case side3=>exact LD.below HLD.out (by first|(with_reducible exact Below.refl _ _)|((repeat(first|(with_reducible exact Below.refl _ _)|(with_reducible apply zl)|(with_reducible apply zr)|(with_reducible apply qx)));done)|exact bw));rintro e w15 ⟨v235,rfl,ho0,hb⟩;refine⟨_,rfl,?_⟩;replace HO0_2:=zq.mk (Kd.zx9 (Kd.vu HO0_2.out) (Kd.zxh ho0) hb);have HO236:=zq.mk (Kd.zjs (Kd.zvu (M:=fun k_=>(w.heap.size≤k_)) ho0 (zw bw) (fun k_ h_=>h_)) (zw bw));replace BK230:=zq.mk (ze (g:=gb230) (o:=.cells #[.string a0_0,.slice A0_1 l0_1.length c0_1,.slice A0_2 l0_2.length c0_2,.slice A0_3 l0_3.length c0_3] 61 (0,0)) (up BK230.out) hb);replace BK231:=zq.mk (ze (g:=gb231) (o:=.cells #[.slice A2_0 l2_0.length c2_0,.slice A2_1 l2_1.length c2_1] 32 (0,0)) (up BK231.out) hb);replace HB:=zq.mk (zn bw hb);(try clear hb);(try clear hb2);(try clear hk);(try clear hi);(try clear ho0)))
    have n0_:=zq.mk (Kd.zwc HO0_2.out)
    have n1_:=zq.mk (Kd.zjf HO236.out)
    have n2_:=zq.mk (zk BK230.out)
    have n3_:=zq.mk (zk BK231.out)
    have n4_:=zq.mk (qx HB.out)
    clear HO0_2
    clear HO236
    clear BK230
    clear BK231
    clear HB
    have HO0_2:=n0_
    have HO236:=n1_
    have BK230:=n2_
    have BK231:=n3_
    have HB:=n4_
    clear n0_ n1_ n2_ n3_ n4_
    obtain ⟨Ao17,co17,eo17⟩:=Kd.zje HO236.out
    (first|subst eo17|(injection eo17 with f1_ f2_ f3_;have f4_:=f1_.symm;have f5_:=f3_.symm;clear f1_ f2_ f3_;subst f4_;subst f5_))
    refine start_ (n:=21) (S:=fun w'=>w'.cell? ⟨gb230,0,none⟩=some (.string a0_0)∧w'.cell? ⟨gb230,1,none⟩=some (.slice A0_1 l0_1.length c0_1)∧w'.cell? ⟨gb230,2,none⟩=some (.slice A0_2 l0_2.length c0_2)∧w'.cell? ⟨gb230,3,none⟩=some (.slice A0_3 l0_3.length c0_3)∧w'.cell? ⟨gb231,0,none⟩=some (.slice A2_0 l2_0.length c2_0)∧w'.cell? ⟨gb231,1,none⟩=some (.slice A2_1 l2_1.length c2_1)) (ds := []) #[false,false,false,false,false,false,false,false,false,false,false,false,false,false,false,false,false,false,false,false,false] (by kernel_rfl) rfl rfl ⟨(zqb BK230.out 0).trans rfl,(zqb BK230.out 1).trans rfl,(zqb BK230.out 2).trans rfl,(zqb BK230.out 3).trans rfl,(zqb BK231.out 0).trans rfl,(zqb BK231.out 1).trans rfl⟩ (fun hHeld=>?_);refine zk8 zjg.tab2 zjg.bits2 (fun HT_ HW_=>?_)
    generalize w15.drew=w16 at HO0_2 HO236 BK230 BK231 HB hHeld ⊢
    refine zjk (i:=0) (N:=some 18) (v:=?_) (a':=?_) #[true,false,false,false,false,false,false,false,false,false,false,false,false,false,false,false,false,false,false,false,false] rfl rfl (zqz HT_.out (by kernel_rfl)) (fun _ _ _ h=>h) (Or.inl ⟨by rfl,?_⟩) ?_ ?_
    rotate_left
    ·intro w'
     go_simp
     with_reducible rfl
    rotate_left
    ·simp only [Act.put,List.setIfInBounds_toArray,List.set_cons_zero,List.set_cons_succ,zqp,zqq]
     rfl
    refine zjk (i:=1) (N:=some 19) (v:=?_) (a':=?_) #[true,true,false,false,false,false,false,false,false,false,false,false,false,false,false,false,false,false,false,false,false] rfl rfl (zqz HT_.out (by kernel_rfl)) (fun _ _ _ h=>h) (Or.inl ⟨by rfl,?_⟩) ?_ ?_
    rotate_left
    ·intro w'
     go_simp
     with_reducible rfl
    rotate_left
    ·simp only [Act.put,List.setIfInBounds_toArray,List.set_cons_zero,List.set_cons_succ,zqp,zqq]
     rfl
    refine zjk (i:=2) (N:=some 20) (v:=?_) (a':=?_) #[true,true,true,false,false,false,false,false,false,false,false,false,false,false,false,false,false,false,false,false,false] rfl rfl (zqz HT_.out (by kernel_rfl)) (fun _ _ _ h=>h) (Or.inl ⟨by rfl,?_⟩) ?_ ?_
    rotate_left
    ·intro w'
     go_simp
     with_reducible rfl
    rotate_left
    ·simp only [Act.put,List.setIfInBounds_toArray,List.set_cons_zero,List.set_cons_succ,zqp,zqq]
     rfl
    refine zjk (i:=4) (N:=some 22) (v:=?_) (a':=?_) #[true,true,true,false,true,false,false,false,false,false,false,false,false,false,false,false,false,false,false,false,false] rfl rfl (zqz HT_.out (by kernel_rfl)) (fun _ _ _ h=>h) (Or.inl ⟨by rfl,?_⟩) ?_ ?_
    rotate_left
    ·intro w'
     go_simp
     with_reducible rfl
    rotate_left
    ·simp only [Act.put,List.setIfInBounds_toArray,List.set_cons_zero,List.set_cons_succ,zqp,zqq]
     rfl
    refine take_ (i:=3) (N:=some 21) (v:=?_) (a':=?_) #[true,true,true,true,true,false,false,false,false,false,false,false,false,false,false,false,false,false,false,false,false] rfl rfl (zkl HT_.out HW_.out (by kernel_rfl)) (fun _ _ _ h=>h) (Or.inl ⟨by rfl,?_⟩) hHeld ?_ ?_
    rotate_left
    ·rintro w' ⟨s0,s1,s2,s3,s4,s5⟩
     go_simp
     with_reducible rfl
    rotate_left
    ·simp only [Act.put,List.setIfInBounds_toArray,List.set_cons_zero,List.set_cons_succ,zqp,zqq]
     rfl
    refine one_ (i:=5) (N:=some 23) #[true,true,true,true,true,true,false,false,false,false,false,false,false,false,false,false,false,false,false,false,false] rfl rfl (zvd HT_.out (by kernel_rfl)) (by decide) (fun K hK=>?_)
    refine goes_ Tryd.func29 (by kernel_rfl) rfl #[.agg #[.string a0_0,.slice A0_1 l0_1.length c0_1,.slice A0_2 l0_2.length c0_2,.slice A0_3 l0_3.length c0_3],.slice Ao17 t232.length co17] (by rfl) rfl rfl gs ?_
    with_reducible refine(zqr.calls k a0_0 _ _ l0_1 _ _ l0_2 _ _ l0_3 _ _ t232 t237 _ ?side1 ?side2 ?side3 ?side4 ?side5 ?side6 ?side7 ?side8 ?side9 A6.out).mono ?_
    (case side1=>exact Kd.cu (Kd.qu HR0_1.out HB.out))
    (case side2=>exact HC0_1.out)
    (case side3=>exact Kd.cu (Kd.zjt HO0_2.out).2.2)
    (case side4=>exact(Kd.zjt HO0_2.out).2.1)
    (case side5=>exact Kd.cu (Kd.qu HR0_3.out HB.out))
    (case side6=>exact HC0_3.out)
    (case side7=>exact Kd.cu (Kd.zqk HO236.out).2.2)
    (case side8=>exact(Kd.zqk HO236.out).2.1)
    (case side9=>exact LD.below HLD.out (by first|(with_reducible exact Below.refl _ _)|((repeat(first|(with_reducible exact Below.refl _ _)|(with_reducible apply zl)|(with_reducible apply zr)|(with_reducible apply qx)));done)|exact bw))
    rintro e w18 ⟨rfl,hb⟩
    refine⟨_,rfl,?_⟩
    have n0_:=zq.mk (Kd.zjz (Kd.vu HO0_2.out) hb)
    have n1_:=zq.mk (Kd.zq4 (Kd.ru HO236.out) hb)
    have n2_:=zq.mk (ze (g:=gb230) (o:=.cells #[.string a0_0,.slice A0_1 l0_1.length c0_1,.slice A0_2 l0_2.length c0_2,.slice A0_3 l0_3.length c0_3] 61 (0,0)) (up BK230.out) hb)
    have n3_:=zq.mk (ze (g:=gb231) (o:=.cells #[.slice A2_0 l2_0.length c2_0,.slice A2_1 l2_1.length c2_1] 32 (0,0)) (up BK231.out) hb)
    have n4_:=zq.mk (zn bw hb)
    clear HO0_2
    clear HO236
    clear BK230
    clear BK231
    clear HB
    have HO0_2:=n0_
    have HO236:=n1_
    have BK230:=n2_
    have BK231:=n3_
    have HB:=n4_
    clear n0_ n1_ n2_ n3_ n4_
    (try clear hb)
    (try clear hb2)
    (try clear hk)
    (try clear hi)
    refine hK.out _ _ ⟨(zqb BK230.out 0).trans rfl,(zqb BK230.out 1).trans rfl,(zqb BK230.out 2).trans rfl,(zqb BK230.out 3).trans rfl,(zqb BK231.out 0).trans rfl,(zqb BK231.out 1).trans rfl⟩ (fun hHeld=>?_)
    clear hK K
    refine norm_ (a':=?_) ?_ ?_
    rotate_left
    ·show Act.put _ (some 23) _=_
     simp only [Act.put,List.setIfInBounds_toArray,List.set_cons_zero,List.set_cons_succ,zqp,zqq]
     rfl
    refine zjk (i:=6) (N:=some 24) (v:=?_) (a':=?_) #[true,true,true,true,true,true,true,false,false,false,false,false,false,false,false,false,false,false,false,false,false] rfl rfl (zqz HT_.out (by kernel_rfl)) (fun _ _ _ h=>h) (Or.inl ⟨by rfl,?_⟩) ?_ ?_
    rotate_left
    ·intro w'
     go_simp
     with_reducible rfl
    rotate_left
    ·simp only [Act.put,List.setIfInBounds_toArray,List.set_cons_zero,List.set_cons_succ,zqp,zqq]
     rfl
    refine zjk (i:=7) (N:=some 25) (v:=?_) (a':=?_) #[true,true,true,true,true,true,true,true,false,false,false,false,false,false,false,false,false,false,false,false,false] rfl rfl (zqz HT_.out (by kernel_rfl)) (fun _ _ _ h=>h) (Or.inl ⟨by rfl,?_⟩) ?_ ?_
    rotate_left
    ·intro w'
     go_simp
     with_reducible rfl
    rotate_left
    ·simp only [Act.put,List.setIfInBounds_toArray,List.set_cons_zero,List.set_cons_succ,zqp,zqq]
     rfl
    refine zjk (i:=8) (N:=some 26) (v:=?_) (a':=?_) #[true,true,true,true,true,true,true,true,true,false,false,false,false,false,false,false,false,false,false,false,false] rfl rfl (zqz HT_.out (by kernel_rfl)) (fun _ _ _ h=>h) (Or.inl ⟨by rfl,?_⟩) ?_ ?_
    rotate_left
    ·intro w'
     go_simp
     with_reducible rfl
    rotate_left
    ·simp only [Act.put,List.setIfInBounds_toArray,List.set_cons_zero,List.set_cons_succ,zqp,zqq]
     rfl
    refine zjk (i:=9) (N:=some 27) (v:=?_) (a':=?_) #[true,true,true,true,true,true,true,true,true,true,false,false,false,false,false,false,false,false,false,false,false] rfl rfl (zqz HT_.out (by kernel_rfl)) (fun _ _ _ h=>h) (Or.inl ⟨by rfl,?_⟩) ?_ ?_
    rotate_left
    ·intro w'
     go_simp
     with_reducible rfl
    rotate_left
    ·simp only [Act.put,List.setIfInBounds_toArray,List.set_cons_zero,List.set_cons_succ,zqp,zqq]
     rfl
    refine zjk (i:=10) (N:=some 28) (v:=?_) (a':=?_) #[true,true,true,true,true,true,true,true,true,true,true,false,false,false,false,false,false,false,false,false,false] rfl rfl (zqz HT_.out (by kernel_rfl)) (fun _ _ _ h=>h) (Or.inl ⟨by rfl,?_⟩) ?_ ?_
    rotate_left
    ·intro w'
     go_simp
     with_reducible rfl
    rotate_left
    ·simp only [Act.put,List.setIfInBounds_toArray,List.set_cons_zero,List.set_cons_succ,zqp,zqq]
     rfl
    refine zjk (i:=11) (N:=some 29) (v:=?_) (a':=?_) #[true,true,true,true,true,true,true,true,true,true,true,true,false,false,false,false,false,false,false,false,false] rfl rfl (zqz HT_.out (by kernel_rfl)) (fun _ _ _ h=>h) (Or.inl ⟨by rfl,?_⟩) ?_ ?_
    rotate_left
    ·intro w'
     go_simp
     with_reducible rfl
    rotate_left
    ·simp only [Act.put,List.setIfInBounds_toArray,List.set_cons_zero,List.set_cons_succ,zqp,zqq]
     rfl
    refine zjk (i:=16) (N:=some 34) (v:=?_) (a':=?_) #[true,true,true,true,true,true,true,true,true,true,true,true,false,false,false,false,true,false,false,false,false] rfl rfl (zqz HT_.out (by kernel_rfl)) (fun _ _ _ h=>h) (Or.inl ⟨by rfl,?_⟩) ?_ ?_
    rotate_left
    ·intro w'
     go_simp
     with_reducible rfl
    rotate_left
    ·simp only [Act.put,List.setIfInBounds_toArray,List.set_cons_zero,List.set_cons_succ,zqp,zqq]
     rfl
    refine take_ (i:=12) (N:=some 30) (v:=?_) (a':=?_) #[true,true,true,true,true,true,true,true,true,true,true,true,true,false,false,false,true,false,false,false,false] rfl rfl (zkl HT_.out HW_.out (by kernel_rfl)) (fun _ _ _ h=>h) (Or.inl ⟨by rfl,?_⟩) hHeld ?_ ?_
    rotate_left
    ·rintro w' ⟨s0,s1,s2,s3,s4,s5⟩
     go_simp
     with_reducible rfl
    rotate_left
    ·simp only [Act.put,List.setIfInBounds_toArray,List.set_cons_zero,List.set_cons_succ,zqp,zqq]
     rfl
    refine take_ (i:=17) (N:=some 35) (v:=?_) (a':=?_) #[true,true,true,true,true,true,true,true,true,true,true,true,true,false,false,false,true,true,false,false,false] rfl rfl (zkl HT_.out HW_.out (by kernel_rfl)) (fun _ _ _ h=>h) (Or.inl ⟨by rfl,?_⟩) hHeld ?_ ?_
    rotate_left
    ·rintro w' ⟨s0,s1,s2,s3,s4,s5⟩
     go_simp
     with_reducible rfl
    rotate_left
    ·simp only [Act.put,List.setIfInBounds_toArray,List.set_cons_zero,List.set_cons_succ,zqp,zqq]
     rfl
    refine one_ (i:=13) (N:=some 31) #[true,true,true,true,true,true,true,true,true,true,true,true,true,true,false,false,true,true,false,false,false] rfl rfl (zvd HT_.out (by kernel_rfl)) (by decide) (fun K hK=>?_)
    refine Kd.N_lit_step (Kd.slice 3 (Kd.int .i64)) _ 58 ?hg (N':=31) ?hd (xs:=([l0_2]:List (List Int))) (inner := [.slice A0_2 l0_2.length c0_2]) (ok:=(fun k_=>(P0_2_ k_∨w.heap.size≤k_)∧some k_≠(.slice Ao17 t232.length co17:Value).ownBlock∧k_≠gb230∧k_≠gb231)) (okp:=(fun k_=>(P0_2_ k_∨w.heap.size≤k_)∧some k_≠(.slice Ao17 t232.length co17:Value).ownBlock∧k_≠gb230∧k_≠gb231)) ?hr ?hp (fun _ hk=>hk) ((show ∀ k_,w18.heap.size≤k_→(fun k_=>(P0_2_ k_∨w.heap.size≤k_)∧some k_≠(.slice Ao17 t232.length co17:Value).ownBlock∧k_≠gb230∧k_≠gb231) k_ from fun k_ hk=>⟨(.inr (Nat.le_trans (zw bw) hk)),Kd.fresh' (Kd.R_lt (Kd.ru HO236.out)) k_ hk,Kd.zkg (g:=gb230) (o:=.cells #[.string a0_0,.slice A0_1 l0_1.length c0_1,.slice A0_2 l0_2.length c0_2,.slice A0_3 l0_3.length c0_3] 61 (0,0)) (up BK230.out) k_ hk,Kd.zkg (g:=gb231) (o:=.cells #[.slice A2_0 l2_0.length c2_0,.slice A2_1 l2_1.length c2_1] 32 (0,0)) (up BK231.out) k_ hk⟩) _ (Nat.le_refl _)) (Below.refl _ _) (Nat.le_refl _) (by simp) ?_;(case hd=>rfl);(case hg=>rfl);(case hr=>first|(go_simp;done)|(go_simp;rfl));(case hp=>exact(Reps.one (show Kd.FK (Kd.slice 3 (Kd.int .i64)) _ _ l0_2 [.slice A0_2 l0_2.length c0_2] from (Kd.zwd (Kd.zjt (Kd.zjy (ok':=(fun k_=>(P0_2_ k_∨w.heap.size≤k_)∧some k_≠(.slice Ao17 t232.length co17:Value).ownBlock∧k_≠gb230∧k_≠gb231)) (HO0_2.out) (fun k_ hk=>⟨hk.1.1.1,⟨hk.2,⟨hk.1.1.2,hk.1.2⟩⟩⟩))).2.1 (Kd.V_F (Kd.zjy (ok':=(fun k_=>(P0_2_ k_∨w.heap.size≤k_)∧some k_≠(.slice Ao17 t232.length co17:Value).ownBlock∧k_≠gb230∧k_≠gb231)) (HO0_2.out) (fun k_ hk=>⟨hk.1.1.1,⟨hk.2,⟨hk.1.1.2,hk.1.2⟩⟩⟩))))) (Reps.none _ _)))
    intro v239 w19 ho20 hb hg_ hnew_
    clear hg_ hnew_
    (first|rw [← Ny238.out] at ho20|(simp only [Int.reduceToNat] at ho20;rw [← Ny238.out] at ho20))
    have n0_:=zq.mk (Kd.zx9 (Kd.vu HO0_2.out) (Kd.N_base ho20) hb)
    have n1_:=zq.mk (Kd.zq4 (Kd.ru HO236.out) hb)
    have n2_:=zq.mk (Kd.N_lower ho20 (zw bw))
    have n3_:=zq.mk (ze (g:=gb230) (o:=.cells #[.string a0_0,.slice A0_1 l0_1.length c0_1,.slice A0_2 l0_2.length c0_2,.slice A0_3 l0_3.length c0_3] 61 (0,0)) (up BK230.out) hb)
    have n4_:=zq.mk (ze (g:=gb231) (o:=.cells #[.slice A2_0 l2_0.length c2_0,.slice A2_1 l2_1.length c2_1] 32 (0,0)) (up BK231.out) hb)
    have n5_:=zq.mk (zn bw hb)
    clear HO0_2
    clear HO236
    clear BK230
    clear BK231
    clear HB
    have HO0_2:=n0_
    have HO236:=n1_
    have HO240:=n2_
    have BK230:=n3_
    have BK231:=n4_
    have HB:=n5_
    clear n0_ n1_ n2_ n3_ n4_ n5_
    clear hb ho20
    obtain ⟨Ao21,co21,eo21⟩:=Kd.N_slice HO240.out
    (first|subst eo21|(injection eo21 with f1_ f2_ f3_;have f4_:=f1_.symm;have f5_:=f3_.symm;clear f1_ f2_ f3_;subst f4_;subst f5_))
    refine hK.out _ _ ⟨(zqb BK230.out 0).trans rfl,(zqb BK230.out 1).trans rfl,(zqb BK230.out 2).trans rfl,(zqb BK230.out 3).trans rfl,(zqb BK231.out 0).trans rfl,(zqb BK231.out 1).trans rfl⟩ (fun hHeld=>?_)
    clear hK K
    refine norm_ (a':=?_) ?_ ?_
    rotate_left
    ·show Act.put _ (some 31) _=_
     simp only [Act.put,List.setIfInBounds_toArray,List.set_cons_zero,List.set_cons_succ,zqp,zqq]
     rfl
    refine one_ (i:=14) (N:=some 32) #[true,true,true,true,true,true,true,true,true,true,true,true,true,true,true,false,true,true,false,false,false] rfl rfl (zvd HT_.out (by kernel_rfl)) (by decide) (fun K hK=>?_)
    refine goes_ Tryd.func58 (by kernel_rfl) rfl #[.int .i64 a1,.int .i64 0,.slice Ao17 t232.length co17,.slice Ao21 y238.length co21] (by rfl) rfl rfl gs ?_
    with_reducible refine(zqx.calls k a1 0 _ _ t232 _ _ y238 t241 t244 _ ?side1 ?side2 ?side3 ?side4 ?side5 A8.out).mono ?_
    (case side1=>exact Kd.cu (Kd.zqk HO236.out).2.2)
    (case side2=>exact(Kd.zqk HO236.out).2.1)
    (case side3=>exact Kd.cu (Kd.zvx HO240.out).2.2)
    (case side4=>exact(Kd.zvx HO240.out).2.1)
    (case side5=>exact LD.below HLD.out (by first|(with_reducible exact Below.refl _ _)|((repeat(first|(with_reducible exact Below.refl _ _)|(with_reducible apply zl)|(with_reducible apply zr)|(with_reducible apply qx)));done)|exact bw))
    rintro e w22 ⟨v242,v245,rfl,ho0,ho1,hb⟩
    refine⟨_,rfl,?_⟩
    have n0_:=zq.mk (Kd.zjy (Kd.V_told (Kd.V_told (Kd.V_old (Kd.vu HO0_2.out) hb) (Kd.zxh ho0)) (Kd.zxh ho1)) (fun _ h_=>h_.1))
    have n1_:=zq.mk (Kd.zq4 (Kd.ru HO236.out) hb)
    have n2_:=zq.mk (Kd.N_mono (Kd.N_told (Kd.N_told (Kd.N_old (Kd.nu HO240.out) hb) (Kd.zxh ho0)) (Kd.zxh ho1)) (fun _ h_=>h_.1))
    have n3_:=zq.mk (Kd.zjs (Kd.zvu (M:=fun k_=>(w.heap.size≤k_)) ho0 (zw bw) (fun k_ h_=>h_)) (zw bw))
    have n4_:=zq.mk (Kd.zjs (Kd.zvu (M:=fun k_=>(w.heap.size≤k_)) ho1 (zw bw) (fun k_ h_=>h_)) (zw bw))
    have n5_:=zq.mk (ze (g:=gb230) (o:=.cells #[.string a0_0,.slice A0_1 l0_1.length c0_1,.slice A0_2 l0_2.length c0_2,.slice A0_3 l0_3.length c0_3] 61 (0,0)) (up BK230.out) hb)
    have n6_:=zq.mk (ze (g:=gb231) (o:=.cells #[.slice A2_0 l2_0.length c2_0,.slice A2_1 l2_1.length c2_1] 32 (0,0)) (up BK231.out) hb)
    have n7_:=zq.mk (zn bw hb)
    clear HO0_2
    clear HO236
    clear HO240
    clear BK230
    clear BK231
    clear HB
    have HO0_2:=n0_
    have HO236:=n1_
    have HO240:=n2_
    have HO243:=n3_
    have HO246:=n4_
    have BK230:=n5_
    have BK231:=n6_
    have HB:=n7_
    clear n0_ n1_ n2_ n3_ n4_ n5_ n6_ n7_
    (try clear hb)
    (try clear hb2)
    (try clear hk)
    (try clear hi)
    (try clear ho0)
    (try clear ho1)
    obtain ⟨Ao23,co23,eo23⟩:=Kd.zje HO243.out
    (first|subst eo23|(injection eo23 with f1_ f2_ f3_;have f4_:=f1_.symm;have f5_:=f3_.symm;clear f1_ f2_ f3_;subst f4_;subst f5_))
    refine hK.out _ _ ⟨(zqb BK230.out 0).trans rfl,(zqb BK230.out 1).trans rfl,(zqb BK230.out 2).trans rfl,(zqb BK230.out 3).trans rfl,(zqb BK231.out 0).trans rfl,(zqb BK231.out 1).trans rfl⟩ (fun hHeld=>?_)
    clear hK K
    refine norm_ (a':=?_) ?_ ?_
    rotate_left
    ·show Act.put _ (some 32) _=_
     simp only [Act.put,List.setIfInBounds_toArray,List.set_cons_zero,List.set_cons_succ,zqp,zqq]
     rfl
    refine zjk (i:=15) (N:=some 33) (v:=?_) (a':=?_) #[true,true,true,true,true,true,true,true,true,true,true,true,true,true,true,true,true,true,false,false,false] rfl rfl (zqz HT_.out (by kernel_rfl)) (fun _ _ _ h=>h) (Or.inl ⟨by rfl,?_⟩) ?_ ?_
    rotate_left
    ·intro w'
     go_simp
     with_reducible rfl
    rotate_left
    ·simp only [Act.put,List.setIfInBounds_toArray,List.set_cons_zero,List.set_cons_succ,zqp,zqq]
     rfl
    refine one_ (i:=18) (N:=some 36) #[true,true,true,true,true,true,true,true,true,true,true,true,true,true,true,true,true,true,true,false,false] rfl rfl (zvd HT_.out (by kernel_rfl)) (by decide) (fun K hK=>?_)
    refine goes_ Tryd.func65 (by kernel_rfl) rfl #[.slice Ao23 t241.length co23,.slice A2_0 l2_0.length c2_0] (by rfl) rfl rfl gs ?_
    with_reducible refine(bytes_Equal.calls _ _ t241 _ _ l2_0 true _ ?side1 ?side2 ?side3 ?side4 A9.out).mono ?_
    (case side1=>exact Kd.cu (Kd.zqk HO243.out).2.2)
    (case side2=>exact(Kd.zqk HO243.out).2.1)
    (case side3=>exact Kd.cu (Kd.qu HR2_0.out HB.out))
    (case side4=>exact HC2_0.out)
    rintro e w' ⟨rfl,⟨nd,rfl⟩⟩
    refine⟨_,rfl,?_⟩
    refine hK.out _ _ ⟨(zqb BK230.out 0).trans rfl,(zqb BK230.out 1).trans rfl,(zqb BK230.out 2).trans rfl,(zqb BK230.out 3).trans rfl,(zqb BK231.out 0).trans rfl,(zqb BK231.out 1).trans rfl⟩ (fun hHeld=>?_)
    clear hK K
    refine norm_ (a':=?_) ?_ ?_
    rotate_left
    ·show Act.put _ (some 36) _=_
     simp only [Act.put,List.setIfInBounds_toArray,List.set_cons_zero,List.set_cons_succ,zqp,zqq]
     rfl
    refine zjk (i:=19) (N:=some 37) (v:=?_) (a':=?_) #[true,true,true,true,true,true,true,true,true,true,true,true,true,true,true,true,true,true,true,true,false] rfl rfl (zqz HT_.out (by kernel_rfl)) (fun _ _ _ h=>h) (Or.inl ⟨by rfl,?_⟩) ?_ ?_
    rotate_left
    ·intro w'
     go_simp
     with_reducible rfl
    rotate_left
    ·simp only [Act.put,List.setIfInBounds_toArray,List.set_cons_zero,List.set_cons_succ,zqp,zqq]
     rfl
    refine zjk (i:=20) (N:=some 38) (v:=?_) (a':=?_) #[true,true,true,true,true,true,true,true,true,true,true,true,true,true,true,true,true,true,true,true,true] rfl rfl (zqz HT_.out (by kernel_rfl)) (fun _ _ _ h=>h) (Or.inl ⟨by rfl,?_⟩) ?_ ?_
    rotate_left
    ·intro w'
     go_simp
     with_reducible rfl
    rotate_left
    ·simp only [Act.put,List.setIfInBounds_toArray,List.set_cons_zero,List.set_cons_succ,zqp,zqq]
     rfl
    refine done_ (done_of HT_.out (by kernel_rfl)) ?_
    try go_wp2
    go_ret2
    exact⟨_,by first|rfl|(simp [zg,zy] <;> rfl)|(simp [*,zg,zy] <;> rfl),by(with_reducible repeat(first|apply Kd.zq5|apply Kd.zq7|apply Kd.zjf));exact Kd.zqy HO236.out (fun _ hk=>hk.1),bw⟩
   replace c10:=Bool.eq_false_iff.mpr c10
   subst c10
   rw [if_neg (show ¬ (false=true) by decide)] at H
   simp only [Option.some.injEq,Prod.mk.injEq] at H
   obtain ⟨rfl,rfl⟩:=H
   go_enter Tryd.func35,Tryd.ntmps35
   try go_wp2_with (first|((with_reducible refine qr (N:=3) rfl ?_);(try(refine ql (by rfl) ?_;dsimp only));refine qm ?hg (N:=3) ?hd (cs:=#[.string a0_0,.slice A0_1 l0_1.length c0_1,.slice A0_2 l0_2.length c0_2,.slice A0_3 l0_3.length c0_3]) (t:=61) ?hr ?_;(case hd=>rfl);(case hg=>rfl);(case hr=>first|(go_simp;done)|(go_simp;rfl));intro gb230 hg w24 hbox hb;replace HO0_2:=zq.mk (Kd.zjz (Kd.zj5 (Kd.vu HO0_2.out) gb230 (Nat.le_of_eq hg.symm)) hb);have BK230:=zq.mk (hbox);have GW230:=zq.mk ((by rw [hg];exact(zw bw):w.heap.size≤gb230));have GE230:=zq.mk ((by rw [hg];exact(zw bw):w.heap.size≤gb230));replace HB:=zq.mk (zn bw hb);clear hb hbox hg)|((with_reducible refine qr (N:=5) rfl ?_);(try(refine ql (by rfl) ?_;dsimp only));refine qm ?hg (N:=5) ?hd (cs:=#[.slice A2_0 l2_0.length c2_0,.slice A2_1 l2_1.length c2_1]) (t:=32) ?hr ?_;(case hd=>rfl);(case hg=>rfl);(case hr=>first|(go_simp;done)|(go_simp;rfl));intro gb231 hg w25 hbox hb;replace HO0_2:=zq.mk (Kd.zjz (Kd.zj5 (Kd.vu HO0_2.out) gb231 (Nat.le_of_eq hg.symm)) hb);have BK231:=zq.mk (hbox);have GW231:=zq.mk ((by rw [hg];exact(zw bw):w.heap.size≤gb231));have GE231:=zq.mk ((by rw [hg];exact(zw bw):w.heap.size≤gb231));replace HB:=zq.mk (zn bw hb);have NB230_231:=zq.mk ((by rw [hg];exact Nat.ne_of_lt (zq3 (g:=gb230) (o:=.cells #[.string a0_0,.slice A0_1 l0_1.length c0_1,.slice A0_2 l0_2.length c0_2,.slice A0_3 l0_3.length c0_3] 61 (0,0)) (up BK230.out)):gb230≠gb231));have NB231_230:=zq.mk ((by rw [hg];exact Nat.ne_of_gt (zq3 (g:=gb230) (o:=.cells #[.string a0_0,.slice A0_1 l0_1.length c0_1,.slice A0_2 l0_2.length c0_2,.slice A0_3 l0_3.length c0_3] 61 (0,0)) (up BK230.out)):gb231≠gb230));replace BK230:=zq.mk (ze (g:=gb230) (o:=.cells #[.string a0_0,.slice A0_1 l0_1.length c0_1,.slice A0_2 l0_2.length c0_2,.slice A0_3 l0_3.length c0_3] 61 (0,0)) (up BK230.out) hb);clear hb hbox hg;have hnb26:=NB231_230.out;have hnc26:=NB230_231.out;obtain ⟨hcz27_0,hcz27_1,hfz27_0,hfz27_1⟩:=zji BK231.out)|((with_reducible refine qh (f:=64) rfl ?_);refine zqn (some 14) rfl rfl Tryd.func64 (by kernel_rfl) rfl #[.slice A2_1 l2_1.length c2_1] rfl gs ?_;(with_reducible refine(zq2.calls k _ _ l2_1 t232 t233 t234 _ ?side1 ?side2 ?side3 A4.out).mono ?_);(case side1=>exact Kd.cu (Kd.qu HR2_1.out HB.out));(case side2=>exact HC2_1.out);(case side3=>exact LD.below HLD.out (by first|(with_reducible exact Below.refl _ _)|((repeat(first|(with_reducible exact Below.refl _ _)|(with_reducible apply zl)|(with_reducible apply zr)|(with_reducible apply qx)));done)|exact bw));rintro e w28 ⟨v235,rfl,ho0,hb⟩;refine⟨_,rfl,?_⟩;replace HO0_2:=zq.mk (Kd.zx9 (Kd.vu HO0_2.out) (Kd.zxh ho0) hb);have HO236:=zq.mk (Kd.zjs (Kd.zvu (M:=fun k_=>(w.heap.size≤k_)) ho0 (zw bw) (fun k_ h_=>h_)) (zw bw));replace BK230:=zq.mk (ze (g:=gb230) (o:=.cells #[.string a0_0,.slice A0_1 l0_1.length c0_1,.slice A0_2 l0_2.length c0_2,.slice A0_3 l0_3.length c0_3] 61 (0,0)) (up BK230.out) hb);replace BK231:=zq.mk (ze (g:=gb231) (o:=.cells #[.slice A2_0 l2_0.length c2_0,.slice A2_1 l2_1.length c2_1] 32 (0,0)) (up BK231.out) hb);replace HB:=zq.mk (zn bw hb);(try clear hb);(try clear hb2);(try clear hk);(try clear hi);(try clear ho0)))
   have n0_:=zq.mk (Kd.zwc HO0_2.out)
   have n1_:=zq.mk (Kd.zjf HO236.out)
   have n2_:=zq.mk (zk BK230.out)
   have n3_:=zq.mk (zk BK231.out)
   have n4_:=zq.mk (qx HB.out)
   clear HO0_2
   clear HO236
   clear BK230
   clear BK231
   clear HB
   have HO0_2:=n0_
   have HO236:=n1_
   have BK230:=n2_
   have BK231:=n3_
   have HB:=n4_
   clear n0_ n1_ n2_ n3_ n4_
   obtain ⟨Ao30,co30,eo30⟩:=Kd.zje HO236.out
   (first|subst eo30|(injection eo30 with f1_ f2_ f3_;have f4_:=f1_.symm;have f5_:=f3_.symm;clear f1_ f2_ f3_;subst f4_;subst f5_))
   refine start_ (n:=21) (S:=fun w'=>w'.cell? ⟨gb230,0,none⟩=some (.string a0_0)∧w'.cell? ⟨gb230,1,none⟩=some (.slice A0_1 l0_1.length c0_1)∧w'.cell? ⟨gb230,2,none⟩=some (.slice A0_2 l0_2.length c0_2)∧w'.cell? ⟨gb230,3,none⟩=some (.slice A0_3 l0_3.length c0_3)∧w'.cell? ⟨gb231,0,none⟩=some (.slice A2_0 l2_0.length c2_0)∧w'.cell? ⟨gb231,1,none⟩=some (.slice A2_1 l2_1.length c2_1)) (ds := []) #[false,false,false,false,false,false,false,false,false,false,false,false,false,false,false,false,false,false,false,false,false] (by kernel_rfl) rfl rfl ⟨(zqb BK230.out 0).trans rfl,(zqb BK230.out 1).trans rfl,(zqb BK230.out 2).trans rfl,(zqb BK230.out 3).trans rfl,(zqb BK231.out 0).trans rfl,(zqb BK231.out 1).trans rfl⟩ (fun hHeld=>?_);refine zk8 zjg.tab2 zjg.bits2 (fun HT_ HW_=>?_)
   generalize w28.drew=w29 at HO0_2 HO236 BK230 BK231 HB hHeld ⊢
   refine zjk (i:=0) (N:=some 18) (v:=?_) (a':=?_) #[true,false,false,false,false,false,false,false,false,false,false,false,false,false,false,false,false,false,false,false,false] rfl rfl (zqz HT_.out (by kernel_rfl)) (fun _ _ _ h=>h) (Or.inl ⟨by rfl,?_⟩) ?_ ?_
   rotate_left
   ·intro w'
    go_simp
    with_reducible rfl
   rotate_left
   ·simp only [Act.put,List.setIfInBounds_toArray,List.set_cons_zero,List.set_cons_succ,zqp,zqq]
    rfl
   refine zjk (i:=1) (N:=some 19) (v:=?_) (a':=?_) #[true,true,false,false,false,false,false,false,false,false,false,false,false,false,false,false,false,false,false,false,false] rfl rfl (zqz HT_.out (by kernel_rfl)) (fun _ _ _ h=>h) (Or.inl ⟨by rfl,?_⟩) ?_ ?_
   rotate_left
   ·intro w'
    go_simp
    with_reducible rfl
   rotate_left
   ·simp only [Act.put,List.setIfInBounds_toArray,List.set_cons_zero,List.set_cons_succ,zqp,zqq]
    rfl
   refine zjk (i:=2) (N:=some 20) (v:=?_) (a':=?_) #[true,true,true,false,false,false,false,false,false,false,false,false,false,false,false,false,false,false,false,false,false] rfl rfl (zqz HT_.out (by kernel_rfl)) (fun _ _ _ h=>h) (Or.inl ⟨by rfl,?_⟩) ?_ ?_
   rotate_left
   ·intro w'
    go_simp
    with_reducible rfl
   rotate_left
   ·simp only [Act.put,List.setIfInBounds_toArray,List.set_cons_zero,List.set_cons_succ,zqp,zqq]
    rfl
   refine zjk (i:=4) (N:=some 22) (v:=?_) (a':=?_) #[true,true,true,false,true,false,false,false,false,false,false,false,false,false,false,false,false,false,false,false,false] rfl rfl (zqz HT_.out (by kernel_rfl)) (fun _ _ _ h=>h) (Or.inl ⟨by rfl,?_⟩) ?_ ?_
   rotate_left
   ·intro w'
    go_simp
    with_reducible rfl
   rotate_left
   ·simp only [Act.put,List.setIfInBounds_toArray,List.set_cons_zero,List.set_cons_succ,zqp,zqq]
    rfl
   refine take_ (i:=3) (N:=some 21) (v:=?_) (a':=?_) #[true,true,true,true,true,false,false,false,false,false,false,false,false,false,false,false,false,false,false,false,false] rfl rfl (zkl HT_.out HW_.out (by kernel_rfl)) (fun _ _ _ h=>h) (Or.inl ⟨by rfl,?_⟩) hHeld ?_ ?_
   rotate_left
   ·rintro w' ⟨s0,s1,s2,s3,s4,s5⟩
    go_simp
    with_reducible rfl
   rotate_left
   ·simp only [Act.put,List.setIfInBounds_toArray,List.set_cons_zero,List.set_cons_succ,zqp,zqq]
    rfl
   refine one_ (i:=5) (N:=some 23) #[true,true,true,true,true,true,false,false,false,false,false,false,false,false,false,false,false,false,false,false,false] rfl rfl (zvd HT_.out (by kernel_rfl)) (by decide) (fun K hK=>?_)
   refine goes_ Tryd.func29 (by kernel_rfl) rfl #[.agg #[.string a0_0,.slice A0_1 l0_1.length c0_1,.slice A0_2 l0_2.length c0_2,.slice A0_3 l0_3.length c0_3],.slice Ao30 t232.length co30] (by rfl) rfl rfl gs ?_
   with_reducible refine(zqr.calls k a0_0 _ _ l0_1 _ _ l0_2 _ _ l0_3 _ _ t232 t237 _ ?side1 ?side2 ?side3 ?side4 ?side5 ?side6 ?side7 ?side8 ?side9 A6.out).mono ?_
   (case side1=>exact Kd.cu (Kd.qu HR0_1.out HB.out))
   (case side2=>exact HC0_1.out)
   (case side3=>exact Kd.cu (Kd.zjt HO0_2.out).2.2)
   (case side4=>exact(Kd.zjt HO0_2.out).2.1)
   (case side5=>exact Kd.cu (Kd.qu HR0_3.out HB.out))
   (case side6=>exact HC0_3.out)
   (case side7=>exact Kd.cu (Kd.zqk HO236.out).2.2)
   (case side8=>exact(Kd.zqk HO236.out).2.1)
   (case side9=>exact LD.below HLD.out (by first|(with_reducible exact Below.refl _ _)|((repeat(first|(with_reducible exact Below.refl _ _)|(with_reducible apply zl)|(with_reducible apply zr)|(with_reducible apply qx)));done)|exact bw))
   rintro e w31 ⟨rfl,hb⟩
   refine⟨_,rfl,?_⟩
   have n0_:=zq.mk (Kd.zjz (Kd.vu HO0_2.out) hb)
   have n1_:=zq.mk (Kd.zq4 (Kd.ru HO236.out) hb)
   have n2_:=zq.mk (ze (g:=gb230) (o:=.cells #[.string a0_0,.slice A0_1 l0_1.length c0_1,.slice A0_2 l0_2.length c0_2,.slice A0_3 l0_3.length c0_3] 61 (0,0)) (up BK230.out) hb)
   have n3_:=zq.mk (ze (g:=gb231) (o:=.cells #[.slice A2_0 l2_0.length c2_0,.slice A2_1 l2_1.length c2_1] 32 (0,0)) (up BK231.out) hb)
   have n4_:=zq.mk (zn bw hb)
   clear HO0_2
   clear HO236
   clear BK230
   clear BK231
   clear HB
   have HO0_2:=n0_
   have HO236:=n1_
   have BK230:=n2_
   have BK231:=n3_
   have HB:=n4_
   clear n0_ n1_ n2_ n3_ n4_
   (try clear hb)
   (try clear hb2)
   (try clear hk)
   (try clear hi)
   refine hK.out _ _ ⟨(zqb BK230.out 0).trans rfl,(zqb BK230.out 1).trans rfl,(zqb BK230.out 2).trans rfl,(zqb BK230.out 3).trans rfl,(zqb BK231.out 0).trans rfl,(zqb BK231.out 1).trans rfl⟩ (fun hHeld=>?_)
   clear hK K
   refine norm_ (a':=?_) ?_ ?_
   rotate_left
   ·show Act.put _ (some 23) _=_
    simp only [Act.put,List.setIfInBounds_toArray,List.set_cons_zero,List.set_cons_succ,zqp,zqq]
    rfl
   refine zjk (i:=6) (N:=some 24) (v:=?_) (a':=?_) #[true,true,true,true,true,true,true,false,false,false,false,false,false,false,false,false,false,false,false,false,false] rfl rfl (zqz HT_.out (by kernel_rfl)) (fun _ _ _ h=>h) (Or.inl ⟨by rfl,?_⟩) ?_ ?_
   rotate_left
   ·intro w'
    go_simp
    with_reducible rfl
   rotate_left
   ·simp only [Act.put,List.setIfInBounds_toArray,List.set_cons_zero,List.set_cons_succ,zqp,zqq]
    rfl
   refine zjk (i:=7) (N:=some 25) (v:=?_) (a':=?_) #[true,true,true,true,true,true,true,true,false,false,false,false,false,false,false,false,false,false,false,false,false] rfl rfl (zqz HT_.out (by kernel_rfl)) (fun _ _ _ h=>h) (Or.inl ⟨by rfl,?_⟩) ?_ ?_
   rotate_left
   ·intro w'
    go_simp
    with_reducible rfl
   rotate_left
   ·simp only [Act.put,List.setIfInBounds_toArray,List.set_cons_zero,List.set_cons_succ,zqp,zqq]
    rfl
   refine zjk (i:=8) (N:=some 26) (v:=?_) (a':=?_) #[true,true,true,true,true,true,true,true,true,false,false,false,false,false,false,false,false,false,false,false,false] rfl rfl (zqz HT_.out (by kernel_rfl)) (fun _ _ _ h=>h) (Or.inl ⟨by rfl,?_⟩) ?_ ?_
   rotate_left
   ·intro w'
    go_simp
    with_reducible rfl
   rotate_left
   ·simp only [Act.put,List.setIfInBounds_toArray,List.set_cons_zero,List.set_cons_succ,zqp,zqq]
    rfl
   refine zjk (i:=9) (N:=some 27) (v:=?_) (a':=?_) #[true,true,true,true,true,true,true,true,true,true,false,false,false,false,false,false,false,false,false,false,false] rfl rfl (zqz HT_.out (by kernel_rfl)) (fun _ _ _ h=>h) (Or.inl ⟨by rfl,?_⟩) ?_ ?_
   rotate_left
   ·intro w'
    go_simp
    with_reducible rfl
   rotate_left
   ·simp only [Act.put,List.setIfInBounds_toArray,List.set_cons_zero,List.set_cons_succ,zqp,zqq]
    rfl
   refine zjk (i:=10) (N:=some 28) (v:=?_) (a':=?_) #[true,true,true,true,true,true,true,true,true,true,true,false,false,false,false,false,false,false,false,false,false] rfl rfl (zqz HT_.out (by kernel_rfl)) (fun _ _ _ h=>h) (Or.inl ⟨by rfl,?_⟩) ?_ ?_
   rotate_left
   ·intro w'
    go_simp
    with_reducible rfl
   rotate_left
   ·simp only [Act.put,List.setIfInBounds_toArray,List.set_cons_zero,List.set_cons_succ,zqp,zqq]
    rfl
   refine zjk (i:=11) (N:=some 29) (v:=?_) (a':=?_) #[true,true,true,true,true,true,true,true,true,true,true,true,false,false,false,false,false,false,false,false,false] rfl rfl (zqz HT_.out (by kernel_rfl)) (fun _ _ _ h=>h) (Or.inl ⟨by rfl,?_⟩) ?_ ?_
   rotate_left
   ·intro w'
    go_simp
    with_reducible rfl
   rotate_left
   ·simp only [Act.put,List.setIfInBounds_toArray,List.set_cons_zero,List.set_cons_succ,zqp,zqq]
    rfl
   refine zjk (i:=16) (N:=some 34) (v:=?_) (a':=?_) #[true,true,true,true,true,true,true,true,true,true,true,true,false,false,false,false,true,false,false,false,false] rfl rfl (zqz HT_.out (by kernel_rfl)) (fun _ _ _ h=>h) (Or.inl ⟨by rfl,?_⟩) ?_ ?_
   rotate_left
   ·intro w'
    go_simp
    with_reducible rfl
   rotate_left
   ·simp only [Act.put,List.setIfInBounds_toArray,List.set_cons_zero,List.set_cons_succ,zqp,zqq]
    rfl
   refine take_ (i:=12) (N:=some 30) (v:=?_) (a':=?_) #[true,true,true,true,true,true,true,true,true,true,true,true,true,false,false,false,true,false,false,false,false] rfl rfl (zkl HT_.out HW_.out (by kernel_rfl)) (fun _ _ _ h=>h) (Or.inl ⟨by rfl,?_⟩) hHeld ?_ ?_
   rotate_left
   ·rintro w' ⟨s0,s1,s2,s3,s4,s5⟩
    go_simp
    with_reducible rfl
   rotate_left
   ·simp only [Act.put,List.setIfInBounds_toArray,List.set_cons_zero,List.set_cons_succ,zqp,zqq]
    rfl
   refine take_ (i:=17) (N:=some 35) (v:=?_) (a':=?_) #[true,true,true,true,true,true,true,true,true,true,true,true,true,false,false,false,true,true,false,false,false] rfl rfl (zkl HT_.out HW_.out (by kernel_rfl)) (fun _ _ _ h=>h) (Or.inl ⟨by rfl,?_⟩) hHeld ?_ ?_
   rotate_left
   ·rintro w' ⟨s0,s1,s2,s3,s4,s5⟩
    go_simp
    with_reducible rfl
   rotate_left
   ·simp only [Act.put,List.setIfInBounds_toArray,List.set_cons_zero,List.set_cons_succ,zqp,zqq]
    rfl
   refine one_ (i:=13) (N:=some 31) #[true,true,true,true,true,true,true,true,true,true,true,true,true,true,false,false,true,true,false,false,false] rfl rfl (zvd HT_.out (by kernel_rfl)) (by decide) (fun K hK=>?_)
   refine Kd.N_lit_step (Kd.slice 3 (Kd.int .i64)) _ 58 ?hg (N':=31) ?hd (xs:=([l0_2]:List (List Int))) (inner := [.slice A0_2 l0_2.length c0_2]) (ok:=(fun k_=>(P0_2_ k_∨w.heap.size≤k_)∧some k_≠(.slice Ao30 t232.length co30:Value).ownBlock∧k_≠gb230∧k_≠gb231)) (okp:=(fun k_=>(P0_2_ k_∨w.heap.size≤k_)∧some k_≠(.slice Ao30 t232.length co30:Value).ownBlock∧k_≠gb230∧k_≠gb231)) ?hr ?hp (fun _ hk=>hk) ((show ∀ k_,w31.heap.size≤k_→(fun k_=>(P0_2_ k_∨w.heap.size≤k_)∧some k_≠(.slice Ao30 t232.length co30:Value).ownBlock∧k_≠gb230∧k_≠gb231) k_ from fun k_ hk=>⟨(.inr (Nat.le_trans (zw bw) hk)),Kd.fresh' (Kd.R_lt (Kd.ru HO236.out)) k_ hk,Kd.zkg (g:=gb230) (o:=.cells #[.string a0_0,.slice A0_1 l0_1.length c0_1,.slice A0_2 l0_2.length c0_2,.slice A0_3 l0_3.length c0_3] 61 (0,0)) (up BK230.out) k_ hk,Kd.zkg (g:=gb231) (o:=.cells #[.slice A2_0 l2_0.length c2_0,.slice A2_1 l2_1.length c2_1] 32 (0,0)) (up BK231.out) k_ hk⟩) _ (Nat.le_refl _)) (Below.refl _ _) (Nat.le_refl _) (by simp) ?_;(case hd=>rfl);(case hg=>rfl);(case hr=>first|(go_simp;done)|(go_simp;rfl));(case hp=>exact(Reps.one (show Kd.FK (Kd.slice 3 (Kd.int .i64)) _ _ l0_2 [.slice A0_2 l0_2.length c0_2] from (Kd.zwd (Kd.zjt (Kd.zjy (ok':=(fun k_=>(P0_2_ k_∨w.heap.size≤k_)∧some k_≠(.slice Ao30 t232.length co30:Value).ownBlock∧k_≠gb230∧k_≠gb231)) (HO0_2.out) (fun k_ hk=>⟨hk.1.1.1,⟨hk.2,⟨hk.1.1.2,hk.1.2⟩⟩⟩))).2.1 (Kd.V_F (Kd.zjy (ok':=(fun k_=>(P0_2_ k_∨w.heap.size≤k_)∧some k_≠(.slice Ao30 t232.length co30:Value).ownBlock∧k_≠gb230∧k_≠gb231)) (HO0_2.out) (fun k_ hk=>⟨hk.1.1.1,⟨hk.2,⟨hk.1.1.2,hk.1.2⟩⟩⟩))))) (Reps.none _ _)))
   intro v239 w32 ho33 hb hg_ hnew_
   clear hg_ hnew_
   (first|rw [← Ny238.out] at ho33|(simp only [Int.reduceToNat] at ho33;rw [← Ny238.out] at ho33))
   have n0_:=zq.mk (Kd.zx9 (Kd.vu HO0_2.out) (Kd.N_base ho33) hb)
   have n1_:=zq.mk (Kd.zq4 (Kd.ru HO236.out) hb)
   have n2_:=zq.mk (Kd.N_lower ho33 (zw bw))
   have n3_:=zq.mk (ze (g:=gb230) (o:=.cells #[.string a0_0,.slice A0_1 l0_1.length c0_1,.slice A0_2 l0_2.length c0_2,.slice A0_3 l0_3.length c0_3] 61 (0,0)) (up BK230.out) hb)
   have n4_:=zq.mk (ze (g:=gb231) (o:=.cells #[.slice A2_0 l2_0.length c2_0,.slice A2_1 l2_1.length c2_1] 32 (0,0)) (up BK231.out) hb)
   have n5_:=zq.mk (zn bw hb)
   clear HO0_2
   clear HO236
   clear BK230
   clear BK231
   clear HB
   have HO0_2:=n0_
   have HO236:=n1_
   have HO240:=n2_
   have BK230:=n3_
   have BK231:=n4_
   have HB:=n5_
   clear n0_ n1_ n2_ n3_ n4_ n5_
   clear hb ho33
   obtain ⟨Ao34,co34,eo34⟩:=Kd.N_slice HO240.out
   (first|subst eo34|(injection eo34 with f1_ f2_ f3_;have f4_:=f1_.symm;have f5_:=f3_.symm;clear f1_ f2_ f3_;subst f4_;subst f5_))
   refine hK.out _ _ ⟨(zqb BK230.out 0).trans rfl,(zqb BK230.out 1).trans rfl,(zqb BK230.out 2).trans rfl,(zqb BK230.out 3).trans rfl,(zqb BK231.out 0).trans rfl,(zqb BK231.out 1).trans rfl⟩ (fun hHeld=>?_)
   clear hK K
   refine norm_ (a':=?_) ?_ ?_
   rotate_left
   ·show Act.put _ (some 31) _=_
    simp only [Act.put,List.setIfInBounds_toArray,List.set_cons_zero,List.set_cons_succ,zqp,zqq]
    rfl
   refine one_ (i:=14) (N:=some 32) #[true,true,true,true,true,true,true,true,true,true,true,true,true,true,true,false,true,true,false,false,false] rfl rfl (zvd HT_.out (by kernel_rfl)) (by decide) (fun K hK=>?_)
   refine goes_ Tryd.func58 (by kernel_rfl) rfl #[.int .i64 a1,.int .i64 0,.slice Ao30 t232.length co30,.slice Ao34 y238.length co34] (by rfl) rfl rfl gs ?_
   with_reducible refine(zqx.calls k a1 0 _ _ t232 _ _ y238 t241 t244 _ ?side1 ?side2 ?side3 ?side4 ?side5 A8.out).mono ?_
   (case side1=>exact Kd.cu (Kd.zqk HO236.out).2.2)
   (case side2=>exact(Kd.zqk HO236.out).2.1)
   (case side3=>exact Kd.cu (Kd.zvx HO240.out).2.2)
   (case side4=>exact(Kd.zvx HO240.out).2.1)
   (case side5=>exact LD.below HLD.out (by first|(with_reducible exact Below.refl _ _)|((repeat(first|(with_reducible exact Below.refl _ _)|(with_reducible apply zl)|(with_reducible apply zr)|(with_reducible apply qx)));done)|exact bw))
   rintro e w35 ⟨v242,v245,rfl,ho0,ho1,hb⟩
   refine⟨_,rfl,?_⟩
   have n0_:=zq.mk (Kd.zjy (Kd.V_told (Kd.V_told (Kd.V_old (Kd.vu HO0_2.out) hb) (Kd.zxh ho0)) (Kd.zxh ho1)) (fun _ h_=>h_.1))
   have n1_:=zq.mk (Kd.zq4 (Kd.ru HO236.out) hb)
   have n2_:=zq.mk (Kd.N_mono (Kd.N_told (Kd.N_told (Kd.N_old (Kd.nu HO240.out) hb) (Kd.zxh ho0)) (Kd.zxh ho1)) (fun _ h_=>h_.1))
   have n3_:=zq.mk (Kd.zjs (Kd.zvu (M:=fun k_=>(w.heap.size≤k_)) ho0 (zw bw) (fun k_ h_=>h_)) (zw bw))
   have n4_:=zq.mk (Kd.zjs (Kd.zvu (M:=fun k_=>(w.heap.size≤k_)) ho1 (zw bw) (fun k_ h_=>h_)) (zw bw))
   have n5_:=zq.mk (ze (g:=gb230) (o:=.cells #[.string a0_0,.slice A0_1 l0_1.length c0_1,.slice A0_2 l0_2.length c0_2,.slice A0_3 l0_3.length c0_3] 61 (0,0)) (up BK230.out) hb)
   have n6_:=zq.mk (ze (g:=gb231) (o:=.cells #[.slice A2_0 l2_0.length c2_0,.slice A2_1 l2_1.length c2_1] 32 (0,0)) (up BK231.out) hb)
   have n7_:=zq.mk (zn bw hb)
   clear HO0_2
   clear HO236
   clear HO240
   clear BK230
   clear BK231
   clear HB
   have HO0_2:=n0_
   have HO236:=n1_
   have HO240:=n2_
   have HO243:=n3_
   have HO246:=n4_
   have BK230:=n5_
   have BK231:=n6_
   have HB:=n7_
   clear n0_ n1_ n2_ n3_ n4_ n5_ n6_ n7_
   (try clear hb)
   (try clear hb2)
   (try clear hk)
   (try clear hi)
   (try clear ho0)
   (try clear ho1)
   obtain ⟨Ao36,co36,eo36⟩:=Kd.zje HO243.out
   (first|subst eo36|(injection eo36 with f1_ f2_ f3_;have f4_:=f1_.symm;have f5_:=f3_.symm;clear f1_ f2_ f3_;subst f4_;subst f5_))
   refine hK.out _ _ ⟨(zqb BK230.out 0).trans rfl,(zqb BK230.out 1).trans rfl,(zqb BK230.out 2).trans rfl,(zqb BK230.out 3).trans rfl,(zqb BK231.out 0).trans rfl,(zqb BK231.out 1).trans rfl⟩ (fun hHeld=>?_)
   clear hK K
   refine norm_ (a':=?_) ?_ ?_
   rotate_left
   ·show Act.put _ (some 32) _=_
    simp only [Act.put,List.setIfInBounds_toArray,List.set_cons_zero,List.set_cons_succ,zqp,zqq]
    rfl
   refine zjk (i:=15) (N:=some 33) (v:=?_) (a':=?_) #[true,true,true,true,true,true,true,true,true,true,true,true,true,true,true,true,true,true,false,false,false] rfl rfl (zqz HT_.out (by kernel_rfl)) (fun _ _ _ h=>h) (Or.inl ⟨by rfl,?_⟩) ?_ ?_
   rotate_left
   ·intro w'
    go_simp
    with_reducible rfl
   rotate_left
   ·simp only [Act.put,List.setIfInBounds_toArray,List.set_cons_zero,List.set_cons_succ,zqp,zqq]
    rfl
   refine one_ (i:=18) (N:=some 36) #[true,true,true,true,true,true,true,true,true,true,true,true,true,true,true,true,true,true,true,false,false] rfl rfl (zvd HT_.out (by kernel_rfl)) (by decide) (fun K hK=>?_)
   refine goes_ Tryd.func65 (by kernel_rfl) rfl #[.slice Ao36 t241.length co36,.slice A2_0 l2_0.length c2_0] (by rfl) rfl rfl gs ?_
   with_reducible refine(bytes_Equal.calls _ _ t241 _ _ l2_0 false _ ?side1 ?side2 ?side3 ?side4 A9.out).mono ?_
   (case side1=>exact Kd.cu (Kd.zqk HO243.out).2.2)
   (case side2=>exact(Kd.zqk HO243.out).2.1)
   (case side3=>exact Kd.cu (Kd.qu HR2_0.out HB.out))
   (case side4=>exact HC2_0.out)
   rintro e w' ⟨rfl,⟨nd,rfl⟩⟩
   refine⟨_,rfl,?_⟩
   refine hK.out _ _ ⟨(zqb BK230.out 0).trans rfl,(zqb BK230.out 1).trans rfl,(zqb BK230.out 2).trans rfl,(zqb BK230.out 3).trans rfl,(zqb BK231.out 0).trans rfl,(zqb BK231.out 1).trans rfl⟩ (fun hHeld=>?_)
   clear hK K
   refine norm_ (a':=?_) ?_ ?_
   rotate_left
   ·show Act.put _ (some 36) _=_
    simp only [Act.put,List.setIfInBounds_toArray,List.set_cons_zero,List.set_cons_succ,zqp,zqq]
    rfl
   refine zjk (i:=19) (N:=some 37) (v:=?_) (a':=?_) #[true,true,true,true,true,true,true,true,true,true,true,true,true,true,true,true,true,true,true,true,false] rfl rfl (zqz HT_.out (by kernel_rfl)) (fun _ _ _ h=>h) (Or.inl ⟨by rfl,?_⟩) ?_ ?_
   rotate_left
   ·intro w'
    go_simp
    with_reducible rfl
   rotate_left
   ·simp only [Act.put,List.setIfInBounds_toArray,List.set_cons_zero,List.set_cons_succ,zqp,zqq]
    rfl
   refine zjk (i:=20) (N:=some 38) (v:=?_) (a':=?_) #[true,true,true,true,true,true,true,true,true,true,true,true,true,true,true,true,true,true,true,true,true] rfl rfl (zqz HT_.out (by kernel_rfl)) (fun _ _ _ h=>h) (Or.inl ⟨by rfl,?_⟩) ?_ ?_
   rotate_left
   ·intro w'
    go_simp
    with_reducible rfl
   rotate_left
   ·simp only [Act.put,List.setIfInBounds_toArray,List.set_cons_zero,List.set_cons_succ,zqp,zqq]
    rfl
   refine done_ (done_of HT_.out (by kernel_rfl)) ?_
   try go_wp2
   go_ret2
   exact⟨_,by first|rfl|(simp [zg,zy] <;> rfl)|(simp [*,zg,zy] <;> rfl),by first|exact Kd.zxf _ _ _ _ _|exact Kd.zx4 _ _ _ _ _|exact Kd.zxl _ _ _ _ _|exact Kd.zx3 _ _ _ _ _|exact Kd.zx2 _ _ _ _ _,bw⟩
  rw [if_neg c7] at H
  have c7b0:(t237 == 0)=false:=beq_eq_false_iff_ne.mpr c7
  have c7b1:(t237 != 0)=true:=bne_iff_ne.mpr c7
  simp only [Option.some.injEq,Prod.mk.injEq] at H
  obtain ⟨rfl,rfl⟩:=H
  go_enter Tryd.func35,Tryd.ntmps35
  try go_wp2_with (first|((with_reducible refine qr (N:=3) rfl ?_);(try(refine ql (by rfl) ?_;dsimp only));refine qm ?hg (N:=3) ?hd (cs:=#[.string a0_0,.slice A0_1 l0_1.length c0_1,.slice A0_2 l0_2.length c0_2,.slice A0_3 l0_3.length c0_3]) (t:=61) ?hr ?_;(case hd=>rfl);(case hg=>rfl);(case hr=>first|(go_simp;done)|(go_simp;rfl));intro gb230 hg w37 hbox hb;replace HO0_2:=zq.mk (Kd.zjz (Kd.zj5 (Kd.vu HO0_2.out) gb230 (Nat.le_of_eq hg.symm)) hb);have BK230:=zq.mk (hbox);have GW230:=zq.mk ((by rw [hg];exact(zw bw):w.heap.size≤gb230));have GE230:=zq.mk ((by rw [hg];exact(zw bw):w.heap.size≤gb230));replace HB:=zq.mk (zn bw hb);clear hb hbox hg)|((with_reducible refine qr (N:=5) rfl ?_);(try(refine ql (by rfl) ?_;dsimp only));refine qm ?hg (N:=5) ?hd (cs:=#[.slice A2_0 l2_0.length c2_0,.slice A2_1 l2_1.length c2_1]) (t:=32) ?hr ?_;(case hd=>rfl);(case hg=>rfl);(case hr=>first|(go_simp;done)|(go_simp;rfl));intro gb231 hg w38 hbox hb;replace HO0_2:=zq.mk (Kd.zjz (Kd.zj5 (Kd.vu HO0_2.out) gb231 (Nat.le_of_eq hg.symm)) hb);have BK231:=zq.mk (hbox);have GW231:=zq.mk ((by rw [hg];exact(zw bw):w.heap.size≤gb231));have GE231:=zq.mk ((by rw [hg];exact(zw bw):w.heap.size≤gb231));replace HB:=zq.mk (zn bw hb);have NB230_231:=zq.mk ((by rw [hg];exact Nat.ne_of_lt (zq3 (g:=gb230) (o:=.cells #[.string a0_0,.slice A0_1 l0_1.length c0_1,.slice A0_2 l0_2.length c0_2,.slice A0_3 l0_3.length c0_3] 61 (0,0)) (up BK230.out)):gb230≠gb231));have NB231_230:=zq.mk ((by rw [hg];exact Nat.ne_of_gt (zq3 (g:=gb230) (o:=.cells #[.string a0_0,.slice A0_1 l0_1.length c0_1,.slice A0_2 l0_2.length c0_2,.slice A0_3 l0_3.length c0_3] 61 (0,0)) (up BK230.out)):gb231≠gb230));replace BK230:=zq.mk (ze (g:=gb230) (o:=.cells #[.string a0_0,.slice A0_1 l0_1.length c0_1,.slice A0_2 l0_2.length c0_2,.slice A0_3 l0_3.length c0_3] 61 (0,0)) (up BK230.out) hb);clear hb hbox hg;have hnb39:=NB231_230.out;have hnc39:=NB230_231.out;obtain ⟨hcz40_0,hcz40_1,hfz40_0,hfz40_1⟩:=zji BK231.out)|((with_reducible refine qh (f:=64) rfl ?_);refine zqn (some 14) rfl rfl Tryd.func64 (by kernel_rfl) rfl #[.slice A2_1 l2_1.length c2_1] rfl gs ?_;(with_reducible refine(zq2.calls k _ _ l2_1 t232 t233 t234 _ ?side1 ?side2 ?side3 A4.out).mono ?_);(case side1=>exact Kd.cu (Kd.qu HR2_1.out HB.out));(case side2=>exact HC2_1.out);(case side3=>exact LD.below HLD.out (by first|(with_reducible exact Below.refl _ _)|((repeat(first|(with_reducible exact Below.refl _ _)|(with_reducible apply zl)|(with_reducible apply zr)|(with_reducible apply qx)));done)|exact bw));rintro e w41 ⟨v235,rfl,ho0,hb⟩;refine⟨_,rfl,?_⟩;replace HO0_2:=zq.mk (Kd.zx9 (Kd.vu HO0_2.out) (Kd.zxh ho0) hb);have HO236:=zq.mk (Kd.zjs (Kd.zvu (M:=fun k_=>(w.heap.size≤k_)) ho0 (zw bw) (fun k_ h_=>h_)) (zw bw));replace BK230:=zq.mk (ze (g:=gb230) (o:=.cells #[.string a0_0,.slice A0_1 l0_1.length c0_1,.slice A0_2 l0_2.length c0_2,.slice A0_3 l0_3.length c0_3] 61 (0,0)) (up BK230.out) hb);replace BK231:=zq.mk (ze (g:=gb231) (o:=.cells #[.slice A2_0 l2_0.length c2_0,.slice A2_1 l2_1.length c2_1] 32 (0,0)) (up BK231.out) hb);replace HB:=zq.mk (zn bw hb);(try clear hb);(try clear hb2);(try clear hk);(try clear hi);(try clear ho0)))
  have n0_:=zq.mk (Kd.zwc HO0_2.out)
  have n1_:=zq.mk (Kd.zjf HO236.out)
  have n2_:=zq.mk (zk BK230.out)
  have n3_:=zq.mk (zk BK231.out)
  have n4_:=zq.mk (qx HB.out)
  clear HO0_2
  clear HO236
  clear BK230
  clear BK231
  clear HB
  have HO0_2:=n0_
  have HO236:=n1_
  have BK230:=n2_
  have BK231:=n3_
  have HB:=n4_
  clear n0_ n1_ n2_ n3_ n4_
  obtain ⟨Ao43,co43,eo43⟩:=Kd.zje HO236.out
  (first|subst eo43|(injection eo43 with f1_ f2_ f3_;have f4_:=f1_.symm;have f5_:=f3_.symm;clear f1_ f2_ f3_;subst f4_;subst f5_))
  refine start_ (n:=21) (S:=fun w'=>w'.cell? ⟨gb230,0,none⟩=some (.string a0_0)∧w'.cell? ⟨gb230,1,none⟩=some (.slice A0_1 l0_1.length c0_1)∧w'.cell? ⟨gb230,2,none⟩=some (.slice A0_2 l0_2.length c0_2)∧w'.cell? ⟨gb230,3,none⟩=some (.slice A0_3 l0_3.length c0_3)) (ds := []) #[false,false,false,false,false,false,false,false,false,false,false,false,false,false,false,false,false,false,false,false,false] (by kernel_rfl) rfl rfl ⟨(zqb BK230.out 0).trans rfl,(zqb BK230.out 1).trans rfl,(zqb BK230.out 2).trans rfl,(zqb BK230.out 3).trans rfl⟩ (fun hHeld=>?_);refine zk8 zjg.tab2 zjg.bits2 (fun HT_ HW_=>?_)
  generalize w41.drew=w42 at HO0_2 HO236 BK230 BK231 HB hHeld ⊢
  refine zjk (i:=0) (N:=some 18) (v:=?_) (a':=?_) #[true,false,false,false,false,false,false,false,false,false,false,false,false,false,false,false,false,false,false,false,false] rfl rfl (zqz HT_.out (by kernel_rfl)) (fun _ _ _ h=>h) (Or.inl ⟨by rfl,?_⟩) ?_ ?_
  rotate_left
  ·intro w'
   go_simp
   with_reducible rfl
  rotate_left
  ·simp only [Act.put,List.setIfInBounds_toArray,List.set_cons_zero,List.set_cons_succ,zqp,zqq]
   rfl
  refine zjk (i:=1) (N:=some 19) (v:=?_) (a':=?_) #[true,true,false,false,false,false,false,false,false,false,false,false,false,false,false,false,false,false,false,false,false] rfl rfl (zqz HT_.out (by kernel_rfl)) (fun _ _ _ h=>h) (Or.inl ⟨by rfl,?_⟩) ?_ ?_
  rotate_left
  ·intro w'
   go_simp
   with_reducible rfl
  rotate_left
  ·simp only [Act.put,List.setIfInBounds_toArray,List.set_cons_zero,List.set_cons_succ,zqp,zqq]
   rfl
  refine zjk (i:=2) (N:=some 20) (v:=?_) (a':=?_) #[true,true,true,false,false,false,false,false,false,false,false,false,false,false,false,false,false,false,false,false,false] rfl rfl (zqz HT_.out (by kernel_rfl)) (fun _ _ _ h=>h) (Or.inl ⟨by rfl,?_⟩) ?_ ?_
  rotate_left
  ·intro w'
   go_simp
   with_reducible rfl
  rotate_left
  ·simp only [Act.put,List.setIfInBounds_toArray,List.set_cons_zero,List.set_cons_succ,zqp,zqq]
   rfl
  refine zjk (i:=4) (N:=some 22) (v:=?_) (a':=?_) #[true,true,true,false,true,false,false,false,false,false,false,false,false,false,false,false,false,false,false,false,false] rfl rfl (zqz HT_.out (by kernel_rfl)) (fun _ _ _ h=>h) (Or.inl ⟨by rfl,?_⟩) ?_ ?_
  rotate_left
  ·intro w'
   go_simp
   with_reducible rfl
  rotate_left
  ·simp only [Act.put,List.setIfInBounds_toArray,List.set_cons_zero,List.set_cons_succ,zqp,zqq]
   rfl
  refine take_ (i:=3) (N:=some 21) (v:=?_) (a':=?_) #[true,true,true,true,true,false,false,false,false,false,false,false,false,false,false,false,false,false,false,false,false] rfl rfl (zkl HT_.out HW_.out (by kernel_rfl)) (fun _ _ _ h=>h) (Or.inl ⟨by rfl,?_⟩) hHeld ?_ ?_
  rotate_left
  ·rintro w' ⟨s0,s1,s2,s3⟩
   go_simp
   with_reducible rfl
  rotate_left
  ·simp only [Act.put,List.setIfInBounds_toArray,List.set_cons_zero,List.set_cons_succ,zqp,zqq]
   rfl
  refine one_ (i:=5) (N:=some 23) #[true,true,true,true,true,true,false,false,false,false,false,false,false,false,false,false,false,false,false,false,false] rfl rfl (zvd HT_.out (by kernel_rfl)) (by decide) (fun K hK=>?_)
  refine goes_ Tryd.func29 (by kernel_rfl) rfl #[.agg #[.string a0_0,.slice A0_1 l0_1.length c0_1,.slice A0_2 l0_2.length c0_2,.slice A0_3 l0_3.length c0_3],.slice Ao43 t232.length co43] (by rfl) rfl rfl gs ?_
  with_reducible refine(zqr.calls k a0_0 _ _ l0_1 _ _ l0_2 _ _ l0_3 _ _ t232 t237 _ ?side1 ?side2 ?side3 ?side4 ?side5 ?side6 ?side7 ?side8 ?side9 A6.out).mono ?_
  (case side1=>exact Kd.cu (Kd.qu HR0_1.out HB.out))
  (case side2=>exact HC0_1.out)
  (case side3=>exact Kd.cu (Kd.zjt HO0_2.out).2.2)
  (case side4=>exact(Kd.zjt HO0_2.out).2.1)
  (case side5=>exact Kd.cu (Kd.qu HR0_3.out HB.out))
  (case side6=>exact HC0_3.out)
  (case side7=>exact Kd.cu (Kd.zqk HO236.out).2.2)
  (case side8=>exact(Kd.zqk HO236.out).2.1)
  (case side9=>exact LD.below HLD.out (by first|(with_reducible exact Below.refl _ _)|((repeat(first|(with_reducible exact Below.refl _ _)|(with_reducible apply zl)|(with_reducible apply zr)|(with_reducible apply qx)));done)|exact bw))
  rintro e w44 ⟨rfl,hb⟩
  refine⟨_,rfl,?_⟩
  have n0_:=zq.mk (Kd.zjz (Kd.vu HO0_2.out) hb)
  have n1_:=zq.mk (Kd.zq4 (Kd.ru HO236.out) hb)
  have n2_:=zq.mk (ze (g:=gb230) (o:=.cells #[.string a0_0,.slice A0_1 l0_1.length c0_1,.slice A0_2 l0_2.length c0_2,.slice A0_3 l0_3.length c0_3] 61 (0,0)) (up BK230.out) hb)
  have n3_:=zq.mk (ze (g:=gb231) (o:=.cells #[.slice A2_0 l2_0.length c2_0,.slice A2_1 l2_1.length c2_1] 32 (0,0)) (up BK231.out) hb)
  have n4_:=zq.mk (zn bw hb)
  clear HO0_2
  clear HO236
  clear BK230
  clear BK231
  clear HB
  have HO0_2:=n0_
  have HO236:=n1_
  have BK230:=n2_
  have BK231:=n3_
  have HB:=n4_
  clear n0_ n1_ n2_ n3_ n4_
  (try clear hb)
  (try clear hb2)
  (try clear hk)
  (try clear hi)
  refine hK.out _ _ ⟨(zqb BK230.out 0).trans rfl,(zqb BK230.out 1).trans rfl,(zqb BK230.out 2).trans rfl,(zqb BK230.out 3).trans rfl⟩ (fun hHeld=>?_)
  clear hK K
  refine norm_ (a':=?_) ?_ ?_
  rotate_left
  ·show Act.put _ (some 23) _=_
   simp only [Act.put,List.setIfInBounds_toArray,List.set_cons_zero,List.set_cons_succ,zqp,zqq]
   rfl
  refine zjk (i:=6) (N:=some 24) (v:=?_) (a':=?_) #[true,true,true,true,true,true,true,false,false,false,false,false,false,false,false,false,false,false,false,false,false] rfl rfl (zqz HT_.out (by kernel_rfl)) (fun _ _ _ h=>h) (Or.inl ⟨by rfl,?_⟩) ?_ ?_
  rotate_left
  ·intro w'
   go_simp
   with_reducible rfl
  rotate_left
  ·simp only [Act.put,List.setIfInBounds_toArray,List.set_cons_zero,List.set_cons_succ,zqp,zqq]
   rfl
  refine zjk (i:=7) (N:=some 25) (v:=?_) (a':=?_) #[true,true,true,true,true,true,true,true,false,false,false,false,false,false,false,false,false,false,false,false,false] rfl rfl (zqz HT_.out (by kernel_rfl)) (fun _ _ _ h=>h) (Or.inl ⟨by rfl,?_⟩) ?_ ?_
  rotate_left
  ·intro w'
   go_simp
   with_reducible rfl
  rotate_left
  ·simp only [Act.put,List.setIfInBounds_toArray,List.set_cons_zero,List.set_cons_succ,zqp,zqq]
   rfl
  refine zjk (i:=8) (N:=some 26) (v:=?_) (a':=?_) #[true,true,true,true,true,true,true,true,true,false,false,false,false,false,false,false,false,false,false,false,false] rfl rfl (zqz HT_.out (by kernel_rfl)) (fun _ _ _ h=>h) (Or.inl ⟨by rfl,?_⟩) ?_ ?_
  rotate_left
  ·intro w'
   go_simp
   with_reducible rfl
  rotate_left
  ·simp only [Act.put,List.setIfInBounds_toArray,List.set_cons_zero,List.set_cons_succ,zqp,zqq]
   rfl
  refine zjk (i:=9) (N:=some 27) (v:=undef) (a':=?_) #[true,true,true,true,true,true,true,true,true,true,false,false,false,false,false,false,false,false,false,false,false] rfl rfl (zqz HT_.out (by kernel_rfl)) (fun _ _ _ h=>h) (Or.inr ⟨by rfl,rfl⟩) ?_ ?_
  rotate_left
  ·simp only [Act.put,List.setIfInBounds_toArray,List.set_cons_zero,List.set_cons_succ,zqp,zqq]
   rfl
  refine zjk (i:=10) (N:=some 28) (v:=undef) (a':=?_) #[true,true,true,true,true,true,true,true,true,true,true,false,false,false,false,false,false,false,false,false,false] rfl rfl (zqz HT_.out (by kernel_rfl)) (fun _ _ _ h=>h) (Or.inr ⟨by rfl,rfl⟩) ?_ ?_
  rotate_left
  ·simp only [Act.put,List.setIfInBounds_toArray,List.set_cons_zero,List.set_cons_succ,zqp,zqq]
   rfl
  refine zjk (i:=11) (N:=some 29) (v:=undef) (a':=?_) #[true,true,true,true,true,true,true,true,true,true,true,true,false,false,false,false,false,false,false,false,false] rfl rfl (zqz HT_.out (by kernel_rfl)) (fun _ _ _ h=>h) (Or.inr ⟨by rfl,rfl⟩) ?_ ?_
  rotate_left
  ·simp only [Act.put,List.setIfInBounds_toArray,List.set_cons_zero,List.set_cons_succ,zqp,zqq]
   rfl
  refine zjk (i:=12) (N:=some 30) (v:=undef) (a':=?_) #[true,true,true,true,true,true,true,true,true,true,true,true,true,false,false,false,false,false,false,false,false] rfl rfl (zqz HT_.out (by kernel_rfl)) (fun _ _ _ h=>h) (Or.inr ⟨by rfl,rfl⟩) ?_ ?_
  rotate_left
  ·simp only [Act.put,List.setIfInBounds_toArray,List.set_cons_zero,List.set_cons_succ,zqp,zqq]
   rfl
  refine zjk (i:=13) (N:=some 31) (v:=undef) (a':=?_) #[true,true,true,true,true,true,true,true,true,true,true,true,true,true,false,false,false,false,false,false,false] rfl rfl (zqz HT_.out (by kernel_rfl)) (fun _ _ _ h=>h) (Or.inr ⟨by rfl,rfl⟩) ?_ ?_
  rotate_left
  ·simp only [Act.put,List.setIfInBounds_toArray,List.set_cons_zero,List.set_cons_succ,zqp,zqq]
   rfl
  refine zjk (i:=14) (N:=some 32) (v:=undef) (a':=?_) #[true,true,true,true,true,true,true,true,true,true,true,true,true,true,true,false,false,false,false,false,false] rfl rfl (zqz HT_.out (by kernel_rfl)) (fun _ _ _ h=>h) (Or.inr ⟨by rfl,rfl⟩) ?_ ?_
  rotate_left
  ·simp only [Act.put,List.setIfInBounds_toArray,List.set_cons_zero,List.set_cons_succ,zqp,zqq]
   rfl
  refine zjk (i:=15) (N:=some 33) (v:=undef) (a':=?_) #[true,true,true,true,true,true,true,true,true,true,true,true,true,true,true,true,false,false,false,false,false] rfl rfl (zqz HT_.out (by kernel_rfl)) (fun _ _ _ h=>h) (Or.inr ⟨by rfl,rfl⟩) ?_ ?_
  rotate_left
  ·simp only [Act.put,List.setIfInBounds_toArray,List.set_cons_zero,List.set_cons_succ,zqp,zqq]
   rfl
  refine zjk (i:=16) (N:=some 34) (v:=undef) (a':=?_) #[true,true,true,true,true,true,true,true,true,true,true,true,true,true,true,true,true,false,false,false,false] rfl rfl (zqz HT_.out (by kernel_rfl)) (fun _ _ _ h=>h) (Or.inr ⟨by rfl,rfl⟩) ?_ ?_
  rotate_left
  ·simp only [Act.put,List.setIfInBounds_toArray,List.set_cons_zero,List.set_cons_succ,zqp,zqq]
   rfl
  refine zjk (i:=17) (N:=some 35) (v:=undef) (a':=?_) #[true,true,true,true,true,true,true,true,true,true,true,true,true,true,true,true,true,true,false,false,false] rfl rfl (zqz HT_.out (by kernel_rfl)) (fun _ _ _ h=>h) (Or.inr ⟨by rfl,rfl⟩) ?_ ?_
  rotate_left
  ·simp only [Act.put,List.setIfInBounds_toArray,List.set_cons_zero,List.set_cons_succ,zqp,zqq]
   rfl
  refine zjk (i:=18) (N:=some 36) (v:=undef) (a':=?_) #[true,true,true,true,true,true,true,true,true,true,true,true,true,true,true,true,true,true,true,false,false] rfl rfl (zqz HT_.out (by kernel_rfl)) (fun _ _ _ h=>h) (Or.inr ⟨by rfl,rfl⟩) ?_ ?_
  rotate_left
  ·simp only [Act.put,List.setIfInBounds_toArray,List.set_cons_zero,List.set_cons_succ,zqp,zqq]
   rfl
  refine zjk (i:=19) (N:=some 37) (v:=undef) (a':=?_) #[true,true,true,true,true,true,true,true,true,true,true,true,true,true,true,true,true,true,true,true,false] rfl rfl (zqz HT_.out (by kernel_rfl)) (fun _ _ _ h=>h) (Or.inr ⟨by rfl,rfl⟩) ?_ ?_
  rotate_left
  ·simp only [Act.put,List.setIfInBounds_toArray,List.set_cons_zero,List.set_cons_succ,zqp,zqq]
   rfl
  refine zjk (i:=20) (N:=some 38) (v:=?_) (a':=?_) #[true,true,true,true,true,true,true,true,true,true,true,true,true,true,true,true,true,true,true,true,true] rfl rfl (zqz HT_.out (by kernel_rfl)) (fun _ _ _ h=>h) (Or.inl ⟨by rfl,?_⟩) ?_ ?_
  rotate_left
  ·intro w'
   go_simp
   with_reducible rfl
  rotate_left
  ·simp only [Act.put,List.setIfInBounds_toArray,List.set_cons_zero,List.set_cons_succ,zqp,zqq]
   rfl
  refine done_ (done_of HT_.out (by kernel_rfl)) ?_
  try go_wp2
  go_ret2
  exact⟨_,by first|rfl|(simp [zg,zy] <;> rfl)|(simp [*,zg,zy] <;> rfl),by first|exact Kd.zxf _ _ _ _ _|exact Kd.zx4 _ _ _ _ _|exact Kd.zxl _ _ _ _ _|exact Kd.zx3 _ _ _ _ _|exact Kd.zx2 _ _ _ _ _,bw⟩
 rw [if_neg c5] at H
 have c5b0:(t234 == 0)=false:=beq_eq_false_iff_ne.mpr c5
 have c5b1:(t234 != 0)=true:=bne_iff_ne.mpr c5
 simp only [Option.some.injEq,Prod.mk.injEq] at H
 obtain ⟨rfl,rfl⟩:=H
 go_enter Tryd.func35,Tryd.ntmps35
 try go_wp2_with (first|((with_reducible refine qr (N:=3) rfl ?_);(try(refine ql (by rfl) ?_;dsimp only));refine qm ?hg (N:=3) ?hd (cs:=#[.string a0_0,.slice A0_1 l0_1.length c0_1,.slice A0_2 l0_2.length c0_2,.slice A0_3 l0_3.length c0_3]) (t:=61) ?hr ?_;(case hd=>rfl);(case hg=>rfl);(case hr=>first|(go_simp;done)|(go_simp;rfl));intro gb230 hg w45 hbox hb;replace HO0_2:=zq.mk (Kd.zjz (Kd.zj5 (Kd.vu HO0_2.out) gb230 (Nat.le_of_eq hg.symm)) hb);have BK230:=zq.mk (hbox);have GW230:=zq.mk ((by rw [hg];exact(zw bw):w.heap.size≤gb230));have GE230:=zq.mk ((by rw [hg];exact(zw bw):w.heap.size≤gb230));replace HB:=zq.mk (zn bw hb);clear hb hbox hg)|((with_reducible refine qr (N:=5) rfl ?_);(try(refine ql (by rfl) ?_;dsimp only));refine qm ?hg (N:=5) ?hd (cs:=#[.slice A2_0 l2_0.length c2_0,.slice A2_1 l2_1.length c2_1]) (t:=32) ?hr ?_;(case hd=>rfl);(case hg=>rfl);(case hr=>first|(go_simp;done)|(go_simp;rfl));intro gb231 hg w46 hbox hb;replace HO0_2:=zq.mk (Kd.zjz (Kd.zj5 (Kd.vu HO0_2.out) gb231 (Nat.le_of_eq hg.symm)) hb);have BK231:=zq.mk (hbox);have GW231:=zq.mk ((by rw [hg];exact(zw bw):w.heap.size≤gb231));have GE231:=zq.mk ((by rw [hg];exact(zw bw):w.heap.size≤gb231));replace HB:=zq.mk (zn bw hb);have NB230_231:=zq.mk ((by rw [hg];exact Nat.ne_of_lt (zq3 (g:=gb230) (o:=.cells #[.string a0_0,.slice A0_1 l0_1.length c0_1,.slice A0_2 l0_2.length c0_2,.slice A0_3 l0_3.length c0_3] 61 (0,0)) (up BK230.out)):gb230≠gb231));have NB231_230:=zq.mk ((by rw [hg];exact Nat.ne_of_gt (zq3 (g:=gb230) (o:=.cells #[.string a0_0,.slice A0_1 l0_1.length c0_1,.slice A0_2 l0_2.length c0_2,.slice A0_3 l0_3.length c0_3] 61 (0,0)) (up BK230.out)):gb231≠gb230));replace BK230:=zq.mk (ze (g:=gb230) (o:=.cells #[.string a0_0,.slice A0_1 l0_1.length c0_1,.slice A0_2 l0_2.length c0_2,.slice A0_3 l0_3.length c0_3] 61 (0,0)) (up BK230.out) hb);clear hb hbox hg;have hnb47:=NB231_230.out;have hnc47:=NB230_231.out;obtain ⟨hcz48_0,hcz48_1,hfz48_0,hfz48_1⟩:=zji BK231.out)|((with_reducible refine qh (f:=64) rfl ?_);refine zqn (some 14) rfl rfl Tryd.func64 (by kernel_rfl) rfl #[.slice A2_1 l2_1.length c2_1] rfl gs ?_;(with_reducible refine(zq2.calls k _ _ l2_1 t232 t233 t234 _ ?side1 ?side2 ?side3 A4.out).mono ?_);(case side1=>exact Kd.cu (Kd.qu HR2_1.out HB.out));(case side2=>exact HC2_1.out);(case side3=>exact LD.below HLD.out (by first|(with_reducible exact Below.refl _ _)|((repeat(first|(with_reducible exact Below.refl _ _)|(with_reducible apply zl)|(with_reducible apply zr)|(with_reducible apply qx)));done)|exact bw));rintro e w49 ⟨v235,rfl,ho0,hb⟩;refine⟨_,rfl,?_⟩;replace HO0_2:=zq.mk (Kd.zx9 (Kd.vu HO0_2.out) (Kd.zxh ho0) hb);have HO236:=zq.mk (Kd.zjs (Kd.zvu (M:=fun k_=>(w.heap.size≤k_)) ho0 (zw bw) (fun k_ h_=>h_)) (zw bw));replace BK230:=zq.mk (ze (g:=gb230) (o:=.cells #[.string a0_0,.slice A0_1 l0_1.length c0_1,.slice A0_2 l0_2.length c0_2,.slice A0_3 l0_3.length c0_3] 61 (0,0)) (up BK230.out) hb);replace BK231:=zq.mk (ze (g:=gb231) (o:=.cells #[.slice A2_0 l2_0.length c2_0,.slice A2_1 l2_1.length c2_1] 32 (0,0)) (up BK231.out) hb);replace HB:=zq.mk (zn bw hb);(try clear hb);(try clear hb2);(try clear hk);(try clear hi);(try clear ho0)))
 have n0_:=zq.mk (Kd.zwc HO0_2.out)
 have n1_:=zq.mk (Kd.zjf HO236.out)
 have n2_:=zq.mk (zk BK230.out)
 have n3_:=zq.mk (zk BK231.out)
 have n4_:=zq.mk (qx HB.out)
 clear HO0_2
 clear HO236
 clear BK230
 clear BK231
 clear HB
 have HO0_2:=n0_
 have HO236:=n1_
 have BK230:=n2_
 have BK231:=n3_
 have HB:=n4_
 clear n0_ n1_ n2_ n3_ n4_
 refine start_ (n:=21) (S:=fun w'=>True) (ds := []) #[false,false,false,false,false,false,false,false,false,false,false,false,false,false,false,false,false,false,false,false,false] (by kernel_rfl) rfl rfl trivial (fun hHeld=>?_);refine zk8 zjg.tab2 zjg.bits2 (fun HT_ HW_=>?_)
 generalize w49.drew=w50 at HO0_2 HO236 BK230 BK231 HB hHeld ⊢
 refine zjk (i:=0) (N:=some 18) (v:=?_) (a':=?_) #[true,false,false,false,false,false,false,false,false,false,false,false,false,false,false,false,false,false,false,false,false] rfl rfl (zqz HT_.out (by kernel_rfl)) (fun _ _ _ h=>h) (Or.inl ⟨by rfl,?_⟩) ?_ ?_
 rotate_left
 ·intro w'
  go_simp
  with_reducible rfl
 rotate_left
 ·simp only [Act.put,List.setIfInBounds_toArray,List.set_cons_zero,List.set_cons_succ,zqp,zqq]
  rfl
 refine zjk (i:=1) (N:=some 19) (v:=?_) (a':=?_) #[true,true,false,false,false,false,false,false,false,false,false,false,false,false,false,false,false,false,false,false,false] rfl rfl (zqz HT_.out (by kernel_rfl)) (fun _ _ _ h=>h) (Or.inl ⟨by rfl,?_⟩) ?_ ?_
 rotate_left
 ·intro w'
  go_simp
  with_reducible rfl
 rotate_left
 ·simp only [Act.put,List.setIfInBounds_toArray,List.set_cons_zero,List.set_cons_succ,zqp,zqq]
  rfl
 refine zjk (i:=2) (N:=some 20) (v:=?_) (a':=?_) #[true,true,true,false,false,false,false,false,false,false,false,false,false,false,false,false,false,false,false,false,false] rfl rfl (zqz HT_.out (by kernel_rfl)) (fun _ _ _ h=>h) (Or.inl ⟨by rfl,?_⟩) ?_ ?_
 rotate_left
 ·intro w'
  go_simp
  with_reducible rfl
 rotate_left
 ·simp only [Act.put,List.setIfInBounds_toArray,List.set_cons_zero,List.set_cons_succ,zqp,zqq]
  rfl
 refine zjk (i:=3) (N:=some 21) (v:=undef) (a':=?_) #[true,true,true,true,false,false,false,false,false,false,false,false,false,false,false,false,false,false,false,false,false] rfl rfl (zqz HT_.out (by kernel_rfl)) (fun _ _ _ h=>h) (Or.inr ⟨by rfl,rfl⟩) ?_ ?_
 rotate_left
 ·simp only [Act.put,List.setIfInBounds_toArray,List.set_cons_zero,List.set_cons_succ,zqp,zqq]
  rfl
 refine zjk (i:=4) (N:=some 22) (v:=undef) (a':=?_) #[true,true,true,true,true,false,false,false,false,false,false,false,false,false,false,false,false,false,false,false,false] rfl rfl (zqz HT_.out (by kernel_rfl)) (fun _ _ _ h=>h) (Or.inr ⟨by rfl,rfl⟩) ?_ ?_
 rotate_left
 ·simp only [Act.put,List.setIfInBounds_toArray,List.set_cons_zero,List.set_cons_succ,zqp,zqq]
  rfl
 refine zjk (i:=5) (N:=some 23) (v:=undef) (a':=?_) #[true,true,true,true,true,true,false,false,false,false,false,false,false,false,false,false,false,false,false,false,false] rfl rfl (zqz HT_.out (by kernel_rfl)) (fun _ _ _ h=>h) (Or.inr ⟨by rfl,rfl⟩) ?_ ?_
 rotate_left
 ·simp only [Act.put,List.setIfInBounds_toArray,List.set_cons_zero,List.set_cons_succ,zqp,zqq]
  rfl
 refine zjk (i:=6) (N:=some 24) (v:=undef) (a':=?_) #[true,true,true,true,true,true,true,false,false,false,false,false,false,false,false,false,false,false,false,false,false] rfl rfl (zqz HT_.out (by kernel_rfl)) (fun _ _ _ h=>h) (Or.inr ⟨by rfl,rfl⟩) ?_ ?_
 rotate_left
 ·simp only [Act.put,List.setIfInBounds_toArray,List.set_cons_zero,List.set_cons_succ,zqp,zqq]
  rfl
 refine zjk (i:=7) (N:=some 25) (v:=?_) (a':=?_) #[true,true,true,true,true,true,true,true,false,false,false,false,false,false,false,false,false,false,false,false,false] rfl rfl (zqz HT_.out (by kernel_rfl)) (fun _ _ _ h=>h) (Or.inl ⟨by rfl,?_⟩) ?_ ?_
 rotate_left
 ·intro w'
  go_simp
  with_reducible rfl
 rotate_left
 ·simp only [Act.put,List.setIfInBounds_toArray,List.set_cons_zero,List.set_cons_succ,zqp,zqq]
  rfl
 refine zjk (i:=8) (N:=some 26) (v:=?_) (a':=?_) #[true,true,true,true,true,true,true,true,true,false,false,false,false,false,false,false,false,false,false,false,false] rfl rfl (zqz HT_.out (by kernel_rfl)) (fun _ _ _ h=>h) (Or.inl ⟨by rfl,?_⟩) ?_ ?_
 rotate_left
 ·intro w'
  go_simp
  with_reducible rfl
 rotate_left
 ·simp only [Act.put,List.setIfInBounds_toArray,List.set_cons_zero,List.set_cons_succ,zqp,zqq]
  rfl
 refine zjk (i:=9) (N:=some 27) (v:=undef) (a':=?_) #[true,true,true,true,true,true,true,true,true,true,false,false,false,false,false,false,false,false,false,false,false] rfl rfl (zqz HT_.out (by kernel_rfl)) (fun _ _ _ h=>h) (Or.inr ⟨by rfl,rfl⟩) ?_ ?_
 rotate_left
 ·simp only [Act.put,List.setIfInBounds_toArray,List.set_cons_zero,List.set_cons_succ,zqp,zqq]
  rfl
 refine zjk (i:=10) (N:=some 28) (v:=undef) (a':=?_) #[true,true,true,true,true,true,true,true,true,true,true,false,false,false,false,false,false,false,false,false,false] rfl rfl (zqz HT_.out (by kernel_rfl)) (fun _ _ _ h=>h) (Or.inr ⟨by rfl,rfl⟩) ?_ ?_
 rotate_left
 ·simp only [Act.put,List.setIfInBounds_toArray,List.set_cons_zero,List.set_cons_succ,zqp,zqq]
  rfl
 refine zjk (i:=11) (N:=some 29) (v:=undef) (a':=?_) #[true,true,true,true,true,true,true,true,true,true,true,true,false,false,false,false,false,false,false,false,false] rfl rfl (zqz HT_.out (by kernel_rfl)) (fun _ _ _ h=>h) (Or.inr ⟨by rfl,rfl⟩) ?_ ?_
 rotate_left
 ·simp only [Act.put,List.setIfInBounds_toArray,List.set_cons_zero,List.set_cons_succ,zqp,zqq]
  rfl
 refine zjk (i:=12) (N:=some 30) (v:=undef) (a':=?_) #[true,true,true,true,true,true,true,true,true,true,true,true,true,false,false,false,false,false,false,false,false] rfl rfl (zqz HT_.out (by kernel_rfl)) (fun _ _ _ h=>h) (Or.inr ⟨by rfl,rfl⟩) ?_ ?_
 rotate_left
 ·simp only [Act.put,List.setIfInBounds_toArray,List.set_cons_zero,List.set_cons_succ,zqp,zqq]
  rfl
 refine zjk (i:=13) (N:=some 31) (v:=undef) (a':=?_) #[true,true,true,true,true,true,true,true,true,true,true,true,true,true,false,false,false,false,false,false,false] rfl rfl (zqz HT_.out (by kernel_rfl)) (fun _ _ _ h=>h) (Or.inr ⟨by rfl,rfl⟩) ?_ ?_
 rotate_left
 ·simp only [Act.put,List.setIfInBounds_toArray,List.set_cons_zero,List.set_cons_succ,zqp,zqq]
  rfl
 refine zjk (i:=14) (N:=some 32) (v:=undef) (a':=?_) #[true,true,true,true,true,true,true,true,true,true,true,true,true,true,true,false,false,false,false,false,false] rfl rfl (zqz HT_.out (by kernel_rfl)) (fun _ _ _ h=>h) (Or.inr ⟨by rfl,rfl⟩) ?_ ?_
 rotate_left
 ·simp only [Act.put,List.setIfInBounds_toArray,List.set_cons_zero,List.set_cons_succ,zqp,zqq]
  rfl
 refine zjk (i:=15) (N:=some 33) (v:=undef) (a':=?_) #[true,true,true,true,true,true,true,true,true,true,true,true,true,true,true,true,false,false,false,false,false] rfl rfl (zqz HT_.out (by kernel_rfl)) (fun _ _ _ h=>h) (Or.inr ⟨by rfl,rfl⟩) ?_ ?_
 rotate_left
 ·simp only [Act.put,List.setIfInBounds_toArray,List.set_cons_zero,List.set_cons_succ,zqp,zqq]
  rfl
 refine zjk (i:=16) (N:=some 34) (v:=undef) (a':=?_) #[true,true,true,true,true,true,true,true,true,true,true,true,true,true,true,true,true,false,false,false,false] rfl rfl (zqz HT_.out (by kernel_rfl)) (fun _ _ _ h=>h) (Or.inr ⟨by rfl,rfl⟩) ?_ ?_
 rotate_left
 ·simp only [Act.put,List.setIfInBounds_toArray,List.set_cons_zero,List.set_cons_succ,zqp,zqq]
  rfl
 refine zjk (i:=17) (N:=some 35) (v:=undef) (a':=?_) #[true,true,true,true,true,true,true,true,true,true,true,true,true,true,true,true,true,true,false,false,false] rfl rfl (zqz HT_.out (by kernel_rfl)) (fun _ _ _ h=>h) (Or.inr ⟨by rfl,rfl⟩) ?_ ?_
 rotate_left
 ·simp only [Act.put,List.setIfInBounds_toArray,List.set_cons_zero,List.set_cons_succ,zqp,zqq]
  rfl
 refine zjk (i:=18) (N:=some 36) (v:=undef) (a':=?_) #[true,true,true,true,true,true,true,true,true,true,true,true,true,true,true,true,true,true,true,false,false] rfl rfl (zqz HT_.out (by kernel_rfl)) (fun _ _ _ h=>h) (Or.inr ⟨by rfl,rfl⟩) ?_ ?_
 rotate_left
 ·simp only [Act.put,List.setIfInBounds_toArray,List.set_cons_zero,List.set_cons_succ,zqp,zqq]
  rfl
 refine zjk (i:=19) (N:=some 37) (v:=undef) (a':=?_) #[true,true,true,true,true,true,true,true,true,true,true,true,true,true,true,true,true,true,true,true,false] rfl rfl (zqz HT_.out (by kernel_rfl)) (fun _ _ _ h=>h) (Or.inr ⟨by rfl,rfl⟩) ?_ ?_
 rotate_left
 ·simp only [Act.put,List.setIfInBounds_toArray,List.set_cons_zero,List.set_cons_succ,zqp,zqq]
  rfl
 refine zjk (i:=20) (N:=some 38) (v:=?_) (a':=?_) #[true,true,true,true,true,true,true,true,true,true,true,true,true,true,true,true,true,true,true,true,true] rfl rfl (zqz HT_.out (by kernel_rfl)) (fun _ _ _ h=>h) (Or.inl ⟨by rfl,?_⟩) ?_ ?_
 rotate_left
 ·intro w'
  go_simp
  with_reducible rfl
 rotate_left
 ·simp only [Act.put,List.setIfInBounds_toArray,List.set_cons_zero,List.set_cons_succ,zqp,zqq]
  rfl
 refine done_ (done_of HT_.out (by kernel_rfl)) ?_
 try go_wp2
 go_ret2
 exact⟨_,by first|rfl|(simp [zg,zy] <;> rfl)|(simp [*,zg,zy] <;> rfl),by first|exact Kd.zxf _ _ _ _ _|exact Kd.zx4 _ _ _ _ _|exact Kd.zxl _ _ _ _ _|exact Kd.zx3 _ _ _ _ _|exact Kd.zx2 _ _ _ _ _,bw⟩

end Go.Proofs.YthhejedfjgikdaaDoor.PRowReads
