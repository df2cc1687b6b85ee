-- Written by wip/pp of this repo (over the kit's print, with additions of this session); Lean checks every line.
import Derived.Test.YthhejedfjgikdaaDoorPRowEntriesx8
import Derived.Test.YthhejedfjgikdaaDoorPRowEntriesx15
import Derived.Test.YthhejedfjgikdaaDoorPRowEntriesx19
namespace Go.Proofs.YthhejedfjgikdaaDoor.PRowEntries
open Go.RowKit Go.Proofs.YthhejedfjgikdaaDoorW.PrintWords Go.Proofs.YthhejedfjgikdaaDoorW.PrintLast Go.Proofs.YthhejedfjgikdaaDoorW.PrintMore
attribute [local go_sem] zxq zxo zx0 zxz zxg zxf zxp zxn   -- for this text's walks alone
set_option linter.unusedVariables false
set_option linter.unusedSimpArgs false

/-! ### zjr: function 11 -/
def zjr.j0:Nat→List (S61)→Int→List (S38)→Bool→Option ((List (S32)) × Int)
 | 0,_,_,_,_=>none
 | k+1,x0,x1,x2,x19=>if x19=true then(some (([]:List (S32)),2)) else (if 0≤x1 then(if x1<(x0.length:Int) then((zjl.f k ((zqo x0 x1).f0) ((zqo x0 x1).f1) ((zqo x0 x1).f2) ((zqo x0 x1).f3) x2).bind fun t285=>(if t285=0 then((zjg.f k x0 x1 x2).bind fun t286=>(some (t286,0))) else (some (([]:List (S32)),t285)))) else (none)) else (none))
def zjr.f (k:Nat) (l0:List (S61)) (a1:Int) (l2:List (S38)):Option ((List (S32)) × Int):=(zjk.f k l0).bind fun t283=>(if t283=true then(if a1<0 then(zjr.j0 k l0 a1 l2 true) else (zjr.j0 k l0 a1 l2 (decide (a1 ≥ (l0.length:Int))))) else (some (([]:List (S32)),4)))
theorem zjr.mono_l:∀ k,(∀ y0 y1 y2 y3,LeO (zjr.j0 k y0 y1 y2 y3) (zjr.j0 (k+1) y0 y1 y2 y3))
 | 0=>fun _ _ _ _ r h=>by simp [zjr.j0] at h
 | k+1=>by
  have ih0:=zjr.mono_l k
  ·intro y0 y1 y2 y3
   unfold zjr.j0
   repeat' first
   | (with_reducible first|exact ih0 _ _ _ _|exact zjk.mono _ _|exact zjl.mono _ _ _ _ _ _|exact zjg.mono _ _ _ _|exact LeO.refl _|exact LeO.none _|refine LeO.ite ?_ ?_|refine LeO.bind ?_ (fun _=>?_))
   | exact ih0 _ _ _ _
   | exact zjk.mono _ _
   | exact zjl.mono _ _ _ _ _ _
   | exact zjg.mono _ _ _ _
   | exact LeO.none _
   | refine LeO.ite ?_ ?_
   | refine LeO.bind ?_ (fun _=>?_)
theorem zjr.mono:∀ a0 a1 a2 k,LeO (zjr.f k a0 a1 a2) (zjr.f (k+1) a0 a1 a2):=by
 intro a0 a1 a2 k
 have ih0:=zjr.mono_l k
 unfold zjr.f
 repeat' first
   | (with_reducible first|exact ih0 _ _ _ _|exact zjk.mono _ _|exact zjl.mono _ _ _ _ _ _|exact zjg.mono _ _ _ _|exact LeO.refl _|exact LeO.none _|refine LeO.ite ?_ ?_|refine LeO.bind ?_ (fun _=>?_))
   | exact ih0 _ _ _ _
   | exact zjk.mono _ _
   | exact zjl.mono _ _ _ _ _ _
   | exact zjg.mono _ _ _ _
   | exact LeO.none _
   | refine LeO.ite ?_ ?_
   | refine LeO.bind ?_ (fun _=>?_)
set_option maxHeartbeats 8000000 in
set_option maxRecDepth 100000 in
theorem zjr.calls (k:Nat) (A0:Option Addr) (c0:Nat) (l0:List (S61)) (a1:Int) (A2:Option Addr) (c2:Nat) (l2:List (S38)) (r1:List (S32)) (r2:Int) (w:World) (hr0:Kd.C k61 w A0 l0.length l0) (hc0:l0.length≤c0) (hr2:Kd.C k38 w A2 l2.length l2) (hc2:l2.length≤c2) (h:zjr.f k l0 a1 l2=some (r1,r2)) :
  Calls Tryd.prog 11 #[.slice A0 l0.length c0,.int .i64 a1,.slice A2 l2.length c2] w fun e w' => ∃ v0_:Value,e = .returned (.tuple #[v0_,.int .i64 r2])∧Kd.S k32 32 w' w.heap.size (fun _=>True) v0_ r1∧Below w.heap.size w w':=by
 have hu61:=Tryd.underlying61
 have HR0:=zqd.mk hr0
 have HC0:=zqd.mk hc0
 clear hr0 hc0
 have HR2:=zqd.mk hr2
 have HC2:=zqd.mk hc2
 clear hr2 hc2
 have HB:=zqd.mk (Below.refl w.heap.size w)
 have H:((zjk.f k l0).bind fun t283=>(if t283=true then(if a1<0 then(zjr.j0 k l0 a1 l2 true) else (zjr.j0 k l0 a1 l2 (decide (a1 ≥ (l0.length:Int))))) else (some (([]:List (S32)),4))))=some (r1,r2):=h
 clear h
 replace H:=Option.bind_eq_some_iff.mp H
 obtain ⟨t283,A40,H⟩:=H
 replace H:(if t283=true then(if a1<0 then(zjr.j0 k l0 a1 l2 true) else (zjr.j0 k l0 a1 l2 (decide (a1 ≥ (l0.length:Int))))) else (some (([]:List (S32)),4)))=some (r1,r2):=H
 have A4:=zqd.mk A40
 clear A40
 by_cases c5:t283=true
 ·subst c5
  have H1:(if a1<0 then(zjr.j0 k l0 a1 l2 true) else (zjr.j0 k l0 a1 l2 (decide (a1 ≥ (l0.length:Int)))))=some (r1,r2):=by rw [if_pos rfl] at H;exact H
  clear H
  have H:=H1
  clear H1
  have HC6:=zqd.mk H
  clear H
  go_enter Tryd.func11,Tryd.ntmps11
  go_upto_region 3 with (first|((with_reducible refine zqv (f:=31) rfl ?_);refine zq8 (some 10) rfl rfl Tryd.func31 (by kernel_rfl) rfl #[.slice A0 l0.length c0] rfl (by(try simp only [List.map_toArray,List.map_cons,List.map_nil]);first|done|rfl|(simp only [List.length_drop,List.length_take];rfl)) ?_;(with_reducible refine(zjk.calls k _ _ l0 true _ ?side1 ?side2 A4.out).mono ?_);(case side1=>repeat(first|exact HR0.out|(with_reducible refine Kd.zqw ?_ _)|(with_reducible refine Kd.zqy ?_ _)|(with_reducible refine Kd.zq2 ?_)));(case side2=>exact HC0.out);rintro e w7 ⟨rfl,hb⟩;refine⟨_,rfl,?_⟩;have n0_:=zqd.mk (zqn (by repeat(first|(with_reducible first|exact HB.out|apply zqb|apply zqa|apply zqc)|exact HB.out)) hb);clear HB;have HB:=n0_;clear n0_;(try clear hb);(try clear hb2);(try clear hk);(try clear hi)))
  (try simp only [Act.put,List.setIfInBounds_toArray,List.set_cons_zero,List.set_cons_succ])
  go_cut [19] (fun v19 wc => ∃ (kq:Nat) (x19_5:Bool),v19 = .bool x19_5∧zqd (zjr.j0 kq l0 a1 l2 x19_5=some (r1,r2))∧zqd (kq≤k)∧zqd (Below w.heap.size w wc))
  case first=>
   have H:=HC6.out
   clear HC6
   by_cases c8:a1<0
   ·rw [if_pos c8] at H
    have c8b0:decide (a1<0)=true:=decide_eq_true c8
    clear c8
    (first|rw [c8b0]|(simp only [zx6,zx8];rw [c8b0])|skip)
    have H':=zqd.mk H
    clear H
    go_wp2
    go_meet
    case rel=>exact⟨_,(true),(by first|rfl|(simp;done)|(simp [*];done)|(generalize ByteArray.toList _=q_;cases q_ <;> rfl)),H',⟨by first|omega|exact Nat.le_refl _⟩,⟨by repeat(first|(with_reducible first|exact HB.out|apply zqb|apply zqa|apply zqc)|exact HB.out)⟩⟩
   ·rw [if_neg c8] at H
    have c8b0:decide (a1<0)=false:=decide_eq_false c8
    clear c8
    (first|rw [c8b0]|(simp only [zx6,zx8];rw [c8b0])|skip)
    have H':=zqd.mk H
    clear H
    go_wp2
    go_meet
    case rel=>exact⟨_,(decide (a1 ≥ (l0.length:Int))),(by first|rfl|(simp;done)|(simp [*];done)|(generalize ByteArray.toList _=q_;cases q_ <;> rfl)),H',⟨by first|omega|exact Nat.le_refl _⟩,⟨by repeat(first|(with_reducible first|exact HB.out|apply zqb|apply zqa|apply zqc)|exact HB.out)⟩⟩
  case rest=>
   clear HC6
   try clear c1
   try clear c2
   try clear p2
   try clear c3
   try clear c5
   try clear c8
   try clear c8b0
   obtain ⟨kq,x19_5,rfl,HA,HJ5,HB⟩:=hcut
   cases kq with
   | zero=>exact absurd HA.out (by simp [zjr.j0])
   | succ kj5=>
    have H:=HA.out
    clear HA
    simp only [zjr.j0] at H
    by_cases c9:x19_5=true
    ·subst c9
     have H1:(some (([]:List (S32)),2))=some (r1,r2):=by rw [if_pos rfl] at H;exact H
     clear H
     have H:=H1
     clear H1
     simp only [Option.some.injEq,Prod.mk.injEq] at H
     obtain ⟨rfl,rfl⟩:=H
     go_wp2
     go_ret2
     exact⟨_,by first|rfl|(simp [zqm,zql] <;> rfl)|(simp [*,zqm,zql] <;> rfl),by first|exact Kd.S_nil _ _ _ _ _|exact Kd.N_nil _ _ _ _ _|exact Kd.V_nil _ _ _ _ _|exact Kd.Q_nil _ _ _ _ _|exact Kd.R_nil _ _ _ _ _,by repeat(first|(with_reducible first|exact HB.out|apply zqb|apply zqa|apply zqc)|exact HB.out)⟩
    ·replace c9:=Bool.eq_false_iff.mpr c9
     subst c9
     have H1:(if 0≤a1 then(if a1<(l0.length:Int) then((zjl.f kj5 ((zqo l0 a1).f0) ((zqo l0 a1).f1) ((zqo l0 a1).f2) ((zqo l0 a1).f3) l2).bind fun t285=>(if t285=0 then((zjg.f kj5 l0 a1 l2).bind fun t286=>(some (t286,0))) else (some (([]:List (S32)),t285)))) else (none)) else (none))=some (r1,r2):=by rw [if_neg (show ¬ (false=true) by decide)] at H;exact H
     clear H
     have H:=H1
     clear H1
     by_cases c10:0≤a1
     ·rw [if_pos c10] at H
      have c10b0:decide (0≤a1)=true:=decide_eq_true c10
      clear c10
      by_cases c11:a1<(l0.length:Int)
      ·rw [if_pos c11] at H
       have c11b0:decide (a1<(l0.length:Int))=true:=decide_eq_true c11
       clear c11
       replace H:=Option.bind_eq_some_iff.mp H
       obtain ⟨t285,A120,H⟩:=H
       replace H:(if t285=0 then((zjg.f kj5 l0 a1 l2).bind fun t286=>(some (t286,0))) else (some (([]:List (S32)),t285)))=some (r1,r2):=H
       have A12:=zqd.mk A120
       clear A120
       by_cases c13:t285=0
       ·rw [if_pos c13] at H
        have c13b0:(t285 == 0)=true:=beq_iff_eq.mpr c13
        have c13b1:(t285 != 0)=false:=bne_eq_false_iff_eq.mpr c13
        clear c13
        replace H:=Option.bind_eq_some_iff.mp H
        obtain ⟨t286,A140,H⟩:=H
        replace H:(some (t286,0))=some (r1,r2):=H
        have A14:=zqd.mk A140
        clear A140
        simp only [Option.some.injEq,Prod.mk.injEq] at H
        obtain ⟨rfl,rfl⟩:=H
        have p284:0≤(a1:Int):=of_decide_eq_true (by first|(with_reducible assumption)|assumption)
        have q284:a1<(l0.length:Int):=of_decide_eq_true (by first|(with_reducible assumption)|assumption)
        obtain ⟨ad284,A284_1,c284_1,A284_2,c284_2,A284_3,c284_3,e284,hx284_0,hx284_1,hx284_2,hx284_3,hl284_1,hi284_1,hl284_2,hi284_2,hl284_3,hi284_3⟩:=at_T61 HR0.out a1 p284 q284
        cases e284
        replace hx284_0:=(HB.out.cell (World.block_lt_of_cell? w _ hx284_0)).trans hx284_0
        replace hx284_1:=(HB.out.cell (World.block_lt_of_cell? w _ hx284_1)).trans hx284_1
        replace hx284_2:=(HB.out.cell (World.block_lt_of_cell? w _ hx284_2)).trans hx284_2
        replace hx284_3:=(HB.out.cell (World.block_lt_of_cell? w _ hx284_3)).trans hx284_3
        have HR284_1:=zqd.mk hi284_1
        have HC284_1:=zqd.mk hl284_1
        clear hi284_1 hl284_1
        have HR284_2:=zqd.mk hi284_2
        have HC284_2:=zqd.mk hl284_2
        clear hi284_2 hl284_2
        have HR284_3:=zqd.mk hi284_3
        have HC284_3:=zqd.mk hl284_3
        clear hi284_3 hl284_3
        replace p284:=eq_true p284
        replace q284:=eq_true q284
        go_wp2_with (first|((with_reducible refine zqv (f:=32) rfl ?_);refine zq8 (some 25) rfl rfl Tryd.func32 (by kernel_rfl) rfl #[.agg #[.string ((zqo l0 a1).f0),.slice A284_1 ((zqo l0 a1).f1).length c284_1,.slice A284_2 ((zqo l0 a1).f2).length c284_2,.slice A284_3 ((zqo l0 a1).f3).length c284_3],.slice A2 l2.length c2] rfl (by(try simp only [List.map_toArray,List.map_cons,List.map_nil]);first|done|rfl|(simp only [List.length_drop,List.length_take];rfl)) ?_;(with_reducible refine(zjl.calls kj5 ((zqo l0 a1).f0) _ _ ((zqo l0 a1).f1) _ _ ((zqo l0 a1).f2) _ _ ((zqo l0 a1).f3) _ _ l2 t285 _ ?side1 ?side2 ?side3 ?side4 ?side5 ?side6 ?side7 ?side8 A12.out).mono ?_);(case side1=>repeat(first|exact(Kd.zq3 HR284_1.out HB.out)|(with_reducible refine Kd.zqw ?_ _)|(with_reducible refine Kd.zqy ?_ _)|(with_reducible refine Kd.zq2 ?_)));(case side2=>exact HC284_1.out);(case side3=>repeat(first|exact(Kd.zq3 HR284_2.out HB.out)|(with_reducible refine Kd.zqw ?_ _)|(with_reducible refine Kd.zqy ?_ _)|(with_reducible refine Kd.zq2 ?_)));(case side4=>exact HC284_2.out);(case side5=>repeat(first|exact(Kd.zq3 HR284_3.out HB.out)|(with_reducible refine Kd.zqw ?_ _)|(with_reducible refine Kd.zqy ?_ _)|(with_reducible refine Kd.zq2 ?_)));(case side6=>exact HC284_3.out);(case side7=>repeat(first|exact(Kd.zq3 HR2.out HB.out)|(with_reducible refine Kd.zqw ?_ _)|(with_reducible refine Kd.zqy ?_ _)|(with_reducible refine Kd.zq2 ?_)));(case side8=>exact HC2.out);rintro e w15 ⟨rfl,hb⟩;refine⟨_,rfl,?_⟩;have n0_:=zqd.mk (zqn (by repeat(first|(with_reducible first|exact HB.out|apply zqb|apply zqa|apply zqc)|exact HB.out)) hb);clear HB;have HB:=n0_;clear n0_;(try clear hb);(try clear hb2);(try clear hk);(try clear hi))|((with_reducible refine zqv (f:=33) rfl ?_);refine zq8 (some 32) rfl rfl Tryd.func33 (by kernel_rfl) rfl #[.slice (some ad284) l0.length c0,.int .i64 a1,.slice A2 l2.length c2] rfl (by(try simp only [List.map_toArray,List.map_cons,List.map_nil]);first|done|rfl|(simp only [List.length_drop,List.length_take];rfl)) ?_;(with_reducible refine(zjg.calls kj5 _ _ l0 a1 _ _ l2 t286 _ ?side1 ?side2 ?side3 ?side4 A14.out).mono ?_);(case side1=>repeat(first|exact(Kd.zq3 HR0.out HB.out)|(with_reducible refine Kd.zqw ?_ _)|(with_reducible refine Kd.zqy ?_ _)|(with_reducible refine Kd.zq2 ?_)));(case side2=>exact HC0.out);(case side3=>repeat(first|exact(Kd.zq3 HR2.out HB.out)|(with_reducible refine Kd.zqw ?_ _)|(with_reducible refine Kd.zqy ?_ _)|(with_reducible refine Kd.zq2 ?_)));(case side4=>exact HC2.out);rintro e w16 ⟨v287,rfl,ho0,hb⟩;refine⟨_,rfl,?_⟩;have n0_:=zqd.mk (Kd.S_lower ho0 (zqk (by repeat(first|(with_reducible first|exact HB.out|apply zqb|apply zqa|apply zqc)|exact HB.out))));have n1_:=zqd.mk (zqn (by repeat(first|(with_reducible first|exact HB.out|apply zqb|apply zqa|apply zqc)|exact HB.out)) hb);clear HB;have HO288:=n0_;have HB:=n1_;clear n0_ n1_;(try clear hb);(try clear hb2);(try clear hk);(try clear hi);(try clear ho0)))
        go_ret2
        exact⟨_,by first|rfl|(simp [zqm,zql] <;> rfl)|(simp [*,zqm,zql] <;> rfl),by(with_reducible repeat(first|apply Kd.zxj|apply Kd.zxi|apply Kd.zxx));exact HO288.out,by repeat(first|(with_reducible first|exact HB.out|apply zqb|apply zqa|apply zqc)|exact HB.out)⟩
       ·rw [if_neg c13] at H
        have c13b0:(t285 == 0)=false:=beq_eq_false_iff_ne.mpr c13
        have c13b1:(t285 != 0)=true:=bne_iff_ne.mpr c13
        simp only [Option.some.injEq,Prod.mk.injEq] at H
        obtain ⟨rfl,rfl⟩:=H
        have p284:0≤(a1:Int):=of_decide_eq_true (by first|(with_reducible assumption)|assumption)
        have q284:a1<(l0.length:Int):=of_decide_eq_true (by first|(with_reducible assumption)|assumption)
        obtain ⟨ad284,A284_1,c284_1,A284_2,c284_2,A284_3,c284_3,e284,hx284_0,hx284_1,hx284_2,hx284_3,hl284_1,hi284_1,hl284_2,hi284_2,hl284_3,hi284_3⟩:=at_T61 HR0.out a1 p284 q284
        cases e284
        replace hx284_0:=(HB.out.cell (World.block_lt_of_cell? w _ hx284_0)).trans hx284_0
        replace hx284_1:=(HB.out.cell (World.block_lt_of_cell? w _ hx284_1)).trans hx284_1
        replace hx284_2:=(HB.out.cell (World.block_lt_of_cell? w _ hx284_2)).trans hx284_2
        replace hx284_3:=(HB.out.cell (World.block_lt_of_cell? w _ hx284_3)).trans hx284_3
        have HR284_1:=zqd.mk hi284_1
        have HC284_1:=zqd.mk hl284_1
        clear hi284_1 hl284_1
        have HR284_2:=zqd.mk hi284_2
        have HC284_2:=zqd.mk hl284_2
        clear hi284_2 hl284_2
        have HR284_3:=zqd.mk hi284_3
        have HC284_3:=zqd.mk hl284_3
        clear hi284_3 hl284_3
        replace p284:=eq_true p284
        replace q284:=eq_true q284
        go_wp2_with (first|((with_reducible refine zqv (f:=32) rfl ?_);refine zq8 (some 25) rfl rfl Tryd.func32 (by kernel_rfl) rfl #[.agg #[.string ((zqo l0 a1).f0),.slice A284_1 ((zqo l0 a1).f1).length c284_1,.slice A284_2 ((zqo l0 a1).f2).length c284_2,.slice A284_3 ((zqo l0 a1).f3).length c284_3],.slice A2 l2.length c2] rfl (by(try simp only [List.map_toArray,List.map_cons,List.map_nil]);first|done|rfl|(simp only [List.length_drop,List.length_take];rfl)) ?_;(with_reducible refine(zjl.calls kj5 ((zqo l0 a1).f0) _ _ ((zqo l0 a1).f1) _ _ ((zqo l0 a1).f2) _ _ ((zqo l0 a1).f3) _ _ l2 t285 _ ?side1 ?side2 ?side3 ?side4 ?side5 ?side6 ?side7 ?side8 A12.out).mono ?_);(case side1=>repeat(first|exact(Kd.zq3 HR284_1.out HB.out)|(with_reducible refine Kd.zqw ?_ _)|(with_reducible refine Kd.zqy ?_ _)|(with_reducible refine Kd.zq2 ?_)));(case side2=>exact HC284_1.out);(case side3=>repeat(first|exact(Kd.zq3 HR284_2.out HB.out)|(with_reducible refine Kd.zqw ?_ _)|(with_reducible refine Kd.zqy ?_ _)|(with_reducible refine Kd.zq2 ?_)));(case side4=>exact HC284_2.out);(case side5=>repeat(first|exact(Kd.zq3 HR284_3.out HB.out)|(with_reducible refine Kd.zqw ?_ _)|(with_reducible refine Kd.zqy ?_ _)|(with_reducible refine Kd.zq2 ?_)));(case side6=>exact HC284_3.out);(case side7=>repeat(first|exact(Kd.zq3 HR2.out HB.out)|(with_reducible refine Kd.zqw ?_ _)|(with_reducible refine Kd.zqy ?_ _)|(with_reducible refine Kd.zq2 ?_)));(case side8=>exact HC2.out);rintro e w17 ⟨rfl,hb⟩;refine⟨_,rfl,?_⟩;have n0_:=zqd.mk (zqn (by repeat(first|(with_reducible first|exact HB.out|apply zqb|apply zqa|apply zqc)|exact HB.out)) hb);clear HB;have HB:=n0_;clear n0_;(try clear hb);(try clear hb2);(try clear hk);(try clear hi)))
        go_ret2
        exact⟨_,by first|rfl|(simp [zqm,zql] <;> rfl)|(simp [*,zqm,zql] <;> rfl),by first|exact Kd.S_nil _ _ _ _ _|exact Kd.N_nil _ _ _ _ _|exact Kd.V_nil _ _ _ _ _|exact Kd.Q_nil _ _ _ _ _|exact Kd.R_nil _ _ _ _ _,by repeat(first|(with_reducible first|exact HB.out|apply zqb|apply zqa|apply zqc)|exact HB.out)⟩
      ·rw [if_neg c11] at H
       exact absurd H (by simp)
     ·rw [if_neg c10] at H
      exact absurd H (by simp)
 ·replace c5:=Bool.eq_false_iff.mpr c5
  subst c5
  have H1:(some (([]:List (S32)),4))=some (r1,r2):=by rw [if_neg (show ¬ (false=true) by decide)] at H;exact H
  clear H
  have H:=H1
  clear H1
  simp only [Option.some.injEq,Prod.mk.injEq] at H
  obtain ⟨rfl,rfl⟩:=H
  go_enter Tryd.func11,Tryd.ntmps11
  go_wp2_with (first|((with_reducible refine zqv (f:=31) rfl ?_);refine zq8 (some 10) rfl rfl Tryd.func31 (by kernel_rfl) rfl #[.slice A0 l0.length c0] rfl (by(try simp only [List.map_toArray,List.map_cons,List.map_nil]);first|done|rfl|(simp only [List.length_drop,List.length_take];rfl)) ?_;(with_reducible refine(zjk.calls k _ _ l0 false _ ?side1 ?side2 A4.out).mono ?_);(case side1=>repeat(first|exact HR0.out|(with_reducible refine Kd.zqw ?_ _)|(with_reducible refine Kd.zqy ?_ _)|(with_reducible refine Kd.zq2 ?_)));(case side2=>exact HC0.out);rintro e w18 ⟨rfl,hb⟩;refine⟨_,rfl,?_⟩;have n0_:=zqd.mk (zqn (by repeat(first|(with_reducible first|exact HB.out|apply zqb|apply zqa|apply zqc)|exact HB.out)) hb);clear HB;have HB:=n0_;clear n0_;(try clear hb);(try clear hb2);(try clear hk);(try clear hi)))
  go_ret2
  exact⟨_,by first|rfl|(simp [zqm,zql] <;> rfl)|(simp [*,zqm,zql] <;> rfl),by first|exact Kd.S_nil _ _ _ _ _|exact Kd.N_nil _ _ _ _ _|exact Kd.V_nil _ _ _ _ _|exact Kd.Q_nil _ _ _ _ _|exact Kd.R_nil _ _ _ _ _,by repeat(first|(with_reducible first|exact HB.out|apply zqb|apply zqa|apply zqc)|exact HB.out)⟩

/-! ### zjn: function 34 -/
def zjn.l0:Nat→List Int→List Int→Int→Option (Bool)
 | 0,_,_,_=>none
 | k+1,x0,x1,x5=>if x5<(x0.length:Int) then(if 0≤x5 then(if x5<(x1.length:Int) then(if(rd x0 x5)=(rd x1 x5) then(zjn.l0 k x0 x1 (wrap64 (x5+1))) else (some false)) else (none)) else (none)) else (some true)
def zjn.f (k:Nat) (l0:List Int) (l1:List Int):Option (Bool):=if(l0.length:Int)=(l1.length:Int) then(zjn.l0 k l0 l1 0) else (some false)
theorem zjn.mono_l:∀ k,(∀ y0 y1 y2,LeO (zjn.l0 k y0 y1 y2) (zjn.l0 (k+1) y0 y1 y2))
 | 0=>fun _ _ _ r h=>by simp [zjn.l0] at h
 | k+1=>by
  have ih0:=zjn.mono_l k
  ·intro y0 y1 y2
   unfold zjn.l0
   repeat' first
   | (with_reducible first|exact ih0 _ _ _|exact LeO.refl _|exact LeO.none _|refine LeO.ite ?_ ?_|refine LeO.bind ?_ (fun _=>?_))
   | exact ih0 _ _ _
   | exact LeO.none _
   | refine LeO.ite ?_ ?_
   | refine LeO.bind ?_ (fun _=>?_)
theorem zjn.mono:∀ a0 a1 k,LeO (zjn.f k a0 a1) (zjn.f (k+1) a0 a1):=by
 intro a0 a1 k
 have ih0:=zjn.mono_l k
 unfold zjn.f
 repeat' first
   | (with_reducible first|exact ih0 _ _ _|exact LeO.refl _|exact LeO.none _|refine LeO.ite ?_ ?_|refine LeO.bind ?_ (fun _=>?_))
   | exact ih0 _ _ _
   | exact LeO.none _
   | refine LeO.ite ?_ ?_
   | refine LeO.bind ?_ (fun _=>?_)
set_option maxHeartbeats 8000000 in
set_option maxRecDepth 100000 in
theorem zjn.calls (k:Nat) (A0:Option Addr) (c0:Nat) (l0:List Int) (A1:Option Addr) (c1:Nat) (l1:List Int) (r:Bool) (w:World) (hr0:Kd.C (Kd.int .u8) w A0 l0.length l0) (hc0:l0.length≤c0) (hr1:Kd.C (Kd.int .u8) w A1 l1.length l1) (hc1:l1.length≤c1) (h:zjn.f k l0 l1=some r) :
  Calls Tryd.prog 34 #[.slice A0 l0.length c0,.slice A1 l1.length c1] w fun e w'=>e = .returned (.bool r)∧zqq w w':=by
 have HR0:=zqd.mk hr0
 have HC0:=zqd.mk hc0
 clear hr0 hc0
 have HR1:=zqd.mk hr1
 have HC1:=zqd.mk hc1
 clear hr1 hc1
 have H:(if(l0.length:Int)=(l1.length:Int) then(zjn.l0 k l0 l1 0) else (some false))=some r:=h
 clear h
 by_cases c3:(l0.length:Int)=(l1.length:Int)
 ·rw [if_pos c3] at H
  have c3b0:((l0.length:Int) == (l1.length:Int))=true:=beq_iff_eq.mpr c3
  have c3b1:((l0.length:Int) != (l1.length:Int))=false:=bne_eq_false_iff_eq.mpr c3
  have c3b2:(l0.length == l1.length)=true:=by first|simpa using c3|(simp at c3 ⊢;omega)
  clear c3
  have H':=zqd.mk H
  clear H
  go_enter Tryd.func34,Tryd.ntmps34
  go_wp2
  repeat(go_quiet (fail);try go_wp2)
  go_loopg [5] k (fun kq v5 w' => ∃ (x5_1:Int),v5 = .int .i64 x5_1∧zqd (zjn.l0 kq l0 l1 x5_1=some r)∧zqd (kq≤k)∧zqq w w')
  case atStart=>exact⟨(0),(by first|rfl|(simp;done)|(simp [*];done)|(generalize ByteArray.toList _=q_;cases q_ <;> rfl)),H',⟨Nat.le_refl _⟩,by repeat(first|exact zqq.refl _|apply zqq.step)⟩
  case round=>
   clear H'
   try clear c1
   try clear p2
   try clear c3
   try clear c3b0
   try clear c3b1
   try clear c3b2
   obtain ⟨x5_1,rfl,HA,HK1,⟨m1,rfl⟩⟩:=hrel
   cases gk with
   | zero=>exact absurd HA.out (by simp [zjn.l0])
   | succ k1=>
    have H:=HA.out
    clear HA
    simp only [zjn.l0] at H
    by_cases c4:x5_1<(l0.length:Int)
    ·rw [if_pos c4] at H
     have c4b0:decide (x5_1<(l0.length:Int))=true:=decide_eq_true c4
     clear c4
     by_cases c5:0≤x5_1
     ·rw [if_pos c5] at H
      have c5b0:decide (0≤x5_1)=true:=decide_eq_true c5
      clear c5
      by_cases c6:x5_1<(l1.length:Int)
      ·rw [if_pos c6] at H
       have c6b0:decide (x5_1<(l1.length:Int))=true:=decide_eq_true c6
       clear c6
       by_cases c7:(rd l0 x5_1)=(rd l1 x5_1)
       ·rw [if_pos c7] at H
        have c7b0:((rd l0 x5_1) == (rd l1 x5_1))=true:=beq_iff_eq.mpr c7
        have c7b1:((rd l0 x5_1) != (rd l1 x5_1))=false:=bne_eq_false_iff_eq.mpr c7
        clear c7
        have H':=zqd.mk H
        clear H
        have p289:0≤(x5_1:Int):=of_decide_eq_true (by first|(with_reducible assumption)|assumption)
        have q289:x5_1<(l0.length:Int):=of_decide_eq_true (by first|(with_reducible assumption)|assumption)
        obtain ⟨ad289,e289,hx289_0⟩:=Kd.zke HR0.out x5_1 p289 q289
        cases e289
        replace p289:=eq_true p289
        replace q289:=eq_true q289
        have p290:0≤(x5_1:Int):=of_decide_eq_true (by first|(with_reducible assumption)|assumption)
        have q290:x5_1<(l1.length:Int):=of_decide_eq_true (by first|(with_reducible assumption)|assumption)
        obtain ⟨ad290,e290,hx290_0⟩:=Kd.zke HR1.out x5_1 p290 q290
        cases e290
        replace p290:=eq_true p290
        replace q290:=eq_true q290
        go_wp2
        repeat(go_quiet (fail);try go_wp2)
        go_roundg k1
        case measure=>have:=HK1.out;omega
        case rel=>exact⟨(wrap64 (x5_1+1)),(by first|rfl|(simp;done)|(simp [*];done)|(generalize ByteArray.toList _=q_;cases q_ <;> rfl)),H',⟨by have:=HK1.out;omega⟩,by repeat(first|exact zqq.refl _|apply zqq.step)⟩
       ·rw [if_neg c7] at H
        have c7b0:((rd l0 x5_1) == (rd l1 x5_1))=false:=beq_eq_false_iff_ne.mpr c7
        have c7b1:((rd l0 x5_1) != (rd l1 x5_1))=true:=bne_iff_ne.mpr c7
        obtain rfl:=Option.some.inj H
        have p289:0≤(x5_1:Int):=of_decide_eq_true (by first|(with_reducible assumption)|assumption)
        have q289:x5_1<(l0.length:Int):=of_decide_eq_true (by first|(with_reducible assumption)|assumption)
        obtain ⟨ad289,e289,hx289_0⟩:=Kd.zke HR0.out x5_1 p289 q289
        cases e289
        replace p289:=eq_true p289
        replace q289:=eq_true q289
        have p290:0≤(x5_1:Int):=of_decide_eq_true (by first|(with_reducible assumption)|assumption)
        have q290:x5_1<(l1.length:Int):=of_decide_eq_true (by first|(with_reducible assumption)|assumption)
        obtain ⟨ad290,e290,hx290_0⟩:=Kd.zke HR1.out x5_1 p290 q290
        cases e290
        replace p290:=eq_true p290
        replace q290:=eq_true q290
        go_wp2
        repeat(go_quiet (fail);try go_wp2)
        go_ret
        exact⟨by first|rfl|(simp;done)|(simp [*];done),by repeat(first|exact zqq.refl _|apply zqq.step)⟩
      ·rw [if_neg c6] at H
       exact absurd H (by simp)
     ·rw [if_neg c5] at H
      exact absurd H (by simp)
    ·rw [if_neg c4] at H
     have c4b0:decide (x5_1<(l0.length:Int))=false:=decide_eq_false c4
     clear c4
     obtain rfl:=Option.some.inj H
     go_wp2
     repeat(go_quiet (fail);try go_wp2)
     go_ret
     exact⟨by first|rfl|(simp;done)|(simp [*];done),by repeat(first|exact zqq.refl _|apply zqq.step)⟩
 ·rw [if_neg c3] at H
  have c3b0:((l0.length:Int) == (l1.length:Int))=false:=beq_eq_false_iff_ne.mpr c3
  have c3b1:((l0.length:Int) != (l1.length:Int))=true:=bne_iff_ne.mpr c3
  have c3b2:(l0.length == l1.length)=false:=by first|simpa using c3|(simp at c3 ⊢;omega)
  obtain rfl:=Option.some.inj H
  go_enter Tryd.func34,Tryd.ntmps34
  go_wp2
  repeat(go_quiet (fail);try go_wp2)
  go_ret
  exact⟨by first|rfl|(simp;done)|(simp [*];done),by repeat(first|exact zqq.refl _|apply zqq.step)⟩

/-! ### zjq: function 12 -/
def zjq.l0:Nat→List (S32)→List (S32)→Int→Option (Bool)
 | 0,_,_,_=>none
 | k+1,x0,x1,x5=>if x5<(x0.length:Int) then(if 0≤x5 then(if x5<(x1.length:Int) then((zjn.f k ((zxb x0 x5).f0) ((zxb x1 x5).f0)).bind fun t293=>(if t293=true then((zjn.f k ((zxb x0 x5).f1) ((zxb x1 x5).f1)).bind fun t296=>(if t296=true then(zjq.l0 k x0 x1 (wrap64 (x5+1))) else (some false))) else (some false))) else (none)) else (none)) else (some true)
def zjq.f (k:Nat) (l0:List (S32)) (l1:List (S32)):Option (Bool):=if(l0.length:Int)=(l1.length:Int) then(zjq.l0 k l0 l1 0) else (some false)
theorem zjq.mono_l:∀ k,(∀ y0 y1 y2,LeO (zjq.l0 k y0 y1 y2) (zjq.l0 (k+1) y0 y1 y2))
 | 0=>fun _ _ _ r h=>by simp [zjq.l0] at h
 | k+1=>by
  have ih0:=zjq.mono_l k
  ·intro y0 y1 y2
   unfold zjq.l0
   repeat' first
   | (with_reducible first|exact ih0 _ _ _|exact zjn.mono _ _ _|exact LeO.refl _|exact LeO.none _|refine LeO.ite ?_ ?_|refine LeO.bind ?_ (fun _=>?_))
   | exact ih0 _ _ _
   | exact zjn.mono _ _ _
   | exact LeO.none _
   | refine LeO.ite ?_ ?_
   | refine LeO.bind ?_ (fun _=>?_)
theorem zjq.mono:∀ a0 a1 k,LeO (zjq.f k a0 a1) (zjq.f (k+1) a0 a1):=by
 intro a0 a1 k
 have ih0:=zjq.mono_l k
 unfold zjq.f
 repeat' first
   | (with_reducible first|exact ih0 _ _ _|exact zjn.mono _ _ _|exact LeO.refl _|exact LeO.none _|refine LeO.ite ?_ ?_|refine LeO.bind ?_ (fun _=>?_))
   | exact ih0 _ _ _
   | exact zjn.mono _ _ _
   | exact LeO.none _
   | refine LeO.ite ?_ ?_
   | refine LeO.bind ?_ (fun _=>?_)
set_option maxHeartbeats 8000000 in
set_option maxRecDepth 100000 in
theorem zjq.calls (k:Nat) (A0:Option Addr) (c0:Nat) (l0:List (S32)) (A1:Option Addr) (c1:Nat) (l1:List (S32)) (r:Bool) (w:World) (hr0:Kd.C k32 w A0 l0.length l0) (hc0:l0.length≤c0) (hr1:Kd.C k32 w A1 l1.length l1) (hc1:l1.length≤c1) (h:zjq.f k l0 l1=some r) :
  Calls Tryd.prog 12 #[.slice A0 l0.length c0,.slice A1 l1.length c1] w fun e w'=>e = .returned (.bool r)∧zqq w w':=by
 have HR0:=zqd.mk hr0
 have HC0:=zqd.mk hc0
 clear hr0 hc0
 have HR1:=zqd.mk hr1
 have HC1:=zqd.mk hc1
 clear hr1 hc1
 have H:(if(l0.length:Int)=(l1.length:Int) then(zjq.l0 k l0 l1 0) else (some false))=some r:=h
 clear h
 by_cases c3:(l0.length:Int)=(l1.length:Int)
 ·rw [if_pos c3] at H
  have c3b0:((l0.length:Int) == (l1.length:Int))=true:=beq_iff_eq.mpr c3
  have c3b1:((l0.length:Int) != (l1.length:Int))=false:=bne_eq_false_iff_eq.mpr c3
  have c3b2:(l0.length == l1.length)=true:=by first|simpa using c3|(simp at c3 ⊢;omega)
  clear c3
  have H':=zqd.mk H
  clear H
  go_enter Tryd.func12,Tryd.ntmps12
  go_wp2
  repeat(go_quiet (fail);try go_wp2)
  go_loopg [5] k (fun kq v5 w' => ∃ (x5_1:Int),v5 = .int .i64 x5_1∧zqd (zjq.l0 kq l0 l1 x5_1=some r)∧zqd (kq≤k)∧zqq w w')
  case atStart=>exact⟨(0),(by first|rfl|(simp;done)|(simp [*];done)|(generalize ByteArray.toList _=q_;cases q_ <;> rfl)),H',⟨Nat.le_refl _⟩,by repeat(first|exact zqq.refl _|apply zqq.step)⟩
  case round=>
   clear H'
   try clear c1
   try clear p2
   try clear c3
   try clear c3b0
   try clear c3b1
   try clear c3b2
   obtain ⟨x5_1,rfl,HA,HK1,⟨m1,rfl⟩⟩:=hrel
   cases gk with
   | zero=>exact absurd HA.out (by simp [zjq.l0])
   | succ k1=>
    have H:=HA.out
    clear HA
    simp only [zjq.l0] at H
    by_cases c4:x5_1<(l0.length:Int)
    ·rw [if_pos c4] at H
     have c4b0:decide (x5_1<(l0.length:Int))=true:=decide_eq_true c4
     clear c4
     by_cases c5:0≤x5_1
     ·rw [if_pos c5] at H
      have c5b0:decide (0≤x5_1)=true:=decide_eq_true c5
      clear c5
      by_cases c6:x5_1<(l1.length:Int)
      ·rw [if_pos c6] at H
       have c6b0:decide (x5_1<(l1.length:Int))=true:=decide_eq_true c6
       clear c6
       replace H:=Option.bind_eq_some_iff.mp H
       obtain ⟨t293,A70,H⟩:=H
       replace H:(if t293=true then((zjn.f k1 ((zxb l0 x5_1).f1) ((zxb l1 x5_1).f1)).bind fun t296=>(if t296=true then(zjq.l0 k1 l0 l1 (wrap64 (x5_1+1))) else (some false))) else (some false))=some r:=H
       have A7:=zqd.mk A70
       clear A70
       by_cases c8:t293=true
       ·subst c8
        have H1:((zjn.f k1 ((zxb l0 x5_1).f1) ((zxb l1 x5_1).f1)).bind fun t296=>(if t296=true then(zjq.l0 k1 l0 l1 (wrap64 (x5_1+1))) else (some false)))=some r:=by rw [if_pos rfl] at H;exact H
        clear H
        have H:=H1
        clear H1
        replace H:=Option.bind_eq_some_iff.mp H
        obtain ⟨t296,A90,H⟩:=H
        replace H:(if t296=true then(zjq.l0 k1 l0 l1 (wrap64 (x5_1+1))) else (some false))=some r:=H
        have A9:=zqd.mk A90
        clear A90
        by_cases c10:t296=true
        ·subst c10
         have H1:(zjq.l0 k1 l0 l1 (wrap64 (x5_1+1)))=some r:=by rw [if_pos rfl] at H;exact H
         clear H
         have H:=H1
         clear H1
         have H':=zqd.mk H
         clear H
         have p291:0≤(x5_1:Int):=of_decide_eq_true (by first|(with_reducible assumption)|assumption)
         have q291:x5_1<(l0.length:Int):=of_decide_eq_true (by first|(with_reducible assumption)|assumption)
         obtain ⟨ad291,A291_0,c291_0,A291_1,c291_1,e291,hx291_0,hx291_1,hl291_0,hi291_0,hl291_1,hi291_1⟩:=at_T32 HR0.out x5_1 p291 q291
         cases e291
         have HR291_0:=zqd.mk hi291_0
         have HC291_0:=zqd.mk hl291_0
         clear hi291_0 hl291_0
         have HR291_1:=zqd.mk hi291_1
         have HC291_1:=zqd.mk hl291_1
         clear hi291_1 hl291_1
         replace p291:=eq_true p291
         replace q291:=eq_true q291
         have p292:0≤(x5_1:Int):=of_decide_eq_true (by first|(with_reducible assumption)|assumption)
         have q292:x5_1<(l1.length:Int):=of_decide_eq_true (by first|(with_reducible assumption)|assumption)
         obtain ⟨ad292,A292_0,c292_0,A292_1,c292_1,e292,hx292_0,hx292_1,hl292_0,hi292_0,hl292_1,hi292_1⟩:=at_T32 HR1.out x5_1 p292 q292
         cases e292
         have HR292_0:=zqd.mk hi292_0
         have HC292_0:=zqd.mk hl292_0
         clear hi292_0 hl292_0
         have HR292_1:=zqd.mk hi292_1
         have HC292_1:=zqd.mk hl292_1
         clear hi292_1 hl292_1
         replace p292:=eq_true p292
         replace q292:=eq_true q292
         go_wp2_with (first|(go_at_call 34;(with_reducible refine(zjn.calls k1 _ _ ((zxb l0 x5_1).f0) _ _ ((zxb l1 x5_1).f0) true _ ?side1 ?side2 ?side3 ?side4 A7.out).mono ?_);(case side1=>repeat(first|exact HR291_0.out|(with_reducible refine Kd.zqw ?_ _)|(with_reducible refine Kd.zqy ?_ _)|(with_reducible refine Kd.zq2 ?_)));(case side2=>exact HC291_0.out);(case side3=>repeat(first|exact HR292_0.out|(with_reducible refine Kd.zqw ?_ _)|(with_reducible refine Kd.zqy ?_ _)|(with_reducible refine Kd.zq2 ?_)));(case side4=>exact HC292_0.out);rintro e w' ⟨rfl,⟨nd,rfl⟩⟩;(try first|exact⟨rfl,_,World.drewN_drewN _ _ _⟩|exact⟨rfl,_,Eq.trans (World.drewN_drewN _ _ _) (congrArg (World.drewN _) (Nat.add_assoc _ _ _))⟩);have p294:0≤(x5_1:Int):=of_decide_eq_true (by first|(with_reducible assumption)|assumption);have q294:x5_1<(l0.length:Int):=of_decide_eq_true (by first|(with_reducible assumption)|assumption);obtain ⟨ad294,A294_0,c294_0,A294_1,c294_1,e294,hx294_0,hx294_1,hl294_0,hi294_0,hl294_1,hi294_1⟩:=at_T32 HR0.out x5_1 p294 q294;obtain rfl:ad291=ad294:=(by injection e294);have HR294_0:=zqd.mk hi294_0;have HC294_0:=zqd.mk hl294_0;clear hi294_0 hl294_0;have HR294_1:=zqd.mk hi294_1;have HC294_1:=zqd.mk hl294_1;clear hi294_1 hl294_1;replace p294:=eq_true p294;replace q294:=eq_true q294;have ea_:=Option.some.inj (hx291_0.symm.trans hx294_0);injection ea_ with ea_ en_ ec_;subst ea_;subst ec_;clear en_;have ea_:=Option.some.inj (hx291_1.symm.trans hx294_1);injection ea_ with ea_ en_ ec_;subst ea_;subst ec_;clear en_;have p295:0≤(x5_1:Int):=of_decide_eq_true (by first|(with_reducible assumption)|assumption);have q295:x5_1<(l1.length:Int):=of_decide_eq_true (by first|(with_reducible assumption)|assumption);obtain ⟨ad295,A295_0,c295_0,A295_1,c295_1,e295,hx295_0,hx295_1,hl295_0,hi295_0,hl295_1,hi295_1⟩:=at_T32 HR1.out x5_1 p295 q295;obtain rfl:ad292=ad295:=(by injection e295);have HR295_0:=zqd.mk hi295_0;have HC295_0:=zqd.mk hl295_0;clear hi295_0 hl295_0;have HR295_1:=zqd.mk hi295_1;have HC295_1:=zqd.mk hl295_1;clear hi295_1 hl295_1;replace p295:=eq_true p295;replace q295:=eq_true q295;have ea_:=Option.some.inj (hx292_0.symm.trans hx295_0);injection ea_ with ea_ en_ ec_;subst ea_;subst ec_;clear en_;have ea_:=Option.some.inj (hx292_1.symm.trans hx295_1);injection ea_ with ea_ en_ ec_;subst ea_;subst ec_;clear en_)|(go_at_call 34;(with_reducible refine(zjn.calls k1 _ _ ((zxb l0 x5_1).f1) _ _ ((zxb l1 x5_1).f1) true _ ?side1 ?side2 ?side3 ?side4 A9.out).mono ?_);(case side1=>repeat(first|exact HR294_1.out|(with_reducible refine Kd.zqw ?_ _)|(with_reducible refine Kd.zqy ?_ _)|(with_reducible refine Kd.zq2 ?_)));(case side2=>exact HC294_1.out);(case side3=>repeat(first|exact HR295_1.out|(with_reducible refine Kd.zqw ?_ _)|(with_reducible refine Kd.zqy ?_ _)|(with_reducible refine Kd.zq2 ?_)));(case side4=>exact HC295_1.out);rintro e w' ⟨rfl,⟨nd,rfl⟩⟩;(try first|exact⟨rfl,_,World.drewN_drewN _ _ _⟩|exact⟨rfl,_,Eq.trans (World.drewN_drewN _ _ _) (congrArg (World.drewN _) (Nat.add_assoc _ _ _))⟩)))
         repeat(go_quiet (first|(go_at_call 34;(with_reducible refine(zjn.calls k1 _ _ ((zxb l0 x5_1).f0) _ _ ((zxb l1 x5_1).f0) true _ ?side1 ?side2 ?side3 ?side4 A7.out).mono ?_);(case side1=>repeat(first|exact HR291_0.out|(with_reducible refine Kd.zqw ?_ _)|(with_reducible refine Kd.zqy ?_ _)|(with_reducible refine Kd.zq2 ?_)));(case side2=>exact HC291_0.out);(case side3=>repeat(first|exact HR292_0.out|(with_reducible refine Kd.zqw ?_ _)|(with_reducible refine Kd.zqy ?_ _)|(with_reducible refine Kd.zq2 ?_)));(case side4=>exact HC292_0.out);rintro e w' ⟨rfl,⟨nd,rfl⟩⟩;(try first|exact⟨rfl,_,World.drewN_drewN _ _ _⟩|exact⟨rfl,_,Eq.trans (World.drewN_drewN _ _ _) (congrArg (World.drewN _) (Nat.add_assoc _ _ _))⟩);have p294:0≤(x5_1:Int):=of_decide_eq_true (by first|(with_reducible assumption)|assumption);have q294:x5_1<(l0.length:Int):=of_decide_eq_true (by first|(with_reducible assumption)|assumption);obtain ⟨ad294,A294_0,c294_0,A294_1,c294_1,e294,hx294_0,hx294_1,hl294_0,hi294_0,hl294_1,hi294_1⟩:=at_T32 HR0.out x5_1 p294 q294;obtain rfl:ad291=ad294:=(by injection e294);have HR294_0:=zqd.mk hi294_0;have HC294_0:=zqd.mk hl294_0;clear hi294_0 hl294_0;have HR294_1:=zqd.mk hi294_1;have HC294_1:=zqd.mk hl294_1;clear hi294_1 hl294_1;replace p294:=eq_true p294;replace q294:=eq_true q294;have ea_:=Option.some.inj (hx291_0.symm.trans hx294_0);injection ea_ with ea_ en_ ec_;subst ea_;subst ec_;clear en_;have ea_:=Option.some.inj (hx291_1.symm.trans hx294_1);injection ea_ with ea_ en_ ec_;subst ea_;subst ec_;clear en_;have p295:0≤(x5_1:Int):=of_decide_eq_true (by first|(with_reducible assumption)|assumption);have q295:x5_1<(l1.length:Int):=of_decide_eq_true (by first|(with_reducible assumption)|assumption);obtain ⟨ad295,A295_0,c295_0,A295_1,c295_1,e295,hx295_0,hx295_1,hl295_0,hi295_0,hl295_1,hi295_1⟩:=at_T32 HR1.out x5_1 p295 q295;obtain rfl:ad292=ad295:=(by injection e295);have HR295_0:=zqd.mk hi295_0;have HC295_0:=zqd.mk hl295_0;clear hi295_0 hl295_0;have HR295_1:=zqd.mk hi295_1;have HC295_1:=zqd.mk hl295_1;clear hi295_1 hl295_1;replace p295:=eq_true p295;replace q295:=eq_true q295;have ea_:=Option.some.inj (hx292_0.symm.trans hx295_0);injection ea_ with ea_ en_ ec_;subst ea_;subst ec_;clear en_;have ea_:=Option.some.inj (hx292_1.symm.trans hx295_1);injection ea_ with ea_ en_ ec_;subst ea_;subst ec_;clear en_)|(go_at_call 34;(with_reducible refine(zjn.calls k1 _ _ ((zxb l0 x5_1).f1) _ _ ((zxb l1 x5_1).f1) true _ ?side1 ?side2 ?side3 ?side4 A9.out).mono ?_);(case side1=>repeat(first|exact HR294_1.out|(with_reducible refine Kd.zqw ?_ _)|(with_reducible refine Kd.zqy ?_ _)|(with_reducible refine Kd.zq2 ?_)));(case side2=>exact HC294_1.out);(case side3=>repeat(first|exact HR295_1.out|(with_reducible refine Kd.zqw ?_ _)|(with_reducible refine Kd.zqy ?_ _)|(with_reducible refine Kd.zq2 ?_)));(case side4=>exact HC295_1.out);rintro e w' ⟨rfl,⟨nd,rfl⟩⟩;(try first|exact⟨rfl,_,World.drewN_drewN _ _ _⟩|exact⟨rfl,_,Eq.trans (World.drewN_drewN _ _ _) (congrArg (World.drewN _) (Nat.add_assoc _ _ _))⟩)));try go_wp2_with (first|(go_at_call 34;(with_reducible refine(zjn.calls k1 _ _ ((zxb l0 x5_1).f0) _ _ ((zxb l1 x5_1).f0) true _ ?side1 ?side2 ?side3 ?side4 A7.out).mono ?_);(case side1=>repeat(first|exact HR291_0.out|(with_reducible refine Kd.zqw ?_ _)|(with_reducible refine Kd.zqy ?_ _)|(with_reducible refine Kd.zq2 ?_)));(case side2=>exact HC291_0.out);(case side3=>repeat(first|exact HR292_0.out|(with_reducible refine Kd.zqw ?_ _)|(with_reducible refine Kd.zqy ?_ _)|(with_reducible refine Kd.zq2 ?_)));(case side4=>exact HC292_0.out);rintro e w' ⟨rfl,⟨nd,rfl⟩⟩;(try first|exact⟨rfl,_,World.drewN_drewN _ _ _⟩|exact⟨rfl,_,Eq.trans (World.drewN_drewN _ _ _) (congrArg (World.drewN _) (Nat.add_assoc _ _ _))⟩);have p294:0≤(x5_1:Int):=of_decide_eq_true (by first|(with_reducible assumption)|assumption);have q294:x5_1<(l0.length:Int):=of_decide_eq_true (by first|(with_reducible assumption)|assumption);obtain ⟨ad294,A294_0,c294_0,A294_1,c294_1,e294,hx294_0,hx294_1,hl294_0,hi294_0,hl294_1,hi294_1⟩:=at_T32 HR0.out x5_1 p294 q294;obtain rfl:ad291=ad294:=(by injection e294);have HR294_0:=zqd.mk hi294_0;have HC294_0:=zqd.mk hl294_0;clear hi294_0 hl294_0;have HR294_1:=zqd.mk hi294_1;have HC294_1:=zqd.mk hl294_1;clear hi294_1 hl294_1;replace p294:=eq_true p294;replace q294:=eq_true q294;have ea_:=Option.some.inj (hx291_0.symm.trans hx294_0);injection ea_ with ea_ en_ ec_;subst ea_;subst ec_;clear en_;have ea_:=Option.some.inj (hx291_1.symm.trans hx294_1);injection ea_ with ea_ en_ ec_;subst ea_;subst ec_;clear en_;have p295:0≤(x5_1:Int):=of_decide_eq_true (by first|(with_reducible assumption)|assumption);have q295:x5_1<(l1.length:Int):=of_decide_eq_true (by first|(with_reducible assumption)|assumption);obtain ⟨ad295,A295_0,c295_0,A295_1,c295_1,e295,hx295_0,hx295_1,hl295_0,hi295_0,hl295_1,hi295_1⟩:=at_T32 HR1.out x5_1 p295 q295;obtain rfl:ad292=ad295:=(by injection e295);have HR295_0:=zqd.mk hi295_0;have HC295_0:=zqd.mk hl295_0;clear hi295_0 hl295_0;have HR295_1:=zqd.mk hi295_1;have HC295_1:=zqd.mk hl295_1;clear hi295_1 hl295_1;replace p295:=eq_true p295;replace q295:=eq_true q295;have ea_:=Option.some.inj (hx292_0.symm.trans hx295_0);injection ea_ with ea_ en_ ec_;subst ea_;subst ec_;clear en_;have ea_:=Option.some.inj (hx292_1.symm.trans hx295_1);injection ea_ with ea_ en_ ec_;subst ea_;subst ec_;clear en_)|(go_at_call 34;(with_reducible refine(zjn.calls k1 _ _ ((zxb l0 x5_1).f1) _ _ ((zxb l1 x5_1).f1) true _ ?side1 ?side2 ?side3 ?side4 A9.out).mono ?_);(case side1=>repeat(first|exact HR294_1.out|(with_reducible refine Kd.zqw ?_ _)|(with_reducible refine Kd.zqy ?_ _)|(with_reducible refine Kd.zq2 ?_)));(case side2=>exact HC294_1.out);(case side3=>repeat(first|exact HR295_1.out|(with_reducible refine Kd.zqw ?_ _)|(with_reducible refine Kd.zqy ?_ _)|(with_reducible refine Kd.zq2 ?_)));(case side4=>exact HC295_1.out);rintro e w' ⟨rfl,⟨nd,rfl⟩⟩;(try first|exact⟨rfl,_,World.drewN_drewN _ _ _⟩|exact⟨rfl,_,Eq.trans (World.drewN_drewN _ _ _) (congrArg (World.drewN _) (Nat.add_assoc _ _ _))⟩))))
         go_roundg k1
         case measure=>have:=HK1.out;omega
         case rel=>exact⟨(wrap64 (x5_1+1)),(by first|rfl|(simp;done)|(simp [*];done)|(generalize ByteArray.toList _=q_;cases q_ <;> rfl)),H',⟨by have:=HK1.out;omega⟩,by repeat(first|exact zqq.refl _|apply zqq.step)⟩
        ·replace c10:=Bool.eq_false_iff.mpr c10
         subst c10
         have H1:(some false)=some r:=by rw [if_neg (show ¬ (false=true) by decide)] at H;exact H
         clear H
         have H:=H1
         clear H1
         obtain rfl:=Option.some.inj H
         have p291:0≤(x5_1:Int):=of_decide_eq_true (by first|(with_reducible assumption)|assumption)
         have q291:x5_1<(l0.length:Int):=of_decide_eq_true (by first|(with_reducible assumption)|assumption)
         obtain ⟨ad291,A291_0,c291_0,A291_1,c291_1,e291,hx291_0,hx291_1,hl291_0,hi291_0,hl291_1,hi291_1⟩:=at_T32 HR0.out x5_1 p291 q291
         cases e291
         have HR291_0:=zqd.mk hi291_0
         have HC291_0:=zqd.mk hl291_0
         clear hi291_0 hl291_0
         have HR291_1:=zqd.mk hi291_1
         have HC291_1:=zqd.mk hl291_1
         clear hi291_1 hl291_1
         replace p291:=eq_true p291
         replace q291:=eq_true q291
         have p292:0≤(x5_1:Int):=of_decide_eq_true (by first|(with_reducible assumption)|assumption)
         have q292:x5_1<(l1.length:Int):=of_decide_eq_true (by first|(with_reducible assumption)|assumption)
         obtain ⟨ad292,A292_0,c292_0,A292_1,c292_1,e292,hx292_0,hx292_1,hl292_0,hi292_0,hl292_1,hi292_1⟩:=at_T32 HR1.out x5_1 p292 q292
         cases e292
         have HR292_0:=zqd.mk hi292_0
         have HC292_0:=zqd.mk hl292_0
         clear hi292_0 hl292_0
         have HR292_1:=zqd.mk hi292_1
         have HC292_1:=zqd.mk hl292_1
         clear hi292_1 hl292_1
         replace p292:=eq_true p292
         replace q292:=eq_true q292
         go_wp2_with (first|(go_at_call 34;(with_reducible refine(zjn.calls k1 _ _ ((zxb l0 x5_1).f0) _ _ ((zxb l1 x5_1).f0) true _ ?side1 ?side2 ?side3 ?side4 A7.out).mono ?_);(case side1=>repeat(first|exact HR291_0.out|(with_reducible refine Kd.zqw ?_ _)|(with_reducible refine Kd.zqy ?_ _)|(with_reducible refine Kd.zq2 ?_)));(case side2=>exact HC291_0.out);(case side3=>repeat(first|exact HR292_0.out|(with_reducible refine Kd.zqw ?_ _)|(with_reducible refine Kd.zqy ?_ _)|(with_reducible refine Kd.zq2 ?_)));(case side4=>exact HC292_0.out);rintro e w' ⟨rfl,⟨nd,rfl⟩⟩;(try first|exact⟨rfl,_,World.drewN_drewN _ _ _⟩|exact⟨rfl,_,Eq.trans (World.drewN_drewN _ _ _) (congrArg (World.drewN _) (Nat.add_assoc _ _ _))⟩);have p294:0≤(x5_1:Int):=of_decide_eq_true (by first|(with_reducible assumption)|assumption);have q294:x5_1<(l0.length:Int):=of_decide_eq_true (by first|(with_reducible assumption)|assumption);obtain ⟨ad294,A294_0,c294_0,A294_1,c294_1,e294,hx294_0,hx294_1,hl294_0,hi294_0,hl294_1,hi294_1⟩:=at_T32 HR0.out x5_1 p294 q294;obtain rfl:ad291=ad294:=(by injection e294);have HR294_0:=zqd.mk hi294_0;have HC294_0:=zqd.mk hl294_0;clear hi294_0 hl294_0;have HR294_1:=zqd.mk hi294_1;have HC294_1:=zqd.mk hl294_1;clear hi294_1 hl294_1;replace p294:=eq_true p294;replace q294:=eq_true q294;have ea_:=Option.some.inj (hx291_0.symm.trans hx294_0);injection ea_ with ea_ en_ ec_;subst ea_;subst ec_;clear en_;have ea_:=Option.some.inj (hx291_1.symm.trans hx294_1);injection ea_ with ea_ en_ ec_;subst ea_;subst ec_;clear en_;have p295:0≤(x5_1:Int):=of_decide_eq_true (by first|(with_reducible assumption)|assumption);have q295:x5_1<(l1.length:Int):=of_decide_eq_true (by first|(with_reducible assumption)|assumption);obtain ⟨ad295,A295_0,c295_0,A295_1,c295_1,e295,hx295_0,hx295_1,hl295_0,hi295_0,hl295_1,hi295_1⟩:=at_T32 HR1.out x5_1 p295 q295;obtain rfl:ad292=ad295:=(by injection e295);have HR295_0:=zqd.mk hi295_0;have HC295_0:=zqd.mk hl295_0;clear hi295_0 hl295_0;have HR295_1:=zqd.mk hi295_1;have HC295_1:=zqd.mk hl295_1;clear hi295_1 hl295_1;replace p295:=eq_true p295;replace q295:=eq_true q295;have ea_:=Option.some.inj (hx292_0.symm.trans hx295_0);injection ea_ with ea_ en_ ec_;subst ea_;subst ec_;clear en_;have ea_:=Option.some.inj (hx292_1.symm.trans hx295_1);injection ea_ with ea_ en_ ec_;subst ea_;subst ec_;clear en_)|(go_at_call 34;(with_reducible refine(zjn.calls k1 _ _ ((zxb l0 x5_1).f1) _ _ ((zxb l1 x5_1).f1) false _ ?side1 ?side2 ?side3 ?side4 A9.out).mono ?_);(case side1=>repeat(first|exact HR294_1.out|(with_reducible refine Kd.zqw ?_ _)|(with_reducible refine Kd.zqy ?_ _)|(with_reducible refine Kd.zq2 ?_)));(case side2=>exact HC294_1.out);(case side3=>repeat(first|exact HR295_1.out|(with_reducible refine Kd.zqw ?_ _)|(with_reducible refine Kd.zqy ?_ _)|(with_reducible refine Kd.zq2 ?_)));(case side4=>exact HC295_1.out);rintro e w' ⟨rfl,⟨nd,rfl⟩⟩;(try first|exact⟨rfl,_,World.drewN_drewN _ _ _⟩|exact⟨rfl,_,Eq.trans (World.drewN_drewN _ _ _) (congrArg (World.drewN _) (Nat.add_assoc _ _ _))⟩)))
         repeat(go_quiet (first|(go_at_call 34;(with_reducible refine(zjn.calls k1 _ _ ((zxb l0 x5_1).f0) _ _ ((zxb l1 x5_1).f0) true _ ?side1 ?side2 ?side3 ?side4 A7.out).mono ?_);(case side1=>repeat(first|exact HR291_0.out|(with_reducible refine Kd.zqw ?_ _)|(with_reducible refine Kd.zqy ?_ _)|(with_reducible refine Kd.zq2 ?_)));(case side2=>exact HC291_0.out);(case side3=>repeat(first|exact HR292_0.out|(with_reducible refine Kd.zqw ?_ _)|(with_reducible refine Kd.zqy ?_ _)|(with_reducible refine Kd.zq2 ?_)));(case side4=>exact HC292_0.out);rintro e w' ⟨rfl,⟨nd,rfl⟩⟩;(try first|exact⟨rfl,_,World.drewN_drewN _ _ _⟩|exact⟨rfl,_,Eq.trans (World.drewN_drewN _ _ _) (congrArg (World.drewN _) (Nat.add_assoc _ _ _))⟩);have p294:0≤(x5_1:Int):=of_decide_eq_true (by first|(with_reducible assumption)|assumption);have q294:x5_1<(l0.length:Int):=of_decide_eq_true (by first|(with_reducible assumption)|assumption);obtain ⟨ad294,A294_0,c294_0,A294_1,c294_1,e294,hx294_0,hx294_1,hl294_0,hi294_0,hl294_1,hi294_1⟩:=at_T32 HR0.out x5_1 p294 q294;obtain rfl:ad291=ad294:=(by injection e294);have HR294_0:=zqd.mk hi294_0;have HC294_0:=zqd.mk hl294_0;clear hi294_0 hl294_0;have HR294_1:=zqd.mk hi294_1;have HC294_1:=zqd.mk hl294_1;clear hi294_1 hl294_1;replace p294:=eq_true p294;replace q294:=eq_true q294;have ea_:=Option.some.inj (hx291_0.symm.trans hx294_0);injection ea_ with ea_ en_ ec_;subst ea_;subst ec_;clear en_;have ea_:=Option.some.inj (hx291_1.symm.trans hx294_1);injection ea_ with ea_ en_ ec_;subst ea_;subst ec_;clear en_;have p295:0≤(x5_1:Int):=of_decide_eq_true (by first|(with_reducible assumption)|assumption);have q295:x5_1<(l1.length:Int):=of_decide_eq_true (by first|(with_reducible assumption)|assumption);obtain ⟨ad295,A295_0,c295_0,A295_1,c295_1,e295,hx295_0,hx295_1,hl295_0,hi295_0,hl295_1,hi295_1⟩:=at_T32 HR1.out x5_1 p295 q295;obtain rfl:ad292=ad295:=(by injection e295);have HR295_0:=zqd.mk hi295_0;have HC295_0:=zqd.mk hl295_0;clear hi295_0 hl295_0;have HR295_1:=zqd.mk hi295_1;have HC295_1:=zqd.mk hl295_1;clear hi295_1 hl295_1;replace p295:=eq_true p295;replace q295:=eq_true q295;have ea_:=Option.some.inj (hx292_0.symm.trans hx295_0);injection ea_ with ea_ en_ ec_;subst ea_;subst ec_;clear en_;have ea_:=Option.some.inj (hx292_1.symm.trans hx295_1);injection ea_ with ea_ en_ ec_;subst ea_;subst ec_;clear en_)|(go_at_call 34;(with_reducible refine(zjn.calls k1 _ _ ((zxb l0 x5_1).f1) _ _ ((zxb l1 x5_1).f1) false _ ?side1 ?side2 ?side3 ?side4 A9.out).mono ?_);(case side1=>repeat(first|exact HR294_1.out|(with_reducible refine Kd.zqw ?_ _)|(with_reducible refine Kd.zqy ?_ _)|(with_reducible refine Kd.zq2 ?_)));(case side2=>exact HC294_1.out);(case side3=>repeat(first|exact HR295_1.out|(with_reducible refine Kd.zqw ?_ _)|(with_reducible refine Kd.zqy ?_ _)|(with_reducible refine Kd.zq2 ?_)));(case side4=>exact HC295_1.out);rintro e w' ⟨rfl,⟨nd,rfl⟩⟩;(try first|exact⟨rfl,_,World.drewN_drewN _ _ _⟩|exact⟨rfl,_,Eq.trans (World.drewN_drewN _ _ _) (congrArg (World.drewN _) (Nat.add_assoc _ _ _))⟩)));try go_wp2_with (first|(go_at_call 34;(with_reducible refine(zjn.calls k1 _ _ ((zxb l0 x5_1).f0) _ _ ((zxb l1 x5_1).f0) true _ ?side1 ?side2 ?side3 ?side4 A7.out).mono ?_);(case side1=>repeat(first|exact HR291_0.out|(with_reducible refine Kd.zqw ?_ _)|(with_reducible refine Kd.zqy ?_ _)|(with_reducible refine Kd.zq2 ?_)));(case side2=>exact HC291_0.out);(case side3=>repeat(first|exact HR292_0.out|(with_reducible refine Kd.zqw ?_ _)|(with_reducible refine Kd.zqy ?_ _)|(with_reducible refine Kd.zq2 ?_)));(case side4=>exact HC292_0.out);rintro e w' ⟨rfl,⟨nd,rfl⟩⟩;(try first|exact⟨rfl,_,World.drewN_drewN _ _ _⟩|exact⟨rfl,_,Eq.trans (World.drewN_drewN _ _ _) (congrArg (World.drewN _) (Nat.add_assoc _ _ _))⟩);have p294:0≤(x5_1:Int):=of_decide_eq_true (by first|(with_reducible assumption)|assumption);have q294:x5_1<(l0.length:Int):=of_decide_eq_true (by first|(with_reducible assumption)|assumption);obtain ⟨ad294,A294_0,c294_0,A294_1,c294_1,e294,hx294_0,hx294_1,hl294_0,hi294_0,hl294_1,hi294_1⟩:=at_T32 HR0.out x5_1 p294 q294;obtain rfl:ad291=ad294:=(by injection e294);have HR294_0:=zqd.mk hi294_0;have HC294_0:=zqd.mk hl294_0;clear hi294_0 hl294_0;have HR294_1:=zqd.mk hi294_1;have HC294_1:=zqd.mk hl294_1;clear hi294_1 hl294_1;replace p294:=eq_true p294;replace q294:=eq_true q294;have ea_:=Option.some.inj (hx291_0.symm.trans hx294_0);injection ea_ with ea_ en_ ec_;subst ea_;subst ec_;clear en_;have ea_:=Option.some.inj (hx291_1.symm.trans hx294_1);injection ea_ with ea_ en_ ec_;subst ea_;subst ec_;clear en_;have p295:0≤(x5_1:Int):=of_decide_eq_true (by first|(with_reducible assumption)|assumption);have q295:x5_1<(l1.length:Int):=of_decide_eq_true (by first|(with_reducible assumption)|assumption);obtain ⟨ad295,A295_0,c295_0,A295_1,c295_1,e295,hx295_0,hx295_1,hl295_0,hi295_0,hl295_1,hi295_1⟩:=at_T32 HR1.out x5_1 p295 q295;obtain rfl:ad292=ad295:=(by injection e295);have HR295_0:=zqd.mk hi295_0;have HC295_0:=zqd.mk hl295_0;clear hi295_0 hl295_0;have HR295_1:=zqd.mk hi295_1;have HC295_1:=zqd.mk hl295_1;clear hi295_1 hl295_1;replace p295:=eq_true p295;replace q295:=eq_true q295;have ea_:=Option.some.inj (hx292_0.symm.trans hx295_0);injection ea_ with ea_ en_ ec_;subst ea_;subst ec_;clear en_;have ea_:=Option.some.inj (hx292_1.symm.trans hx295_1);injection ea_ with ea_ en_ ec_;subst ea_;subst ec_;clear en_)|(go_at_call 34;(with_reducible refine(zjn.calls k1 _ _ ((zxb l0 x5_1).f1) _ _ ((zxb l1 x5_1).f1) false _ ?side1 ?side2 ?side3 ?side4 A9.out).mono ?_);(case side1=>repeat(first|exact HR294_1.out|(with_reducible refine Kd.zqw ?_ _)|(with_reducible refine Kd.zqy ?_ _)|(with_reducible refine Kd.zq2 ?_)));(case side2=>exact HC294_1.out);(case side3=>repeat(first|exact HR295_1.out|(with_reducible refine Kd.zqw ?_ _)|(with_reducible refine Kd.zqy ?_ _)|(with_reducible refine Kd.zq2 ?_)));(case side4=>exact HC295_1.out);rintro e w' ⟨rfl,⟨nd,rfl⟩⟩;(try first|exact⟨rfl,_,World.drewN_drewN _ _ _⟩|exact⟨rfl,_,Eq.trans (World.drewN_drewN _ _ _) (congrArg (World.drewN _) (Nat.add_assoc _ _ _))⟩))))
         go_ret
         exact⟨by first|rfl|(simp;done)|(simp [*];done),by repeat(first|exact zqq.refl _|apply zqq.step)⟩
       ·replace c8:=Bool.eq_false_iff.mpr c8
        subst c8
        have H1:(some false)=some r:=by rw [if_neg (show ¬ (false=true) by decide)] at H;exact H
        clear H
        have H:=H1
        clear H1
        obtain rfl:=Option.some.inj H
        have p291:0≤(x5_1:Int):=of_decide_eq_true (by first|(with_reducible assumption)|assumption)
        have q291:x5_1<(l0.length:Int):=of_decide_eq_true (by first|(with_reducible assumption)|assumption)
        obtain ⟨ad291,A291_0,c291_0,A291_1,c291_1,e291,hx291_0,hx291_1,hl291_0,hi291_0,hl291_1,hi291_1⟩:=at_T32 HR0.out x5_1 p291 q291
        cases e291
        have HR291_0:=zqd.mk hi291_0
        have HC291_0:=zqd.mk hl291_0
        clear hi291_0 hl291_0
        have HR291_1:=zqd.mk hi291_1
        have HC291_1:=zqd.mk hl291_1
        clear hi291_1 hl291_1
        replace p291:=eq_true p291
        replace q291:=eq_true q291
        have p292:0≤(x5_1:Int):=of_decide_eq_true (by first|(with_reducible assumption)|assumption)
        have q292:x5_1<(l1.length:Int):=of_decide_eq_true (by first|(with_reducible assumption)|assumption)
        obtain ⟨ad292,A292_0,c292_0,A292_1,c292_1,e292,hx292_0,hx292_1,hl292_0,hi292_0,hl292_1,hi292_1⟩:=at_T32 HR1.out x5_1 p292 q292
        cases e292
        have HR292_0:=zqd.mk hi292_0
        have HC292_0:=zqd.mk hl292_0
        clear hi292_0 hl292_0
        have HR292_1:=zqd.mk hi292_1
        have HC292_1:=zqd.mk hl292_1
        clear hi292_1 hl292_1
        replace p292:=eq_true p292
        replace q292:=eq_true q292
        go_wp2_with (first|(go_at_call 34;(with_reducible refine(zjn.calls k1 _ _ ((zxb l0 x5_1).f0) _ _ ((zxb l1 x5_1).f0) false _ ?side1 ?side2 ?side3 ?side4 A7.out).mono ?_);(case side1=>repeat(first|exact HR291_0.out|(with_reducible refine Kd.zqw ?_ _)|(with_reducible refine Kd.zqy ?_ _)|(with_reducible refine Kd.zq2 ?_)));(case side2=>exact HC291_0.out);(case side3=>repeat(first|exact HR292_0.out|(with_reducible refine Kd.zqw ?_ _)|(with_reducible refine Kd.zqy ?_ _)|(with_reducible refine Kd.zq2 ?_)));(case side4=>exact HC292_0.out);rintro e w' ⟨rfl,⟨nd,rfl⟩⟩;(try first|exact⟨rfl,_,World.drewN_drewN _ _ _⟩|exact⟨rfl,_,Eq.trans (World.drewN_drewN _ _ _) (congrArg (World.drewN _) (Nat.add_assoc _ _ _))⟩)))
        repeat(go_quiet (first|(go_at_call 34;(with_reducible refine(zjn.calls k1 _ _ ((zxb l0 x5_1).f0) _ _ ((zxb l1 x5_1).f0) false _ ?side1 ?side2 ?side3 ?side4 A7.out).mono ?_);(case side1=>repeat(first|exact HR291_0.out|(with_reducible refine Kd.zqw ?_ _)|(with_reducible refine Kd.zqy ?_ _)|(with_reducible refine Kd.zq2 ?_)));(case side2=>exact HC291_0.out);(case side3=>repeat(first|exact HR292_0.out|(with_reducible refine Kd.zqw ?_ _)|(with_reducible refine Kd.zqy ?_ _)|(with_reducible refine Kd.zq2 ?_)));(case side4=>exact HC292_0.out);rintro e w' ⟨rfl,⟨nd,rfl⟩⟩;(try first|exact⟨rfl,_,World.drewN_drewN _ _ _⟩|exact⟨rfl,_,Eq.trans (World.drewN_drewN _ _ _) (congrArg (World.drewN _) (Nat.add_assoc _ _ _))⟩)));try go_wp2_with (first|(go_at_call 34;(with_reducible refine(zjn.calls k1 _ _ ((zxb l0 x5_1).f0) _ _ ((zxb l1 x5_1).f0) false _ ?side1 ?side2 ?side3 ?side4 A7.out).mono ?_);(case side1=>repeat(first|exact HR291_0.out|(with_reducible refine Kd.zqw ?_ _)|(with_reducible refine Kd.zqy ?_ _)|(with_reducible refine Kd.zq2 ?_)));(case side2=>exact HC291_0.out);(case side3=>repeat(first|exact HR292_0.out|(with_reducible refine Kd.zqw ?_ _)|(with_reducible refine Kd.zqy ?_ _)|(with_reducible refine Kd.zq2 ?_)));(case side4=>exact HC292_0.out);rintro e w' ⟨rfl,⟨nd,rfl⟩⟩;(try first|exact⟨rfl,_,World.drewN_drewN _ _ _⟩|exact⟨rfl,_,Eq.trans (World.drewN_drewN _ _ _) (congrArg (World.drewN _) (Nat.add_assoc _ _ _))⟩))))
        go_ret
        exact⟨by first|rfl|(simp;done)|(simp [*];done),by repeat(first|exact zqq.refl _|apply zqq.step)⟩
      ·rw [if_neg c6] at H
       exact absurd H (by simp)
     ·rw [if_neg c5] at H
      exact absurd H (by simp)
    ·rw [if_neg c4] at H
     have c4b0:decide (x5_1<(l0.length:Int))=false:=decide_eq_false c4
     clear c4
     obtain rfl:=Option.some.inj H
     go_wp2
     repeat(go_quiet (fail);try go_wp2)
     go_ret
     exact⟨by first|rfl|(simp;done)|(simp [*];done),by repeat(first|exact zqq.refl _|apply zqq.step)⟩
 ·rw [if_neg c3] at H
  have c3b0:((l0.length:Int) == (l1.length:Int))=false:=beq_eq_false_iff_ne.mpr c3
  have c3b1:((l0.length:Int) != (l1.length:Int))=true:=bne_iff_ne.mpr c3
  have c3b2:(l0.length == l1.length)=false:=by first|simpa using c3|(simp at c3 ⊢;omega)
  obtain rfl:=Option.some.inj H
  go_enter Tryd.func12,Tryd.ntmps12
  go_wp2
  repeat(go_quiet (fail);try go_wp2)
  go_ret
  exact⟨by first|rfl|(simp;done)|(simp [*];done),by repeat(first|exact zqq.refl _|apply zqq.step)⟩

/-! ### commonholdlaw_RowEntries: function 3 -/
def commonholdlaw_RowEntries.f (k:Nat) (l0:List (S61)) (a1:Int) (l2:List (S38)):Option (Bool):=(zxa.f k l0 a1 l2).bind fun bt297=>((zjr.f k l0 a1 l2).bind fun bt301=>((zjq.f k bt297.1 bt301.1).bind fun t305=>(if t305=true then(some (bt297.2 == bt301.2)) else (some false))))
theorem commonholdlaw_RowEntries.mono:∀ a0 a1 a2 k,LeO (commonholdlaw_RowEntries.f k a0 a1 a2) (commonholdlaw_RowEntries.f (k+1) a0 a1 a2):=by
 intro a0 a1 a2 k
 unfold commonholdlaw_RowEntries.f
 repeat' first
   | (with_reducible first|exact zjq.mono _ _ _|exact zjr.mono _ _ _ _|exact zxa.mono _ _ _ _|exact LeO.refl _|exact LeO.none _|refine LeO.ite ?_ ?_|refine LeO.bind ?_ (fun _=>?_))
   | exact zjq.mono _ _ _
   | exact zjr.mono _ _ _ _
   | exact zxa.mono _ _ _ _
   | exact LeO.none _
   | refine LeO.ite ?_ ?_
   | refine LeO.bind ?_ (fun _=>?_)
set_option maxHeartbeats 8000000 in
set_option maxRecDepth 100000 in
theorem commonholdlaw_RowEntries.calls (k:Nat) (A0:Option Addr) (c0:Nat) (l0:List (S61)) (a1:Int) (A2:Option Addr) (c2:Nat) (l2:List (S38)) (r:Bool) (w:World) (hr0:Kd.C k61 w A0 l0.length l0) (hc0:l0.length≤c0) (hr2:Kd.C k38 w A2 l2.length l2) (hc2:l2.length≤c2) (hL:LD w) (h:commonholdlaw_RowEntries.f k l0 a1 l2=some r) :
  Calls Tryd.prog 3 #[.slice A0 l0.length c0,.int .i64 a1,.slice A2 l2.length c2] w fun e w'=>e = .returned (.bool r)∧Below w.heap.size w w':=by
 have HLD:=zqd.mk hL
 clear hL
 have HR0:=zqd.mk hr0
 have HC0:=zqd.mk hc0
 clear hr0 hc0
 have HR2:=zqd.mk hr2
 have HC2:=zqd.mk hc2
 clear hr2 hc2
 have HB:=zqd.mk (Below.refl w.heap.size w)
 have H:((zxa.f k l0 a1 l2).bind fun bt297=>((zjr.f k l0 a1 l2).bind fun bt301=>((zjq.f k bt297.1 bt301.1).bind fun t305=>(if t305=true then(some (bt297.2 == bt301.2)) else (some false)))))=some r:=h
 clear h
 replace H:=Option.bind_eq_some_iff.mp H
 obtain ⟨⟨t297,t298⟩,A40,H⟩:=H
 replace H:((zjr.f k l0 a1 l2).bind fun bt301=>((zjq.f k t297 bt301.1).bind fun t305=>(if t305=true then(some (t298 == bt301.2)) else (some false))))=some r:=H
 have A4:=zqd.mk A40
 clear A40
 replace H:=Option.bind_eq_some_iff.mp H
 obtain ⟨⟨t301,t302⟩,A50,H⟩:=H
 replace H:((zjq.f k t297 t301).bind fun t305=>(if t305=true then(some (t298 == t302)) else (some false)))=some r:=H
 have A5:=zqd.mk A50
 clear A50
 replace H:=Option.bind_eq_some_iff.mp H
 obtain ⟨t305,A60,H⟩:=H
 replace H:(if t305=true then(some (t298 == t302)) else (some false))=some r:=H
 have A6:=zqd.mk A60
 clear A60
 by_cases c7:t305=true
 ·subst c7
  have H1:(some (t298 == t302))=some r:=by rw [if_pos rfl] at H;exact H
  clear H
  have H:=H1
  clear H1
  obtain rfl:=Option.some.inj H
  go_enter Tryd.func3,Tryd.ntmps3
  go_wp2_with (first|((with_reducible refine zqv (f:=10) rfl ?_);refine zq8 (some 15) rfl rfl Tryd.func10 (by kernel_rfl) rfl #[.slice A0 l0.length c0,.int .i64 a1,.slice A2 l2.length c2] rfl (by(try simp only [List.map_toArray,List.map_cons,List.map_nil]);first|done|rfl|(simp only [List.length_drop,List.length_take];rfl)) ?_;(with_reducible refine(zxa.calls k _ _ l0 a1 _ _ l2 t297 t298 _ ?side1 ?side2 ?side3 ?side4 ?side5 A4.out).mono ?_);(case side1=>repeat(first|exact HR0.out|(with_reducible refine Kd.zqw ?_ _)|(with_reducible refine Kd.zqy ?_ _)|(with_reducible refine Kd.zq2 ?_)));(case side2=>exact HC0.out);(case side3=>repeat(first|exact HR2.out|(with_reducible refine Kd.zqw ?_ _)|(with_reducible refine Kd.zqy ?_ _)|(with_reducible refine Kd.zq2 ?_)));(case side4=>exact HC2.out);(case side5=>exact LD.below HLD.out (by first|(with_reducible exact Below.refl _ _)|((repeat(first|(with_reducible exact Below.refl _ _)|(with_reducible apply zqb)|(with_reducible apply zqa)|(with_reducible apply zqc)));done)|exact(by repeat(first|(with_reducible first|exact HB.out|apply zqb|apply zqa|apply zqc)|exact HB.out))));rintro e w8 ⟨v299,rfl,ho0,hb⟩;refine⟨_,rfl,?_⟩;have n0_:=zqd.mk (Kd.S_lower ho0 (zqk (by repeat(first|(with_reducible first|exact HB.out|apply zqb|apply zqa|apply zqc)|exact HB.out))));have n1_:=zqd.mk (zqn (by repeat(first|(with_reducible first|exact HB.out|apply zqb|apply zqa|apply zqc)|exact HB.out)) hb);clear HB;have HO300:=n0_;have HB:=n1_;clear n0_ n1_;(try clear hb);(try clear hb2);(try clear hk);(try clear hi);(try clear ho0))|((with_reducible refine zqv (f:=11) rfl ?_);refine zq8 (some 22) rfl rfl Tryd.func11 (by kernel_rfl) rfl #[.slice A0 l0.length c0,.int .i64 a1,.slice A2 l2.length c2] rfl (by(try simp only [List.map_toArray,List.map_cons,List.map_nil]);first|done|rfl|(simp only [List.length_drop,List.length_take];rfl)) ?_;(with_reducible refine(zjr.calls k _ _ l0 a1 _ _ l2 t301 t302 _ ?side1 ?side2 ?side3 ?side4 A5.out).mono ?_);(case side1=>repeat(first|exact(Kd.zq3 HR0.out HB.out)|(with_reducible refine Kd.zqw ?_ _)|(with_reducible refine Kd.zqy ?_ _)|(with_reducible refine Kd.zq2 ?_)));(case side2=>exact HC0.out);(case side3=>repeat(first|exact(Kd.zq3 HR2.out HB.out)|(with_reducible refine Kd.zqw ?_ _)|(with_reducible refine Kd.zqy ?_ _)|(with_reducible refine Kd.zq2 ?_)));(case side4=>exact HC2.out);rintro e w9 ⟨v303,rfl,ho0,hb⟩;refine⟨_,rfl,?_⟩;have n0_:=zqd.mk (Kd.S_elder' (by(with_reducible repeat(first|apply Kd.zxj|apply Kd.zxi|apply Kd.zxx));exact HO300.out) (Kd.S_base ho0) hb);have n1_:=zqd.mk (Kd.S_lower (Kd.S_new' ho0 (Kd.S_lt (by(with_reducible repeat(first|apply Kd.zxj|apply Kd.zxi|apply Kd.zxx));exact HO300.out))) (zqk (by repeat(first|(with_reducible first|exact HB.out|apply zqb|apply zqa|apply zqc)|exact HB.out))));have n2_:=zqd.mk (zqn (by repeat(first|(with_reducible first|exact HB.out|apply zqb|apply zqa|apply zqc)|exact HB.out)) hb);clear HO300 HB;have HO300:=n0_;have HO304:=n1_;have HB:=n2_;clear n0_ n1_ n2_;(try clear hb);(try clear hb2);(try clear hk);(try clear hi);(try clear ho0);obtain ⟨Ao10,co10,eo10⟩:=Kd.S_slice HO300.out;subst eo10;obtain ⟨Ao11,co11,eo11⟩:=Kd.S_slice HO304.out;subst eo11)|((with_reducible refine zqv (f:=12) rfl ?_);refine zq8 (some 27) rfl rfl Tryd.func12 (by kernel_rfl) rfl #[.slice Ao10 t297.length co10,.slice Ao11 t301.length co11] rfl (by(try simp only [List.map_toArray,List.map_cons,List.map_nil]);first|done|rfl|(simp only [List.length_drop,List.length_take];rfl)) ?_;(with_reducible refine(zjq.calls k _ _ t297 _ _ t301 true _ ?side1 ?side2 ?side3 ?side4 A6.out).mono ?_);(case side1=>repeat(first|exact(Kd.S_reads' HO300.out).2.2|(with_reducible refine Kd.zqw ?_ _)|(with_reducible refine Kd.zqy ?_ _)|(with_reducible refine Kd.zq2 ?_)));(case side2=>exact(Kd.S_reads' HO300.out).2.1);(case side3=>repeat(first|exact(Kd.S_reads' HO304.out).2.2|(with_reducible refine Kd.zqw ?_ _)|(with_reducible refine Kd.zqy ?_ _)|(with_reducible refine Kd.zq2 ?_)));(case side4=>exact(Kd.S_reads' HO304.out).2.1);rintro e w' ⟨rfl,⟨nd,rfl⟩⟩;refine⟨_,rfl,?_⟩))
  go_ret
  exact⟨by first|rfl|(simp [zqm,zql] <;> rfl)|(simp [*,zqm,zql] <;> rfl),by repeat(first|(with_reducible first|exact HB.out|apply zqb|apply zqa|apply zqc)|exact HB.out)⟩
 ·replace c7:=Bool.eq_false_iff.mpr c7
  subst c7
  have H1:(some false)=some r:=by rw [if_neg (show ¬ (false=true) by decide)] at H;exact H
  clear H
  have H:=H1
  clear H1
  obtain rfl:=Option.some.inj H
  go_enter Tryd.func3,Tryd.ntmps3
  go_wp2_with (first|((with_reducible refine zqv (f:=10) rfl ?_);refine zq8 (some 15) rfl rfl Tryd.func10 (by kernel_rfl) rfl #[.slice A0 l0.length c0,.int .i64 a1,.slice A2 l2.length c2] rfl (by(try simp only [List.map_toArray,List.map_cons,List.map_nil]);first|done|rfl|(simp only [List.length_drop,List.length_take];rfl)) ?_;(with_reducible refine(zxa.calls k _ _ l0 a1 _ _ l2 t297 t298 _ ?side1 ?side2 ?side3 ?side4 ?side5 A4.out).mono ?_);(case side1=>repeat(first|exact HR0.out|(with_reducible refine Kd.zqw ?_ _)|(with_reducible refine Kd.zqy ?_ _)|(with_reducible refine Kd.zq2 ?_)));(case side2=>exact HC0.out);(case side3=>repeat(first|exact HR2.out|(with_reducible refine Kd.zqw ?_ _)|(with_reducible refine Kd.zqy ?_ _)|(with_reducible refine Kd.zq2 ?_)));(case side4=>exact HC2.out);(case side5=>exact LD.below HLD.out (by first|(with_reducible exact Below.refl _ _)|((repeat(first|(with_reducible exact Below.refl _ _)|(with_reducible apply zqb)|(with_reducible apply zqa)|(with_reducible apply zqc)));done)|exact(by repeat(first|(with_reducible first|exact HB.out|apply zqb|apply zqa|apply zqc)|exact HB.out))));rintro e w12 ⟨v299,rfl,ho0,hb⟩;refine⟨_,rfl,?_⟩;have n0_:=zqd.mk (Kd.S_lower ho0 (zqk (by repeat(first|(with_reducible first|exact HB.out|apply zqb|apply zqa|apply zqc)|exact HB.out))));have n1_:=zqd.mk (zqn (by repeat(first|(with_reducible first|exact HB.out|apply zqb|apply zqa|apply zqc)|exact HB.out)) hb);clear HB;have HO300:=n0_;have HB:=n1_;clear n0_ n1_;(try clear hb);(try clear hb2);(try clear hk);(try clear hi);(try clear ho0))|((with_reducible refine zqv (f:=11) rfl ?_);refine zq8 (some 22) rfl rfl Tryd.func11 (by kernel_rfl) rfl #[.slice A0 l0.length c0,.int .i64 a1,.slice A2 l2.length c2] rfl (by(try simp only [List.map_toArray,List.map_cons,List.map_nil]);first|done|rfl|(simp only [List.length_drop,List.length_take];rfl)) ?_;(with_reducible refine(zjr.calls k _ _ l0 a1 _ _ l2 t301 t302 _ ?side1 ?side2 ?side3 ?side4 A5.out).mono ?_);(case side1=>repeat(first|exact(Kd.zq3 HR0.out HB.out)|(with_reducible refine Kd.zqw ?_ _)|(with_reducible refine Kd.zqy ?_ _)|(with_reducible refine Kd.zq2 ?_)));(case side2=>exact HC0.out);(case side3=>repeat(first|exact(Kd.zq3 HR2.out HB.out)|(with_reducible refine Kd.zqw ?_ _)|(with_reducible refine Kd.zqy ?_ _)|(with_reducible refine Kd.zq2 ?_)));(case side4=>exact HC2.out);rintro e w13 ⟨v303,rfl,ho0,hb⟩;refine⟨_,rfl,?_⟩;have n0_:=zqd.mk (Kd.S_elder' (by(with_reducible repeat(first|apply Kd.zxj|apply Kd.zxi|apply Kd.zxx));exact HO300.out) (Kd.S_base ho0) hb);have n1_:=zqd.mk (Kd.S_lower (Kd.S_new' ho0 (Kd.S_lt (by(with_reducible repeat(first|apply Kd.zxj|apply Kd.zxi|apply Kd.zxx));exact HO300.out))) (zqk (by repeat(first|(with_reducible first|exact HB.out|apply zqb|apply zqa|apply zqc)|exact HB.out))));have n2_:=zqd.mk (zqn (by repeat(first|(with_reducible first|exact HB.out|apply zqb|apply zqa|apply zqc)|exact HB.out)) hb);clear HO300 HB;have HO300:=n0_;have HO304:=n1_;have HB:=n2_;clear n0_ n1_ n2_;(try clear hb);(try clear hb2);(try clear hk);(try clear hi);(try clear ho0);obtain ⟨Ao14,co14,eo14⟩:=Kd.S_slice HO300.out;subst eo14;obtain ⟨Ao15,co15,eo15⟩:=Kd.S_slice HO304.out;subst eo15)|((with_reducible refine zqv (f:=12) rfl ?_);refine zq8 (some 27) rfl rfl Tryd.func12 (by kernel_rfl) rfl #[.slice Ao14 t297.length co14,.slice Ao15 t301.length co15] rfl (by(try simp only [List.map_toArray,List.map_cons,List.map_nil]);first|done|rfl|(simp only [List.length_drop,List.length_take];rfl)) ?_;(with_reducible refine(zjq.calls k _ _ t297 _ _ t301 false _ ?side1 ?side2 ?side3 ?side4 A6.out).mono ?_);(case side1=>repeat(first|exact(Kd.S_reads' HO300.out).2.2|(with_reducible refine Kd.zqw ?_ _)|(with_reducible refine Kd.zqy ?_ _)|(with_reducible refine Kd.zq2 ?_)));(case side2=>exact(Kd.S_reads' HO300.out).2.1);(case side3=>repeat(first|exact(Kd.S_reads' HO304.out).2.2|(with_reducible refine Kd.zqw ?_ _)|(with_reducible refine Kd.zqy ?_ _)|(with_reducible refine Kd.zq2 ?_)));(case side4=>exact(Kd.S_reads' HO304.out).2.1);rintro e w' ⟨rfl,⟨nd,rfl⟩⟩;refine⟨_,rfl,?_⟩))
  go_ret
  exact⟨by first|rfl|(simp [zqm,zql] <;> rfl)|(simp [*,zqm,zql] <;> rfl),by repeat(first|(with_reducible first|exact HB.out|apply zqb|apply zqa|apply zqc)|exact HB.out)⟩

def gd90 (x_:S90):Prop:=(fun s_:ByteArray=>s_.size≤9223372036854775807) x_.f0∧(fun n_:Int=>(Lit.int .i64 n_).wf=true) x_.f1∧(fun _:Bool=>True) x_.f2
def zd90 (x_:S90):Prop:=(fun s_:ByteArray=>s_.size≤140737488351232) x_.f0∧(fun _:Int=>True) x_.f1∧(fun _:Bool=>True) x_.f2
def bd90 (x_:S90):Nat:=((fun s_:ByteArray=>s_.size+1) x_.f0+((fun _:Int=>1) x_.f1+(fun _:Bool=>1) x_.f2))+1
def gd96 (x_:S96):Prop:=(fun s_:ByteArray=>s_.size≤9223372036854775807) x_.f0∧(fun xs_:List (Int)=>xs_.length≤9223372036854775807 ∧ ∀ x_ ∈ xs_,(fun n_:Int=>(Lit.int .i64 n_).wf=true) x_) x_.f1
def zd96 (x_:S96):Prop:=(fun s_:ByteArray=>s_.size≤140737488351232) x_.f0∧(fun xs_:List (Int)=>xs_.length * 8≤140737488351232 ∧ ∀ x_ ∈ xs_,(fun _:Int=>True) x_) x_.f1
def bd96 (x_:S96):Nat:=((fun s_:ByteArray=>s_.size+1) x_.f0+(fun xs_:List (Int)=>(xs_.map (fun _:Int=>1)).sum+1) x_.f1)+1
def gd61 (x_:S61):Prop:=(fun s_:ByteArray=>s_.size≤9223372036854775807) x_.f0∧(fun xs_:List (S90)=>xs_.length≤9223372036854775807 ∧ ∀ x_ ∈ xs_,gd90 x_) x_.f1∧(fun xs_:List (Int)=>xs_.length≤9223372036854775807 ∧ ∀ x_ ∈ xs_,(fun n_:Int=>(Lit.int .i64 n_).wf=true) x_) x_.f2∧(fun xs_:List (S96)=>xs_.length≤9223372036854775807 ∧ ∀ x_ ∈ xs_,gd96 x_) x_.f3
def zd61 (x_:S61):Prop:=(fun s_:ByteArray=>s_.size≤140737488351232) x_.f0∧(fun xs_:List (S90)=>xs_.length * 32≤140737488351232 ∧ ∀ x_ ∈ xs_,zd90 x_) x_.f1∧(fun xs_:List (Int)=>xs_.length * 8≤140737488351232 ∧ ∀ x_ ∈ xs_,(fun _:Int=>True) x_) x_.f2∧(fun xs_:List (S96)=>xs_.length * 40≤140737488351232 ∧ ∀ x_ ∈ xs_,zd96 x_) x_.f3
def bd61 (x_:S61):Nat:=((fun s_:ByteArray=>s_.size+1) x_.f0+((fun xs_:List (S90)=>(xs_.map bd90).sum+1) x_.f1+((fun xs_:List (Int)=>(xs_.map (fun _:Int=>1)).sum+1) x_.f2+(fun xs_:List (S96)=>(xs_.map bd96).sum+1) x_.f3)))+1
def gd38 (x_:S38):Prop:=(fun n_:Int=>(Lit.int .i64 n_).wf=true) x_.f0∧(fun n_:Int=>(Lit.int .i64 n_).wf=true) x_.f1∧(fun s_:ByteArray=>s_.size≤9223372036854775807) x_.f2
def zd38 (x_:S38):Prop:=(fun _:Int=>True) x_.f0∧(fun _:Int=>True) x_.f1∧(fun s_:ByteArray=>s_.size≤140737488351232) x_.f2
def bd38 (x_:S38):Nat:=((fun _:Int=>1) x_.f0+((fun _:Int=>1) x_.f1+(fun s_:ByteArray=>s_.size+1) x_.f2))+1
/-- THE ONE PURE STATEMENT of commonholdlaw_RowEntries. -/
def commonholdlaw_RowEntries.Pure:Prop := ∀ (a0:List (S61)) (a1:Int) (a2:List (S38)),(fun xs_:List (S61)=>xs_.length≤9223372036854775807 ∧ ∀ x_ ∈ xs_,gd61 x_) a0→(fun n_:Int=>(Lit.int .i64 n_).wf=true) a1→(fun xs_:List (S38)=>xs_.length≤9223372036854775807 ∧ ∀ x_ ∈ xs_,gd38 x_) a2→(fun xs_:List (S61)=>xs_.length * 88≤140737488351232 ∧ ∀ x_ ∈ xs_,zd61 x_) a0→(fun xs_:List (S38)=>xs_.length * 32≤140737488351232 ∧ ∀ x_ ∈ xs_,zd38 x_) a2 → ∃ k,commonholdlaw_RowEntries.f k a0 a1 a2=some true

end Go.Proofs.YthhejedfjgikdaaDoor.PRowEntries
