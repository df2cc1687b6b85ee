-- Written by wip/pp of this repo (over the kit's print, with additions of this session); Lean checks every line.
import Derived.Test.YthhejedfjgikdaaDoorPRelProjectsx1
namespace Go.Proofs.YthhejedfjgikdaaDoor.PRelProjects
open Go.RowKit Go.Proofs.YthhejedfjgikdaaDoorW.PrintWords Go.Proofs.YthhejedfjgikdaaDoorW.PrintLast Go.Proofs.YthhejedfjgikdaaDoorW.PrintMore
attribute [local go_sem] zjh zjf zjq zjp zq4 zq3 zjg zje   -- for this text's walks alone
set_option linter.unusedVariables false
set_option linter.unusedSimpArgs false

attribute [local go_sem high] eqA38
/-! ### qv: function 15 -/
def qv.l0:Nat→List (S38)→List (S38)→Int→Option (Bool)
 | 0,_,_,_=>none
 | k+1,x0,x1,x5=>if x5<(x0.length:Int) then(if 0≤x5 then(if x5<(x1.length:Int) then(if(!(((qe x0 x5).f0) == ((qe x1 x5).f0)) || (!(((qe x0 x5).f1) == ((qe x1 x5).f1)) || (!((((qe x0 x5).f2).toList) == (((qe x1 x5).f2).toList)))))=true then(some false) else (qv.l0 k x0 x1 (wrap64 (x5+1)))) else (none)) else (none)) else (some true)
def qv.f (k:Nat) (l0:List (S38)) (l1:List (S38)):Option (Bool):=if(l0.length:Int)=(l1.length:Int) then(qv.l0 k l0 l1 0) else (some false)
theorem qv.mono_l:∀ k,(∀ y0 y1 y2,LeO (qv.l0 k y0 y1 y2) (qv.l0 (k+1) y0 y1 y2))
 | 0=>fun _ _ _ r h=>by simp [qv.l0] at h
 | k+1=>by
  have ih0:=qv.mono_l k
  intro y0 y1 y2
  unfold qv.l0
  repeat' first
  | (with_reducible first|exact ih0 _ _ _|exact LeO.refl _|exact LeO.none _|refine LeO.ite ?_ ?_|refine LeO.bind ?_ (fun _=>?_))
  | exact ih0 _ _ _
  | exact LeO.none _
  | refine LeO.ite ?_ ?_
  | refine LeO.bind ?_ (fun _=>?_)
theorem qv.mono:∀ a0 a1 k,LeO (qv.f k a0 a1) (qv.f (k+1) a0 a1):=by
 intro a0 a1 k
 have ih0:=qv.mono_l k
 unfold qv.f
 repeat' first
   | (with_reducible first|exact ih0 _ _ _|exact LeO.refl _|exact LeO.none _|refine LeO.ite ?_ ?_|refine LeO.bind ?_ (fun _=>?_))
   | exact ih0 _ _ _
   | exact LeO.none _
   | refine LeO.ite ?_ ?_
   | refine LeO.bind ?_ (fun _=>?_)
set_option maxHeartbeats 8000000 in
set_option maxRecDepth 100000 in
theorem qv.calls (k:Nat) (A0:Option Addr) (c0:Nat) (l0:List (S38)) (A1:Option Addr) (c1:Nat) (l1:List (S38)) (r:Bool) (w:World) (hr0:Kd.C k38 w A0 l0.length l0) (hc0:l0.length≤c0) (hr1:Kd.C k38 w A1 l1.length l1) (hc1:l1.length≤c1) (h:qv.f k l0 l1=some r) :
  Calls Tryd.prog 15 #[.slice A0 l0.length c0,.slice A1 l1.length c1] w fun e w'=>e = .returned (.bool r)∧zu w w':=by
 have hu38:=Tryd.underlying38
 have HR0:=zq.mk hr0
 have HC0:=zq.mk hc0
 clear hr0 hc0
 have HR1:=zq.mk hr1
 have HC1:=zq.mk hc1
 clear hr1 hc1
 have H:(if(l0.length:Int)=(l1.length:Int) then(qv.l0 k l0 l1 0) else (some false))=some r:=h
 clear h
 by_cases c3:(l0.length:Int)=(l1.length:Int)
 ·rw [if_pos c3] at H
  have c3b0:((l0.length:Int) == (l1.length:Int))=true:=beq_iff_eq.mpr c3
  have c3b1:((l0.length:Int) != (l1.length:Int))=false:=bne_eq_false_iff_eq.mpr c3
  have c3b2:(l0.length == l1.length)=true:=by first|simpa using c3|(simp at c3 ⊢;omega)
  clear c3
  have H':=zq.mk H
  clear H
  go_enter Tryd.func15,Tryd.ntmps15
  go_wp2
  repeat(go_quiet (fail);try go_wp2)
  go_loopg [5] k (fun kq v5 w' => ∃ (x5_1:Int),v5 = .int .i64 x5_1∧zq (qv.l0 kq l0 l1 x5_1=some r)∧zq (kq≤k)∧zu w w')
  case atStart=>exact⟨(0),vr,H',⟨Nat.le_refl _⟩,by repeat(first|exact zu.refl _|apply zu.step)⟩
  case round=>
   clear H'
   (try clear c1);(try clear c3);(try clear c3b0);(try clear c3b1);(try clear c3b2)
   obtain ⟨x5_1,rfl,HA,HK1,⟨m1,rfl⟩⟩:=hrel
   cases gk with
   | zero=>exact absurd HA.out (by simp [qv.l0])
   | succ k1=>
    have H:=HA.out
    clear HA
    simp only [qv.l0] at H
    by_cases c4:x5_1<(l0.length:Int)
    ·rw [if_pos c4] at H
     have c4b0:=decide_eq_true c4
     clear c4
     by_cases c5:0≤x5_1
     ·rw [if_pos c5] at H
      have c5b0:=decide_eq_true c5
      clear c5
      by_cases c6:x5_1<(l1.length:Int)
      ·rw [if_pos c6] at H
       have c6b0:=decide_eq_true c6
       clear c6
       by_cases c7:(!(((qe l0 x5_1).f0) == ((qe l1 x5_1).f0)) || (!(((qe l0 x5_1).f1) == ((qe l1 x5_1).f1)) || (!((((qe l0 x5_1).f2).toList) == (((qe l1 x5_1).f2).toList)))))=true
       ·rw [if_pos c7] at H
        have c7b0:(!(((qe l0 x5_1).f0) == ((qe l1 x5_1).f0)) || (!(((qe l0 x5_1).f1) == ((qe l1 x5_1).f1)) || (!((((qe l0 x5_1).f2).toList) == (((qe l1 x5_1).f2).toList)))))=true:=c7
        clear c7
        obtain rfl:=Option.some.inj H
        have p101:0≤(x5_1:Int):=dt
        have q101:x5_1<(l0.length:Int):=dt
        obtain ⟨ad101,e101,hx101_0,hx101_1,hx101_2⟩:=zj6 HR0.out x5_1 p101 q101
        cases e101
        replace p101:=eq_true p101
        replace q101:=eq_true q101
        have p102:0≤(x5_1:Int):=dt
        have q102:x5_1<(l1.length:Int):=dt
        obtain ⟨ad102,e102,hx102_0,hx102_1,hx102_2⟩:=zj6 HR1.out x5_1 p102 q102
        cases e102
        replace p102:=eq_true p102
        replace q102:=eq_true q102
        go_wp2
        repeat(go_quiet (fail);try go_wp2)
        go_ret
        exact⟨by first|rfl|(simp;done)|(simp [*];done),by repeat(first|exact zu.refl _|apply zu.step)⟩
       rw [if_neg c7] at H
       have c7b0:(!(((qe l0 x5_1).f0) == ((qe l1 x5_1).f0)) || (!(((qe l0 x5_1).f1) == ((qe l1 x5_1).f1)) || (!((((qe l0 x5_1).f2).toList) == (((qe l1 x5_1).f2).toList)))))=false:=by simpa using c7
       clear c7
       have H':=zq.mk H
       clear H
       have p101:0≤(x5_1:Int):=dt
       have q101:x5_1<(l0.length:Int):=dt
       obtain ⟨ad101,e101,hx101_0,hx101_1,hx101_2⟩:=zj6 HR0.out x5_1 p101 q101
       cases e101
       replace p101:=eq_true p101
       replace q101:=eq_true q101
       have p102:0≤(x5_1:Int):=dt
       have q102:x5_1<(l1.length:Int):=dt
       obtain ⟨ad102,e102,hx102_0,hx102_1,hx102_2⟩:=zj6 HR1.out x5_1 p102 q102
       cases e102
       replace p102:=eq_true p102
       replace q102:=eq_true q102
       go_wp2
       repeat(go_quiet (fail);try go_wp2)
       go_roundg k1
       case measure=>have:=HK1.out;omega
       case rel=>exact⟨(wrap64 (x5_1+1)),vr,H',⟨by have:=HK1.out;omega⟩,by repeat(first|exact zu.refl _|apply zu.step)⟩
      rw [if_neg c6] at H
      exact absurd H (by simp)
     rw [if_neg c5] at H
     exact absurd H (by simp)
    rw [if_neg c4] at H
    have c4b0:=decide_eq_false c4
    clear c4
    obtain rfl:=Option.some.inj H
    go_wp2
    repeat(go_quiet (fail);try go_wp2)
    go_ret
    exact⟨by first|rfl|(simp;done)|(simp [*];done),by repeat(first|exact zu.refl _|apply zu.step)⟩
 rw [if_neg c3] at H
 have c3b0:((l0.length:Int) == (l1.length:Int))=false:=beq_eq_false_iff_ne.mpr c3
 have c3b1:((l0.length:Int) != (l1.length:Int))=true:=bne_iff_ne.mpr c3
 have c3b2:(l0.length == l1.length)=false:=by first|simpa using c3|(simp at c3 ⊢;omega)
 obtain rfl:=Option.some.inj H
 go_enter Tryd.func15,Tryd.ntmps15
 go_wp2
 repeat(go_quiet (fail);try go_wp2)
 go_ret
 exact⟨by first|rfl|(simp;done)|(simp [*];done),by repeat(first|exact zu.refl _|apply zu.step)⟩

/-! ### qn: function 23 -/
def qn.l0:Nat→List (List (S38))→List (List (S38))→Int→Option (Bool)
 | 0,_,_,_=>none
 | k+1,x0,x1,x5=>if x5<(x0.length:Int) then(if 0≤x5 then(if x5<(x1.length:Int) then((qv.f k (zqo x0 x5) (zqo x1 x5)).bind fun t105=>(if t105=true then(qn.l0 k x0 x1 (wrap64 (x5+1))) else (some false))) else (none)) else (none)) else (some true)
def qn.f (k:Nat) (l0:List (List (S38))) (l1:List (List (S38))):Option (Bool):=if(l0.length:Int)=(l1.length:Int) then(qn.l0 k l0 l1 0) else (some false)
theorem qn.mono_l:∀ k,(∀ y0 y1 y2,LeO (qn.l0 k y0 y1 y2) (qn.l0 (k+1) y0 y1 y2))
 | 0=>fun _ _ _ r h=>by simp [qn.l0] at h
 | k+1=>by
  have ih0:=qn.mono_l k
  intro y0 y1 y2
  unfold qn.l0
  repeat' first
  | (with_reducible first|exact ih0 _ _ _|exact qv.mono _ _ _|exact LeO.refl _|exact LeO.none _|refine LeO.ite ?_ ?_|refine LeO.bind ?_ (fun _=>?_))
  | exact ih0 _ _ _
  | exact qv.mono _ _ _
  | exact LeO.none _
  | refine LeO.ite ?_ ?_
  | refine LeO.bind ?_ (fun _=>?_)
theorem qn.mono:∀ a0 a1 k,LeO (qn.f k a0 a1) (qn.f (k+1) a0 a1):=by
 intro a0 a1 k
 have ih0:=qn.mono_l k
 unfold qn.f
 repeat' first
   | (with_reducible first|exact ih0 _ _ _|exact qv.mono _ _ _|exact LeO.refl _|exact LeO.none _|refine LeO.ite ?_ ?_|refine LeO.bind ?_ (fun _=>?_))
   | exact ih0 _ _ _
   | exact qv.mono _ _ _
   | exact LeO.none _
   | refine LeO.ite ?_ ?_
   | refine LeO.bind ?_ (fun _=>?_)
set_option maxHeartbeats 8000000 in
set_option maxRecDepth 100000 in
theorem qn.calls (k:Nat) (A0:Option Addr) (c0:Nat) (l0:List (List (S38))) (A1:Option Addr) (c1:Nat) (l1:List (List (S38))) (r:Bool) (w:World) (hr0:Kd.C (Kd.slice 38 k38) w A0 l0.length l0) (hc0:l0.length≤c0) (hr1:Kd.C (Kd.slice 38 k38) w A1 l1.length l1) (hc1:l1.length≤c1) (h:qn.f k l0 l1=some r) :
  Calls Tryd.prog 23 #[.slice A0 l0.length c0,.slice A1 l1.length c1] w fun e w'=>e = .returned (.bool r)∧zu w w':=by
 have HR0:=zq.mk hr0
 have HC0:=zq.mk hc0
 clear hr0 hc0
 have HR1:=zq.mk hr1
 have HC1:=zq.mk hc1
 clear hr1 hc1
 have H:(if(l0.length:Int)=(l1.length:Int) then(qn.l0 k l0 l1 0) else (some false))=some r:=h
 clear h
 by_cases c3:(l0.length:Int)=(l1.length:Int)
 ·rw [if_pos c3] at H
  have c3b0:((l0.length:Int) == (l1.length:Int))=true:=beq_iff_eq.mpr c3
  have c3b1:((l0.length:Int) != (l1.length:Int))=false:=bne_eq_false_iff_eq.mpr c3
  have c3b2:(l0.length == l1.length)=true:=by first|simpa using c3|(simp at c3 ⊢;omega)
  clear c3
  have H':=zq.mk H
  clear H
  go_enter Tryd.func23,Tryd.ntmps23
  go_wp2
  repeat(go_quiet (fail);try go_wp2)
  go_loopg [5] k (fun kq v5 w' => ∃ (x5_1:Int),v5 = .int .i64 x5_1∧zq (qn.l0 kq l0 l1 x5_1=some r)∧zq (kq≤k)∧zu w w')
  case atStart=>exact⟨(0),vr,H',⟨Nat.le_refl _⟩,by repeat(first|exact zu.refl _|apply zu.step)⟩
  case round=>
   clear H'
   (try clear c1);(try clear c3);(try clear c3b0);(try clear c3b1);(try clear c3b2)
   obtain ⟨x5_1,rfl,HA,HK1,⟨m1,rfl⟩⟩:=hrel
   cases gk with
   | zero=>exact absurd HA.out (by simp [qn.l0])
   | succ k1=>
    have H:=HA.out
    clear HA
    simp only [qn.l0] at H
    by_cases c4:x5_1<(l0.length:Int)
    ·rw [if_pos c4] at H
     have c4b0:=decide_eq_true c4
     clear c4
     by_cases c5:0≤x5_1
     ·rw [if_pos c5] at H
      have c5b0:=decide_eq_true c5
      clear c5
      by_cases c6:x5_1<(l1.length:Int)
      ·rw [if_pos c6] at H
       have c6b0:=decide_eq_true c6
       clear c6
       replace H:=Option.bind_eq_some_iff.mp H
       obtain ⟨t105,A70,H⟩:=H
       replace H:(if t105=true then(qn.l0 k1 l0 l1 (wrap64 (x5_1+1))) else (some false))=some r:=H
       have A7:=zq.mk A70
       clear A70
       by_cases c8:t105=true
       ·subst c8
        rw [if_pos rfl] at H
        have H':=zq.mk H
        clear H
        have p103:0≤(x5_1:Int):=dt
        have q103:x5_1<(l0.length:Int):=dt
        obtain ⟨ad103,A103_0,c103_0,e103,hx103_0,hl103_0,hi103_0⟩:=zxl HR0.out x5_1 p103 q103
        cases e103
        have HR103_0:=zq.mk hi103_0
        have HC103_0:=zq.mk hl103_0
        clear hi103_0 hl103_0
        replace p103:=eq_true p103
        replace q103:=eq_true q103
        have p104:0≤(x5_1:Int):=dt
        have q104:x5_1<(l1.length:Int):=dt
        obtain ⟨ad104,A104_0,c104_0,e104,hx104_0,hl104_0,hi104_0⟩:=zxl HR1.out x5_1 p104 q104
        cases e104
        have HR104_0:=zq.mk hi104_0
        have HC104_0:=zq.mk hl104_0
        clear hi104_0 hl104_0
        replace p104:=eq_true p104
        replace q104:=eq_true q104
        go_wp2_with (first|(go_at_call 15;(with_reducible refine(qv.calls k1 _ _ (zqo l0 x5_1) _ _ (zqo l1 x5_1) true _ ?side1 ?side2 ?side3 ?side4 A7.out).mono ?_);(case side1=>exact Kd.cu HR103_0.out);(case side2=>exact HC103_0.out);(case side3=>exact Kd.cu HR104_0.out);(case side4=>exact HC104_0.out);rintro e w' ⟨rfl,⟨nd,rfl⟩⟩;(try first|exact⟨rfl,_,World.drewN_drewN _ _ _⟩|exact⟨rfl,_,Eq.trans (World.drewN_drewN _ _ _) (congrArg (World.drewN _) (Nat.add_assoc _ _ _))⟩)))
        repeat(go_quiet (first|(go_at_call 15;(with_reducible refine(qv.calls k1 _ _ (zqo l0 x5_1) _ _ (zqo l1 x5_1) true _ ?side1 ?side2 ?side3 ?side4 A7.out).mono ?_);(case side1=>exact Kd.cu HR103_0.out);(case side2=>exact HC103_0.out);(case side3=>exact Kd.cu HR104_0.out);(case side4=>exact HC104_0.out);rintro e w' ⟨rfl,⟨nd,rfl⟩⟩;(try first|exact⟨rfl,_,World.drewN_drewN _ _ _⟩|exact⟨rfl,_,Eq.trans (World.drewN_drewN _ _ _) (congrArg (World.drewN _) (Nat.add_assoc _ _ _))⟩)));try go_wp2_with (first|(go_at_call 15;(with_reducible refine(qv.calls k1 _ _ (zqo l0 x5_1) _ _ (zqo l1 x5_1) true _ ?side1 ?side2 ?side3 ?side4 A7.out).mono ?_);(case side1=>exact Kd.cu HR103_0.out);(case side2=>exact HC103_0.out);(case side3=>exact Kd.cu HR104_0.out);(case side4=>exact HC104_0.out);rintro e w' ⟨rfl,⟨nd,rfl⟩⟩;(try first|exact⟨rfl,_,World.drewN_drewN _ _ _⟩|exact⟨rfl,_,Eq.trans (World.drewN_drewN _ _ _) (congrArg (World.drewN _) (Nat.add_assoc _ _ _))⟩))))
        go_roundg k1
        case measure=>have:=HK1.out;omega
        case rel=>exact⟨(wrap64 (x5_1+1)),vr,H',⟨by have:=HK1.out;omega⟩,by repeat(first|exact zu.refl _|apply zu.step)⟩
       replace c8:=Bool.eq_false_iff.mpr c8
       subst c8
       rw [if_neg (show ¬ (false=true) by decide)] at H
       obtain rfl:=Option.some.inj H
       have p103:0≤(x5_1:Int):=dt
       have q103:x5_1<(l0.length:Int):=dt
       obtain ⟨ad103,A103_0,c103_0,e103,hx103_0,hl103_0,hi103_0⟩:=zxl HR0.out x5_1 p103 q103
       cases e103
       have HR103_0:=zq.mk hi103_0
       have HC103_0:=zq.mk hl103_0
       clear hi103_0 hl103_0
       replace p103:=eq_true p103
       replace q103:=eq_true q103
       have p104:0≤(x5_1:Int):=dt
       have q104:x5_1<(l1.length:Int):=dt
       obtain ⟨ad104,A104_0,c104_0,e104,hx104_0,hl104_0,hi104_0⟩:=zxl HR1.out x5_1 p104 q104
       cases e104
       have HR104_0:=zq.mk hi104_0
       have HC104_0:=zq.mk hl104_0
       clear hi104_0 hl104_0
       replace p104:=eq_true p104
       replace q104:=eq_true q104
       go_wp2_with (first|(go_at_call 15;(with_reducible refine(qv.calls k1 _ _ (zqo l0 x5_1) _ _ (zqo l1 x5_1) false _ ?side1 ?side2 ?side3 ?side4 A7.out).mono ?_);(case side1=>exact Kd.cu HR103_0.out);(case side2=>exact HC103_0.out);(case side3=>exact Kd.cu HR104_0.out);(case side4=>exact HC104_0.out);rintro e w' ⟨rfl,⟨nd,rfl⟩⟩;(try first|exact⟨rfl,_,World.drewN_drewN _ _ _⟩|exact⟨rfl,_,Eq.trans (World.drewN_drewN _ _ _) (congrArg (World.drewN _) (Nat.add_assoc _ _ _))⟩)))
       repeat(go_quiet (first|(go_at_call 15;(with_reducible refine(qv.calls k1 _ _ (zqo l0 x5_1) _ _ (zqo l1 x5_1) false _ ?side1 ?side2 ?side3 ?side4 A7.out).mono ?_);(case side1=>exact Kd.cu HR103_0.out);(case side2=>exact HC103_0.out);(case side3=>exact Kd.cu HR104_0.out);(case side4=>exact HC104_0.out);rintro e w' ⟨rfl,⟨nd,rfl⟩⟩;(try first|exact⟨rfl,_,World.drewN_drewN _ _ _⟩|exact⟨rfl,_,Eq.trans (World.drewN_drewN _ _ _) (congrArg (World.drewN _) (Nat.add_assoc _ _ _))⟩)));try go_wp2_with (first|(go_at_call 15;(with_reducible refine(qv.calls k1 _ _ (zqo l0 x5_1) _ _ (zqo l1 x5_1) false _ ?side1 ?side2 ?side3 ?side4 A7.out).mono ?_);(case side1=>exact Kd.cu HR103_0.out);(case side2=>exact HC103_0.out);(case side3=>exact Kd.cu HR104_0.out);(case side4=>exact HC104_0.out);rintro e w' ⟨rfl,⟨nd,rfl⟩⟩;(try first|exact⟨rfl,_,World.drewN_drewN _ _ _⟩|exact⟨rfl,_,Eq.trans (World.drewN_drewN _ _ _) (congrArg (World.drewN _) (Nat.add_assoc _ _ _))⟩))))
       go_ret
       exact⟨by first|rfl|(simp;done)|(simp [*];done),by repeat(first|exact zu.refl _|apply zu.step)⟩
      rw [if_neg c6] at H
      exact absurd H (by simp)
     rw [if_neg c5] at H
     exact absurd H (by simp)
    rw [if_neg c4] at H
    have c4b0:=decide_eq_false c4
    clear c4
    obtain rfl:=Option.some.inj H
    go_wp2
    repeat(go_quiet (fail);try go_wp2)
    go_ret
    exact⟨by first|rfl|(simp;done)|(simp [*];done),by repeat(first|exact zu.refl _|apply zu.step)⟩
 rw [if_neg c3] at H
 have c3b0:((l0.length:Int) == (l1.length:Int))=false:=beq_eq_false_iff_ne.mpr c3
 have c3b1:((l0.length:Int) != (l1.length:Int))=true:=bne_iff_ne.mpr c3
 have c3b2:(l0.length == l1.length)=false:=by first|simpa using c3|(simp at c3 ⊢;omega)
 obtain rfl:=Option.some.inj H
 go_enter Tryd.func23,Tryd.ntmps23
 go_wp2
 repeat(go_quiet (fail);try go_wp2)
 go_ret
 exact⟨by first|rfl|(simp;done)|(simp [*];done),by repeat(first|exact zu.refl _|apply zu.step)⟩

/-! ### zj4: function 121 -/
def zj4.f (a0:ByteArray):Option (Int):=if 0<(a0.size:Int) then(if 1<(a0.size:Int) then(if 2<(a0.size:Int) then(if 3<(a0.size:Int) then(if 4<(a0.size:Int) then(if 5<(a0.size:Int) then(if 6<(a0.size:Int) then(if 7<(a0.size:Int) then(some (Go.bits .or .u64 (Go.bits .or .u64 (Go.bits .or .u64 (Go.bits .or .u64 (Go.bits .or .u64 (Go.bits .or .u64 (Go.bits .or .u64 (IntKind.u64.wrap (bt a0 0)) (IntKind.u64.wrap ((IntKind.u64.wrap (bt a0 1)) * 256))) (IntKind.u64.wrap ((IntKind.u64.wrap (bt a0 2)) * 65536))) (IntKind.u64.wrap ((IntKind.u64.wrap (bt a0 3)) * 16777216))) (IntKind.u64.wrap ((IntKind.u64.wrap (bt a0 4)) * 4294967296))) (IntKind.u64.wrap ((IntKind.u64.wrap (bt a0 5)) * 1099511627776))) (IntKind.u64.wrap ((IntKind.u64.wrap (bt a0 6)) * 281474976710656))) (IntKind.u64.wrap ((IntKind.u64.wrap (bt a0 7)) * 72057594037927936)))) else (none)) else (none)) else (none)) else (none)) else (none)) else (none)) else (none)) else (none)
set_option maxHeartbeats 8000000 in
set_option maxRecDepth 100000 in
theorem zj4.calls (a0:ByteArray) (r:Int) (w:World) (h:zj4.f a0=some r) :
  Calls Tryd.prog 121 #[.string a0] w fun e w'=>e = .returned (.int .u64 r)∧zu w w':=by
 have H:(if 0<(a0.size:Int) then(if 1<(a0.size:Int) then(if 2<(a0.size:Int) then(if 3<(a0.size:Int) then(if 4<(a0.size:Int) then(if 5<(a0.size:Int) then(if 6<(a0.size:Int) then(if 7<(a0.size:Int) then(some (Go.bits .or .u64 (Go.bits .or .u64 (Go.bits .or .u64 (Go.bits .or .u64 (Go.bits .or .u64 (Go.bits .or .u64 (Go.bits .or .u64 (IntKind.u64.wrap (bt a0 0)) (IntKind.u64.wrap ((IntKind.u64.wrap (bt a0 1)) * 256))) (IntKind.u64.wrap ((IntKind.u64.wrap (bt a0 2)) * 65536))) (IntKind.u64.wrap ((IntKind.u64.wrap (bt a0 3)) * 16777216))) (IntKind.u64.wrap ((IntKind.u64.wrap (bt a0 4)) * 4294967296))) (IntKind.u64.wrap ((IntKind.u64.wrap (bt a0 5)) * 1099511627776))) (IntKind.u64.wrap ((IntKind.u64.wrap (bt a0 6)) * 281474976710656))) (IntKind.u64.wrap ((IntKind.u64.wrap (bt a0 7)) * 72057594037927936)))) else (none)) else (none)) else (none)) else (none)) else (none)) else (none)) else (none)) else (none))=some r:=h
 clear h
 by_cases c2:0<(a0.size:Int)
 ·rw [if_pos c2] at H
  have c2b0:=decide_eq_true c2
  have c2b1:decide (0<a0.size)=true:=decide_eq_true (by omega)
  clear c2
  by_cases c4:1<(a0.size:Int)
  ·rw [if_pos c4] at H
   have c4b0:=decide_eq_true c4
   have c4b1:decide (1<a0.size)=true:=decide_eq_true (by omega)
   clear c4
   by_cases c6:2<(a0.size:Int)
   ·rw [if_pos c6] at H
    have c6b0:=decide_eq_true c6
    have c6b1:decide (2<a0.size)=true:=decide_eq_true (by omega)
    clear c6
    by_cases c8:3<(a0.size:Int)
    ·rw [if_pos c8] at H
     have c8b0:=decide_eq_true c8
     have c8b1:decide (3<a0.size)=true:=decide_eq_true (by omega)
     clear c8
     by_cases c10:4<(a0.size:Int)
     ·rw [if_pos c10] at H
      have c10b0:=decide_eq_true c10
      have c10b1:decide (4<a0.size)=true:=decide_eq_true (by omega)
      clear c10
      by_cases c12:5<(a0.size:Int)
      ·rw [if_pos c12] at H
       have c12b0:=decide_eq_true c12
       have c12b1:decide (5<a0.size)=true:=decide_eq_true (by omega)
       clear c12
       by_cases c14:6<(a0.size:Int)
       ·rw [if_pos c14] at H
        have c14b0:=decide_eq_true c14
        have c14b1:decide (6<a0.size)=true:=decide_eq_true (by omega)
        clear c14
        by_cases c16:7<(a0.size:Int)
        ·rw [if_pos c16] at H
         have c16b0:=decide_eq_true c16
         have c16b1:decide (7<a0.size)=true:=decide_eq_true (by omega)
         clear c16
         obtain rfl:=Option.some.inj H
         have p3:0≤(0:Int):=(by omega)
         have q3:0<a0.size:=(by have:(0:Int)<(a0.size:Int):=dt;omega)
         have hx3:∀ h:0<a0.size,((a0[0]'h).toNat:Int)=bt a0 0:=zj3 a0 0
         clear p3
         have qi3:(0<(a0.size:Int))=True:=eq_true (dt)
         replace q3:=eq_true q3
         have p5:0≤(1:Int):=(by omega)
         have q5:1<a0.size:=(by have:(1:Int)<(a0.size:Int):=dt;omega)
         have hx5:∀ h:1<a0.size,((a0[1]'h).toNat:Int)=bt a0 1:=zj3 a0 1
         clear p5
         have qi5:(1<(a0.size:Int))=True:=eq_true (dt)
         replace q5:=eq_true q5
         have p7:0≤(2:Int):=(by omega)
         have q7:2<a0.size:=(by have:(2:Int)<(a0.size:Int):=dt;omega)
         have hx7:∀ h:2<a0.size,((a0[2]'h).toNat:Int)=bt a0 2:=zj3 a0 2
         clear p7
         have qi7:(2<(a0.size:Int))=True:=eq_true (dt)
         replace q7:=eq_true q7
         have p9:0≤(3:Int):=(by omega)
         have q9:3<a0.size:=(by have:(3:Int)<(a0.size:Int):=dt;omega)
         have hx9:∀ h:3<a0.size,((a0[3]'h).toNat:Int)=bt a0 3:=zj3 a0 3
         clear p9
         have qi9:(3<(a0.size:Int))=True:=eq_true (dt)
         replace q9:=eq_true q9
         have p11:0≤(4:Int):=(by omega)
         have q11:4<a0.size:=(by have:(4:Int)<(a0.size:Int):=dt;omega)
         have hx11:∀ h:4<a0.size,((a0[4]'h).toNat:Int)=bt a0 4:=zj3 a0 4
         clear p11
         have qi11:(4<(a0.size:Int))=True:=eq_true (dt)
         replace q11:=eq_true q11
         have p13:0≤(5:Int):=(by omega)
         have q13:5<a0.size:=(by have:(5:Int)<(a0.size:Int):=dt;omega)
         have hx13:∀ h:5<a0.size,((a0[5]'h).toNat:Int)=bt a0 5:=zj3 a0 5
         clear p13
         have qi13:(5<(a0.size:Int))=True:=eq_true (dt)
         replace q13:=eq_true q13
         have p15:0≤(6:Int):=(by omega)
         have q15:6<a0.size:=(by have:(6:Int)<(a0.size:Int):=dt;omega)
         have hx15:∀ h:6<a0.size,((a0[6]'h).toNat:Int)=bt a0 6:=zj3 a0 6
         clear p15
         have qi15:(6<(a0.size:Int))=True:=eq_true (dt)
         replace q15:=eq_true q15
         have p17:0≤(7:Int):=(by omega)
         have q17:7<a0.size:=(by have:(7:Int)<(a0.size:Int):=dt;omega)
         have hx17:∀ h:7<a0.size,((a0[7]'h).toNat:Int)=bt a0 7:=zj3 a0 7
         clear p17
         have qi17:(7<(a0.size:Int))=True:=eq_true (dt)
         replace q17:=eq_true q17
         go_enter Tryd.func121,Tryd.ntmps121
         go_wp2
         repeat(go_quiet (fail);try go_wp2)
         go_ret
         exact⟨by first|rfl|(simp;done)|(simp [*];done),by repeat(first|exact zu.refl _|apply zu.step)⟩
        rw [if_neg c16] at H
        exact absurd H (by simp)
       rw [if_neg c14] at H
       exact absurd H (by simp)
      rw [if_neg c12] at H
      exact absurd H (by simp)
     rw [if_neg c10] at H
     exact absurd H (by simp)
    rw [if_neg c8] at H
    exact absurd H (by simp)
   rw [if_neg c6] at H
   exact absurd H (by simp)
  rw [if_neg c4] at H
  exact absurd H (by simp)
 rw [if_neg c2] at H
 exact absurd H (by simp)

/-! ### utf8_ValidString: function 96, by hand -/
-- HAND rounds=0 making=1 laid=1 imports=Derived.Shelf.Unicode.ValidAny,Derived.Lib.LaidU8T,Derived.Test.YthhejedfjgikdaaDoorShelfV
def utf8_ValidString.f (a0:ByteArray):Option (Bool):=if a0.size≤9223372036854775807 then some (Lib.validD a0.data.toList) else none
section
open Go.Shelf
set_option maxRecDepth 100000 in
theorem LD.first_tab:(Rows.laid_unicode_utf8_first:DataW Unit)=Lib.firstData:=by kernel_rfl
theorem LD.accept_tab:(Rows.laid_unicode_utf8_acceptRanges:DataW Unit)=Lib.acceptData:=by kernel_rfl
theorem LD.tabs {w:World} (h:LD w):Lib.Utf8Tabs (Tryd.laysValid_ren.g 3) (Tryd.laysValid_ren.g 4) w:=by
 obtain ⟨L0,h1,h2⟩:=h
 exact Utf8Tabs_below (utf8Tabs_of_readsT (U8Types.of196 Tryd.laysValid) ⟨by kernel_rfl,by kernel_rfl,by kernel_rfl,by kernel_rfl,by kernel_rfl,by kernel_rfl,by kernel_rfl⟩
  (Lib.laidMet.reads h1 (by rw [← LD.first_tab];exact LD.in_unicode_utf8_first)) (Lib.laidMet.reads h1 (by rw [← LD.accept_tab];exact LD.in_unicode_utf8_acceptRanges))) h2
theorem utf8_ValidString.calls (a0:ByteArray) (r:Bool) (w:World) (hL:LD w) (h:utf8_ValidString.f a0=some r) :
  Calls Tryd.prog 96 #[.string a0] w fun e w'=>e = .returned (.bool r)∧Below w.heap.size w w':=by
 unfold utf8_ValidString.f at h
 by_cases hs:a0.size≤9223372036854775807
 ·rw [if_pos hs] at h
  cases h
  exact Any.utf8_ValidString Tryd.laysValid a0 w hs hL.tabs
 rw [if_neg hs] at h
 cases h
end

/-! ### qf: function 57 -/
def qf.j0:Nat→Bool→Int→Int→ByteArray→Option (Int)
 | 0,_,_,_,_=>none
 | k+1,x11,x107000,x107001,x107002=>if x11=true then(some 3) else (if(x107002.size:Int) > 40 then(some 1) else (if x107000=0 then(if((x107000 == 0 && (x107001 == 0 && (x107002.toList == ([]:List UInt8))))=true) then(some 0) else (some 4)) else (if x107000=1 then(if(Go.bits .or .i64 x107001 1)=1 then(if(x107002.toList=([]:List UInt8)) then(some 0) else (some 4)) else (some 4)) else (if x107000=2 then(if(x107002.toList=([]:List UInt8)) then(some 0) else (some 4)) else (if x107000=3 then(if x107001=0 then((utf8_ValidString.f x107002).bind fun t107=>(if t107=true then(some 0) else (some 4))) else (some 4)) else (some 0))))))
def qf.f (k:Nat) (a0_0:Int) (a0_1:Int) (a0_2:ByteArray):Option (Int):=if a0_0<0 then(qf.j0 k true a0_0 a0_1 a0_2) else (qf.j0 k (decide (a0_0 > 3)) a0_0 a0_1 a0_2)
theorem qf.mono_l:∀ k,(∀ y0 y1 y2 y3,LeO (qf.j0 k y0 y1 y2 y3) (qf.j0 (k+1) y0 y1 y2 y3))
 | 0=>fun _ _ _ _ r h=>by simp [qf.j0] at h
 | k+1=>by
  have ih0:=qf.mono_l k
  intro y0 y1 y2 y3
  unfold qf.j0
  repeat' first
  | (with_reducible first|exact ih0 _ _ _ _|exact LeO.refl _|exact LeO.none _|refine LeO.ite ?_ ?_|refine LeO.bind ?_ (fun _=>?_))
  | exact ih0 _ _ _ _
  | exact LeO.none _
  | refine LeO.ite ?_ ?_
  | refine LeO.bind ?_ (fun _=>?_)
theorem qf.mono:∀ a0 a1 a2 k,LeO (qf.f k a0 a1 a2) (qf.f (k+1) a0 a1 a2):=by
 intro a0 a1 a2 k
 have ih0:=qf.mono_l k
 unfold qf.f
 repeat' first
   | (with_reducible first|exact ih0 _ _ _ _|exact LeO.refl _|exact LeO.none _|refine LeO.ite ?_ ?_|refine LeO.bind ?_ (fun _=>?_))
   | exact ih0 _ _ _ _
   | exact LeO.none _
   | refine LeO.ite ?_ ?_
   | refine LeO.bind ?_ (fun _=>?_)
set_option maxHeartbeats 8000000 in
set_option maxRecDepth 100000 in
theorem qf.calls (k:Nat) (a0_0:Int) (a0_1:Int) (a0_2:ByteArray) (r:Int) (w:World) (hL:LD w) (h:qf.f k a0_0 a0_1 a0_2=some r) :
  Calls Tryd.prog 57 #[.agg #[.int .i64 a0_0,.int .i64 a0_1,.string a0_2]] w fun e w'=>e = .returned (.int .i64 r)∧Below w.heap.size w w':=by
 have hu38:=Tryd.underlying38
 have HLD:=zq.mk hL
 clear hL
 have HB:=zq.mk (Below.refl w.heap.size w)
 have H:(if a0_0<0 then(qf.j0 k true a0_0 a0_1 a0_2) else (qf.j0 k (decide (a0_0 > 3)) a0_0 a0_1 a0_2))=some r:=h
 clear h
 have HC2:=zq.mk H
 clear H
 go_enter Tryd.func57,Tryd.ntmps57
 go_upto_region 1 with (first|((with_reducible refine qo (N:=1) rfl ?_);refine qd ?hg (N:=1) ?hd (cs:=#[.int .i64 a0_0,.int .i64 a0_1,.string a0_2]) (t:=38) ?hr ?_;(case hd=>rfl);(case hg=>rfl);(case hr=>first|(go_simp;done)|(go_simp;rfl));intro gb106 hg w3 hbox hb;have BK106:=zq.mk (hbox);have GW106:=zq.mk ((by rw [hg];exact(zy bw):w.heap.size≤gb106));have GE106:=zq.mk ((by rw [hg];exact(zy bw):w.heap.size≤gb106));replace HB:=zq.mk (zt bw hb);clear hb hbox hg))
 (try simp only [Act.put,List.setIfInBounds_toArray,List.set_cons_zero,List.set_cons_succ])
 go_cut [11] (fun v11 wc => ∃ (kq:Nat) (x11_1:Bool),v11 = .bool x11_1∧zq (qf.j0 kq x11_1 a0_0 a0_1 a0_2=some r)∧zq (kq≤k)∧zq (wc.heap[gb106]? = some (.cells #[.int .i64 a0_0,.int .i64 a0_1,.string a0_2] 38 (0,0)))∧zq (Below w.heap.size w wc))
 case first=>
  have H:=HC2.out
  clear HC2
  by_cases c4:a0_0<0
  ·rw [if_pos c4] at H
   have c4b0:=decide_eq_true c4
   clear c4
   (first|rw [c4b0]|(simp only [zjs,zjt];rw [c4b0])|skip)
   have H':=zq.mk H
   clear H
   obtain ⟨hcz5_0,hcz5_1,hcz5_2,hfz5_0,hfz5_1,hfz5_2⟩:=zb BK106.out
   go_wp2
   go_meet
   case rel=>exact⟨_,(true),vr,H',⟨by first|omega|exact Nat.le_refl _⟩,⟨by(with_reducible repeat(first|refine zh ?_ _|refine zc ?_|refine zv ?_ _));exact BK106.out⟩,⟨bw⟩⟩
  rw [if_neg c4] at H
  have c4b0:=decide_eq_false c4
  clear c4
  (first|rw [c4b0]|(simp only [zjs,zjt];rw [c4b0])|skip)
  have H':=zq.mk H
  clear H
  obtain ⟨hcz6_0,hcz6_1,hcz6_2,hfz6_0,hfz6_1,hfz6_2⟩:=zb BK106.out
  go_wp2
  go_meet
  case rel=>exact⟨_,(decide (a0_0 > 3)),vr,H',⟨by first|omega|exact Nat.le_refl _⟩,⟨by(with_reducible repeat(first|refine zh ?_ _|refine zc ?_|refine zv ?_ _));exact BK106.out⟩,⟨bw⟩⟩
 case rest=>
  clear HC2
  obtain ⟨kq,x11_1,rfl,HA,HJ1,BK106,HB⟩:=hcut
  cases kq with
  | zero=>exact absurd HA.out (by simp [qf.j0])
  | succ kj1=>
   have H:=HA.out
   clear HA
   simp only [qf.j0] at H
   by_cases c7:x11_1=true
   ·subst c7
    rw [if_pos rfl] at H
    obtain rfl:=Option.some.inj H
    go_wp2
    go_ret
    exact⟨by first|rfl|(simp [zx,zj] <;> rfl)|(simp [*,zx,zj] <;> rfl),bw⟩
   replace c7:=Bool.eq_false_iff.mpr c7
   subst c7
   rw [if_neg (show ¬ (false=true) by decide)] at H
   by_cases c8:(a0_2.size:Int) > 40
   ·rw [if_pos c8] at H
    have c8b0:=decide_eq_true c8
    have c8b1:decide (40<a0_2.size)=true:=decide_eq_true (by omega)
    clear c8
    obtain rfl:=Option.some.inj H
    obtain ⟨hcz9_0,hcz9_1,hcz9_2,hfz9_0,hfz9_1,hfz9_2⟩:=zb BK106.out
    go_wp2
    go_ret
    exact⟨by first|rfl|(simp [zx,zj] <;> rfl)|(simp [*,zx,zj] <;> rfl),bw⟩
   rw [if_neg c8] at H
   have c8b0:=decide_eq_false c8
   have c8b1:decide (40<a0_2.size)=false:=decide_eq_false (by omega)
   clear c8
   by_cases c10:a0_0=0
   ·rw [if_pos c10] at H
    have c10b0:(a0_0 == 0)=true:=beq_iff_eq.mpr c10
    have c10b1:(a0_0 != 0)=false:=bne_eq_false_iff_eq.mpr c10
    clear c10
    by_cases c11:((a0_0 == 0 && (a0_1 == 0 && (a0_2.toList == ([]:List UInt8))))=true)
    ·rw [if_pos c11] at H
     have c11b0:(a0_0 == 0 && (a0_1 == 0 && (a0_2.toList == ([]:List UInt8))))=true:=c11
     (try(have c11b1:(a0_0 == 0 && (a0_1 == 0 && a0_2.toList.isEmpty))=true:=by first|simpa using c11|simpa [*] using c11))
     (try(have c11b2:(a0_1 == 0 && a0_2.toList.isEmpty)=true:=by first|simpa using c11|simpa [*] using c11))
     (try(have c11b3:decide (a0_0=0 && (a0_1 == 0 && (a0_2.toList == ([]:List UInt8))))=true:=by simpa using c11))
     (try(have c11b4:(a0_0 == 0 && (a0_1 == 0 && (a0_2.toList == ([]:List UInt8))))=true:=by simpa using c11))
     clear c11
     obtain rfl:=Option.some.inj H
     obtain ⟨hcz12_0,hcz12_1,hcz12_2,hfz12_0,hfz12_1,hfz12_2⟩:=zb BK106.out
     go_wp2
     go_ret
     exact⟨by first|rfl|(simp [zx,zj] <;> rfl)|(simp [*,zx,zj] <;> rfl),bw⟩
    rw [if_neg c11] at H
    have c11b0:(a0_0 == 0 && (a0_1 == 0 && (a0_2.toList == ([]:List UInt8))))=false:=by simpa using c11
    (try(have c11b1:(a0_0 == 0 && (a0_1 == 0 && a0_2.toList.isEmpty))=false:=by first|simpa using c11|simpa [*] using c11))
    (try(have c11b2:(a0_1 == 0 && a0_2.toList.isEmpty)=false:=by first|simpa using c11|simpa [*] using c11))
    (try(have c11b3:decide (a0_0=0 && (a0_1 == 0 && (a0_2.toList == ([]:List UInt8))))=false:=by simpa using c11))
    (try(have c11b4:(a0_0 == 0 && (a0_1 == 0 && (a0_2.toList == ([]:List UInt8))))=false:=by simpa using c11))
    (try(have c11b5:¬ (a0_0=0 && (a0_1 == 0 && (a0_2.toList == ([]:List UInt8)))):=by simpa using c11))
    clear c11
    obtain rfl:=Option.some.inj H
    obtain ⟨hcz13_0,hcz13_1,hcz13_2,hfz13_0,hfz13_1,hfz13_2⟩:=zb BK106.out
    go_wp2
    go_ret
    exact⟨by first|rfl|(simp [zx,zj] <;> rfl)|(simp [*,zx,zj] <;> rfl),bw⟩
   rw [if_neg c10] at H
   have c10b0:(a0_0 == 0)=false:=beq_eq_false_iff_ne.mpr c10
   have c10b1:(a0_0 != 0)=true:=bne_iff_ne.mpr c10
   by_cases c14:a0_0=1
   ·rw [if_pos c14] at H
    have c14b0:(a0_0 == 1)=true:=beq_iff_eq.mpr c14
    have c14b1:(a0_0 != 1)=false:=bne_eq_false_iff_eq.mpr c14
    clear c14
    by_cases c15:(Go.bits .or .i64 a0_1 1)=1
    ·rw [if_pos c15] at H
     have c15b0:((Go.bits .or .i64 a0_1 1) == 1)=true:=beq_iff_eq.mpr c15
     have c15b1:((Go.bits .or .i64 a0_1 1) != 1)=false:=bne_eq_false_iff_eq.mpr c15
     clear c15
     by_cases c16:(a0_2.toList=([]:List UInt8))
     ·rw [if_pos c16] at H
      have c16b0:(a0_2.toList == ([]:List UInt8))=true:=beq_iff_eq.mpr c16
      have c16b1:(a0_2.toList != ([]:List UInt8))=false:=bne_eq_false_iff_eq.mpr c16
      clear c16
      obtain rfl:=Option.some.inj H
      obtain ⟨hcz17_0,hcz17_1,hcz17_2,hfz17_0,hfz17_1,hfz17_2⟩:=zb BK106.out
      go_wp2
      go_ret
      exact⟨by first|rfl|(simp [zx,zj] <;> rfl)|(simp [*,zx,zj] <;> rfl),bw⟩
     rw [if_neg c16] at H
     have c16b0:(a0_2.toList == ([]:List UInt8))=false:=beq_eq_false_iff_ne.mpr c16
     have c16b1:(a0_2.toList != ([]:List UInt8))=true:=bne_iff_ne.mpr c16
     obtain rfl:=Option.some.inj H
     obtain ⟨hcz18_0,hcz18_1,hcz18_2,hfz18_0,hfz18_1,hfz18_2⟩:=zb BK106.out
     go_wp2
     go_ret
     exact⟨by first|rfl|(simp [zx,zj] <;> rfl)|(simp [*,zx,zj] <;> rfl),bw⟩
    rw [if_neg c15] at H
    have c15b0:((Go.bits .or .i64 a0_1 1) == 1)=false:=beq_eq_false_iff_ne.mpr c15
    have c15b1:((Go.bits .or .i64 a0_1 1) != 1)=true:=bne_iff_ne.mpr c15
    obtain rfl:=Option.some.inj H
    obtain ⟨hcz19_0,hcz19_1,hcz19_2,hfz19_0,hfz19_1,hfz19_2⟩:=zb BK106.out
    go_wp2
    go_ret
    exact⟨by first|rfl|(simp [zx,zj] <;> rfl)|(simp [*,zx,zj] <;> rfl),bw⟩
   rw [if_neg c14] at H
   have c14b0:(a0_0 == 1)=false:=beq_eq_false_iff_ne.mpr c14
   have c14b1:(a0_0 != 1)=true:=bne_iff_ne.mpr c14
   by_cases c20:a0_0=2
   ·rw [if_pos c20] at H
    have c20b0:(a0_0 == 2)=true:=beq_iff_eq.mpr c20
    have c20b1:(a0_0 != 2)=false:=bne_eq_false_iff_eq.mpr c20
    clear c20
    by_cases c21:(a0_2.toList=([]:List UInt8))
    ·rw [if_pos c21] at H
     have c21b0:(a0_2.toList == ([]:List UInt8))=true:=beq_iff_eq.mpr c21
     have c21b1:(a0_2.toList != ([]:List UInt8))=false:=bne_eq_false_iff_eq.mpr c21
     clear c21
     obtain rfl:=Option.some.inj H
     obtain ⟨hcz22_0,hcz22_1,hcz22_2,hfz22_0,hfz22_1,hfz22_2⟩:=zb BK106.out
     go_wp2
     go_ret
     exact⟨by first|rfl|(simp [zx,zj] <;> rfl)|(simp [*,zx,zj] <;> rfl),bw⟩
    rw [if_neg c21] at H
    have c21b0:(a0_2.toList == ([]:List UInt8))=false:=beq_eq_false_iff_ne.mpr c21
    have c21b1:(a0_2.toList != ([]:List UInt8))=true:=bne_iff_ne.mpr c21
    obtain rfl:=Option.some.inj H
    obtain ⟨hcz23_0,hcz23_1,hcz23_2,hfz23_0,hfz23_1,hfz23_2⟩:=zb BK106.out
    go_wp2
    go_ret
    exact⟨by first|rfl|(simp [zx,zj] <;> rfl)|(simp [*,zx,zj] <;> rfl),bw⟩
   rw [if_neg c20] at H
   have c20b0:(a0_0 == 2)=false:=beq_eq_false_iff_ne.mpr c20
   have c20b1:(a0_0 != 2)=true:=bne_iff_ne.mpr c20
   by_cases c24:a0_0=3
   ·rw [if_pos c24] at H
    have c24b0:(a0_0 == 3)=true:=beq_iff_eq.mpr c24
    have c24b1:(a0_0 != 3)=false:=bne_eq_false_iff_eq.mpr c24
    clear c24
    by_cases c25:a0_1=0
    ·rw [if_pos c25] at H
     have c25b0:(a0_1 == 0)=true:=beq_iff_eq.mpr c25
     have c25b1:(a0_1 != 0)=false:=bne_eq_false_iff_eq.mpr c25
     clear c25
     replace H:=Option.bind_eq_some_iff.mp H
     obtain ⟨t107,A260,H⟩:=H
     replace H:(if t107=true then(some 0) else (some 4))=some r:=H
     have A26:=zq.mk A260
     clear A260
     by_cases c27:t107=true
     ·subst c27
      rw [if_pos rfl] at H
      obtain rfl:=Option.some.inj H
      obtain ⟨hcz28_0,hcz28_1,hcz28_2,hfz28_0,hfz28_1,hfz28_2⟩:=zb BK106.out
      go_wp2_with (first|(go_at_call 96;(with_reducible refine(utf8_ValidString.calls a0_2 true _ ?side1 A26.out).mono ?_);(case side1=>exact LD.below HLD.out (by first|(with_reducible exact Below.refl _ _)|((repeat(first|(with_reducible exact Below.refl _ _)|(with_reducible apply zp)|(with_reducible apply qc)|(with_reducible apply zqa)));done)|exact bw));rintro e w29 ⟨rfl,hb⟩;replace BK106:=zq.mk (za (g:=gb106) (o:=.cells #[.int .i64 a0_0,.int .i64 a0_1,.string a0_2] 38 (0,0)) (up BK106.out) hb);replace HB:=zq.mk (zt bw hb);(try clear hb);(try clear hb2);(try clear hk);(try clear hi)))
      go_ret
      exact⟨by first|rfl|(simp [zx,zj] <;> rfl)|(simp [*,zx,zj] <;> rfl),bw⟩
     replace c27:=Bool.eq_false_iff.mpr c27
     subst c27
     rw [if_neg (show ¬ (false=true) by decide)] at H
     obtain rfl:=Option.some.inj H
     obtain ⟨hcz30_0,hcz30_1,hcz30_2,hfz30_0,hfz30_1,hfz30_2⟩:=zb BK106.out
     go_wp2_with (first|(go_at_call 96;(with_reducible refine(utf8_ValidString.calls a0_2 false _ ?side1 A26.out).mono ?_);(case side1=>exact LD.below HLD.out (by first|(with_reducible exact Below.refl _ _)|((repeat(first|(with_reducible exact Below.refl _ _)|(with_reducible apply zp)|(with_reducible apply qc)|(with_reducible apply zqa)));done)|exact bw));rintro e w31 ⟨rfl,hb⟩;replace BK106:=zq.mk (za (g:=gb106) (o:=.cells #[.int .i64 a0_0,.int .i64 a0_1,.string a0_2] 38 (0,0)) (up BK106.out) hb);replace HB:=zq.mk (zt bw hb);(try clear hb);(try clear hb2);(try clear hk);(try clear hi)))
     go_ret
     exact⟨by first|rfl|(simp [zx,zj] <;> rfl)|(simp [*,zx,zj] <;> rfl),bw⟩
    rw [if_neg c25] at H
    have c25b0:(a0_1 == 0)=false:=beq_eq_false_iff_ne.mpr c25
    have c25b1:(a0_1 != 0)=true:=bne_iff_ne.mpr c25
    obtain rfl:=Option.some.inj H
    obtain ⟨hcz32_0,hcz32_1,hcz32_2,hfz32_0,hfz32_1,hfz32_2⟩:=zb BK106.out
    go_wp2
    go_ret
    exact⟨by first|rfl|(simp [zx,zj] <;> rfl)|(simp [*,zx,zj] <;> rfl),bw⟩
   rw [if_neg c24] at H
   have c24b0:(a0_0 == 3)=false:=beq_eq_false_iff_ne.mpr c24
   have c24b1:(a0_0 != 3)=true:=bne_iff_ne.mpr c24
   obtain rfl:=Option.some.inj H
   obtain ⟨hcz33_0,hcz33_1,hcz33_2,hfz33_0,hfz33_1,hfz33_2⟩:=zb BK106.out
   go_wp2
   go_ret
   exact⟨by first|rfl|(simp [zx,zj] <;> rfl)|(simp [*,zx,zj] <;> rfl),bw⟩

end Go.Proofs.YthhejedfjgikdaaDoor.PRelProjects
