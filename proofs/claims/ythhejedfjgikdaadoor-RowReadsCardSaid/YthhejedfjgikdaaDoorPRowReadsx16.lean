-- Written by wip/pp of this repo (over the kit's print, with additions of this session); Lean checks every line.
import Derived.Test.YthhejedfjgikdaaDoorPRowReadsx0
namespace Go.Proofs.YthhejedfjgikdaaDoor.PRowReads
open Go.RowKit Go.Proofs.YthhejedfjgikdaaDoorW.PrintWords Go.Proofs.YthhejedfjgikdaaDoorW.PrintLast Go.Proofs.YthhejedfjgikdaaDoorW.PrintMore
attribute [local go_sem] zjo zjm zjw zjv zja zq9 zjn zjl   -- for this text's walks alone
set_option linter.unusedVariables false
set_option linter.unusedSimpArgs false

/-! ### zh: function 101 -/
mutual
def zh.j0:Nat→List Int→Int→Bool→Option (Bool)
 | 0,_,_,_=>none
 | k+1,x0,x1,x14=>if x14=true then(some false) else (zh.l0 k x0 x1 0)
def zh.l0:Nat→List Int→Int→Int→Option (Bool)
 | 0,_,_,_=>none
 | k+1,x0,x1,x5=>if x5<(x0.length:Int) then(if 0≤x5 then(if(rd x0 x5)<0 then(zh.j2 k x0 x1 x5 true) else (zh.j2 k x0 x1 x5 (decide ((rd x0 x5) ≥ x1)))) else (none)) else (some true)
def zh.j2:Nat→List Int→Int→Int→Bool→Option (Bool)
 | 0,_,_,_,_=>none
 | k+1,x0,x1,x5,x33=>if x33=true then(some false) else (zh.l1 k x0 x1 x5 0)
def zh.l1:Nat→List Int→Int→Int→Int→Option (Bool)
 | 0,_,_,_,_=>none
 | k+1,x0,x1,x5,x6=>if x6<x5 then(if 0≤x6 then(if x6<(x0.length:Int) then(if 0≤x5 then(if x5<(x0.length:Int) then(if(rd x0 x6)=(rd x0 x5) then(some false) else (zh.l1 k x0 x1 x5 (wrap64 (x6+1)))) else (none)) else (none)) else (none)) else (none)) else (zh.l0 k x0 x1 (wrap64 (x5+1)))
end
def zh.f (k:Nat) (l0:List Int) (a1:Int):Option (Bool):=if(l0.length:Int)<1 then(zh.j0 k l0 a1 true) else (zh.j0 k l0 a1 (decide ((l0.length:Int) > 3)))
theorem zh.mono_l:∀ k,(∀ y0 y1 y2,LeO (zh.j0 k y0 y1 y2) (zh.j0 (k+1) y0 y1 y2))∧(∀ y0 y1 y2,LeO (zh.l0 k y0 y1 y2) (zh.l0 (k+1) y0 y1 y2))∧(∀ y0 y1 y2 y3,LeO (zh.j2 k y0 y1 y2 y3) (zh.j2 (k+1) y0 y1 y2 y3))∧(∀ y0 y1 y2 y3,LeO (zh.l1 k y0 y1 y2 y3) (zh.l1 (k+1) y0 y1 y2 y3))
 | 0=>⟨fun _ _ _ r h=>by simp [zh.j0] at h,fun _ _ _ r h=>by simp [zh.l0] at h,fun _ _ _ _ r h=>by simp [zh.j2] at h,fun _ _ _ _ r h=>by simp [zh.l1] at h⟩
 | k+1=>by
  obtain ⟨ih0,ih1,ih2,ih3⟩:=zh.mono_l k
  refine⟨?_,?_,?_,?_⟩
  ·intro y0 y1 y2
   unfold zh.j0
   repeat' first
   | (with_reducible first|exact ih0 _ _ _|exact ih1 _ _ _|exact ih2 _ _ _ _|exact ih3 _ _ _ _|exact LeO.refl _|exact LeO.none _|refine LeO.ite ?_ ?_|refine LeO.bind ?_ (fun _=>?_))
   | exact ih0 _ _ _
   | exact ih1 _ _ _
   | exact ih2 _ _ _ _
   | exact ih3 _ _ _ _
   | exact LeO.none _
   | refine LeO.ite ?_ ?_
   | refine LeO.bind ?_ (fun _=>?_)
  ·intro y0 y1 y2
   unfold zh.l0
   repeat' first
   | (with_reducible first|exact ih0 _ _ _|exact ih1 _ _ _|exact ih2 _ _ _ _|exact ih3 _ _ _ _|exact LeO.refl _|exact LeO.none _|refine LeO.ite ?_ ?_|refine LeO.bind ?_ (fun _=>?_))
   | exact ih0 _ _ _
   | exact ih1 _ _ _
   | exact ih2 _ _ _ _
   | exact ih3 _ _ _ _
   | exact LeO.none _
   | refine LeO.ite ?_ ?_
   | refine LeO.bind ?_ (fun _=>?_)
  ·intro y0 y1 y2 y3
   unfold zh.j2
   repeat' first
   | (with_reducible first|exact ih0 _ _ _|exact ih1 _ _ _|exact ih2 _ _ _ _|exact ih3 _ _ _ _|exact LeO.refl _|exact LeO.none _|refine LeO.ite ?_ ?_|refine LeO.bind ?_ (fun _=>?_))
   | exact ih0 _ _ _
   | exact ih1 _ _ _
   | exact ih2 _ _ _ _
   | exact ih3 _ _ _ _
   | exact LeO.none _
   | refine LeO.ite ?_ ?_
   | refine LeO.bind ?_ (fun _=>?_)
  intro y0 y1 y2 y3
  unfold zh.l1
  repeat' first
  | (with_reducible first|exact ih0 _ _ _|exact ih1 _ _ _|exact ih2 _ _ _ _|exact ih3 _ _ _ _|exact LeO.refl _|exact LeO.none _|refine LeO.ite ?_ ?_|refine LeO.bind ?_ (fun _=>?_))
  | exact ih0 _ _ _
  | exact ih1 _ _ _
  | exact ih2 _ _ _ _
  | exact ih3 _ _ _ _
  | exact LeO.none _
  | refine LeO.ite ?_ ?_
  | refine LeO.bind ?_ (fun _=>?_)
theorem zh.mono:∀ a0 a1 k,LeO (zh.f k a0 a1) (zh.f (k+1) a0 a1):=by
 intro a0 a1 k
 obtain ⟨ih0,ih1,ih2,ih3⟩:=zh.mono_l k
 unfold zh.f
 repeat' first
   | (with_reducible first|exact ih0 _ _ _|exact ih1 _ _ _|exact ih2 _ _ _ _|exact ih3 _ _ _ _|exact LeO.refl _|exact LeO.none _|refine LeO.ite ?_ ?_|refine LeO.bind ?_ (fun _=>?_))
   | exact ih0 _ _ _
   | exact ih1 _ _ _
   | exact ih2 _ _ _ _
   | exact ih3 _ _ _ _
   | exact LeO.none _
   | refine LeO.ite ?_ ?_
   | refine LeO.bind ?_ (fun _=>?_)
set_option maxHeartbeats 8000000 in
set_option maxRecDepth 100000 in
theorem zh.calls (k:Nat) (A0:Option Addr) (c0:Nat) (l0:List Int) (a1:Int) (r:Bool) (w:World) (hr0:Kd.C (Kd.int .i64) w A0 l0.length l0) (hc0:l0.length≤c0) (h:zh.f k l0 a1=some r) :
  Calls Tryd.prog 101 #[.slice A0 l0.length c0,.int .i64 a1] w fun e w'=>e = .returned (.bool r)∧za w w':=by
 have HR0:=zq.mk hr0
 have HC0:=zq.mk hc0
 clear hr0 hc0
 have H:(if(l0.length:Int)<1 then(zh.j0 k l0 a1 true) else (zh.j0 k l0 a1 (decide ((l0.length:Int) > 3))))=some r:=h
 clear h
 have HC3:=zq.mk H
 clear H
 go_enter Tryd.func101,Tryd.ntmps101
 go_upto_region 1 with (fail)
 repeat(go_quiet (fail);go_upto_region 1 with (fail))
 go_cut [14] (fun v14 wc => ∃ (kq:Nat) (x14_2:Bool),v14 = .bool x14_2∧zq (zh.j0 kq l0 a1 x14_2=some r)∧zq (kq≤k)∧za w wc)
 case first=>
  have H:=HC3.out
  clear HC3
  by_cases c4:(l0.length:Int)<1
  ·rw [if_pos c4] at H
   have c4b0:=decide_eq_true c4
   have c4b1:decide (l0.length<1)=true:=decide_eq_true (by omega)
   clear c4
   (first|rw [c4b0]|(simp only [zqp,zqq];rw [c4b0])|skip)
   have H':=zq.mk H
   clear H
   go_wp2
   repeat(go_quiet (fail);try go_wp2)
   go_meet
   case rel=>exact⟨_,(true),vr,H',⟨by first|omega|exact Nat.le_refl _⟩,by repeat(first|exact za.refl _|apply za.step)⟩
  rw [if_neg c4] at H
  have c4b0:=decide_eq_false c4
  have c4b1:decide (l0.length<1)=false:=decide_eq_false (by omega)
  clear c4
  (first|rw [c4b0]|(simp only [zqp,zqq];rw [c4b0])|skip)
  have H':=zq.mk H
  clear H
  go_wp2
  repeat(go_quiet (fail);try go_wp2)
  go_meet
  case rel=>exact⟨_,(decide ((l0.length:Int) > 3)),vr,H',⟨by first|omega|exact Nat.le_refl _⟩,by repeat(first|exact za.refl _|apply za.step)⟩
 case rest=>
  clear HC3
  obtain ⟨kq,x14_2,rfl,HA,HJ2,⟨mc2,rfl⟩⟩:=hcut
  cases kq with
  | zero=>exact absurd HA.out (by simp [zh.j0])
  | succ kj2=>
   have H:=HA.out
   clear HA
   simp only [zh.j0] at H
   by_cases c5:x14_2=true
   ·subst c5
    rw [if_pos rfl] at H
    obtain rfl:=Option.some.inj H
    go_wp2
    repeat(go_quiet (fail);try go_wp2)
    go_ret
    exact⟨by first|rfl|(simp;done)|(simp [*];done),by repeat(first|exact za.refl _|apply za.step)⟩
   replace c5:=Bool.eq_false_iff.mpr c5
   subst c5
   rw [if_neg (show ¬ (false=true) by decide)] at H
   have H':=zq.mk H
   clear H
   go_wp2
   repeat(go_quiet (fail);try go_wp2)
   go_loopg [5] kj2 (fun kq v5 w' => ∃ (x5_2:Int),v5 = .int .i64 x5_2∧zq (zh.l0 kq l0 a1 x5_2=some r)∧zq (kq≤kj2)∧za w w')
   case atStart=>exact⟨(0),vr,H',⟨Nat.le_refl _⟩,by repeat(first|exact za.refl _|apply za.step)⟩
   case round=>
    clear H'
    (try clear c5)
    obtain ⟨x5_2,rfl,HA,HK2,⟨m2,rfl⟩⟩:=hrel
    cases gk with
    | zero=>exact absurd HA.out (by simp [zh.l0])
    | succ k2=>
     have H:=HA.out
     clear HA
     simp only [zh.l0] at H
     by_cases c6:x5_2<(l0.length:Int)
     ·rw [if_pos c6] at H
      have c6b0:=decide_eq_true c6
      clear c6
      have HC7:=zq.mk H
      clear H
      go_upto_region 6 with (fail)
      repeat(go_quiet (fail);go_upto_region 6 with (fail))
      go_cut [33] (fun v33 wc => ∃ (kq:Nat) (x33_6:Bool),v33 = .bool x33_6∧zq (zh.j2 kq l0 a1 x5_2 x33_6=some r)∧zq (kq≤k2)∧za w wc)
      case first=>
       have H:=HC7.out
       clear HC7
       by_cases c8:0≤x5_2
       ·rw [if_pos c8] at H
        have c8b0:=decide_eq_true c8
        clear c8
        (first|rw [c8b0]|(simp only [zqp,zqq];rw [c8b0])|skip)
        by_cases c9:(rd l0 x5_2)<0
        ·rw [if_pos c9] at H
         have c9b0:=decide_eq_true c9
         clear c9
         have H':=zq.mk H
         clear H
         have p271:0≤(x5_2:Int):=dt
         have q271:x5_2<(l0.length:Int):=dt
         obtain ⟨ad271,e271,hx271_0⟩:=Kd.zjb HR0.out x5_2 p271 q271
         cases e271
         replace p271:=eq_true p271
         replace q271:=eq_true q271
         go_wp2
         repeat(go_quiet (fail);try go_wp2)
         go_meet
         case rel=>exact⟨_,(true),vr,H',⟨by have:=HJ2.out;have:=HK2.out;first|omega|exact Nat.le_refl _⟩,by repeat(first|exact za.refl _|apply za.step)⟩
        rw [if_neg c9] at H
        have c9b0:=decide_eq_false c9
        clear c9
        have H':=zq.mk H
        clear H
        have p271:0≤(x5_2:Int):=dt
        have q271:x5_2<(l0.length:Int):=dt
        obtain ⟨ad271,e271,hx271_0⟩:=Kd.zjb HR0.out x5_2 p271 q271
        cases e271
        replace p271:=eq_true p271
        replace q271:=eq_true q271
        have p272:0≤(x5_2:Int):=dt
        have q272:x5_2<(l0.length:Int):=dt
        obtain ⟨ad272,e272,hx272_0⟩:=Kd.zjb HR0.out x5_2 p272 q272
        obtain rfl:ad271=ad272:=(by injection e272)
        replace p272:=eq_true p272
        replace q272:=eq_true q272
        go_wp2
        repeat(go_quiet (fail);try go_wp2)
        go_meet
        case rel=>exact⟨_,(decide ((rd l0 x5_2) ≥ a1)),vr,H',⟨by have:=HJ2.out;have:=HK2.out;first|omega|exact Nat.le_refl _⟩,by repeat(first|exact za.refl _|apply za.step)⟩
       rw [if_neg c8] at H
       exact absurd H (by simp)
      case rest=>
       clear HC7
       (try clear c5);(try clear c6);(try clear c6b0)
       obtain ⟨kq,x33_6,rfl,HA,HJ6,⟨mc6,rfl⟩⟩:=hcut
       cases kq with
       | zero=>exact absurd HA.out (by simp [zh.j2])
       | succ kj6=>
        have H:=HA.out
        clear HA
        simp only [zh.j2] at H
        by_cases c10:x33_6=true
        ·subst c10
         rw [if_pos rfl] at H
         obtain rfl:=Option.some.inj H
         go_wp2
         repeat(go_quiet (fail);try go_wp2)
         go_ret
         exact⟨by first|rfl|(simp;done)|(simp [*];done),by repeat(first|exact za.refl _|apply za.step)⟩
        replace c10:=Bool.eq_false_iff.mpr c10
        subst c10
        rw [if_neg (show ¬ (false=true) by decide)] at H
        have H':=zq.mk H
        clear H
        go_wp2
        repeat(go_quiet (fail);try go_wp2)
        go_loopg [6] kj6 (fun kq v6 w' => ∃ (x6_4:Int),v6 = .int .i64 x6_4∧zq (zh.l1 kq l0 a1 x5_2 x6_4=some r)∧zq (kq≤kj6)∧za w w')
        case atStart=>exact⟨(0),vr,H',⟨Nat.le_refl _⟩,by repeat(first|exact za.refl _|apply za.step)⟩
        case round=>
         clear H'
         (try clear c5);(try clear c6);(try clear c6b0);(try clear c10)
         obtain ⟨x6_4,rfl,HA,HK4,⟨m4,rfl⟩⟩:=hrel
         cases gk with
         | zero=>exact absurd HA.out (by simp [zh.l1])
         | succ k4=>
          have H:=HA.out
          clear HA
          simp only [zh.l1] at H
          by_cases c11:x6_4<x5_2
          ·rw [if_pos c11] at H
           have c11b0:=decide_eq_true c11
           clear c11
           by_cases c12:0≤x6_4
           ·rw [if_pos c12] at H
            have c12b0:=decide_eq_true c12
            clear c12
            by_cases c13:x6_4<(l0.length:Int)
            ·rw [if_pos c13] at H
             have c13b0:=decide_eq_true c13
             clear c13
             by_cases c14:0≤x5_2
             ·rw [if_pos c14] at H
              have c14b0:=decide_eq_true c14
              clear c14
              by_cases c15:x5_2<(l0.length:Int)
              ·rw [if_pos c15] at H
               have c15b0:=decide_eq_true c15
               clear c15
               by_cases c16:(rd l0 x6_4)=(rd l0 x5_2)
               ·rw [if_pos c16] at H
                have c16b0:((rd l0 x6_4) == (rd l0 x5_2))=true:=beq_iff_eq.mpr c16
                have c16b1:((rd l0 x6_4) != (rd l0 x5_2))=false:=bne_eq_false_iff_eq.mpr c16
                clear c16
                obtain rfl:=Option.some.inj H
                have p273:0≤(x6_4:Int):=dt
                have q273:x6_4<(l0.length:Int):=dt
                obtain ⟨ad273,e273,hx273_0⟩:=Kd.zjb HR0.out x6_4 p273 q273
                cases e273
                replace p273:=eq_true p273
                replace q273:=eq_true q273
                have p274:0≤(x5_2:Int):=dt
                have q274:x5_2<(l0.length:Int):=dt
                obtain ⟨ad274,e274,hx274_0⟩:=Kd.zjb HR0.out x5_2 p274 q274
                obtain rfl:ad273=ad274:=(by injection e274)
                replace p274:=eq_true p274
                replace q274:=eq_true q274
                go_wp2
                repeat(go_quiet (fail);try go_wp2)
                go_ret
                exact⟨by first|rfl|(simp;done)|(simp [*];done),by repeat(first|exact za.refl _|apply za.step)⟩
               rw [if_neg c16] at H
               have c16b0:((rd l0 x6_4) == (rd l0 x5_2))=false:=beq_eq_false_iff_ne.mpr c16
               have c16b1:((rd l0 x6_4) != (rd l0 x5_2))=true:=bne_iff_ne.mpr c16
               have H':=zq.mk H
               clear H
               have p273:0≤(x6_4:Int):=dt
               have q273:x6_4<(l0.length:Int):=dt
               obtain ⟨ad273,e273,hx273_0⟩:=Kd.zjb HR0.out x6_4 p273 q273
               cases e273
               replace p273:=eq_true p273
               replace q273:=eq_true q273
               have p274:0≤(x5_2:Int):=dt
               have q274:x5_2<(l0.length:Int):=dt
               obtain ⟨ad274,e274,hx274_0⟩:=Kd.zjb HR0.out x5_2 p274 q274
               obtain rfl:ad273=ad274:=(by injection e274)
               replace p274:=eq_true p274
               replace q274:=eq_true q274
               go_wp2
               repeat(go_quiet (fail);try go_wp2)
               go_roundg k4
               case measure=>have:=HJ2.out;have:=HK2.out;have:=HJ6.out;have:=HK4.out;omega
               case rel=>exact⟨(wrap64 (x6_4+1)),vr,H',⟨by have:=HJ2.out;have:=HK2.out;have:=HJ6.out;have:=HK4.out;omega⟩,by repeat(first|exact za.refl _|apply za.step)⟩
              rw [if_neg c15] at H
              exact absurd H (by simp)
             rw [if_neg c14] at H
             exact absurd H (by simp)
            rw [if_neg c13] at H
            exact absurd H (by simp)
           rw [if_neg c12] at H
           exact absurd H (by simp)
          rw [if_neg c11] at H
          have c11b0:=decide_eq_false c11
          clear c11
          have H':=zq.mk H
          clear H
          go_wp2
          repeat(go_quiet (fail);try go_wp2)
          go_roundg k4
          case measure=>have:=HJ2.out;have:=HK2.out;have:=HJ6.out;have:=HK4.out;omega
          case rel=>exact⟨(wrap64 (x5_2+1)),vr,H',⟨by have:=HJ2.out;have:=HK2.out;have:=HJ6.out;have:=HK4.out;omega⟩,by repeat(first|exact za.refl _|apply za.step)⟩
     rw [if_neg c6] at H
     have c6b0:=decide_eq_false c6
     clear c6
     obtain rfl:=Option.some.inj H
     go_wp2
     repeat(go_quiet (fail);try go_wp2)
     go_ret
     exact⟨by first|rfl|(simp;done)|(simp [*];done),by repeat(first|exact za.refl _|apply za.step)⟩

end Go.Proofs.YthhejedfjgikdaaDoor.PRowReads
