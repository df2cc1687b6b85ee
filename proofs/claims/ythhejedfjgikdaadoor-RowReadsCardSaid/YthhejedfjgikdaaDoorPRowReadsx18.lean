-- Written by wip/pp of this repo (over the kit's print, with additions of this session); Lean checks every line.
import Derived.Test.YthhejedfjgikdaaDoorPRowReadsx17
namespace Go.Proofs.YthhejedfjgikdaaDoor.PRowReads
open Go.RowKit Go.Proofs.YthhejedfjgikdaaDoorW.PrintWords Go.Proofs.YthhejedfjgikdaaDoorW.PrintLast Go.Proofs.YthhejedfjgikdaaDoorW.PrintMore
attribute [local go_sem] zjo zjm zjw zjv zja zq9 zjn zjl   -- for this text's walks alone
set_option linter.unusedVariables false
set_option linter.unusedSimpArgs false

/-! ### zi: function 31 -/
mutual
def zi.l0:Nat→List (S61)→Int→Option (Bool)
 | 0,_,_=>none
 | k+1,x0,x3=>if x3<(x0.length:Int) then(if 0≤x3 then((zv.f k ((zt x0 x3).f0) ((zt x0 x3).f1) ((zt x0 x3).f2) ((zt x0 x3).f3)).bind fun t290=>(if t290=true then(zi.l1 k x0 x3 0) else (some false))) else (none)) else (some true)
def zi.l1:Nat→List (S61)→Int→Int→Option (Bool)
 | 0,_,_,_=>none
 | k+1,x0,x3,x4=>if x4<x3 then(if 0≤x4 then(if x4<(x0.length:Int) then(if 0≤x3 then(if x3<(x0.length:Int) then(if((zt x0 x4).f0).toList=((zt x0 x3).f0).toList then(some false) else (zi.l1 k x0 x3 (wrap64 (x4+1)))) else (none)) else (none)) else (none)) else (none)) else (zi.l0 k x0 (wrap64 (x3+1)))
end
def zi.f (k:Nat) (l0:List (S61)):Option (Bool):=if(l0.length:Int) > 4 then(some false) else (zi.l0 k l0 0)
theorem zi.mono_l:∀ k,(∀ y0 y1,LeO (zi.l0 k y0 y1) (zi.l0 (k+1) y0 y1))∧(∀ y0 y1 y2,LeO (zi.l1 k y0 y1 y2) (zi.l1 (k+1) y0 y1 y2))
 | 0=>⟨fun _ _ r h=>by simp [zi.l0] at h,fun _ _ _ r h=>by simp [zi.l1] at h⟩
 | k+1=>by
  obtain ⟨ih0,ih1⟩:=zi.mono_l k
  refine⟨?_,?_⟩
  ·intro y0 y1
   unfold zi.l0
   repeat' first
   | (with_reducible first|exact ih0 _ _|exact ih1 _ _ _|exact zv.mono _ _ _ _ _|exact LeO.refl _|exact LeO.none _|refine LeO.ite ?_ ?_|refine LeO.bind ?_ (fun _=>?_))
   | exact ih0 _ _
   | exact ih1 _ _ _
   | exact zv.mono _ _ _ _ _
   | exact LeO.none _
   | refine LeO.ite ?_ ?_
   | refine LeO.bind ?_ (fun _=>?_)
  intro y0 y1 y2
  unfold zi.l1
  repeat' first
  | (with_reducible first|exact ih0 _ _|exact ih1 _ _ _|exact zv.mono _ _ _ _ _|exact LeO.refl _|exact LeO.none _|refine LeO.ite ?_ ?_|refine LeO.bind ?_ (fun _=>?_))
  | exact ih0 _ _
  | exact ih1 _ _ _
  | exact zv.mono _ _ _ _ _
  | exact LeO.none _
  | refine LeO.ite ?_ ?_
  | refine LeO.bind ?_ (fun _=>?_)
theorem zi.mono:∀ a0 k,LeO (zi.f k a0) (zi.f (k+1) a0):=by
 intro a0 k
 obtain ⟨ih0,ih1⟩:=zi.mono_l k
 unfold zi.f
 repeat' first
   | (with_reducible first|exact ih0 _ _|exact ih1 _ _ _|exact zv.mono _ _ _ _ _|exact LeO.refl _|exact LeO.none _|refine LeO.ite ?_ ?_|refine LeO.bind ?_ (fun _=>?_))
   | exact ih0 _ _
   | exact ih1 _ _ _
   | exact zv.mono _ _ _ _ _
   | exact LeO.none _
   | refine LeO.ite ?_ ?_
   | refine LeO.bind ?_ (fun _=>?_)
set_option maxHeartbeats 8000000 in
set_option maxRecDepth 100000 in
theorem zi.calls (k:Nat) (A0:Option Addr) (c0:Nat) (l0:List (S61)) (r:Bool) (w:World) (hr0:Kd.C k61 w A0 l0.length l0) (hc0:l0.length≤c0) (h:zi.f k l0=some r) :
  Calls Tryd.prog 31 #[.slice A0 l0.length c0] w fun e w'=>e = .returned (.bool r)∧Below w.heap.size w w':=by
 have hu61:=Tryd.underlying61
 have HR0:=zq.mk hr0
 have HC0:=zq.mk hc0
 clear hr0 hc0
 have HB:=zq.mk (Below.refl w.heap.size w)
 have H:(if(l0.length:Int) > 4 then(some false) else (zi.l0 k l0 0))=some r:=h
 clear h
 by_cases c2:(l0.length:Int) > 4
 ·rw [if_pos c2] at H
  have c2b0:=decide_eq_true c2
  have c2b1:decide (4<l0.length)=true:=decide_eq_true (by omega)
  clear c2
  obtain rfl:=Option.some.inj H
  go_enter Tryd.func31,Tryd.ntmps31
  go_wp2
  repeat(go_quiet (fail);try go_wp2)
  go_ret
  exact⟨by first|rfl|(simp [zg,zy] <;> rfl)|(simp [*,zg,zy] <;> rfl),bw⟩
 rw [if_neg c2] at H
 have c2b0:=decide_eq_false c2
 have c2b1:decide (4<l0.length)=false:=decide_eq_false (by omega)
 clear c2
 have H':=zq.mk H
 clear H
 go_enter Tryd.func31,Tryd.ntmps31
 go_wp2
 repeat(go_quiet (fail);try go_wp2)
 go_loopg [3] k (fun kq v3 w' => ∃ (x3_1:Int),v3 = .int .i64 x3_1∧zq (zi.l0 kq l0 x3_1=some r)∧zq (kq≤k)∧zq (Below w.heap.size w w'))
 case atStart=>exact⟨(0),vr,H',⟨Nat.le_refl _⟩,⟨bw⟩⟩
 case round=>
  clear H'
  (try clear c2);(try clear c2b0);(try clear c2b1)
  obtain ⟨x3_1,rfl,HA,HK1,HB⟩:=hrel
  cases gk with
  | zero=>exact absurd HA.out (by simp [zi.l0])
  | succ k1=>
   have H:=HA.out
   clear HA
   simp only [zi.l0] at H
   by_cases c3:x3_1<(l0.length:Int)
   ·rw [if_pos c3] at H
    have c3b0:=decide_eq_true c3
    clear c3
    by_cases c4:0≤x3_1
    ·rw [if_pos c4] at H
     have c4b0:=decide_eq_true c4
     clear c4
     replace H:=Option.bind_eq_some_iff.mp H
     obtain ⟨t290,A50,H⟩:=H
     replace H:(if t290=true then(zi.l1 k1 l0 x3_1 0) else (some false))=some r:=H
     have A5:=zq.mk A50
     clear A50
     by_cases c6:t290=true
     ·subst c6
      rw [if_pos rfl] at H
      have H':=zq.mk H
      clear H
      have p289:0≤(x3_1:Int):=dt
      have q289:x3_1<(l0.length:Int):=dt
      obtain ⟨ad289,A289_1,c289_1,A289_2,c289_2,A289_3,c289_3,e289,hx289_0,hx289_1,hx289_2,hx289_3,hl289_1,hi289_1,hl289_2,hi289_2,hl289_3,hi289_3⟩:=zkj HR0.out x3_1 p289 q289
      cases e289
      replace hx289_0:=(HB.out.cell (World.block_lt_of_cell? w _ hx289_0)).trans hx289_0
      replace hx289_1:=(HB.out.cell (World.block_lt_of_cell? w _ hx289_1)).trans hx289_1
      replace hx289_2:=(HB.out.cell (World.block_lt_of_cell? w _ hx289_2)).trans hx289_2
      replace hx289_3:=(HB.out.cell (World.block_lt_of_cell? w _ hx289_3)).trans hx289_3
      have HR289_1:=zq.mk hi289_1
      have HC289_1:=zq.mk hl289_1
      clear hi289_1 hl289_1
      have HR289_2:=zq.mk hi289_2
      have HC289_2:=zq.mk hl289_2
      clear hi289_2 hl289_2
      have HR289_3:=zq.mk hi289_3
      have HC289_3:=zq.mk hl289_3
      clear hi289_3 hl289_3
      replace p289:=eq_true p289
      replace q289:=eq_true q289
      go_wp2_with (first|(go_at_call 60;(with_reducible refine(zv.calls k1 ((zt l0 x3_1).f0) _ _ ((zt l0 x3_1).f1) _ _ ((zt l0 x3_1).f2) _ _ ((zt l0 x3_1).f3) true _ ?side1 ?side2 ?side3 ?side4 ?side5 ?side6 A5.out).mono ?_);(case side1=>exact Kd.cu (Kd.qu HR289_1.out HB.out));(case side2=>exact HC289_1.out);(case side3=>exact Kd.cu (Kd.qu HR289_2.out HB.out));(case side4=>exact HC289_2.out);(case side5=>exact Kd.cu (Kd.qu HR289_3.out HB.out));(case side6=>exact HC289_3.out);rintro e w7 ⟨rfl,hb⟩;replace HB:=zq.mk (zn bw hb);(try clear hb);(try clear hb2);(try clear hk);(try clear hi)))
      repeat(go_quiet (first|(go_at_call 60;(with_reducible refine(zv.calls k1 ((zt l0 x3_1).f0) _ _ ((zt l0 x3_1).f1) _ _ ((zt l0 x3_1).f2) _ _ ((zt l0 x3_1).f3) true _ ?side1 ?side2 ?side3 ?side4 ?side5 ?side6 A5.out).mono ?_);(case side1=>exact Kd.cu (Kd.qu HR289_1.out HB.out));(case side2=>exact HC289_1.out);(case side3=>exact Kd.cu (Kd.qu HR289_2.out HB.out));(case side4=>exact HC289_2.out);(case side5=>exact Kd.cu (Kd.qu HR289_3.out HB.out));(case side6=>exact HC289_3.out);rintro e w7 ⟨rfl,hb⟩;replace HB:=zq.mk (zn bw hb);(try clear hb);(try clear hb2);(try clear hk);(try clear hi)));try go_wp2_with (first|(go_at_call 60;(with_reducible refine(zv.calls k1 ((zt l0 x3_1).f0) _ _ ((zt l0 x3_1).f1) _ _ ((zt l0 x3_1).f2) _ _ ((zt l0 x3_1).f3) true _ ?side1 ?side2 ?side3 ?side4 ?side5 ?side6 A5.out).mono ?_);(case side1=>exact Kd.cu (Kd.qu HR289_1.out HB.out));(case side2=>exact HC289_1.out);(case side3=>exact Kd.cu (Kd.qu HR289_2.out HB.out));(case side4=>exact HC289_2.out);(case side5=>exact Kd.cu (Kd.qu HR289_3.out HB.out));(case side6=>exact HC289_3.out);rintro e w7 ⟨rfl,hb⟩;replace HB:=zq.mk (zn bw hb);(try clear hb);(try clear hb2);(try clear hk);(try clear hi))))
      go_loopg [4] k1 (fun kq v4 w' => ∃ (x4_2:Int),v4 = .int .i64 x4_2∧zq (zi.l1 kq l0 x3_1 x4_2=some r)∧zq (kq≤k1)∧zq (Below w.heap.size w w'))
      case atStart=>exact⟨(0),vr,H',⟨Nat.le_refl _⟩,⟨bw⟩⟩
      case round=>
       clear H'
       (try clear c2);(try clear c2b0);(try clear c2b1);(try clear c3);(try clear c3b0);(try clear c4);(try clear c4b0);(try clear c6);(try clear hx289_0);(try clear hx289_1);(try clear hx289_2);(try clear hx289_3);(try clear p289);(try clear q289)
       obtain ⟨x4_2,rfl,HA,HK2,HB⟩:=hrel
       cases gk with
       | zero=>exact absurd HA.out (by simp [zi.l1])
       | succ k2=>
        have H:=HA.out
        clear HA
        simp only [zi.l1] at H
        by_cases c8:x4_2<x3_1
        ·rw [if_pos c8] at H
         have c8b0:=decide_eq_true c8
         clear c8
         by_cases c9:0≤x4_2
         ·rw [if_pos c9] at H
          have c9b0:=decide_eq_true c9
          clear c9
          by_cases c10:x4_2<(l0.length:Int)
          ·rw [if_pos c10] at H
           have c10b0:=decide_eq_true c10
           clear c10
           by_cases c11:0≤x3_1
           ·rw [if_pos c11] at H
            have c11b0:=decide_eq_true c11
            clear c11
            by_cases c12:x3_1<(l0.length:Int)
            ·rw [if_pos c12] at H
             have c12b0:=decide_eq_true c12
             clear c12
             by_cases c13:((zt l0 x4_2).f0).toList=((zt l0 x3_1).f0).toList
             ·rw [if_pos c13] at H
              have c13b0:(((zt l0 x4_2).f0).toList == ((zt l0 x3_1).f0).toList)=true:=beq_iff_eq.mpr c13
              have c13b1:(((zt l0 x4_2).f0).toList != ((zt l0 x3_1).f0).toList)=false:=bne_eq_false_iff_eq.mpr c13
              clear c13
              obtain rfl:=Option.some.inj H
              have p291:0≤(x4_2:Int):=dt
              have q291:x4_2<(l0.length:Int):=dt
              obtain ⟨ad291,A291_1,c291_1,A291_2,c291_2,A291_3,c291_3,e291,hx291_0,hx291_1,hx291_2,hx291_3,hl291_1,hi291_1,hl291_2,hi291_2,hl291_3,hi291_3⟩:=zkj HR0.out x4_2 p291 q291
              obtain rfl:ad289=ad291:=(by injection e291)
              replace hx291_0:=(HB.out.cell (World.block_lt_of_cell? w _ hx291_0)).trans hx291_0
              replace hx291_1:=(HB.out.cell (World.block_lt_of_cell? w _ hx291_1)).trans hx291_1
              replace hx291_2:=(HB.out.cell (World.block_lt_of_cell? w _ hx291_2)).trans hx291_2
              replace hx291_3:=(HB.out.cell (World.block_lt_of_cell? w _ hx291_3)).trans hx291_3
              have HR291_1:=zq.mk hi291_1
              have HC291_1:=zq.mk hl291_1
              clear hi291_1 hl291_1
              have HR291_2:=zq.mk hi291_2
              have HC291_2:=zq.mk hl291_2
              clear hi291_2 hl291_2
              have HR291_3:=zq.mk hi291_3
              have HC291_3:=zq.mk hl291_3
              clear hi291_3 hl291_3
              replace p291:=eq_true p291
              replace q291:=eq_true q291
              have p292:0≤(x3_1:Int):=dt
              have q292:x3_1<(l0.length:Int):=dt
              obtain ⟨ad292,A292_1,c292_1,A292_2,c292_2,A292_3,c292_3,e292,hx292_0,hx292_1,hx292_2,hx292_3,hl292_1,hi292_1,hl292_2,hi292_2,hl292_3,hi292_3⟩:=zkj HR0.out x3_1 p292 q292
              obtain rfl:ad289=ad292:=(by injection e292)
              replace hx292_0:=(HB.out.cell (World.block_lt_of_cell? w _ hx292_0)).trans hx292_0
              replace hx292_1:=(HB.out.cell (World.block_lt_of_cell? w _ hx292_1)).trans hx292_1
              replace hx292_2:=(HB.out.cell (World.block_lt_of_cell? w _ hx292_2)).trans hx292_2
              replace hx292_3:=(HB.out.cell (World.block_lt_of_cell? w _ hx292_3)).trans hx292_3
              have HR292_1:=zq.mk hi292_1
              have HC292_1:=zq.mk hl292_1
              clear hi292_1 hl292_1
              have HR292_2:=zq.mk hi292_2
              have HC292_2:=zq.mk hl292_2
              clear hi292_2 hl292_2
              have HR292_3:=zq.mk hi292_3
              have HC292_3:=zq.mk hl292_3
              clear hi292_3 hl292_3
              replace p292:=eq_true p292
              replace q292:=eq_true q292
              go_wp2
              repeat(go_quiet (fail);try go_wp2)
              go_ret
              exact⟨by first|rfl|(simp [zg,zy] <;> rfl)|(simp [*,zg,zy] <;> rfl),bw⟩
             rw [if_neg c13] at H
             have c13b0:(((zt l0 x4_2).f0).toList == ((zt l0 x3_1).f0).toList)=false:=beq_eq_false_iff_ne.mpr c13
             have c13b1:(((zt l0 x4_2).f0).toList != ((zt l0 x3_1).f0).toList)=true:=bne_iff_ne.mpr c13
             have H':=zq.mk H
             clear H
             have p291:0≤(x4_2:Int):=dt
             have q291:x4_2<(l0.length:Int):=dt
             obtain ⟨ad291,A291_1,c291_1,A291_2,c291_2,A291_3,c291_3,e291,hx291_0,hx291_1,hx291_2,hx291_3,hl291_1,hi291_1,hl291_2,hi291_2,hl291_3,hi291_3⟩:=zkj HR0.out x4_2 p291 q291
             obtain rfl:ad289=ad291:=(by injection e291)
             replace hx291_0:=(HB.out.cell (World.block_lt_of_cell? w _ hx291_0)).trans hx291_0
             replace hx291_1:=(HB.out.cell (World.block_lt_of_cell? w _ hx291_1)).trans hx291_1
             replace hx291_2:=(HB.out.cell (World.block_lt_of_cell? w _ hx291_2)).trans hx291_2
             replace hx291_3:=(HB.out.cell (World.block_lt_of_cell? w _ hx291_3)).trans hx291_3
             have HR291_1:=zq.mk hi291_1
             have HC291_1:=zq.mk hl291_1
             clear hi291_1 hl291_1
             have HR291_2:=zq.mk hi291_2
             have HC291_2:=zq.mk hl291_2
             clear hi291_2 hl291_2
             have HR291_3:=zq.mk hi291_3
             have HC291_3:=zq.mk hl291_3
             clear hi291_3 hl291_3
             replace p291:=eq_true p291
             replace q291:=eq_true q291
             have p292:0≤(x3_1:Int):=dt
             have q292:x3_1<(l0.length:Int):=dt
             obtain ⟨ad292,A292_1,c292_1,A292_2,c292_2,A292_3,c292_3,e292,hx292_0,hx292_1,hx292_2,hx292_3,hl292_1,hi292_1,hl292_2,hi292_2,hl292_3,hi292_3⟩:=zkj HR0.out x3_1 p292 q292
             obtain rfl:ad289=ad292:=(by injection e292)
             replace hx292_0:=(HB.out.cell (World.block_lt_of_cell? w _ hx292_0)).trans hx292_0
             replace hx292_1:=(HB.out.cell (World.block_lt_of_cell? w _ hx292_1)).trans hx292_1
             replace hx292_2:=(HB.out.cell (World.block_lt_of_cell? w _ hx292_2)).trans hx292_2
             replace hx292_3:=(HB.out.cell (World.block_lt_of_cell? w _ hx292_3)).trans hx292_3
             have HR292_1:=zq.mk hi292_1
             have HC292_1:=zq.mk hl292_1
             clear hi292_1 hl292_1
             have HR292_2:=zq.mk hi292_2
             have HC292_2:=zq.mk hl292_2
             clear hi292_2 hl292_2
             have HR292_3:=zq.mk hi292_3
             have HC292_3:=zq.mk hl292_3
             clear hi292_3 hl292_3
             replace p292:=eq_true p292
             replace q292:=eq_true q292
             go_wp2
             repeat(go_quiet (fail);try go_wp2)
             go_roundg k2
             case measure=>have:=HK1.out;have:=HK2.out;omega
             case rel=>exact⟨(wrap64 (x4_2+1)),vr,H',⟨by have:=HK1.out;have:=HK2.out;omega⟩,⟨bw⟩⟩
            rw [if_neg c12] at H
            exact absurd H (by simp)
           rw [if_neg c11] at H
           exact absurd H (by simp)
          rw [if_neg c10] at H
          exact absurd H (by simp)
         rw [if_neg c9] at H
         exact absurd H (by simp)
        rw [if_neg c8] at H
        have c8b0:=decide_eq_false c8
        clear c8
        have H':=zq.mk H
        clear H
        go_wp2
        repeat(go_quiet (fail);try go_wp2)
        go_roundg k2
        case measure=>have:=HK1.out;have:=HK2.out;omega
        case rel=>exact⟨(wrap64 (x3_1+1)),vr,H',⟨by have:=HK1.out;have:=HK2.out;omega⟩,⟨bw⟩⟩
     replace c6:=Bool.eq_false_iff.mpr c6
     subst c6
     rw [if_neg (show ¬ (false=true) by decide)] at H
     obtain rfl:=Option.some.inj H
     have p289:0≤(x3_1:Int):=dt
     have q289:x3_1<(l0.length:Int):=dt
     obtain ⟨ad289,A289_1,c289_1,A289_2,c289_2,A289_3,c289_3,e289,hx289_0,hx289_1,hx289_2,hx289_3,hl289_1,hi289_1,hl289_2,hi289_2,hl289_3,hi289_3⟩:=zkj HR0.out x3_1 p289 q289
     cases e289
     replace hx289_0:=(HB.out.cell (World.block_lt_of_cell? w _ hx289_0)).trans hx289_0
     replace hx289_1:=(HB.out.cell (World.block_lt_of_cell? w _ hx289_1)).trans hx289_1
     replace hx289_2:=(HB.out.cell (World.block_lt_of_cell? w _ hx289_2)).trans hx289_2
     replace hx289_3:=(HB.out.cell (World.block_lt_of_cell? w _ hx289_3)).trans hx289_3
     have HR289_1:=zq.mk hi289_1
     have HC289_1:=zq.mk hl289_1
     clear hi289_1 hl289_1
     have HR289_2:=zq.mk hi289_2
     have HC289_2:=zq.mk hl289_2
     clear hi289_2 hl289_2
     have HR289_3:=zq.mk hi289_3
     have HC289_3:=zq.mk hl289_3
     clear hi289_3 hl289_3
     replace p289:=eq_true p289
     replace q289:=eq_true q289
     go_wp2_with (first|(go_at_call 60;(with_reducible refine(zv.calls k1 ((zt l0 x3_1).f0) _ _ ((zt l0 x3_1).f1) _ _ ((zt l0 x3_1).f2) _ _ ((zt l0 x3_1).f3) false _ ?side1 ?side2 ?side3 ?side4 ?side5 ?side6 A5.out).mono ?_);(case side1=>exact Kd.cu (Kd.qu HR289_1.out HB.out));(case side2=>exact HC289_1.out);(case side3=>exact Kd.cu (Kd.qu HR289_2.out HB.out));(case side4=>exact HC289_2.out);(case side5=>exact Kd.cu (Kd.qu HR289_3.out HB.out));(case side6=>exact HC289_3.out);rintro e w14 ⟨rfl,hb⟩;replace HB:=zq.mk (zn bw hb);(try clear hb);(try clear hb2);(try clear hk);(try clear hi)))
     repeat(go_quiet (first|(go_at_call 60;(with_reducible refine(zv.calls k1 ((zt l0 x3_1).f0) _ _ ((zt l0 x3_1).f1) _ _ ((zt l0 x3_1).f2) _ _ ((zt l0 x3_1).f3) false _ ?side1 ?side2 ?side3 ?side4 ?side5 ?side6 A5.out).mono ?_);(case side1=>exact Kd.cu (Kd.qu HR289_1.out HB.out));(case side2=>exact HC289_1.out);(case side3=>exact Kd.cu (Kd.qu HR289_2.out HB.out));(case side4=>exact HC289_2.out);(case side5=>exact Kd.cu (Kd.qu HR289_3.out HB.out));(case side6=>exact HC289_3.out);rintro e w14 ⟨rfl,hb⟩;replace HB:=zq.mk (zn bw hb);(try clear hb);(try clear hb2);(try clear hk);(try clear hi)));try go_wp2_with (first|(go_at_call 60;(with_reducible refine(zv.calls k1 ((zt l0 x3_1).f0) _ _ ((zt l0 x3_1).f1) _ _ ((zt l0 x3_1).f2) _ _ ((zt l0 x3_1).f3) false _ ?side1 ?side2 ?side3 ?side4 ?side5 ?side6 A5.out).mono ?_);(case side1=>exact Kd.cu (Kd.qu HR289_1.out HB.out));(case side2=>exact HC289_1.out);(case side3=>exact Kd.cu (Kd.qu HR289_2.out HB.out));(case side4=>exact HC289_2.out);(case side5=>exact Kd.cu (Kd.qu HR289_3.out HB.out));(case side6=>exact HC289_3.out);rintro e w14 ⟨rfl,hb⟩;replace HB:=zq.mk (zn bw hb);(try clear hb);(try clear hb2);(try clear hk);(try clear hi))))
     go_ret
     exact⟨by first|rfl|(simp [zg,zy] <;> rfl)|(simp [*,zg,zy] <;> rfl),bw⟩
    rw [if_neg c4] at H
    exact absurd H (by simp)
   rw [if_neg c3] at H
   have c3b0:=decide_eq_false c3
   clear c3
   obtain rfl:=Option.some.inj H
   go_wp2
   repeat(go_quiet (fail);try go_wp2)
   go_ret
   exact⟨by first|rfl|(simp [zg,zy] <;> rfl)|(simp [*,zg,zy] <;> rfl),bw⟩

end Go.Proofs.YthhejedfjgikdaaDoor.PRowReads
