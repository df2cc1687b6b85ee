-- Written by wip/pp of this repo (over the kit's print, with additions of this session); Lean checks every line.
import Derived.Test.YtmfpaeajibeikaaDoorPEvalHoldsx0
namespace Go.Proofs.YtmfpaeajibeikaaDoor.PEvalHolds
open Go.RowKit Go.Proofs.YtmfpaeajibeikaaDoorW.PrintWords Go.Proofs.YtmfpaeajibeikaaDoorW.PrintLast Go.Proofs.YtmfpaeajibeikaaDoorW.PrintMore
attribute [local go_sem] zje zjc zjo zjn zq1 zq0 zjd zjb   -- for this text's walks alone
set_option linter.unusedVariables false
set_option linter.unusedSimpArgs false

/-! ### zd: function 106 -/
mutual
def zd.j2:Nat→ByteArray→Int→Int→Option (Int)
 | 0,_,_,_=>none
 | k+1,x0,x4,x5=>if x4=0 then(zd.j3 k x0 x4 x5 true) else (zd.j3 k x0 x4 x5 (decide ((x0.size:Int)<x4)))
def zd.j3:Nat→ByteArray→Int→Int→Bool→Option (Int)
 | 0,_,_,_,_=>none
 | k+1,x0,x4,x5,x46=>if x46=true then(some 0) else (zd.l0 k x0 x4 x5 1)
def zd.l0:Nat→ByteArray→Int→Int→Int→Option (Int)
 | 0,_,_,_,_=>none
 | k+1,x0,x4,x5,x6=>if x6<x4 then(if 0≤x6 then(if x6<(x0.size:Int) then(if(bt x0 x6)<128 then(some 0) else (if(bt x0 x6) > 191 then(some 0) else (zd.l0 k x0 x4 (wrap64 ((wrap64 (x5 * 64))+(wrap64 (Go.bits .and .u8 (bt x0 x6) 63)))) (wrap64 (x6+1))))) else (none)) else (none)) else (if x4=3 then(if x5<2048 then(some 0) else (if x5 ≥ 55296 then(if x5≤57343 then(some 0) else (if x4=4 then(if x5<65536 then(some 0) else (if x5 > 1114111 then(some 0) else (some x4))) else (some x4))) else (if x4=4 then(if x5<65536 then(some 0) else (if x5 > 1114111 then(some 0) else (some x4))) else (some x4)))) else (if x4=4 then(if x5<65536 then(some 0) else (if x5 > 1114111 then(some 0) else (some x4))) else (some x4)))
def zd.j0:Nat→ByteArray→Int→Int→Int→Bool→Option (Int)
 | 0,_,_,_,_,_=>none
 | k+1,x0,x3,x4,x5,x20=>if x20=true then(zd.j2 k x0 2 (Go.bits .and .i64 x3 31)) else (if x3 ≥ 224 then(zd.j1 k x0 x3 x4 x5 (decide (x3<240))) else (zd.j1 k x0 x3 x4 x5 false))
def zd.j1:Nat→ByteArray→Int→Int→Int→Bool→Option (Int)
 | 0,_,_,_,_,_=>none
 | k+1,x0,x3,x4,x5,x28=>if x28=true then(zd.j2 k x0 3 (Go.bits .and .i64 x3 15)) else (if x3 ≥ 240 then(if x3<245 then(zd.j2 k x0 4 (Go.bits .and .i64 x3 7)) else (zd.j2 k x0 x4 x5)) else (zd.j2 k x0 x4 x5))
end
def zd.f (k:Nat) (a0:ByteArray):Option (Int):=if(a0.size:Int)=0 then(some 0) else (if 0<(a0.size:Int) then(if(wrap64 (bt a0 0))<128 then(some 1) else (if(wrap64 (bt a0 0)) ≥ 194 then(zd.j0 k a0 (wrap64 (bt a0 0)) 0 0 (decide ((wrap64 (bt a0 0))<224))) else (zd.j0 k a0 (wrap64 (bt a0 0)) 0 0 false))) else (none))
theorem zd.mono_l:∀ k,(∀ y0 y1 y2,LeO (zd.j2 k y0 y1 y2) (zd.j2 (k+1) y0 y1 y2))∧(∀ y0 y1 y2 y3,LeO (zd.j3 k y0 y1 y2 y3) (zd.j3 (k+1) y0 y1 y2 y3))∧(∀ y0 y1 y2 y3,LeO (zd.l0 k y0 y1 y2 y3) (zd.l0 (k+1) y0 y1 y2 y3))∧(∀ y0 y1 y2 y3 y4,LeO (zd.j0 k y0 y1 y2 y3 y4) (zd.j0 (k+1) y0 y1 y2 y3 y4))∧(∀ y0 y1 y2 y3 y4,LeO (zd.j1 k y0 y1 y2 y3 y4) (zd.j1 (k+1) y0 y1 y2 y3 y4))
 | 0=>⟨fun _ _ _ r h=>by simp [zd.j2] at h,fun _ _ _ _ r h=>by simp [zd.j3] at h,fun _ _ _ _ r h=>by simp [zd.l0] at h,fun _ _ _ _ _ r h=>by simp [zd.j0] at h,fun _ _ _ _ _ r h=>by simp [zd.j1] at h⟩
 | k+1=>by
  obtain ⟨ih0,ih1,ih2,ih3,ih4⟩:=zd.mono_l k
  refine⟨?_,?_,?_,?_,?_⟩
  ·intro y0 y1 y2
   unfold zd.j2
   repeat' first
   | (with_reducible first|exact ih0 _ _ _|exact ih1 _ _ _ _|exact ih2 _ _ _ _|exact ih3 _ _ _ _ _|exact ih4 _ _ _ _ _|exact LeO.refl _|exact LeO.none _|refine LeO.ite ?_ ?_|refine LeO.bind ?_ (fun _=>?_))
   | exact ih0 _ _ _
   | exact ih1 _ _ _ _
   | exact ih2 _ _ _ _
   | exact ih3 _ _ _ _ _
   | exact ih4 _ _ _ _ _
   | exact LeO.none _
   | refine LeO.ite ?_ ?_
   | refine LeO.bind ?_ (fun _=>?_)
  ·intro y0 y1 y2 y3
   unfold zd.j3
   repeat' first
   | (with_reducible first|exact ih0 _ _ _|exact ih1 _ _ _ _|exact ih2 _ _ _ _|exact ih3 _ _ _ _ _|exact ih4 _ _ _ _ _|exact LeO.refl _|exact LeO.none _|refine LeO.ite ?_ ?_|refine LeO.bind ?_ (fun _=>?_))
   | exact ih0 _ _ _
   | exact ih1 _ _ _ _
   | exact ih2 _ _ _ _
   | exact ih3 _ _ _ _ _
   | exact ih4 _ _ _ _ _
   | exact LeO.none _
   | refine LeO.ite ?_ ?_
   | refine LeO.bind ?_ (fun _=>?_)
  ·intro y0 y1 y2 y3
   unfold zd.l0
   repeat' first
   | (with_reducible first|exact ih0 _ _ _|exact ih1 _ _ _ _|exact ih2 _ _ _ _|exact ih3 _ _ _ _ _|exact ih4 _ _ _ _ _|exact LeO.refl _|exact LeO.none _|refine LeO.ite ?_ ?_|refine LeO.bind ?_ (fun _=>?_))
   | exact ih0 _ _ _
   | exact ih1 _ _ _ _
   | exact ih2 _ _ _ _
   | exact ih3 _ _ _ _ _
   | exact ih4 _ _ _ _ _
   | exact LeO.none _
   | refine LeO.ite ?_ ?_
   | refine LeO.bind ?_ (fun _=>?_)
  ·intro y0 y1 y2 y3 y4
   unfold zd.j0
   repeat' first
   | (with_reducible first|exact ih0 _ _ _|exact ih1 _ _ _ _|exact ih2 _ _ _ _|exact ih3 _ _ _ _ _|exact ih4 _ _ _ _ _|exact LeO.refl _|exact LeO.none _|refine LeO.ite ?_ ?_|refine LeO.bind ?_ (fun _=>?_))
   | exact ih0 _ _ _
   | exact ih1 _ _ _ _
   | exact ih2 _ _ _ _
   | exact ih3 _ _ _ _ _
   | exact ih4 _ _ _ _ _
   | exact LeO.none _
   | refine LeO.ite ?_ ?_
   | refine LeO.bind ?_ (fun _=>?_)
  intro y0 y1 y2 y3 y4
  unfold zd.j1
  repeat' first
  | (with_reducible first|exact ih0 _ _ _|exact ih1 _ _ _ _|exact ih2 _ _ _ _|exact ih3 _ _ _ _ _|exact ih4 _ _ _ _ _|exact LeO.refl _|exact LeO.none _|refine LeO.ite ?_ ?_|refine LeO.bind ?_ (fun _=>?_))
  | exact ih0 _ _ _
  | exact ih1 _ _ _ _
  | exact ih2 _ _ _ _
  | exact ih3 _ _ _ _ _
  | exact ih4 _ _ _ _ _
  | exact LeO.none _
  | refine LeO.ite ?_ ?_
  | refine LeO.bind ?_ (fun _=>?_)
theorem zd.mono:∀ a0 k,LeO (zd.f k a0) (zd.f (k+1) a0):=by
 intro a0 k
 obtain ⟨ih0,ih1,ih2,ih3,ih4⟩:=zd.mono_l k
 unfold zd.f
 repeat' first
   | (with_reducible first|exact ih0 _ _ _|exact ih1 _ _ _ _|exact ih2 _ _ _ _|exact ih3 _ _ _ _ _|exact ih4 _ _ _ _ _|exact LeO.refl _|exact LeO.none _|refine LeO.ite ?_ ?_|refine LeO.bind ?_ (fun _=>?_))
   | exact ih0 _ _ _
   | exact ih1 _ _ _ _
   | exact ih2 _ _ _ _
   | exact ih3 _ _ _ _ _
   | exact ih4 _ _ _ _ _
   | exact LeO.none _
   | refine LeO.ite ?_ ?_
   | refine LeO.bind ?_ (fun _=>?_)
set_option maxHeartbeats 8000000 in
set_option maxRecDepth 100000 in
theorem zd.calls (k:Nat) (a0:ByteArray) (r:Int) (w:World) (h:zd.f k a0=some r) :
  Calls Tryd.prog 106 #[.string a0] w fun e w'=>e = .returned (.int .i64 r)∧qx w w':=by
 have H:(if(a0.size:Int)=0 then(some 0) else (if 0<(a0.size:Int) then(if(wrap64 (bt a0 0))<128 then(some 1) else (if(wrap64 (bt a0 0)) ≥ 194 then(zd.j0 k a0 (wrap64 (bt a0 0)) 0 0 (decide ((wrap64 (bt a0 0))<224))) else (zd.j0 k a0 (wrap64 (bt a0 0)) 0 0 false))) else (none)))=some r:=h
 clear h
 by_cases c2:(a0.size:Int)=0
 ·rw [if_pos c2] at H
  have c2b0:((a0.size:Int) == 0)=true:=beq_iff_eq.mpr c2
  have c2b1:((a0.size:Int) != 0)=false:=bne_eq_false_iff_eq.mpr c2
  clear c2
  obtain rfl:=Option.some.inj H
  go_enter Tryd.func106,Tryd.ntmps106
  go_wp2
  go_ret
  exact⟨by first|rfl|(simp;done)|(simp [*];done),by repeat(first|exact qx.refl _|apply qx.step)⟩
 rw [if_neg c2] at H
 have c2b0:((a0.size:Int) == 0)=false:=beq_eq_false_iff_ne.mpr c2
 have c2b1:((a0.size:Int) != 0)=true:=bne_iff_ne.mpr c2
 by_cases c3:0<(a0.size:Int)
 ·rw [if_pos c3] at H
  have c3b0:=decide_eq_true c3
  have c3b1:decide (0<a0.size)=true:=decide_eq_true (by omega)
  clear c3
  have HC5:=zq.mk H
  clear H
  have p4:0≤(0:Int):=(by omega)
  have q4:0<a0.size:=(by have:(0:Int)<(a0.size:Int):=dt;omega)
  have hx4:∀ h:0<a0.size,((a0[0]'h).toNat:Int)=bt a0 0:=zj3 a0 0
  clear p4
  have qi4:(0<(a0.size:Int))=True:=eq_true (dt)
  replace q4:=eq_true q4
  go_enter Tryd.func106,Tryd.ntmps106
  go_upto_if 14 with (fail)
  go_cut [4,5] (fun v4 v5 wc => ∃ (kq:Nat) (x4_4:Int) (x5_4:Int),v4 = .int .i64 x4_4∧v5 = .int .i64 x5_4∧zq (zd.j2 kq a0 x4_4 x5_4=some r)∧zq (kq≤k)∧qx w wc)
  case first=>
   have H:=HC5.out
   clear HC5
   by_cases c6:(wrap64 (bt a0 0))<128
   ·rw [if_pos c6] at H
    have c6b0:=decide_eq_true c6
    clear c6
    (first|rw [c6b0]|(simp only [zqw,zqx];rw [c6b0])|skip)
    obtain rfl:=Option.some.inj H
    go_wp2
    go_ret
    exact⟨by first|rfl|(simp;done)|(simp [*];done),by repeat(first|exact qx.refl _|apply qx.step)⟩
   rw [if_neg c6] at H
   have c6b0:=decide_eq_false c6
   clear c6
   (first|rw [c6b0]|(simp only [zqw,zqx];rw [c6b0])|skip)
   have HC7:=zq.mk H
   clear H
   go_upto_region 8 with (fail)
   go_cut [20] (fun v20 wc => ∃ (kq:Nat) (x20_6:Bool),v20 = .bool x20_6∧zq (zd.j0 kq a0 (wrap64 (bt a0 0)) 0 0 x20_6=some r)∧zq (kq≤k)∧qx w wc)
   case first=>
    have H:=HC7.out
    clear HC7
    by_cases c8:(wrap64 (bt a0 0)) ≥ 194
    ·rw [if_pos c8] at H
     have c8b0:=decide_eq_true c8
     clear c8
     (first|rw [c8b0]|(simp only [zqw,zqx];rw [c8b0])|skip)
     have H':=zq.mk H
     clear H
     go_wp2
     go_meet
     case rel=>exact⟨_,(decide ((wrap64 (bt a0 0))<224)),vr,H',⟨by first|omega|exact Nat.le_refl _⟩,by repeat(first|exact qx.refl _|apply qx.step)⟩
    rw [if_neg c8] at H
    have c8b0:=decide_eq_false c8
    clear c8
    (first|rw [c8b0]|(simp only [zqw,zqx];rw [c8b0])|skip)
    have H':=zq.mk H
    clear H
    go_wp2
    go_meet
    case rel=>exact⟨_,(false),vr,H',⟨by first|omega|exact Nat.le_refl _⟩,by repeat(first|exact qx.refl _|apply qx.step)⟩
   case rest=>
    clear HC7
    (try clear c2);(try clear c2b0);(try clear c2b1);(try clear c3);(try clear c3b0);(try clear c3b1);(try clear p4);(try clear q4);(try clear hx4);(try clear qi4);(try clear c6);(try clear c6b0)
    obtain ⟨kq,x20_6,rfl,HA,HJ6,⟨mc6,rfl⟩⟩:=hcut
    cases kq with
    | zero=>exact absurd HA.out (by simp [zd.j0])
    | succ kj6=>
     have H:=HA.out
     clear HA
     simp only [zd.j0] at H
     by_cases c9:x20_6=true
     ·subst c9
      rw [if_pos rfl] at H
      have H':=zq.mk H
      clear H
      go_wp2
      go_meet
      case rel=>exact⟨_,(2),(Go.bits .and .i64 (wrap64 (bt a0 0)) 31),vr,vr,H',⟨by have:=HJ6.out;first|omega|exact Nat.le_refl _⟩,by repeat(first|exact qx.refl _|apply qx.step)⟩
     replace c9:=Bool.eq_false_iff.mpr c9
     subst c9
     rw [if_neg (show ¬ (false=true) by decide)] at H
     have HC10:=zq.mk H
     clear H
     go_upto_region 11 with (fail)
     go_cut [28] (fun v28 wc => ∃ (kq:Nat) (x28_9:Bool),v28 = .bool x28_9∧zq (zd.j1 kq a0 (wrap64 (bt a0 0)) 0 0 x28_9=some r)∧zq (kq≤kj6)∧qx w wc)
     case first=>
      have H:=HC10.out
      clear HC10
      by_cases c11:(wrap64 (bt a0 0)) ≥ 224
      ·rw [if_pos c11] at H
       have c11b0:=decide_eq_true c11
       clear c11
       (first|rw [c11b0]|(simp only [zqw,zqx];rw [c11b0])|skip)
       have H':=zq.mk H
       clear H
       go_wp2
       go_meet
       case rel=>exact⟨_,(decide ((wrap64 (bt a0 0))<240)),vr,H',⟨by have:=HJ6.out;first|omega|exact Nat.le_refl _⟩,by repeat(first|exact qx.refl _|apply qx.step)⟩
      rw [if_neg c11] at H
      have c11b0:=decide_eq_false c11
      clear c11
      (first|rw [c11b0]|(simp only [zqw,zqx];rw [c11b0])|skip)
      have H':=zq.mk H
      clear H
      go_wp2
      go_meet
      case rel=>exact⟨_,(false),vr,H',⟨by have:=HJ6.out;first|omega|exact Nat.le_refl _⟩,by repeat(first|exact qx.refl _|apply qx.step)⟩
     case rest=>
      clear HC10
      (try clear c2);(try clear c2b0);(try clear c2b1);(try clear c3);(try clear c3b0);(try clear c3b1);(try clear p4);(try clear q4);(try clear hx4);(try clear qi4);(try clear c6);(try clear c6b0);(try clear c9)
      obtain ⟨kq,x28_9,rfl,HA,HJ9,⟨mc9,rfl⟩⟩:=hcut
      cases kq with
      | zero=>exact absurd HA.out (by simp [zd.j1])
      | succ kj9=>
       have H:=HA.out
       clear HA
       simp only [zd.j1] at H
       by_cases c12:x28_9=true
       ·subst c12
        rw [if_pos rfl] at H
        have H':=zq.mk H
        clear H
        go_wp2
        go_meet
        case rel=>exact⟨_,(3),(Go.bits .and .i64 (wrap64 (bt a0 0)) 15),vr,vr,H',⟨by have:=HJ6.out;have:=HJ9.out;first|omega|exact Nat.le_refl _⟩,by repeat(first|exact qx.refl _|apply qx.step)⟩
       replace c12:=Bool.eq_false_iff.mpr c12
       subst c12
       rw [if_neg (show ¬ (false=true) by decide)] at H
       by_cases c13:(wrap64 (bt a0 0)) ≥ 240
       ·rw [if_pos c13] at H
        have c13b0:=decide_eq_true c13
        clear c13
        by_cases c14:(wrap64 (bt a0 0))<245
        ·rw [if_pos c14] at H
         have c14b0:=decide_eq_true c14
         clear c14
         have H':=zq.mk H
         clear H
         go_wp2
         go_meet
         case rel=>exact⟨_,(4),(Go.bits .and .i64 (wrap64 (bt a0 0)) 7),vr,vr,H',⟨by have:=HJ6.out;have:=HJ9.out;first|omega|exact Nat.le_refl _⟩,by repeat(first|exact qx.refl _|apply qx.step)⟩
        rw [if_neg c14] at H
        have c14b0:=decide_eq_false c14
        clear c14
        have H':=zq.mk H
        clear H
        go_wp2
        go_meet
        case rel=>exact⟨_,(0),(0),vr,vr,H',⟨by have:=HJ6.out;have:=HJ9.out;first|omega|exact Nat.le_refl _⟩,by repeat(first|exact qx.refl _|apply qx.step)⟩
       rw [if_neg c13] at H
       have c13b0:=decide_eq_false c13
       clear c13
       have H':=zq.mk H
       clear H
       go_wp2
       go_meet
       case rel=>exact⟨_,(0),(0),vr,vr,H',⟨by have:=HJ6.out;have:=HJ9.out;first|omega|exact Nat.le_refl _⟩,by repeat(first|exact qx.refl _|apply qx.step)⟩
  case rest=>
   clear HC5
   (try clear c2);(try clear c2b0);(try clear c2b1);(try clear c3);(try clear c3b0);(try clear c3b1);(try clear p4);(try clear q4);(try clear hx4);(try clear qi4)
   obtain ⟨kq,x4_4,x5_4,rfl,rfl,HA,HJ4,⟨mc4,rfl⟩⟩:=hcut
   cases kq with
   | zero=>exact absurd HA.out (by simp [zd.j2])
   | succ kj4=>
    have H:=HA.out
    clear HA
    simp only [zd.j2] at H
    have HC15:=zq.mk H
    clear H
    go_upto_region 17 with (fail)
    go_cut [46] (fun v46 wc => ∃ (kq:Nat) (x46_14:Bool),v46 = .bool x46_14∧zq (zd.j3 kq a0 x4_4 x5_4 x46_14=some r)∧zq (kq≤kj4)∧qx w wc)
    case first=>
     have H:=HC15.out
     clear HC15
     by_cases c16:x4_4=0
     ·rw [if_pos c16] at H
      have c16b0:(x4_4 == 0)=true:=beq_iff_eq.mpr c16
      have c16b1:(x4_4 != 0)=false:=bne_eq_false_iff_eq.mpr c16
      clear c16
      (first|rw [c16b0]|(simp only [zqw,zqx];rw [c16b0])|skip)
      have H':=zq.mk H
      clear H
      go_wp2
      go_meet
      case rel=>exact⟨_,(true),vr,H',⟨by have:=HJ4.out;first|omega|exact Nat.le_refl _⟩,by repeat(first|exact qx.refl _|apply qx.step)⟩
     rw [if_neg c16] at H
     have c16b0:(x4_4 == 0)=false:=beq_eq_false_iff_ne.mpr c16
     have c16b1:(x4_4 != 0)=true:=bne_iff_ne.mpr c16
     (first|rw [c16b0]|(simp only [zqw,zqx];rw [c16b0])|skip)
     have H':=zq.mk H
     clear H
     go_wp2
     go_meet
     case rel=>exact⟨_,(decide ((a0.size:Int)<x4_4)),vr,H',⟨by have:=HJ4.out;first|omega|exact Nat.le_refl _⟩,by repeat(first|exact qx.refl _|apply qx.step)⟩
    case rest=>
     clear HC15
     (try clear c2);(try clear c2b0);(try clear c2b1);(try clear c3);(try clear c3b0);(try clear c3b1);(try clear p4);(try clear q4);(try clear hx4);(try clear qi4)
     obtain ⟨kq,x46_14,rfl,HA,HJ14,⟨mc14,rfl⟩⟩:=hcut
     cases kq with
     | zero=>exact absurd HA.out (by simp [zd.j3])
     | succ kj14=>
      have H:=HA.out
      clear HA
      simp only [zd.j3] at H
      by_cases c17:x46_14=true
      ·subst c17
       rw [if_pos rfl] at H
       obtain rfl:=Option.some.inj H
       go_wp2
       go_ret
       exact⟨by first|rfl|(simp;done)|(simp [*];done),by repeat(first|exact qx.refl _|apply qx.step)⟩
      replace c17:=Bool.eq_false_iff.mpr c17
      subst c17
      rw [if_neg (show ¬ (false=true) by decide)] at H
      have H':=zq.mk H
      clear H
      go_wp2
      go_loopg [5,6] kj14 (fun kq v5 v6 w' => ∃ (x5_3:Int) (x6_3:Int),v5 = .int .i64 x5_3∧v6 = .int .i64 x6_3∧zq (zd.l0 kq a0 x4_4 x5_3 x6_3=some r)∧zq (kq≤kj14)∧qx w w')
      case atStart=>exact⟨(x5_4),(1),vr,vr,H',⟨Nat.le_refl _⟩,by repeat(first|exact qx.refl _|apply qx.step)⟩
      case round=>
       clear H'
       (try clear c2);(try clear c2b0);(try clear c2b1);(try clear c3);(try clear c3b0);(try clear c3b1);(try clear p4);(try clear q4);(try clear hx4);(try clear qi4);(try clear c17)
       obtain ⟨x5_3,x6_3,rfl,rfl,HA,HK3,⟨m3,rfl⟩⟩:=hrel
       cases gk with
       | zero=>exact absurd HA.out (by simp [zd.l0])
       | succ k3=>
        have H:=HA.out
        clear HA
        simp only [zd.l0] at H
        by_cases c18:x6_3<x4_4
        ·rw [if_pos c18] at H
         have c18b0:=decide_eq_true c18
         clear c18
         by_cases c19:0≤x6_3
         ·rw [if_pos c19] at H
          have c19b0:=decide_eq_true c19
          clear c19
          by_cases c20:x6_3<(a0.size:Int)
          ·rw [if_pos c20] at H
           have c20b0:=decide_eq_true c20
           clear c20
           by_cases c22:(bt a0 x6_3)<128
           ·rw [if_pos c22] at H
            have c22b0:=decide_eq_true c22
            clear c22
            obtain rfl:=Option.some.inj H
            have p21:0≤(x6_3:Int):=dt
            have q21:x6_3<(a0.size:Int):=dt
            have hx21:=zj3 a0 x6_3
            replace p21:=eq_true p21
            replace q21:=eq_true q21
            go_wp2
            go_ret
            exact⟨by first|rfl|(simp;done)|(simp [*];done),by repeat(first|exact qx.refl _|apply qx.step)⟩
           rw [if_neg c22] at H
           have c22b0:=decide_eq_false c22
           clear c22
           by_cases c24:(bt a0 x6_3) > 191
           ·rw [if_pos c24] at H
            have c24b0:=decide_eq_true c24
            clear c24
            obtain rfl:=Option.some.inj H
            have p21:0≤(x6_3:Int):=dt
            have q21:x6_3<(a0.size:Int):=dt
            have hx21:=zj3 a0 x6_3
            replace p21:=eq_true p21
            replace q21:=eq_true q21
            have p23:0≤(x6_3:Int):=dt
            have q23:x6_3<(a0.size:Int):=dt
            have hx23:=zj3 a0 x6_3
            replace p23:=eq_true p23
            replace q23:=eq_true q23
            go_wp2
            go_ret
            exact⟨by first|rfl|(simp;done)|(simp [*];done),by repeat(first|exact qx.refl _|apply qx.step)⟩
           rw [if_neg c24] at H
           have c24b0:=decide_eq_false c24
           clear c24
           have H':=zq.mk H
           clear H
           have p21:0≤(x6_3:Int):=dt
           have q21:x6_3<(a0.size:Int):=dt
           have hx21:=zj3 a0 x6_3
           replace p21:=eq_true p21
           replace q21:=eq_true q21
           have p23:0≤(x6_3:Int):=dt
           have q23:x6_3<(a0.size:Int):=dt
           have hx23:=zj3 a0 x6_3
           replace p23:=eq_true p23
           replace q23:=eq_true q23
           have p25:0≤(x6_3:Int):=dt
           have q25:x6_3<(a0.size:Int):=dt
           have hx25:=zj3 a0 x6_3
           replace p25:=eq_true p25
           replace q25:=eq_true q25
           go_wp2
           go_roundg k3
           case measure=>have:=HJ4.out;have:=HJ14.out;have:=HK3.out;omega
           case rel=>exact⟨(wrap64 ((wrap64 (x5_3 * 64))+(wrap64 (Go.bits .and .u8 (bt a0 x6_3) 63)))),(wrap64 (x6_3+1)),vr,vr,H',⟨by have:=HJ4.out;have:=HJ14.out;have:=HK3.out;omega⟩,by repeat(first|exact qx.refl _|apply qx.step)⟩
          rw [if_neg c20] at H
          exact absurd H (by simp)
         rw [if_neg c19] at H
         exact absurd H (by simp)
        rw [if_neg c18] at H
        have c18b0:=decide_eq_false c18
        clear c18
        by_cases c26:x4_4=3
        ·rw [if_pos c26] at H
         have c26b0:(x4_4 == 3)=true:=beq_iff_eq.mpr c26
         have c26b1:(x4_4 != 3)=false:=bne_eq_false_iff_eq.mpr c26
         clear c26
         by_cases c27:x5_3<2048
         ·rw [if_pos c27] at H
          have c27b0:=decide_eq_true c27
          clear c27
          obtain rfl:=Option.some.inj H
          go_wp2
          go_ret
          exact⟨by first|rfl|(simp;done)|(simp [*];done),by repeat(first|exact qx.refl _|apply qx.step)⟩
         rw [if_neg c27] at H
         have c27b0:=decide_eq_false c27
         clear c27
         by_cases c28:x5_3 ≥ 55296
         ·rw [if_pos c28] at H
          have c28b0:=decide_eq_true c28
          clear c28
          by_cases c29:x5_3≤57343
          ·rw [if_pos c29] at H
           have c29b0:=decide_eq_true c29
           clear c29
           obtain rfl:=Option.some.inj H
           go_wp2
           go_ret
           exact⟨by first|rfl|(simp;done)|(simp [*];done),by repeat(first|exact qx.refl _|apply qx.step)⟩
          rw [if_neg c29] at H
          have c29b0:=decide_eq_false c29
          clear c29
          by_cases c30:x4_4=4
          ·rw [if_pos c30] at H
           have c30b0:(x4_4 == 4)=true:=beq_iff_eq.mpr c30
           have c30b1:(x4_4 != 4)=false:=bne_eq_false_iff_eq.mpr c30
           clear c30
           by_cases c31:x5_3<65536
           ·rw [if_pos c31] at H
            have c31b0:=decide_eq_true c31
            clear c31
            obtain rfl:=Option.some.inj H
            go_wp2
            go_ret
            exact⟨by first|rfl|(simp;done)|(simp [*];done),by repeat(first|exact qx.refl _|apply qx.step)⟩
           rw [if_neg c31] at H
           have c31b0:=decide_eq_false c31
           clear c31
           by_cases c32:x5_3 > 1114111
           ·rw [if_pos c32] at H
            have c32b0:=decide_eq_true c32
            clear c32
            obtain rfl:=Option.some.inj H
            go_wp2
            go_ret
            exact⟨by first|rfl|(simp;done)|(simp [*];done),by repeat(first|exact qx.refl _|apply qx.step)⟩
           rw [if_neg c32] at H
           have c32b0:=decide_eq_false c32
           clear c32
           obtain rfl:=Option.some.inj H
           go_wp2
           go_ret
           exact⟨by first|rfl|(simp;done)|(simp [*];done),by repeat(first|exact qx.refl _|apply qx.step)⟩
          rw [if_neg c30] at H
          have c30b0:(x4_4 == 4)=false:=beq_eq_false_iff_ne.mpr c30
          have c30b1:(x4_4 != 4)=true:=bne_iff_ne.mpr c30
          obtain rfl:=Option.some.inj H
          go_wp2
          go_ret
          exact⟨by first|rfl|(simp;done)|(simp [*];done),by repeat(first|exact qx.refl _|apply qx.step)⟩
         rw [if_neg c28] at H
         have c28b0:=decide_eq_false c28
         clear c28
         by_cases c33:x4_4=4
         ·rw [if_pos c33] at H
          have c33b0:(x4_4 == 4)=true:=beq_iff_eq.mpr c33
          have c33b1:(x4_4 != 4)=false:=bne_eq_false_iff_eq.mpr c33
          clear c33
          by_cases c34:x5_3<65536
          ·rw [if_pos c34] at H
           have c34b0:=decide_eq_true c34
           clear c34
           obtain rfl:=Option.some.inj H
           go_wp2
           go_ret
           exact⟨by first|rfl|(simp;done)|(simp [*];done),by repeat(first|exact qx.refl _|apply qx.step)⟩
          rw [if_neg c34] at H
          have c34b0:=decide_eq_false c34
          clear c34
          by_cases c35:x5_3 > 1114111
          ·rw [if_pos c35] at H
           have c35b0:=decide_eq_true c35
           clear c35
           obtain rfl:=Option.some.inj H
           go_wp2
           go_ret
           exact⟨by first|rfl|(simp;done)|(simp [*];done),by repeat(first|exact qx.refl _|apply qx.step)⟩
          rw [if_neg c35] at H
          have c35b0:=decide_eq_false c35
          clear c35
          obtain rfl:=Option.some.inj H
          go_wp2
          go_ret
          exact⟨by first|rfl|(simp;done)|(simp [*];done),by repeat(first|exact qx.refl _|apply qx.step)⟩
         rw [if_neg c33] at H
         have c33b0:(x4_4 == 4)=false:=beq_eq_false_iff_ne.mpr c33
         have c33b1:(x4_4 != 4)=true:=bne_iff_ne.mpr c33
         obtain rfl:=Option.some.inj H
         go_wp2
         go_ret
         exact⟨by first|rfl|(simp;done)|(simp [*];done),by repeat(first|exact qx.refl _|apply qx.step)⟩
        rw [if_neg c26] at H
        have c26b0:(x4_4 == 3)=false:=beq_eq_false_iff_ne.mpr c26
        have c26b1:(x4_4 != 3)=true:=bne_iff_ne.mpr c26
        by_cases c36:x4_4=4
        ·rw [if_pos c36] at H
         have c36b0:(x4_4 == 4)=true:=beq_iff_eq.mpr c36
         have c36b1:(x4_4 != 4)=false:=bne_eq_false_iff_eq.mpr c36
         clear c36
         by_cases c37:x5_3<65536
         ·rw [if_pos c37] at H
          have c37b0:=decide_eq_true c37
          clear c37
          obtain rfl:=Option.some.inj H
          go_wp2
          go_ret
          exact⟨by first|rfl|(simp;done)|(simp [*];done),by repeat(first|exact qx.refl _|apply qx.step)⟩
         rw [if_neg c37] at H
         have c37b0:=decide_eq_false c37
         clear c37
         by_cases c38:x5_3 > 1114111
         ·rw [if_pos c38] at H
          have c38b0:=decide_eq_true c38
          clear c38
          obtain rfl:=Option.some.inj H
          go_wp2
          go_ret
          exact⟨by first|rfl|(simp;done)|(simp [*];done),by repeat(first|exact qx.refl _|apply qx.step)⟩
         rw [if_neg c38] at H
         have c38b0:=decide_eq_false c38
         clear c38
         obtain rfl:=Option.some.inj H
         go_wp2
         go_ret
         exact⟨by first|rfl|(simp;done)|(simp [*];done),by repeat(first|exact qx.refl _|apply qx.step)⟩
        rw [if_neg c36] at H
        have c36b0:(x4_4 == 4)=false:=beq_eq_false_iff_ne.mpr c36
        have c36b1:(x4_4 != 4)=true:=bne_iff_ne.mpr c36
        obtain rfl:=Option.some.inj H
        go_wp2
        go_ret
        exact⟨by first|rfl|(simp;done)|(simp [*];done),by repeat(first|exact qx.refl _|apply qx.step)⟩
 rw [if_neg c3] at H
 exact absurd H (by simp)

/-! ### qg: function 67 -/
def qg.l0:Nat→ByteArray→Int→Option (Bool)
 | 0,_,_=>none
 | k+1,x0,x3=>if x3<(x0.size:Int) then(if 0≤x3 then(if x3≤(x0.size:Int) then((zd.f k (x0.extract (x3:Int).toNat x0.size)).bind fun t165=>(if t165=0 then(some false) else (qg.l0 k x0 (wrap64 (x3+t165))))) else (none)) else (none)) else (some true)
def qg.f (k:Nat) (a0:ByteArray):Option (Bool):=qg.l0 k a0 0
theorem qg.mono_l:∀ k,(∀ y0 y1,LeO (qg.l0 k y0 y1) (qg.l0 (k+1) y0 y1))
 | 0=>fun _ _ r h=>by simp [qg.l0] at h
 | k+1=>by
  have ih0:=qg.mono_l k
  intro y0 y1
  unfold qg.l0
  repeat' first
  | (with_reducible first|exact ih0 _ _|exact zd.mono _ _|exact LeO.refl _|exact LeO.none _|refine LeO.ite ?_ ?_|refine LeO.bind ?_ (fun _=>?_))
  | exact ih0 _ _
  | exact zd.mono _ _
  | exact LeO.none _
  | refine LeO.ite ?_ ?_
  | refine LeO.bind ?_ (fun _=>?_)
theorem qg.mono:∀ a0 k,LeO (qg.f k a0) (qg.f (k+1) a0):=by
 intro a0 k
 have ih0:=qg.mono_l k
 unfold qg.f
 repeat' first
   | (with_reducible first|exact ih0 _ _|exact zd.mono _ _|exact LeO.refl _|exact LeO.none _|refine LeO.ite ?_ ?_|refine LeO.bind ?_ (fun _=>?_))
   | exact ih0 _ _
   | exact zd.mono _ _
   | exact LeO.none _
   | refine LeO.ite ?_ ?_
   | refine LeO.bind ?_ (fun _=>?_)
set_option maxHeartbeats 8000000 in
set_option maxRecDepth 100000 in
theorem qg.calls (k:Nat) (a0:ByteArray) (r:Bool) (w:World) (h:qg.f k a0=some r) :
  Calls Tryd.prog 67 #[.string a0] w fun e w'=>e = .returned (.bool r)∧qx w w':=by
 have H:(qg.l0 k a0 0)=some r:=h
 clear h
 have H':=zq.mk H
 clear H
 go_enter Tryd.func67,Tryd.ntmps67
 go_wp2
 go_loopg [3] k (fun kq v3 w' => ∃ (x3_1:Int),v3 = .int .i64 x3_1∧zq (qg.l0 kq a0 x3_1=some r)∧zq (kq≤k)∧qx w w')
 case atStart=>exact⟨(0),vr,H',⟨Nat.le_refl _⟩,by repeat(first|exact qx.refl _|apply qx.step)⟩
 case round=>
  clear H'
  obtain ⟨x3_1,rfl,HA,HK1,⟨m1,rfl⟩⟩:=hrel
  cases gk with
  | zero=>exact absurd HA.out (by simp [qg.l0])
  | succ k1=>
   have H:=HA.out
   clear HA
   simp only [qg.l0] at H
   by_cases c2:x3_1<(a0.size:Int)
   ·rw [if_pos c2] at H
    have c2b0:=decide_eq_true c2
    clear c2
    by_cases c3:0≤x3_1
    ·rw [if_pos c3] at H
     have c3b0:=eq_true c3
     have c3b1:=decide_eq_true c3
     clear c3
     by_cases c4:x3_1≤(a0.size:Int)
     ·rw [if_pos c4] at H
      have c4b0:=eq_true c4
      have c4b1:=decide_eq_true c4
      clear c4
      replace H:=Option.bind_eq_some_iff.mp H
      obtain ⟨t165,A50,H⟩:=H
      replace H:(if t165=0 then(some false) else (qg.l0 k1 a0 (wrap64 (x3_1+t165))))=some r:=H
      have A5:=zq.mk A50
      clear A50
      by_cases c6:t165=0
      ·rw [if_pos c6] at H
       have c6b0:(t165 == 0)=true:=beq_iff_eq.mpr c6
       have c6b1:(t165 != 0)=false:=bne_eq_false_iff_eq.mpr c6
       clear c6
       obtain rfl:=Option.some.inj H
       go_wp2_with (first|((with_reducible refine zs (f:=106) rfl ?_);refine qo (some 12) rfl rfl Tryd.func106 (by kernel_rfl) rfl #[.string (a0.extract (x3_1:Int).toNat a0.size)] rfl gs ?_;(with_reducible refine(zd.calls k1 (a0.extract (x3_1:Int).toNat a0.size) t165 _ A5.out).mono ?_);rintro e w' ⟨rfl,⟨nd,rfl⟩⟩;refine⟨_,rfl,?_⟩))
       go_ret
       exact⟨by first|rfl|(simp;done)|(simp [*];done),by repeat(first|exact qx.refl _|apply qx.step)⟩
      rw [if_neg c6] at H
      have c6b0:(t165 == 0)=false:=beq_eq_false_iff_ne.mpr c6
      have c6b1:(t165 != 0)=true:=bne_iff_ne.mpr c6
      have H':=zq.mk H
      clear H
      go_wp2_with (first|((with_reducible refine zs (f:=106) rfl ?_);refine qo (some 12) rfl rfl Tryd.func106 (by kernel_rfl) rfl #[.string (a0.extract (x3_1:Int).toNat a0.size)] rfl gs ?_;(with_reducible refine(zd.calls k1 (a0.extract (x3_1:Int).toNat a0.size) t165 _ A5.out).mono ?_);rintro e w' ⟨rfl,⟨nd,rfl⟩⟩;refine⟨_,rfl,?_⟩))
      go_roundg k1
      case measure=>have:=HK1.out;omega
      case rel=>exact⟨(wrap64 (x3_1+t165)),vr,H',⟨by have:=HK1.out;omega⟩,by repeat(first|exact qx.refl _|apply qx.step)⟩
     rw [if_neg c4] at H
     exact absurd H (by simp)
    rw [if_neg c3] at H
    exact absurd H (by simp)
   rw [if_neg c2] at H
   have c2b0:=decide_eq_false c2
   clear c2
   obtain rfl:=Option.some.inj H
   go_wp2
   go_ret
   exact⟨by first|rfl|(simp;done)|(simp [*];done),by repeat(first|exact qx.refl _|apply qx.step)⟩

end Go.Proofs.YtmfpaeajibeikaaDoor.PEvalHolds
