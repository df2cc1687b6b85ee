-- Written by wip/pp of this repo (over the kit's print, with additions of this session); Lean checks every line.
import Derived.Test.YthhejedfjgikdaaDoorPRowReadsx14
namespace Go.Proofs.YthhejedfjgikdaaDoor.PRowReads
open Go.RowKit Go.Proofs.YthhejedfjgikdaaDoorW.PrintWords Go.Proofs.YthhejedfjgikdaaDoorW.PrintLast Go.Proofs.YthhejedfjgikdaaDoorW.PrintMore
attribute [local go_sem] zjo zjm zjw zjv zja zq9 zjn zjl   -- for this text's walks alone
set_option linter.unusedVariables false
set_option linter.unusedSimpArgs false

/-! ### zd: function 123 -/
mutual
def zd.j0:Nat→ByteArray→Bool→Option (Bool)
 | 0,_,_=>none
 | k+1,x3,x4=>if x4=true then(some true) else (if x3.toList=([116,114,117,116,104]:List UInt8) then(zd.j1 k x3 (x3.toList == ([116,114,117,116,104]:List UInt8))) else (if x3.toList=([105,110,116]:List UInt8) then(zd.j1 k x3 (x3.toList == ([105,110,116]:List UInt8))) else (if x3.toList=([116,101,120,116]:List UInt8) then(zd.j1 k x3 (x3.toList == ([116,101,120,116]:List UInt8))) else (if x3.toList=([105,110,116,111]:List UInt8) then(zd.j1 k x3 (x3.toList == ([105,110,116,111]:List UInt8))) else (if x3.toList=([118,97,108,117,101,115]:List UInt8) then(zd.j1 k x3 (x3.toList == ([118,97,108,117,101,115]:List UInt8))) else (if x3.toList=([115,101,116]:List UInt8) then(zd.j1 k x3 (x3.toList == ([115,101,116]:List UInt8))) else (if x3.toList=([102,114,111,109]:List UInt8) then(zd.j1 k x3 (x3.toList == ([102,114,111,109]:List UInt8))) else (if x3.toList=([119,104,101,114,101]:List UInt8) then(zd.j1 k x3 (x3.toList == ([119,104,101,114,101]:List UInt8))) else (if x3.toList=([106,111,105,110]:List UInt8) then(zd.j1 k x3 (x3.toList == ([106,111,105,110]:List UInt8))) else (if x3.toList=([111,110]:List UInt8) then(zd.j1 k x3 (x3.toList == ([111,110]:List UInt8))) else (if x3.toList=([103,114,111,117,112]:List UInt8) then(zd.j1 k x3 (x3.toList == ([103,114,111,117,112]:List UInt8))) else (if x3.toList=([98,121]:List UInt8) then(zd.j1 k x3 (x3.toList == ([98,121]:List UInt8))) else (if x3.toList=([111,114,100,101,114]:List UInt8) then(zd.j1 k x3 (x3.toList == ([111,114,100,101,114]:List UInt8))) else (if x3.toList=([100,101,115,99]:List UInt8) then(zd.j1 k x3 (x3.toList == ([100,101,115,99]:List UInt8))) else (zd.j1 k x3 (x3.toList == ([108,105,109,105,116]:List UInt8)))))))))))))))))
def zd.j1:Nat→ByteArray→Bool→Option (Bool)
 | 0,_,_=>none
 | k+1,x3,x18=>if x18=true then(some true) else (if x3.toList=([105,115]:List UInt8) then(some true) else (if x3.toList=([97,110,100]:List UInt8) then(some true) else (if x3.toList=([111,114]:List UInt8) then(some true) else (if x3.toList=([99,111,117,110,116]:List UInt8) then(some true) else (if x3.toList=([115,117,109]:List UInt8) then(some true) else (if x3.toList=([109,105,110]:List UInt8) then(some true) else (if x3.toList=([109,97,120]:List UInt8) then(some true) else (some false))))))))
end
def zd.f (k:Nat) (a0:ByteArray):Option (Bool):=if a0.toList=([115,101,108,101,99,116]:List UInt8) then(zd.j0 k a0 (a0.toList == ([115,101,108,101,99,116]:List UInt8))) else (if a0.toList=([105,110,115,101,114,116]:List UInt8) then(zd.j0 k a0 (a0.toList == ([105,110,115,101,114,116]:List UInt8))) else (if a0.toList=([117,112,100,97,116,101]:List UInt8) then(zd.j0 k a0 (a0.toList == ([117,112,100,97,116,101]:List UInt8))) else (if a0.toList=([100,101,108,101,116,101]:List UInt8) then(zd.j0 k a0 (a0.toList == ([100,101,108,101,116,101]:List UInt8))) else (if a0.toList=([99,114,101,97,116,101]:List UInt8) then(zd.j0 k a0 (a0.toList == ([99,114,101,97,116,101]:List UInt8))) else (if a0.toList=([116,97,98,108,101]:List UInt8) then(zd.j0 k a0 (a0.toList == ([116,97,98,108,101]:List UInt8))) else (if a0.toList=([105,110,100,101,120]:List UInt8) then(zd.j0 k a0 (a0.toList == ([105,110,100,101,120]:List UInt8))) else (if a0.toList=([112,114,105,109,97,114,121]:List UInt8) then(zd.j0 k a0 (a0.toList == ([112,114,105,109,97,114,121]:List UInt8))) else (if a0.toList=([107,101,121]:List UInt8) then(zd.j0 k a0 (a0.toList == ([107,101,121]:List UInt8))) else (if a0.toList=([110,111,116]:List UInt8) then(zd.j0 k a0 (a0.toList == ([110,111,116]:List UInt8))) else (if a0.toList=([110,117,108,108]:List UInt8) then(zd.j0 k a0 (a0.toList == ([110,117,108,108]:List UInt8))) else (if a0.toList=([116,114,117,101]:List UInt8) then(zd.j0 k a0 (a0.toList == ([116,114,117,101]:List UInt8))) else (zd.j0 k a0 (a0.toList == ([102,97,108,115,101]:List UInt8))))))))))))))
theorem zd.mono_l:∀ k,(∀ y0 y1,LeO (zd.j0 k y0 y1) (zd.j0 (k+1) y0 y1))∧(∀ y0 y1,LeO (zd.j1 k y0 y1) (zd.j1 (k+1) y0 y1))
 | 0=>⟨fun _ _ r h=>by simp [zd.j0] at h,fun _ _ r h=>by simp [zd.j1] at h⟩
 | k+1=>by
  obtain ⟨ih0,ih1⟩:=zd.mono_l k
  refine⟨?_,?_⟩
  ·intro y0 y1
   unfold zd.j0
   repeat' first
   | (with_reducible first|exact ih0 _ _|exact ih1 _ _|exact LeO.refl _|exact LeO.none _|refine LeO.ite ?_ ?_|refine LeO.bind ?_ (fun _=>?_))
   | exact ih0 _ _
   | exact ih1 _ _
   | exact LeO.none _
   | refine LeO.ite ?_ ?_
   | refine LeO.bind ?_ (fun _=>?_)
  intro y0 y1
  unfold zd.j1
  repeat' first
  | (with_reducible first|exact ih0 _ _|exact ih1 _ _|exact LeO.refl _|exact LeO.none _|refine LeO.ite ?_ ?_|refine LeO.bind ?_ (fun _=>?_))
  | exact ih0 _ _
  | exact ih1 _ _
  | exact LeO.none _
  | refine LeO.ite ?_ ?_
  | refine LeO.bind ?_ (fun _=>?_)
theorem zd.mono:∀ a0 k,LeO (zd.f k a0) (zd.f (k+1) a0):=by
 intro a0 k
 obtain ⟨ih0,ih1⟩:=zd.mono_l k
 unfold zd.f
 repeat' first
   | (with_reducible first|exact ih0 _ _|exact ih1 _ _|exact LeO.refl _|exact LeO.none _|refine LeO.ite ?_ ?_|refine LeO.bind ?_ (fun _=>?_))
   | exact ih0 _ _
   | exact ih1 _ _
   | exact LeO.none _
   | refine LeO.ite ?_ ?_
   | refine LeO.bind ?_ (fun _=>?_)
set_option maxHeartbeats 8000000 in
set_option maxRecDepth 100000 in
theorem zd.calls (k:Nat) (a0:ByteArray) (r:Bool) (w:World) (h:zd.f k a0=some r) :
  Calls Tryd.prog 123 #[.string a0] w fun e w'=>e = .returned (.bool r)∧za w w':=by
 have H:(if a0.toList=([115,101,108,101,99,116]:List UInt8) then(zd.j0 k a0 (a0.toList == ([115,101,108,101,99,116]:List UInt8))) else (if a0.toList=([105,110,115,101,114,116]:List UInt8) then(zd.j0 k a0 (a0.toList == ([105,110,115,101,114,116]:List UInt8))) else (if a0.toList=([117,112,100,97,116,101]:List UInt8) then(zd.j0 k a0 (a0.toList == ([117,112,100,97,116,101]:List UInt8))) else (if a0.toList=([100,101,108,101,116,101]:List UInt8) then(zd.j0 k a0 (a0.toList == ([100,101,108,101,116,101]:List UInt8))) else (if a0.toList=([99,114,101,97,116,101]:List UInt8) then(zd.j0 k a0 (a0.toList == ([99,114,101,97,116,101]:List UInt8))) else (if a0.toList=([116,97,98,108,101]:List UInt8) then(zd.j0 k a0 (a0.toList == ([116,97,98,108,101]:List UInt8))) else (if a0.toList=([105,110,100,101,120]:List UInt8) then(zd.j0 k a0 (a0.toList == ([105,110,100,101,120]:List UInt8))) else (if a0.toList=([112,114,105,109,97,114,121]:List UInt8) then(zd.j0 k a0 (a0.toList == ([112,114,105,109,97,114,121]:List UInt8))) else (if a0.toList=([107,101,121]:List UInt8) then(zd.j0 k a0 (a0.toList == ([107,101,121]:List UInt8))) else (if a0.toList=([110,111,116]:List UInt8) then(zd.j0 k a0 (a0.toList == ([110,111,116]:List UInt8))) else (if a0.toList=([110,117,108,108]:List UInt8) then(zd.j0 k a0 (a0.toList == ([110,117,108,108]:List UInt8))) else (if a0.toList=([116,114,117,101]:List UInt8) then(zd.j0 k a0 (a0.toList == ([116,114,117,101]:List UInt8))) else (zd.j0 k a0 (a0.toList == ([102,97,108,115,101]:List UInt8)))))))))))))))=some r:=h
 clear h
 have HC2:=zq.mk H
 clear H
 go_enter Tryd.func123,Tryd.ntmps123
 go_upto_if 4 with (fail)
 go_cut [4] (fun v4 wc => ∃ (kq:Nat) (x4_1:Bool),v4 = .bool x4_1∧zq (zd.j0 kq a0 x4_1=some r)∧zq (kq≤k)∧za w wc)
 case first=>
  have H:=HC2.out
  clear HC2
  by_cases c3:a0.toList=([115,101,108,101,99,116]:List UInt8)
  ·rw [if_pos c3] at H
   have c3b0:(a0.toList == ([115,101,108,101,99,116]:List UInt8))=true:=beq_iff_eq.mpr c3
   have c3b1:(a0.toList != ([115,101,108,101,99,116]:List UInt8))=false:=bne_eq_false_iff_eq.mpr c3
   clear c3
   (first|rw [c3b0]|(simp only [zqp,zqq];rw [c3b0])|skip)
   have H':=zq.mk H
   clear H
   go_wp2
   go_meet
   case rel=>exact⟨_,((a0.toList == ([115,101,108,101,99,116]:List UInt8))),vr,H',⟨by first|omega|exact Nat.le_refl _⟩,by repeat(first|exact za.refl _|apply za.step)⟩
  rw [if_neg c3] at H
  have c3b0:(a0.toList == ([115,101,108,101,99,116]:List UInt8))=false:=beq_eq_false_iff_ne.mpr c3
  have c3b1:(a0.toList != ([115,101,108,101,99,116]:List UInt8))=true:=bne_iff_ne.mpr c3
  (first|rw [c3b0]|(simp only [zqp,zqq];rw [c3b0])|skip)
  by_cases c4:a0.toList=([105,110,115,101,114,116]:List UInt8)
  ·rw [if_pos c4] at H
   have c4b0:(a0.toList == ([105,110,115,101,114,116]:List UInt8))=true:=beq_iff_eq.mpr c4
   have c4b1:(a0.toList != ([105,110,115,101,114,116]:List UInt8))=false:=bne_eq_false_iff_eq.mpr c4
   clear c4
   have H':=zq.mk H
   clear H
   go_wp2
   go_meet
   case rel=>exact⟨_,((a0.toList == ([105,110,115,101,114,116]:List UInt8))),vr,H',⟨by first|omega|exact Nat.le_refl _⟩,by repeat(first|exact za.refl _|apply za.step)⟩
  rw [if_neg c4] at H
  have c4b0:(a0.toList == ([105,110,115,101,114,116]:List UInt8))=false:=beq_eq_false_iff_ne.mpr c4
  have c4b1:(a0.toList != ([105,110,115,101,114,116]:List UInt8))=true:=bne_iff_ne.mpr c4
  by_cases c5:a0.toList=([117,112,100,97,116,101]:List UInt8)
  ·rw [if_pos c5] at H
   have c5b0:(a0.toList == ([117,112,100,97,116,101]:List UInt8))=true:=beq_iff_eq.mpr c5
   have c5b1:(a0.toList != ([117,112,100,97,116,101]:List UInt8))=false:=bne_eq_false_iff_eq.mpr c5
   clear c5
   have H':=zq.mk H
   clear H
   go_wp2
   go_meet
   case rel=>exact⟨_,((a0.toList == ([117,112,100,97,116,101]:List UInt8))),vr,H',⟨by first|omega|exact Nat.le_refl _⟩,by repeat(first|exact za.refl _|apply za.step)⟩
  rw [if_neg c5] at H
  have c5b0:(a0.toList == ([117,112,100,97,116,101]:List UInt8))=false:=beq_eq_false_iff_ne.mpr c5
  have c5b1:(a0.toList != ([117,112,100,97,116,101]:List UInt8))=true:=bne_iff_ne.mpr c5
  by_cases c6:a0.toList=([100,101,108,101,116,101]:List UInt8)
  ·rw [if_pos c6] at H
   have c6b0:(a0.toList == ([100,101,108,101,116,101]:List UInt8))=true:=beq_iff_eq.mpr c6
   have c6b1:(a0.toList != ([100,101,108,101,116,101]:List UInt8))=false:=bne_eq_false_iff_eq.mpr c6
   clear c6
   have H':=zq.mk H
   clear H
   go_wp2
   go_meet
   case rel=>exact⟨_,((a0.toList == ([100,101,108,101,116,101]:List UInt8))),vr,H',⟨by first|omega|exact Nat.le_refl _⟩,by repeat(first|exact za.refl _|apply za.step)⟩
  rw [if_neg c6] at H
  have c6b0:(a0.toList == ([100,101,108,101,116,101]:List UInt8))=false:=beq_eq_false_iff_ne.mpr c6
  have c6b1:(a0.toList != ([100,101,108,101,116,101]:List UInt8))=true:=bne_iff_ne.mpr c6
  by_cases c7:a0.toList=([99,114,101,97,116,101]:List UInt8)
  ·rw [if_pos c7] at H
   have c7b0:(a0.toList == ([99,114,101,97,116,101]:List UInt8))=true:=beq_iff_eq.mpr c7
   have c7b1:(a0.toList != ([99,114,101,97,116,101]:List UInt8))=false:=bne_eq_false_iff_eq.mpr c7
   clear c7
   have H':=zq.mk H
   clear H
   go_wp2
   go_meet
   case rel=>exact⟨_,((a0.toList == ([99,114,101,97,116,101]:List UInt8))),vr,H',⟨by first|omega|exact Nat.le_refl _⟩,by repeat(first|exact za.refl _|apply za.step)⟩
  rw [if_neg c7] at H
  have c7b0:(a0.toList == ([99,114,101,97,116,101]:List UInt8))=false:=beq_eq_false_iff_ne.mpr c7
  have c7b1:(a0.toList != ([99,114,101,97,116,101]:List UInt8))=true:=bne_iff_ne.mpr c7
  by_cases c8:a0.toList=([116,97,98,108,101]:List UInt8)
  ·rw [if_pos c8] at H
   have c8b0:(a0.toList == ([116,97,98,108,101]:List UInt8))=true:=beq_iff_eq.mpr c8
   have c8b1:(a0.toList != ([116,97,98,108,101]:List UInt8))=false:=bne_eq_false_iff_eq.mpr c8
   clear c8
   have H':=zq.mk H
   clear H
   go_wp2
   go_meet
   case rel=>exact⟨_,((a0.toList == ([116,97,98,108,101]:List UInt8))),vr,H',⟨by first|omega|exact Nat.le_refl _⟩,by repeat(first|exact za.refl _|apply za.step)⟩
  rw [if_neg c8] at H
  have c8b0:(a0.toList == ([116,97,98,108,101]:List UInt8))=false:=beq_eq_false_iff_ne.mpr c8
  have c8b1:(a0.toList != ([116,97,98,108,101]:List UInt8))=true:=bne_iff_ne.mpr c8
  by_cases c9:a0.toList=([105,110,100,101,120]:List UInt8)
  ·rw [if_pos c9] at H
   have c9b0:(a0.toList == ([105,110,100,101,120]:List UInt8))=true:=beq_iff_eq.mpr c9
   have c9b1:(a0.toList != ([105,110,100,101,120]:List UInt8))=false:=bne_eq_false_iff_eq.mpr c9
   clear c9
   have H':=zq.mk H
   clear H
   go_wp2
   go_meet
   case rel=>exact⟨_,((a0.toList == ([105,110,100,101,120]:List UInt8))),vr,H',⟨by first|omega|exact Nat.le_refl _⟩,by repeat(first|exact za.refl _|apply za.step)⟩
  rw [if_neg c9] at H
  have c9b0:(a0.toList == ([105,110,100,101,120]:List UInt8))=false:=beq_eq_false_iff_ne.mpr c9
  have c9b1:(a0.toList != ([105,110,100,101,120]:List UInt8))=true:=bne_iff_ne.mpr c9
  by_cases c10:a0.toList=([112,114,105,109,97,114,121]:List UInt8)
  ·rw [if_pos c10] at H
   have c10b0:(a0.toList == ([112,114,105,109,97,114,121]:List UInt8))=true:=beq_iff_eq.mpr c10
   have c10b1:(a0.toList != ([112,114,105,109,97,114,121]:List UInt8))=false:=bne_eq_false_iff_eq.mpr c10
   clear c10
   have H':=zq.mk H
   clear H
   go_wp2
   go_meet
   case rel=>exact⟨_,((a0.toList == ([112,114,105,109,97,114,121]:List UInt8))),vr,H',⟨by first|omega|exact Nat.le_refl _⟩,by repeat(first|exact za.refl _|apply za.step)⟩
  rw [if_neg c10] at H
  have c10b0:(a0.toList == ([112,114,105,109,97,114,121]:List UInt8))=false:=beq_eq_false_iff_ne.mpr c10
  have c10b1:(a0.toList != ([112,114,105,109,97,114,121]:List UInt8))=true:=bne_iff_ne.mpr c10
  by_cases c11:a0.toList=([107,101,121]:List UInt8)
  ·rw [if_pos c11] at H
   have c11b0:(a0.toList == ([107,101,121]:List UInt8))=true:=beq_iff_eq.mpr c11
   have c11b1:(a0.toList != ([107,101,121]:List UInt8))=false:=bne_eq_false_iff_eq.mpr c11
   clear c11
   have H':=zq.mk H
   clear H
   go_wp2
   go_meet
   case rel=>exact⟨_,((a0.toList == ([107,101,121]:List UInt8))),vr,H',⟨by first|omega|exact Nat.le_refl _⟩,by repeat(first|exact za.refl _|apply za.step)⟩
  rw [if_neg c11] at H
  have c11b0:(a0.toList == ([107,101,121]:List UInt8))=false:=beq_eq_false_iff_ne.mpr c11
  have c11b1:(a0.toList != ([107,101,121]:List UInt8))=true:=bne_iff_ne.mpr c11
  by_cases c12:a0.toList=([110,111,116]:List UInt8)
  ·rw [if_pos c12] at H
   have c12b0:(a0.toList == ([110,111,116]:List UInt8))=true:=beq_iff_eq.mpr c12
   have c12b1:(a0.toList != ([110,111,116]:List UInt8))=false:=bne_eq_false_iff_eq.mpr c12
   clear c12
   have H':=zq.mk H
   clear H
   go_wp2
   go_meet
   case rel=>exact⟨_,((a0.toList == ([110,111,116]:List UInt8))),vr,H',⟨by first|omega|exact Nat.le_refl _⟩,by repeat(first|exact za.refl _|apply za.step)⟩
  rw [if_neg c12] at H
  have c12b0:(a0.toList == ([110,111,116]:List UInt8))=false:=beq_eq_false_iff_ne.mpr c12
  have c12b1:(a0.toList != ([110,111,116]:List UInt8))=true:=bne_iff_ne.mpr c12
  by_cases c13:a0.toList=([110,117,108,108]:List UInt8)
  ·rw [if_pos c13] at H
   have c13b0:(a0.toList == ([110,117,108,108]:List UInt8))=true:=beq_iff_eq.mpr c13
   have c13b1:(a0.toList != ([110,117,108,108]:List UInt8))=false:=bne_eq_false_iff_eq.mpr c13
   clear c13
   have H':=zq.mk H
   clear H
   go_wp2
   go_meet
   case rel=>exact⟨_,((a0.toList == ([110,117,108,108]:List UInt8))),vr,H',⟨by first|omega|exact Nat.le_refl _⟩,by repeat(first|exact za.refl _|apply za.step)⟩
  rw [if_neg c13] at H
  have c13b0:(a0.toList == ([110,117,108,108]:List UInt8))=false:=beq_eq_false_iff_ne.mpr c13
  have c13b1:(a0.toList != ([110,117,108,108]:List UInt8))=true:=bne_iff_ne.mpr c13
  by_cases c14:a0.toList=([116,114,117,101]:List UInt8)
  ·rw [if_pos c14] at H
   have c14b0:(a0.toList == ([116,114,117,101]:List UInt8))=true:=beq_iff_eq.mpr c14
   have c14b1:(a0.toList != ([116,114,117,101]:List UInt8))=false:=bne_eq_false_iff_eq.mpr c14
   clear c14
   have H':=zq.mk H
   clear H
   go_wp2
   go_meet
   case rel=>exact⟨_,((a0.toList == ([116,114,117,101]:List UInt8))),vr,H',⟨by first|omega|exact Nat.le_refl _⟩,by repeat(first|exact za.refl _|apply za.step)⟩
  rw [if_neg c14] at H
  have c14b0:(a0.toList == ([116,114,117,101]:List UInt8))=false:=beq_eq_false_iff_ne.mpr c14
  have c14b1:(a0.toList != ([116,114,117,101]:List UInt8))=true:=bne_iff_ne.mpr c14
  have H':=zq.mk H
  clear H
  go_wp2
  go_meet
  case rel=>exact⟨_,((a0.toList == ([102,97,108,115,101]:List UInt8))),vr,H',⟨by first|omega|exact Nat.le_refl _⟩,by repeat(first|exact za.refl _|apply za.step)⟩
 case rest=>
  clear HC2
  obtain ⟨kq,x4_1,rfl,HA,HJ1,⟨mc1,rfl⟩⟩:=hcut
  cases kq with
  | zero=>exact absurd HA.out (by simp [zd.j0])
  | succ kj1=>
   have H:=HA.out
   clear HA
   simp only [zd.j0] at H
   by_cases c15:x4_1=true
   ·subst c15
    rw [if_pos rfl] at H
    obtain rfl:=Option.some.inj H
    go_wp2
    go_ret
    exact⟨by first|rfl|(simp;done)|(simp [*];done),by repeat(first|exact za.refl _|apply za.step)⟩
   replace c15:=Bool.eq_false_iff.mpr c15
   subst c15
   rw [if_neg (show ¬ (false=true) by decide)] at H
   have HC16:=zq.mk H
   clear H
   go_upto_if 18 with (fail)
   go_cut [18] (fun v18 wc => ∃ (kq:Nat) (x18_15:Bool),v18 = .bool x18_15∧zq (zd.j1 kq a0 x18_15=some r)∧zq (kq≤kj1)∧za w wc)
   case first=>
    have H:=HC16.out
    clear HC16
    by_cases c17:a0.toList=([116,114,117,116,104]:List UInt8)
    ·rw [if_pos c17] at H
     have c17b0:(a0.toList == ([116,114,117,116,104]:List UInt8))=true:=beq_iff_eq.mpr c17
     have c17b1:(a0.toList != ([116,114,117,116,104]:List UInt8))=false:=bne_eq_false_iff_eq.mpr c17
     clear c17
     (first|rw [c17b0]|(simp only [zqp,zqq];rw [c17b0])|skip)
     have H':=zq.mk H
     clear H
     go_wp2
     go_meet
     case rel=>exact⟨_,((a0.toList == ([116,114,117,116,104]:List UInt8))),vr,H',⟨by have:=HJ1.out;first|omega|exact Nat.le_refl _⟩,by repeat(first|exact za.refl _|apply za.step)⟩
    rw [if_neg c17] at H
    have c17b0:(a0.toList == ([116,114,117,116,104]:List UInt8))=false:=beq_eq_false_iff_ne.mpr c17
    have c17b1:(a0.toList != ([116,114,117,116,104]:List UInt8))=true:=bne_iff_ne.mpr c17
    (first|rw [c17b0]|(simp only [zqp,zqq];rw [c17b0])|skip)
    by_cases c18:a0.toList=([105,110,116]:List UInt8)
    ·rw [if_pos c18] at H
     have c18b0:(a0.toList == ([105,110,116]:List UInt8))=true:=beq_iff_eq.mpr c18
     have c18b1:(a0.toList != ([105,110,116]:List UInt8))=false:=bne_eq_false_iff_eq.mpr c18
     clear c18
     have H':=zq.mk H
     clear H
     go_wp2
     go_meet
     case rel=>exact⟨_,((a0.toList == ([105,110,116]:List UInt8))),vr,H',⟨by have:=HJ1.out;first|omega|exact Nat.le_refl _⟩,by repeat(first|exact za.refl _|apply za.step)⟩
    rw [if_neg c18] at H
    have c18b0:(a0.toList == ([105,110,116]:List UInt8))=false:=beq_eq_false_iff_ne.mpr c18
    have c18b1:(a0.toList != ([105,110,116]:List UInt8))=true:=bne_iff_ne.mpr c18
    by_cases c19:a0.toList=([116,101,120,116]:List UInt8)
    ·rw [if_pos c19] at H
     have c19b0:(a0.toList == ([116,101,120,116]:List UInt8))=true:=beq_iff_eq.mpr c19
     have c19b1:(a0.toList != ([116,101,120,116]:List UInt8))=false:=bne_eq_false_iff_eq.mpr c19
     clear c19
     have H':=zq.mk H
     clear H
     go_wp2
     go_meet
     case rel=>exact⟨_,((a0.toList == ([116,101,120,116]:List UInt8))),vr,H',⟨by have:=HJ1.out;first|omega|exact Nat.le_refl _⟩,by repeat(first|exact za.refl _|apply za.step)⟩
    rw [if_neg c19] at H
    have c19b0:(a0.toList == ([116,101,120,116]:List UInt8))=false:=beq_eq_false_iff_ne.mpr c19
    have c19b1:(a0.toList != ([116,101,120,116]:List UInt8))=true:=bne_iff_ne.mpr c19
    by_cases c20:a0.toList=([105,110,116,111]:List UInt8)
    ·rw [if_pos c20] at H
     have c20b0:(a0.toList == ([105,110,116,111]:List UInt8))=true:=beq_iff_eq.mpr c20
     have c20b1:(a0.toList != ([105,110,116,111]:List UInt8))=false:=bne_eq_false_iff_eq.mpr c20
     clear c20
     have H':=zq.mk H
     clear H
     go_wp2
     go_meet
     case rel=>exact⟨_,((a0.toList == ([105,110,116,111]:List UInt8))),vr,H',⟨by have:=HJ1.out;first|omega|exact Nat.le_refl _⟩,by repeat(first|exact za.refl _|apply za.step)⟩
    rw [if_neg c20] at H
    have c20b0:(a0.toList == ([105,110,116,111]:List UInt8))=false:=beq_eq_false_iff_ne.mpr c20
    have c20b1:(a0.toList != ([105,110,116,111]:List UInt8))=true:=bne_iff_ne.mpr c20
    by_cases c21:a0.toList=([118,97,108,117,101,115]:List UInt8)
    ·rw [if_pos c21] at H
     have c21b0:(a0.toList == ([118,97,108,117,101,115]:List UInt8))=true:=beq_iff_eq.mpr c21
     have c21b1:(a0.toList != ([118,97,108,117,101,115]:List UInt8))=false:=bne_eq_false_iff_eq.mpr c21
     clear c21
     have H':=zq.mk H
     clear H
     go_wp2
     go_meet
     case rel=>exact⟨_,((a0.toList == ([118,97,108,117,101,115]:List UInt8))),vr,H',⟨by have:=HJ1.out;first|omega|exact Nat.le_refl _⟩,by repeat(first|exact za.refl _|apply za.step)⟩
    rw [if_neg c21] at H
    have c21b0:(a0.toList == ([118,97,108,117,101,115]:List UInt8))=false:=beq_eq_false_iff_ne.mpr c21
    have c21b1:(a0.toList != ([118,97,108,117,101,115]:List UInt8))=true:=bne_iff_ne.mpr c21
    by_cases c22:a0.toList=([115,101,116]:List UInt8)
    ·rw [if_pos c22] at H
     have c22b0:(a0.toList == ([115,101,116]:List UInt8))=true:=beq_iff_eq.mpr c22
     have c22b1:(a0.toList != ([115,101,116]:List UInt8))=false:=bne_eq_false_iff_eq.mpr c22
     clear c22
     have H':=zq.mk H
     clear H
     go_wp2
     go_meet
     case rel=>exact⟨_,((a0.toList == ([115,101,116]:List UInt8))),vr,H',⟨by have:=HJ1.out;first|omega|exact Nat.le_refl _⟩,by repeat(first|exact za.refl _|apply za.step)⟩
    rw [if_neg c22] at H
    have c22b0:(a0.toList == ([115,101,116]:List UInt8))=false:=beq_eq_false_iff_ne.mpr c22
    have c22b1:(a0.toList != ([115,101,116]:List UInt8))=true:=bne_iff_ne.mpr c22
    by_cases c23:a0.toList=([102,114,111,109]:List UInt8)
    ·rw [if_pos c23] at H
     have c23b0:(a0.toList == ([102,114,111,109]:List UInt8))=true:=beq_iff_eq.mpr c23
     have c23b1:(a0.toList != ([102,114,111,109]:List UInt8))=false:=bne_eq_false_iff_eq.mpr c23
     clear c23
     have H':=zq.mk H
     clear H
     go_wp2
     go_meet
     case rel=>exact⟨_,((a0.toList == ([102,114,111,109]:List UInt8))),vr,H',⟨by have:=HJ1.out;first|omega|exact Nat.le_refl _⟩,by repeat(first|exact za.refl _|apply za.step)⟩
    rw [if_neg c23] at H
    have c23b0:(a0.toList == ([102,114,111,109]:List UInt8))=false:=beq_eq_false_iff_ne.mpr c23
    have c23b1:(a0.toList != ([102,114,111,109]:List UInt8))=true:=bne_iff_ne.mpr c23
    by_cases c24:a0.toList=([119,104,101,114,101]:List UInt8)
    ·rw [if_pos c24] at H
     have c24b0:(a0.toList == ([119,104,101,114,101]:List UInt8))=true:=beq_iff_eq.mpr c24
     have c24b1:(a0.toList != ([119,104,101,114,101]:List UInt8))=false:=bne_eq_false_iff_eq.mpr c24
     clear c24
     have H':=zq.mk H
     clear H
     go_wp2
     go_meet
     case rel=>exact⟨_,((a0.toList == ([119,104,101,114,101]:List UInt8))),vr,H',⟨by have:=HJ1.out;first|omega|exact Nat.le_refl _⟩,by repeat(first|exact za.refl _|apply za.step)⟩
    rw [if_neg c24] at H
    have c24b0:(a0.toList == ([119,104,101,114,101]:List UInt8))=false:=beq_eq_false_iff_ne.mpr c24
    have c24b1:(a0.toList != ([119,104,101,114,101]:List UInt8))=true:=bne_iff_ne.mpr c24
    by_cases c25:a0.toList=([106,111,105,110]:List UInt8)
    ·rw [if_pos c25] at H
     have c25b0:(a0.toList == ([106,111,105,110]:List UInt8))=true:=beq_iff_eq.mpr c25
     have c25b1:(a0.toList != ([106,111,105,110]:List UInt8))=false:=bne_eq_false_iff_eq.mpr c25
     clear c25
     have H':=zq.mk H
     clear H
     go_wp2
     go_meet
     case rel=>exact⟨_,((a0.toList == ([106,111,105,110]:List UInt8))),vr,H',⟨by have:=HJ1.out;first|omega|exact Nat.le_refl _⟩,by repeat(first|exact za.refl _|apply za.step)⟩
    rw [if_neg c25] at H
    have c25b0:(a0.toList == ([106,111,105,110]:List UInt8))=false:=beq_eq_false_iff_ne.mpr c25
    have c25b1:(a0.toList != ([106,111,105,110]:List UInt8))=true:=bne_iff_ne.mpr c25
    by_cases c26:a0.toList=([111,110]:List UInt8)
    ·rw [if_pos c26] at H
     have c26b0:(a0.toList == ([111,110]:List UInt8))=true:=beq_iff_eq.mpr c26
     have c26b1:(a0.toList != ([111,110]:List UInt8))=false:=bne_eq_false_iff_eq.mpr c26
     clear c26
     have H':=zq.mk H
     clear H
     go_wp2
     go_meet
     case rel=>exact⟨_,((a0.toList == ([111,110]:List UInt8))),vr,H',⟨by have:=HJ1.out;first|omega|exact Nat.le_refl _⟩,by repeat(first|exact za.refl _|apply za.step)⟩
    rw [if_neg c26] at H
    have c26b0:(a0.toList == ([111,110]:List UInt8))=false:=beq_eq_false_iff_ne.mpr c26
    have c26b1:(a0.toList != ([111,110]:List UInt8))=true:=bne_iff_ne.mpr c26
    by_cases c27:a0.toList=([103,114,111,117,112]:List UInt8)
    ·rw [if_pos c27] at H
     have c27b0:(a0.toList == ([103,114,111,117,112]:List UInt8))=true:=beq_iff_eq.mpr c27
     have c27b1:(a0.toList != ([103,114,111,117,112]:List UInt8))=false:=bne_eq_false_iff_eq.mpr c27
     clear c27
     have H':=zq.mk H
     clear H
     go_wp2
     go_meet
     case rel=>exact⟨_,((a0.toList == ([103,114,111,117,112]:List UInt8))),vr,H',⟨by have:=HJ1.out;first|omega|exact Nat.le_refl _⟩,by repeat(first|exact za.refl _|apply za.step)⟩
    rw [if_neg c27] at H
    have c27b0:(a0.toList == ([103,114,111,117,112]:List UInt8))=false:=beq_eq_false_iff_ne.mpr c27
    have c27b1:(a0.toList != ([103,114,111,117,112]:List UInt8))=true:=bne_iff_ne.mpr c27
    by_cases c28:a0.toList=([98,121]:List UInt8)
    ·rw [if_pos c28] at H
     have c28b0:(a0.toList == ([98,121]:List UInt8))=true:=beq_iff_eq.mpr c28
     have c28b1:(a0.toList != ([98,121]:List UInt8))=false:=bne_eq_false_iff_eq.mpr c28
     clear c28
     have H':=zq.mk H
     clear H
     go_wp2
     go_meet
     case rel=>exact⟨_,((a0.toList == ([98,121]:List UInt8))),vr,H',⟨by have:=HJ1.out;first|omega|exact Nat.le_refl _⟩,by repeat(first|exact za.refl _|apply za.step)⟩
    rw [if_neg c28] at H
    have c28b0:(a0.toList == ([98,121]:List UInt8))=false:=beq_eq_false_iff_ne.mpr c28
    have c28b1:(a0.toList != ([98,121]:List UInt8))=true:=bne_iff_ne.mpr c28
    by_cases c29:a0.toList=([111,114,100,101,114]:List UInt8)
    ·rw [if_pos c29] at H
     have c29b0:(a0.toList == ([111,114,100,101,114]:List UInt8))=true:=beq_iff_eq.mpr c29
     have c29b1:(a0.toList != ([111,114,100,101,114]:List UInt8))=false:=bne_eq_false_iff_eq.mpr c29
     clear c29
     have H':=zq.mk H
     clear H
     go_wp2
     go_meet
     case rel=>exact⟨_,((a0.toList == ([111,114,100,101,114]:List UInt8))),vr,H',⟨by have:=HJ1.out;first|omega|exact Nat.le_refl _⟩,by repeat(first|exact za.refl _|apply za.step)⟩
    rw [if_neg c29] at H
    have c29b0:(a0.toList == ([111,114,100,101,114]:List UInt8))=false:=beq_eq_false_iff_ne.mpr c29
    have c29b1:(a0.toList != ([111,114,100,101,114]:List UInt8))=true:=bne_iff_ne.mpr c29
    by_cases c30:a0.toList=([100,101,115,99]:List UInt8)
    ·rw [if_pos c30] at H
     have c30b0:(a0.toList == ([100,101,115,99]:List UInt8))=true:=beq_iff_eq.mpr c30
     have c30b1:(a0.toList != ([100,101,115,99]:List UInt8))=false:=bne_eq_false_iff_eq.mpr c30
     clear c30
     have H':=zq.mk H
     clear H
     go_wp2
     go_meet
     case rel=>exact⟨_,((a0.toList == ([100,101,115,99]:List UInt8))),vr,H',⟨by have:=HJ1.out;first|omega|exact Nat.le_refl _⟩,by repeat(first|exact za.refl _|apply za.step)⟩
    rw [if_neg c30] at H
    have c30b0:(a0.toList == ([100,101,115,99]:List UInt8))=false:=beq_eq_false_iff_ne.mpr c30
    have c30b1:(a0.toList != ([100,101,115,99]:List UInt8))=true:=bne_iff_ne.mpr c30
    have H':=zq.mk H
    clear H
    go_wp2
    go_meet
    case rel=>exact⟨_,((a0.toList == ([108,105,109,105,116]:List UInt8))),vr,H',⟨by have:=HJ1.out;first|omega|exact Nat.le_refl _⟩,by repeat(first|exact za.refl _|apply za.step)⟩
   case rest=>
    clear HC16
    (try clear c15)
    obtain ⟨kq,x18_15,rfl,HA,HJ15,⟨mc15,rfl⟩⟩:=hcut
    cases kq with
    | zero=>exact absurd HA.out (by simp [zd.j1])
    | succ kj15=>
     have H:=HA.out
     clear HA
     simp only [zd.j1] at H
     by_cases c31:x18_15=true
     ·subst c31
      rw [if_pos rfl] at H
      obtain rfl:=Option.some.inj H
      go_wp2
      go_ret
      exact⟨by first|rfl|(simp;done)|(simp [*];done),by repeat(first|exact za.refl _|apply za.step)⟩
     replace c31:=Bool.eq_false_iff.mpr c31
     subst c31
     rw [if_neg (show ¬ (false=true) by decide)] at H
     by_cases c32:a0.toList=([105,115]:List UInt8)
     ·rw [if_pos c32] at H
      have c32b0:(a0.toList == ([105,115]:List UInt8))=true:=beq_iff_eq.mpr c32
      have c32b1:(a0.toList != ([105,115]:List UInt8))=false:=bne_eq_false_iff_eq.mpr c32
      clear c32
      obtain rfl:=Option.some.inj H
      go_wp2
      go_ret
      exact⟨by first|rfl|(simp;done)|(simp [*];done),by repeat(first|exact za.refl _|apply za.step)⟩
     rw [if_neg c32] at H
     have c32b0:(a0.toList == ([105,115]:List UInt8))=false:=beq_eq_false_iff_ne.mpr c32
     have c32b1:(a0.toList != ([105,115]:List UInt8))=true:=bne_iff_ne.mpr c32
     by_cases c33:a0.toList=([97,110,100]:List UInt8)
     ·rw [if_pos c33] at H
      have c33b0:(a0.toList == ([97,110,100]:List UInt8))=true:=beq_iff_eq.mpr c33
      have c33b1:(a0.toList != ([97,110,100]:List UInt8))=false:=bne_eq_false_iff_eq.mpr c33
      clear c33
      obtain rfl:=Option.some.inj H
      go_wp2
      go_ret
      exact⟨by first|rfl|(simp;done)|(simp [*];done),by repeat(first|exact za.refl _|apply za.step)⟩
     rw [if_neg c33] at H
     have c33b0:(a0.toList == ([97,110,100]:List UInt8))=false:=beq_eq_false_iff_ne.mpr c33
     have c33b1:(a0.toList != ([97,110,100]:List UInt8))=true:=bne_iff_ne.mpr c33
     by_cases c34:a0.toList=([111,114]:List UInt8)
     ·rw [if_pos c34] at H
      have c34b0:(a0.toList == ([111,114]:List UInt8))=true:=beq_iff_eq.mpr c34
      have c34b1:(a0.toList != ([111,114]:List UInt8))=false:=bne_eq_false_iff_eq.mpr c34
      clear c34
      obtain rfl:=Option.some.inj H
      go_wp2
      go_ret
      exact⟨by first|rfl|(simp;done)|(simp [*];done),by repeat(first|exact za.refl _|apply za.step)⟩
     rw [if_neg c34] at H
     have c34b0:(a0.toList == ([111,114]:List UInt8))=false:=beq_eq_false_iff_ne.mpr c34
     have c34b1:(a0.toList != ([111,114]:List UInt8))=true:=bne_iff_ne.mpr c34
     by_cases c35:a0.toList=([99,111,117,110,116]:List UInt8)
     ·rw [if_pos c35] at H
      have c35b0:(a0.toList == ([99,111,117,110,116]:List UInt8))=true:=beq_iff_eq.mpr c35
      have c35b1:(a0.toList != ([99,111,117,110,116]:List UInt8))=false:=bne_eq_false_iff_eq.mpr c35
      clear c35
      obtain rfl:=Option.some.inj H
      go_wp2
      go_ret
      exact⟨by first|rfl|(simp;done)|(simp [*];done),by repeat(first|exact za.refl _|apply za.step)⟩
     rw [if_neg c35] at H
     have c35b0:(a0.toList == ([99,111,117,110,116]:List UInt8))=false:=beq_eq_false_iff_ne.mpr c35
     have c35b1:(a0.toList != ([99,111,117,110,116]:List UInt8))=true:=bne_iff_ne.mpr c35
     by_cases c36:a0.toList=([115,117,109]:List UInt8)
     ·rw [if_pos c36] at H
      have c36b0:(a0.toList == ([115,117,109]:List UInt8))=true:=beq_iff_eq.mpr c36
      have c36b1:(a0.toList != ([115,117,109]:List UInt8))=false:=bne_eq_false_iff_eq.mpr c36
      clear c36
      obtain rfl:=Option.some.inj H
      go_wp2
      go_ret
      exact⟨by first|rfl|(simp;done)|(simp [*];done),by repeat(first|exact za.refl _|apply za.step)⟩
     rw [if_neg c36] at H
     have c36b0:(a0.toList == ([115,117,109]:List UInt8))=false:=beq_eq_false_iff_ne.mpr c36
     have c36b1:(a0.toList != ([115,117,109]:List UInt8))=true:=bne_iff_ne.mpr c36
     by_cases c37:a0.toList=([109,105,110]:List UInt8)
     ·rw [if_pos c37] at H
      have c37b0:(a0.toList == ([109,105,110]:List UInt8))=true:=beq_iff_eq.mpr c37
      have c37b1:(a0.toList != ([109,105,110]:List UInt8))=false:=bne_eq_false_iff_eq.mpr c37
      clear c37
      obtain rfl:=Option.some.inj H
      go_wp2
      go_ret
      exact⟨by first|rfl|(simp;done)|(simp [*];done),by repeat(first|exact za.refl _|apply za.step)⟩
     rw [if_neg c37] at H
     have c37b0:(a0.toList == ([109,105,110]:List UInt8))=false:=beq_eq_false_iff_ne.mpr c37
     have c37b1:(a0.toList != ([109,105,110]:List UInt8))=true:=bne_iff_ne.mpr c37
     by_cases c38:a0.toList=([109,97,120]:List UInt8)
     ·rw [if_pos c38] at H
      have c38b0:(a0.toList == ([109,97,120]:List UInt8))=true:=beq_iff_eq.mpr c38
      have c38b1:(a0.toList != ([109,97,120]:List UInt8))=false:=bne_eq_false_iff_eq.mpr c38
      clear c38
      obtain rfl:=Option.some.inj H
      go_wp2
      go_ret
      exact⟨by first|rfl|(simp;done)|(simp [*];done),by repeat(first|exact za.refl _|apply za.step)⟩
     rw [if_neg c38] at H
     have c38b0:(a0.toList == ([109,97,120]:List UInt8))=false:=beq_eq_false_iff_ne.mpr c38
     have c38b1:(a0.toList != ([109,97,120]:List UInt8))=true:=bne_iff_ne.mpr c38
     obtain rfl:=Option.some.inj H
     go_wp2
     go_ret
     exact⟨by first|rfl|(simp;done)|(simp [*];done),by repeat(first|exact za.refl _|apply za.step)⟩

/-! ### zf: function 100 -/
def zf.f (k:Nat) (a0:ByteArray):Option (Bool):=(qz.f k 1 0 a0).bind fun t269=>(if t269=true then((zd.f k a0).bind fun t270=>(some (!t270))) else (some false))
theorem zf.mono:∀ a0 k,LeO (zf.f k a0) (zf.f (k+1) a0):=by
 intro a0 k
 unfold zf.f
 repeat' first
   | (with_reducible first|exact zd.mono _ _|exact qz.mono _ _ _ _|exact LeO.refl _|exact LeO.none _|refine LeO.ite ?_ ?_|refine LeO.bind ?_ (fun _=>?_))
   | exact zd.mono _ _
   | exact qz.mono _ _ _ _
   | exact LeO.none _
   | refine LeO.ite ?_ ?_
   | refine LeO.bind ?_ (fun _=>?_)
set_option maxHeartbeats 8000000 in
set_option maxRecDepth 100000 in
theorem zf.calls (k:Nat) (a0:ByteArray) (r:Bool) (w:World) (h:zf.f k a0=some r) :
  Calls Tryd.prog 100 #[.string a0] w fun e w'=>e = .returned (.bool r)∧Below w.heap.size w w':=by
 have hu158:=Tryd.underlying158
 have HB:=zq.mk (Below.refl w.heap.size w)
 have H:((qz.f k 1 0 a0).bind fun t269=>(if t269=true then((zd.f k a0).bind fun t270=>(some (!t270))) else (some false)))=some r:=h
 clear h
 replace H:=Option.bind_eq_some_iff.mp H
 obtain ⟨t269,A20,H⟩:=H
 replace H:(if t269=true then((zd.f k a0).bind fun t270=>(some (!t270))) else (some false))=some r:=H
 have A2:=zq.mk A20
 clear A20
 by_cases c3:t269=true
 ·subst c3
  rw [if_pos rfl] at H
  replace H:=Option.bind_eq_some_iff.mp H
  obtain ⟨t270,A40,H⟩:=H
  replace H:(some (!t270))=some r:=H
  have A4:=zq.mk A40
  clear A40
  obtain rfl:=Option.some.inj H
  go_enter Tryd.func100,Tryd.ntmps100
  go_wp2_with (first|((with_reducible refine qh (f:=122) rfl ?_);refine zqn (some 5) rfl rfl Tryd.func122 (by kernel_rfl) rfl #[.agg #[.int .i64 1,.int .i64 0,.string a0]] rfl gs ?_;(with_reducible refine(qz.calls k 1 0 a0 true _ A2.out).mono ?_);rintro e w5 ⟨rfl,hb⟩;refine⟨_,rfl,?_⟩;replace HB:=zq.mk (zn bw hb);(try clear hb);(try clear hb2);(try clear hk);(try clear hi))|(go_at_call 123;(with_reducible refine(zd.calls k a0 t270 _ A4.out).mono ?_);rintro e w' ⟨rfl,⟨nd,rfl⟩⟩))
  go_ret
  exact⟨by first|rfl|(simp [zg,zy] <;> rfl)|(simp [*,zg,zy] <;> rfl),bw⟩
 replace c3:=Bool.eq_false_iff.mpr c3
 subst c3
 rw [if_neg (show ¬ (false=true) by decide)] at H
 obtain rfl:=Option.some.inj H
 go_enter Tryd.func100,Tryd.ntmps100
 go_wp2_with (first|((with_reducible refine qh (f:=122) rfl ?_);refine zqn (some 5) rfl rfl Tryd.func122 (by kernel_rfl) rfl #[.agg #[.int .i64 1,.int .i64 0,.string a0]] rfl gs ?_;(with_reducible refine(qz.calls k 1 0 a0 false _ A2.out).mono ?_);rintro e w6 ⟨rfl,hb⟩;refine⟨_,rfl,?_⟩;replace HB:=zq.mk (zn bw hb);(try clear hb);(try clear hb2);(try clear hk);(try clear hi)))
 go_ret
 exact⟨by first|rfl|(simp [zg,zy] <;> rfl)|(simp [*,zg,zy] <;> rfl),bw⟩

end Go.Proofs.YthhejedfjgikdaaDoor.PRowReads
