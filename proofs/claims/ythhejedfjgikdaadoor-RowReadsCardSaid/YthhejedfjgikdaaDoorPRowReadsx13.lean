-- Written by wip/pp of this repo (over the kit's print, with additions of this session); Lean checks every line.
import Derived.Test.YthhejedfjgikdaaDoorPRowReadsx12
namespace Go.Proofs.YthhejedfjgikdaaDoor.PRowReads
open Go.RowKit Go.Proofs.YthhejedfjgikdaaDoorW.PrintWords Go.Proofs.YthhejedfjgikdaaDoorW.PrintLast Go.Proofs.YthhejedfjgikdaaDoorW.PrintMore
attribute [local go_sem] zjo zjm zjw zjv zja zq9 zjn zjl   -- for this text's walks alone
set_option linter.unusedVariables false
set_option linter.unusedSimpArgs false

/-! ### zu: function 102 -/
def zu.l0:Nat→ByteArray→Int→Option (Bool)
 | 0,_,_=>none
 | k+1,x0,x3=>if x3<(x0.size:Int) then(if 0≤x3 then(if x3≤(x0.size:Int) then((zb.f k (x0.extract (x3:Int).toNat x0.size)).bind fun t265=>(if t265=0 then(some false) else (zu.l0 k x0 (wrap64 (x3+t265))))) else (none)) else (none)) else (some true)
def zu.f (k:Nat) (a0:ByteArray):Option (Bool):=zu.l0 k a0 0
theorem zu.mono_l:∀ k,(∀ y0 y1,LeO (zu.l0 k y0 y1) (zu.l0 (k+1) y0 y1))
 | 0=>fun _ _ r h=>by simp [zu.l0] at h
 | k+1=>by
  have ih0:=zu.mono_l k
  intro y0 y1
  unfold zu.l0
  repeat' first
  | (with_reducible first|exact ih0 _ _|exact zb.mono _ _|exact LeO.refl _|exact LeO.none _|refine LeO.ite ?_ ?_|refine LeO.bind ?_ (fun _=>?_))
  | exact ih0 _ _
  | exact zb.mono _ _
  | exact LeO.none _
  | refine LeO.ite ?_ ?_
  | refine LeO.bind ?_ (fun _=>?_)
theorem zu.mono:∀ a0 k,LeO (zu.f k a0) (zu.f (k+1) a0):=by
 intro a0 k
 have ih0:=zu.mono_l k
 unfold zu.f
 repeat' first
   | (with_reducible first|exact ih0 _ _|exact zb.mono _ _|exact LeO.refl _|exact LeO.none _|refine LeO.ite ?_ ?_|refine LeO.bind ?_ (fun _=>?_))
   | exact ih0 _ _
   | exact zb.mono _ _
   | exact LeO.none _
   | refine LeO.ite ?_ ?_
   | refine LeO.bind ?_ (fun _=>?_)
set_option maxHeartbeats 8000000 in
set_option maxRecDepth 100000 in
theorem zu.calls (k:Nat) (a0:ByteArray) (r:Bool) (w:World) (h:zu.f k a0=some r) :
  Calls Tryd.prog 102 #[.string a0] w fun e w'=>e = .returned (.bool r)∧za w w':=by
 have H:(zu.l0 k a0 0)=some r:=h
 clear h
 have H':=zq.mk H
 clear H
 go_enter Tryd.func102,Tryd.ntmps102
 go_wp2
 go_loopg [3] k (fun kq v3 w' => ∃ (x3_1:Int),v3 = .int .i64 x3_1∧zq (zu.l0 kq a0 x3_1=some r)∧zq (kq≤k)∧za w w')
 case atStart=>exact⟨(0),vr,H',⟨Nat.le_refl _⟩,by repeat(first|exact za.refl _|apply za.step)⟩
 case round=>
  clear H'
  obtain ⟨x3_1,rfl,HA,HK1,⟨m1,rfl⟩⟩:=hrel
  cases gk with
  | zero=>exact absurd HA.out (by simp [zu.l0])
  | succ k1=>
   have H:=HA.out
   clear HA
   simp only [zu.l0] at H
   by_cases c2:x3_1<(a0.size:Int)
   ·rw [if_pos c2] at H
    have c2b0:=decide_eq_true c2
    clear c2
    by_cases c3:0≤x3_1
    ·rw [if_pos c3] at H
     have c3b0:=eq_true c3
     have c3b1:=decide_eq_true c3
     clear c3
     by_cases c4:x3_1≤(a0.size:Int)
     ·rw [if_pos c4] at H
      have c4b0:=eq_true c4
      have c4b1:=decide_eq_true c4
      clear c4
      replace H:=Option.bind_eq_some_iff.mp H
      obtain ⟨t265,A50,H⟩:=H
      replace H:(if t265=0 then(some false) else (zu.l0 k1 a0 (wrap64 (x3_1+t265))))=some r:=H
      have A5:=zq.mk A50
      clear A50
      by_cases c6:t265=0
      ·rw [if_pos c6] at H
       have c6b0:(t265 == 0)=true:=beq_iff_eq.mpr c6
       have c6b1:(t265 != 0)=false:=bne_eq_false_iff_eq.mpr c6
       clear c6
       obtain rfl:=Option.some.inj H
       go_wp2_with (first|((with_reducible refine qh (f:=124) rfl ?_);refine zqn (some 12) rfl rfl Tryd.func124 (by kernel_rfl) rfl #[.string (a0.extract (x3_1:Int).toNat a0.size)] rfl gs ?_;(with_reducible refine(zb.calls k1 (a0.extract (x3_1:Int).toNat a0.size) t265 _ A5.out).mono ?_);rintro e w' ⟨rfl,⟨nd,rfl⟩⟩;refine⟨_,rfl,?_⟩))
       go_ret
       exact⟨by first|rfl|(simp;done)|(simp [*];done),by repeat(first|exact za.refl _|apply za.step)⟩
      rw [if_neg c6] at H
      have c6b0:(t265 == 0)=false:=beq_eq_false_iff_ne.mpr c6
      have c6b1:(t265 != 0)=true:=bne_iff_ne.mpr c6
      have H':=zq.mk H
      clear H
      go_wp2_with (first|((with_reducible refine qh (f:=124) rfl ?_);refine zqn (some 12) rfl rfl Tryd.func124 (by kernel_rfl) rfl #[.string (a0.extract (x3_1:Int).toNat a0.size)] rfl gs ?_;(with_reducible refine(zb.calls k1 (a0.extract (x3_1:Int).toNat a0.size) t265 _ A5.out).mono ?_);rintro e w' ⟨rfl,⟨nd,rfl⟩⟩;refine⟨_,rfl,?_⟩))
      go_roundg k1
      case measure=>have:=HK1.out;omega
      case rel=>exact⟨(wrap64 (x3_1+t265)),vr,H',⟨by have:=HK1.out;omega⟩,by repeat(first|exact za.refl _|apply za.step)⟩
     rw [if_neg c4] at H
     exact absurd H (by simp)
    rw [if_neg c3] at H
    exact absurd H (by simp)
   rw [if_neg c2] at H
   have c2b0:=decide_eq_false c2
   clear c2
   obtain rfl:=Option.some.inj H
   go_wp2
   go_ret
   exact⟨by first|rfl|(simp;done)|(simp [*];done),by repeat(first|exact za.refl _|apply za.step)⟩

/-! ### zjr: function 149 -/
def zjr.f (a0:ByteArray):Option (Bool):=if a0.toList=([40]:List UInt8) then(some true) else (if a0.toList=([41]:List UInt8) then(some true) else (if a0.toList=([44]:List UInt8) then(some true) else (if a0.toList=([46]:List UInt8) then(some true) else (if a0.toList=([42]:List UInt8) then(some true) else (if a0.toList=([43]:List UInt8) then(some true) else (if a0.toList=([45]:List UInt8) then(some true) else (if a0.toList=([47]:List UInt8) then(some true) else (if a0.toList=([37]:List UInt8) then(some true) else (if a0.toList=([61]:List UInt8) then(some true) else (if a0.toList=([60]:List UInt8) then(some true) else (if a0.toList=([62]:List UInt8) then(some true) else (if a0.toList=([60,61]:List UInt8) then(some true) else (if a0.toList=([62,61]:List UInt8) then(some true) else (if a0.toList=([60,62]:List UInt8) then(some true) else (some false)))))))))))))))
set_option maxHeartbeats 8000000 in
set_option maxRecDepth 100000 in
theorem zjr.calls (a0:ByteArray) (r:Bool) (w:World) (h:zjr.f a0=some r) :
  Calls Tryd.prog 149 #[.string a0] w fun e w'=>e = .returned (.bool r)∧za w w':=by
 have H:(if a0.toList=([40]:List UInt8) then(some true) else (if a0.toList=([41]:List UInt8) then(some true) else (if a0.toList=([44]:List UInt8) then(some true) else (if a0.toList=([46]:List UInt8) then(some true) else (if a0.toList=([42]:List UInt8) then(some true) else (if a0.toList=([43]:List UInt8) then(some true) else (if a0.toList=([45]:List UInt8) then(some true) else (if a0.toList=([47]:List UInt8) then(some true) else (if a0.toList=([37]:List UInt8) then(some true) else (if a0.toList=([61]:List UInt8) then(some true) else (if a0.toList=([60]:List UInt8) then(some true) else (if a0.toList=([62]:List UInt8) then(some true) else (if a0.toList=([60,61]:List UInt8) then(some true) else (if a0.toList=([62,61]:List UInt8) then(some true) else (if a0.toList=([60,62]:List UInt8) then(some true) else (some false))))))))))))))))=some r:=h
 clear h
 by_cases c2:a0.toList=([40]:List UInt8)
 ·rw [if_pos c2] at H
  have c2b0:(a0.toList == ([40]:List UInt8))=true:=beq_iff_eq.mpr c2
  have c2b1:(a0.toList != ([40]:List UInt8))=false:=bne_eq_false_iff_eq.mpr c2
  clear c2
  obtain rfl:=Option.some.inj H
  go_enter Tryd.func149,Tryd.ntmps149
  go_wp2
  go_ret
  exact⟨by first|rfl|(simp;done)|(simp [*];done),by repeat(first|exact za.refl _|apply za.step)⟩
 rw [if_neg c2] at H
 have c2b0:(a0.toList == ([40]:List UInt8))=false:=beq_eq_false_iff_ne.mpr c2
 have c2b1:(a0.toList != ([40]:List UInt8))=true:=bne_iff_ne.mpr c2
 by_cases c3:a0.toList=([41]:List UInt8)
 ·rw [if_pos c3] at H
  have c3b0:(a0.toList == ([41]:List UInt8))=true:=beq_iff_eq.mpr c3
  have c3b1:(a0.toList != ([41]:List UInt8))=false:=bne_eq_false_iff_eq.mpr c3
  clear c3
  obtain rfl:=Option.some.inj H
  go_enter Tryd.func149,Tryd.ntmps149
  go_wp2
  go_ret
  exact⟨by first|rfl|(simp;done)|(simp [*];done),by repeat(first|exact za.refl _|apply za.step)⟩
 rw [if_neg c3] at H
 have c3b0:(a0.toList == ([41]:List UInt8))=false:=beq_eq_false_iff_ne.mpr c3
 have c3b1:(a0.toList != ([41]:List UInt8))=true:=bne_iff_ne.mpr c3
 by_cases c4:a0.toList=([44]:List UInt8)
 ·rw [if_pos c4] at H
  have c4b0:(a0.toList == ([44]:List UInt8))=true:=beq_iff_eq.mpr c4
  have c4b1:(a0.toList != ([44]:List UInt8))=false:=bne_eq_false_iff_eq.mpr c4
  clear c4
  obtain rfl:=Option.some.inj H
  go_enter Tryd.func149,Tryd.ntmps149
  go_wp2
  go_ret
  exact⟨by first|rfl|(simp;done)|(simp [*];done),by repeat(first|exact za.refl _|apply za.step)⟩
 rw [if_neg c4] at H
 have c4b0:(a0.toList == ([44]:List UInt8))=false:=beq_eq_false_iff_ne.mpr c4
 have c4b1:(a0.toList != ([44]:List UInt8))=true:=bne_iff_ne.mpr c4
 by_cases c5:a0.toList=([46]:List UInt8)
 ·rw [if_pos c5] at H
  have c5b0:(a0.toList == ([46]:List UInt8))=true:=beq_iff_eq.mpr c5
  have c5b1:(a0.toList != ([46]:List UInt8))=false:=bne_eq_false_iff_eq.mpr c5
  clear c5
  obtain rfl:=Option.some.inj H
  go_enter Tryd.func149,Tryd.ntmps149
  go_wp2
  go_ret
  exact⟨by first|rfl|(simp;done)|(simp [*];done),by repeat(first|exact za.refl _|apply za.step)⟩
 rw [if_neg c5] at H
 have c5b0:(a0.toList == ([46]:List UInt8))=false:=beq_eq_false_iff_ne.mpr c5
 have c5b1:(a0.toList != ([46]:List UInt8))=true:=bne_iff_ne.mpr c5
 by_cases c6:a0.toList=([42]:List UInt8)
 ·rw [if_pos c6] at H
  have c6b0:(a0.toList == ([42]:List UInt8))=true:=beq_iff_eq.mpr c6
  have c6b1:(a0.toList != ([42]:List UInt8))=false:=bne_eq_false_iff_eq.mpr c6
  clear c6
  obtain rfl:=Option.some.inj H
  go_enter Tryd.func149,Tryd.ntmps149
  go_wp2
  go_ret
  exact⟨by first|rfl|(simp;done)|(simp [*];done),by repeat(first|exact za.refl _|apply za.step)⟩
 rw [if_neg c6] at H
 have c6b0:(a0.toList == ([42]:List UInt8))=false:=beq_eq_false_iff_ne.mpr c6
 have c6b1:(a0.toList != ([42]:List UInt8))=true:=bne_iff_ne.mpr c6
 by_cases c7:a0.toList=([43]:List UInt8)
 ·rw [if_pos c7] at H
  have c7b0:(a0.toList == ([43]:List UInt8))=true:=beq_iff_eq.mpr c7
  have c7b1:(a0.toList != ([43]:List UInt8))=false:=bne_eq_false_iff_eq.mpr c7
  clear c7
  obtain rfl:=Option.some.inj H
  go_enter Tryd.func149,Tryd.ntmps149
  go_wp2
  go_ret
  exact⟨by first|rfl|(simp;done)|(simp [*];done),by repeat(first|exact za.refl _|apply za.step)⟩
 rw [if_neg c7] at H
 have c7b0:(a0.toList == ([43]:List UInt8))=false:=beq_eq_false_iff_ne.mpr c7
 have c7b1:(a0.toList != ([43]:List UInt8))=true:=bne_iff_ne.mpr c7
 by_cases c8:a0.toList=([45]:List UInt8)
 ·rw [if_pos c8] at H
  have c8b0:(a0.toList == ([45]:List UInt8))=true:=beq_iff_eq.mpr c8
  have c8b1:(a0.toList != ([45]:List UInt8))=false:=bne_eq_false_iff_eq.mpr c8
  clear c8
  obtain rfl:=Option.some.inj H
  go_enter Tryd.func149,Tryd.ntmps149
  go_wp2
  go_ret
  exact⟨by first|rfl|(simp;done)|(simp [*];done),by repeat(first|exact za.refl _|apply za.step)⟩
 rw [if_neg c8] at H
 have c8b0:(a0.toList == ([45]:List UInt8))=false:=beq_eq_false_iff_ne.mpr c8
 have c8b1:(a0.toList != ([45]:List UInt8))=true:=bne_iff_ne.mpr c8
 by_cases c9:a0.toList=([47]:List UInt8)
 ·rw [if_pos c9] at H
  have c9b0:(a0.toList == ([47]:List UInt8))=true:=beq_iff_eq.mpr c9
  have c9b1:(a0.toList != ([47]:List UInt8))=false:=bne_eq_false_iff_eq.mpr c9
  clear c9
  obtain rfl:=Option.some.inj H
  go_enter Tryd.func149,Tryd.ntmps149
  go_wp2
  go_ret
  exact⟨by first|rfl|(simp;done)|(simp [*];done),by repeat(first|exact za.refl _|apply za.step)⟩
 rw [if_neg c9] at H
 have c9b0:(a0.toList == ([47]:List UInt8))=false:=beq_eq_false_iff_ne.mpr c9
 have c9b1:(a0.toList != ([47]:List UInt8))=true:=bne_iff_ne.mpr c9
 by_cases c10:a0.toList=([37]:List UInt8)
 ·rw [if_pos c10] at H
  have c10b0:(a0.toList == ([37]:List UInt8))=true:=beq_iff_eq.mpr c10
  have c10b1:(a0.toList != ([37]:List UInt8))=false:=bne_eq_false_iff_eq.mpr c10
  clear c10
  obtain rfl:=Option.some.inj H
  go_enter Tryd.func149,Tryd.ntmps149
  go_wp2
  go_ret
  exact⟨by first|rfl|(simp;done)|(simp [*];done),by repeat(first|exact za.refl _|apply za.step)⟩
 rw [if_neg c10] at H
 have c10b0:(a0.toList == ([37]:List UInt8))=false:=beq_eq_false_iff_ne.mpr c10
 have c10b1:(a0.toList != ([37]:List UInt8))=true:=bne_iff_ne.mpr c10
 by_cases c11:a0.toList=([61]:List UInt8)
 ·rw [if_pos c11] at H
  have c11b0:(a0.toList == ([61]:List UInt8))=true:=beq_iff_eq.mpr c11
  have c11b1:(a0.toList != ([61]:List UInt8))=false:=bne_eq_false_iff_eq.mpr c11
  clear c11
  obtain rfl:=Option.some.inj H
  go_enter Tryd.func149,Tryd.ntmps149
  go_wp2
  go_ret
  exact⟨by first|rfl|(simp;done)|(simp [*];done),by repeat(first|exact za.refl _|apply za.step)⟩
 rw [if_neg c11] at H
 have c11b0:(a0.toList == ([61]:List UInt8))=false:=beq_eq_false_iff_ne.mpr c11
 have c11b1:(a0.toList != ([61]:List UInt8))=true:=bne_iff_ne.mpr c11
 by_cases c12:a0.toList=([60]:List UInt8)
 ·rw [if_pos c12] at H
  have c12b0:(a0.toList == ([60]:List UInt8))=true:=beq_iff_eq.mpr c12
  have c12b1:(a0.toList != ([60]:List UInt8))=false:=bne_eq_false_iff_eq.mpr c12
  clear c12
  obtain rfl:=Option.some.inj H
  go_enter Tryd.func149,Tryd.ntmps149
  go_wp2
  go_ret
  exact⟨by first|rfl|(simp;done)|(simp [*];done),by repeat(first|exact za.refl _|apply za.step)⟩
 rw [if_neg c12] at H
 have c12b0:(a0.toList == ([60]:List UInt8))=false:=beq_eq_false_iff_ne.mpr c12
 have c12b1:(a0.toList != ([60]:List UInt8))=true:=bne_iff_ne.mpr c12
 by_cases c13:a0.toList=([62]:List UInt8)
 ·rw [if_pos c13] at H
  have c13b0:(a0.toList == ([62]:List UInt8))=true:=beq_iff_eq.mpr c13
  have c13b1:(a0.toList != ([62]:List UInt8))=false:=bne_eq_false_iff_eq.mpr c13
  clear c13
  obtain rfl:=Option.some.inj H
  go_enter Tryd.func149,Tryd.ntmps149
  go_wp2
  go_ret
  exact⟨by first|rfl|(simp;done)|(simp [*];done),by repeat(first|exact za.refl _|apply za.step)⟩
 rw [if_neg c13] at H
 have c13b0:(a0.toList == ([62]:List UInt8))=false:=beq_eq_false_iff_ne.mpr c13
 have c13b1:(a0.toList != ([62]:List UInt8))=true:=bne_iff_ne.mpr c13
 by_cases c14:a0.toList=([60,61]:List UInt8)
 ·rw [if_pos c14] at H
  have c14b0:(a0.toList == ([60,61]:List UInt8))=true:=beq_iff_eq.mpr c14
  have c14b1:(a0.toList != ([60,61]:List UInt8))=false:=bne_eq_false_iff_eq.mpr c14
  clear c14
  obtain rfl:=Option.some.inj H
  go_enter Tryd.func149,Tryd.ntmps149
  go_wp2
  go_ret
  exact⟨by first|rfl|(simp;done)|(simp [*];done),by repeat(first|exact za.refl _|apply za.step)⟩
 rw [if_neg c14] at H
 have c14b0:(a0.toList == ([60,61]:List UInt8))=false:=beq_eq_false_iff_ne.mpr c14
 have c14b1:(a0.toList != ([60,61]:List UInt8))=true:=bne_iff_ne.mpr c14
 by_cases c15:a0.toList=([62,61]:List UInt8)
 ·rw [if_pos c15] at H
  have c15b0:(a0.toList == ([62,61]:List UInt8))=true:=beq_iff_eq.mpr c15
  have c15b1:(a0.toList != ([62,61]:List UInt8))=false:=bne_eq_false_iff_eq.mpr c15
  clear c15
  obtain rfl:=Option.some.inj H
  go_enter Tryd.func149,Tryd.ntmps149
  go_wp2
  go_ret
  exact⟨by first|rfl|(simp;done)|(simp [*];done),by repeat(first|exact za.refl _|apply za.step)⟩
 rw [if_neg c15] at H
 have c15b0:(a0.toList == ([62,61]:List UInt8))=false:=beq_eq_false_iff_ne.mpr c15
 have c15b1:(a0.toList != ([62,61]:List UInt8))=true:=bne_iff_ne.mpr c15
 by_cases c16:a0.toList=([60,62]:List UInt8)
 ·rw [if_pos c16] at H
  have c16b0:(a0.toList == ([60,62]:List UInt8))=true:=beq_iff_eq.mpr c16
  have c16b1:(a0.toList != ([60,62]:List UInt8))=false:=bne_eq_false_iff_eq.mpr c16
  clear c16
  obtain rfl:=Option.some.inj H
  go_enter Tryd.func149,Tryd.ntmps149
  go_wp2
  go_ret
  exact⟨by first|rfl|(simp;done)|(simp [*];done),by repeat(first|exact za.refl _|apply za.step)⟩
 rw [if_neg c16] at H
 have c16b0:(a0.toList == ([60,62]:List UInt8))=false:=beq_eq_false_iff_ne.mpr c16
 have c16b1:(a0.toList != ([60,62]:List UInt8))=true:=bne_iff_ne.mpr c16
 obtain rfl:=Option.some.inj H
 go_enter Tryd.func149,Tryd.ntmps149
 go_wp2
 go_ret
 exact⟨by first|rfl|(simp;done)|(simp [*];done),by repeat(first|exact za.refl _|apply za.step)⟩

end Go.Proofs.YthhejedfjgikdaaDoor.PRowReads
