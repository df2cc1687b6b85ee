-- Written by wip/pp of this repo (over the kit's print, with additions of this session); Lean checks every line.
import Derived.Test.YthhejedfjgikdaaDoorPRowReadsx0
namespace Go.Proofs.YthhejedfjgikdaaDoor.PRowReads
open Go.RowKit Go.Proofs.YthhejedfjgikdaaDoorW.PrintWords Go.Proofs.YthhejedfjgikdaaDoorW.PrintLast Go.Proofs.YthhejedfjgikdaaDoorW.PrintMore
attribute [local go_sem] zjo zjm zjw zjv zja zq9 zjn zjl   -- for this text's walks alone
set_option linter.unusedVariables false
set_option linter.unusedSimpArgs false

/-! ### zx6: function 121 -/
def zx6.f (a0:ByteArray):Option (Int):=if 0<(a0.size:Int) then(if 1<(a0.size:Int) then(if 2<(a0.size:Int) then(if 3<(a0.size:Int) then(if 4<(a0.size:Int) then(if 5<(a0.size:Int) then(if 6<(a0.size:Int) then(if 7<(a0.size:Int) then(some (Go.bits .or .u64 (Go.bits .or .u64 (Go.bits .or .u64 (Go.bits .or .u64 (Go.bits .or .u64 (Go.bits .or .u64 (Go.bits .or .u64 (IntKind.u64.wrap (bt a0 0)) (IntKind.u64.wrap ((IntKind.u64.wrap (bt a0 1)) * 256))) (IntKind.u64.wrap ((IntKind.u64.wrap (bt a0 2)) * 65536))) (IntKind.u64.wrap ((IntKind.u64.wrap (bt a0 3)) * 16777216))) (IntKind.u64.wrap ((IntKind.u64.wrap (bt a0 4)) * 4294967296))) (IntKind.u64.wrap ((IntKind.u64.wrap (bt a0 5)) * 1099511627776))) (IntKind.u64.wrap ((IntKind.u64.wrap (bt a0 6)) * 281474976710656))) (IntKind.u64.wrap ((IntKind.u64.wrap (bt a0 7)) * 72057594037927936)))) else (none)) else (none)) else (none)) else (none)) else (none)) else (none)) else (none)) else (none)
set_option maxHeartbeats 8000000 in
set_option maxRecDepth 100000 in
theorem zx6.calls (a0:ByteArray) (r:Int) (w:World) (h:zx6.f a0=some r) :
  Calls Tryd.prog 121 #[.string a0] w fun e w'=>e = .returned (.int .u64 r)∧za w w':=by
 have H:(if 0<(a0.size:Int) then(if 1<(a0.size:Int) then(if 2<(a0.size:Int) then(if 3<(a0.size:Int) then(if 4<(a0.size:Int) then(if 5<(a0.size:Int) then(if 6<(a0.size:Int) then(if 7<(a0.size:Int) then(some (Go.bits .or .u64 (Go.bits .or .u64 (Go.bits .or .u64 (Go.bits .or .u64 (Go.bits .or .u64 (Go.bits .or .u64 (Go.bits .or .u64 (IntKind.u64.wrap (bt a0 0)) (IntKind.u64.wrap ((IntKind.u64.wrap (bt a0 1)) * 256))) (IntKind.u64.wrap ((IntKind.u64.wrap (bt a0 2)) * 65536))) (IntKind.u64.wrap ((IntKind.u64.wrap (bt a0 3)) * 16777216))) (IntKind.u64.wrap ((IntKind.u64.wrap (bt a0 4)) * 4294967296))) (IntKind.u64.wrap ((IntKind.u64.wrap (bt a0 5)) * 1099511627776))) (IntKind.u64.wrap ((IntKind.u64.wrap (bt a0 6)) * 281474976710656))) (IntKind.u64.wrap ((IntKind.u64.wrap (bt a0 7)) * 72057594037927936)))) else (none)) else (none)) else (none)) else (none)) else (none)) else (none)) else (none)) else (none))=some r:=h
 clear h
 by_cases c2:0<(a0.size:Int)
 ·rw [if_pos c2] at H
  have c2b0:=decide_eq_true c2
  have c2b1:decide (0<a0.size)=true:=decide_eq_true (by omega)
  clear c2
  by_cases c4:1<(a0.size:Int)
  ·rw [if_pos c4] at H
   have c4b0:=decide_eq_true c4
   have c4b1:decide (1<a0.size)=true:=decide_eq_true (by omega)
   clear c4
   by_cases c6:2<(a0.size:Int)
   ·rw [if_pos c6] at H
    have c6b0:=decide_eq_true c6
    have c6b1:decide (2<a0.size)=true:=decide_eq_true (by omega)
    clear c6
    by_cases c8:3<(a0.size:Int)
    ·rw [if_pos c8] at H
     have c8b0:=decide_eq_true c8
     have c8b1:decide (3<a0.size)=true:=decide_eq_true (by omega)
     clear c8
     by_cases c10:4<(a0.size:Int)
     ·rw [if_pos c10] at H
      have c10b0:=decide_eq_true c10
      have c10b1:decide (4<a0.size)=true:=decide_eq_true (by omega)
      clear c10
      by_cases c12:5<(a0.size:Int)
      ·rw [if_pos c12] at H
       have c12b0:=decide_eq_true c12
       have c12b1:decide (5<a0.size)=true:=decide_eq_true (by omega)
       clear c12
       by_cases c14:6<(a0.size:Int)
       ·rw [if_pos c14] at H
        have c14b0:=decide_eq_true c14
        have c14b1:decide (6<a0.size)=true:=decide_eq_true (by omega)
        clear c14
        by_cases c16:7<(a0.size:Int)
        ·rw [if_pos c16] at H
         have c16b0:=decide_eq_true c16
         have c16b1:decide (7<a0.size)=true:=decide_eq_true (by omega)
         clear c16
         obtain rfl:=Option.some.inj H
         have p3:0≤(0:Int):=(by omega)
         have q3:0<a0.size:=(by have:(0:Int)<(a0.size:Int):=dt;omega)
         have hx3:∀ h:0<a0.size,((a0[0]'h).toNat:Int)=bt a0 0:=zxj a0 0
         clear p3
         have qi3:(0<(a0.size:Int))=True:=eq_true (dt)
         replace q3:=eq_true q3
         have p5:0≤(1:Int):=(by omega)
         have q5:1<a0.size:=(by have:(1:Int)<(a0.size:Int):=dt;omega)
         have hx5:∀ h:1<a0.size,((a0[1]'h).toNat:Int)=bt a0 1:=zxj a0 1
         clear p5
         have qi5:(1<(a0.size:Int))=True:=eq_true (dt)
         replace q5:=eq_true q5
         have p7:0≤(2:Int):=(by omega)
         have q7:2<a0.size:=(by have:(2:Int)<(a0.size:Int):=dt;omega)
         have hx7:∀ h:2<a0.size,((a0[2]'h).toNat:Int)=bt a0 2:=zxj a0 2
         clear p7
         have qi7:(2<(a0.size:Int))=True:=eq_true (dt)
         replace q7:=eq_true q7
         have p9:0≤(3:Int):=(by omega)
         have q9:3<a0.size:=(by have:(3:Int)<(a0.size:Int):=dt;omega)
         have hx9:∀ h:3<a0.size,((a0[3]'h).toNat:Int)=bt a0 3:=zxj a0 3
         clear p9
         have qi9:(3<(a0.size:Int))=True:=eq_true (dt)
         replace q9:=eq_true q9
         have p11:0≤(4:Int):=(by omega)
         have q11:4<a0.size:=(by have:(4:Int)<(a0.size:Int):=dt;omega)
         have hx11:∀ h:4<a0.size,((a0[4]'h).toNat:Int)=bt a0 4:=zxj a0 4
         clear p11
         have qi11:(4<(a0.size:Int))=True:=eq_true (dt)
         replace q11:=eq_true q11
         have p13:0≤(5:Int):=(by omega)
         have q13:5<a0.size:=(by have:(5:Int)<(a0.size:Int):=dt;omega)
         have hx13:∀ h:5<a0.size,((a0[5]'h).toNat:Int)=bt a0 5:=zxj a0 5
         clear p13
         have qi13:(5<(a0.size:Int))=True:=eq_true (dt)
         replace q13:=eq_true q13
         have p15:0≤(6:Int):=(by omega)
         have q15:6<a0.size:=(by have:(6:Int)<(a0.size:Int):=dt;omega)
         have hx15:∀ h:6<a0.size,((a0[6]'h).toNat:Int)=bt a0 6:=zxj a0 6
         clear p15
         have qi15:(6<(a0.size:Int))=True:=eq_true (dt)
         replace q15:=eq_true q15
         have p17:0≤(7:Int):=(by omega)
         have q17:7<a0.size:=(by have:(7:Int)<(a0.size:Int):=dt;omega)
         have hx17:∀ h:7<a0.size,((a0[7]'h).toNat:Int)=bt a0 7:=zxj a0 7
         clear p17
         have qi17:(7<(a0.size:Int))=True:=eq_true (dt)
         replace q17:=eq_true q17
         go_enter Tryd.func121,Tryd.ntmps121
         go_wp2
         repeat(go_quiet (fail);try go_wp2)
         go_ret
         exact⟨by first|rfl|(simp;done)|(simp [*];done),by repeat(first|exact za.refl _|apply za.step)⟩
        rw [if_neg c16] at H
        exact absurd H (by simp)
       rw [if_neg c14] at H
       exact absurd H (by simp)
      rw [if_neg c12] at H
      exact absurd H (by simp)
     rw [if_neg c10] at H
     exact absurd H (by simp)
    rw [if_neg c8] at H
    exact absurd H (by simp)
   rw [if_neg c6] at H
   exact absurd H (by simp)
  rw [if_neg c4] at H
  exact absurd H (by simp)
 rw [if_neg c2] at H
 exact absurd H (by simp)

/-! ### utf8_ValidString: function 96, by hand -/
-- HAND rounds=0 making=1 laid=1 imports=Derived.Shelf.Unicode.ValidAny,Derived.Lib.LaidU8T,Derived.Test.YthhejedfjgikdaaDoorShelfV
def utf8_ValidString.f (a0:ByteArray):Option (Bool):=if a0.size≤9223372036854775807 then some (Lib.validD a0.data.toList) else none
section
open Go.Shelf
set_option maxRecDepth 100000 in
theorem LD.zv8:(Rows.laid_unicode_utf8_first:DataW Unit)=Lib.firstData:=by kernel_rfl
theorem LD.zvm:(Rows.laid_unicode_utf8_acceptRanges:DataW Unit)=Lib.acceptData:=by kernel_rfl
theorem LD.tabs {w:World} (h:LD w):Lib.Utf8Tabs (Tryd.laysValid_ren.g 3) (Tryd.laysValid_ren.g 4) w:=by
 obtain ⟨L0,h1,h2⟩:=h
 exact Utf8Tabs_below (utf8Tabs_of_readsT (U8Types.of196 Tryd.laysValid) ⟨by kernel_rfl,by kernel_rfl,by kernel_rfl,by kernel_rfl,by kernel_rfl,by kernel_rfl,by kernel_rfl⟩
  (Lib.laidMet.reads h1 (by rw [← LD.zv8];exact LD.in_unicode_utf8_first)) (Lib.laidMet.reads h1 (by rw [← LD.zvm];exact LD.in_unicode_utf8_acceptRanges))) h2
theorem utf8_ValidString.calls (a0:ByteArray) (r:Bool) (w:World) (hL:LD w) (h:utf8_ValidString.f a0=some r) :
  Calls Tryd.prog 96 #[.string a0] w fun e w'=>e = .returned (.bool r)∧Below w.heap.size w w':=by
 unfold utf8_ValidString.f at h
 by_cases hs:a0.size≤9223372036854775807
 ·rw [if_pos hs] at h
  cases h
  exact Any.utf8_ValidString Tryd.laysValid a0 w hs hL.tabs
 rw [if_neg hs] at h
 cases h
end

/-! ### zxo: function 168 -/
def zxo.f (a0:Int):Option (Bool):=if 48≤a0 then(some (decide (a0≤57))) else (some false)
set_option maxHeartbeats 8000000 in
set_option maxRecDepth 100000 in
theorem zxo.calls (a0:Int) (r:Bool) (w:World) (h:zxo.f a0=some r) :
  Calls Tryd.prog 168 #[.int .u8 a0] w fun e w'=>e = .returned (.bool r)∧za w w':=by
 have H:(if 48≤a0 then(some (decide (a0≤57))) else (some false))=some r:=h
 clear h
 by_cases c2:48≤a0
 ·rw [if_pos c2] at H
  have c2b0:=decide_eq_true c2
  clear c2
  obtain rfl:=Option.some.inj H
  go_enter Tryd.func168,Tryd.ntmps168
  go_wp2
  go_ret
  exact⟨by first|rfl|(simp;done)|(simp [*];done),by repeat(first|exact za.refl _|apply za.step)⟩
 rw [if_neg c2] at H
 have c2b0:=decide_eq_false c2
 clear c2
 obtain rfl:=Option.some.inj H
 go_enter Tryd.func168,Tryd.ntmps168
 go_wp2
 go_ret
 exact⟨by first|rfl|(simp;done)|(simp [*];done),by repeat(first|exact za.refl _|apply za.step)⟩

/-! ### zxx: function 169 -/
def zxx.f (a0:Int):Option (Bool):=if a0=95 then(some true) else (if 97≤a0 then(some (decide (a0≤122))) else (some false))
set_option maxHeartbeats 8000000 in
set_option maxRecDepth 100000 in
theorem zxx.calls (a0:Int) (r:Bool) (w:World) (h:zxx.f a0=some r) :
  Calls Tryd.prog 169 #[.int .u8 a0] w fun e w'=>e = .returned (.bool r)∧za w w':=by
 have H:(if a0=95 then(some true) else (if 97≤a0 then(some (decide (a0≤122))) else (some false)))=some r:=h
 clear h
 by_cases c2:a0=95
 ·rw [if_pos c2] at H
  have c2b0:(a0 == 95)=true:=beq_iff_eq.mpr c2
  have c2b1:(a0 != 95)=false:=bne_eq_false_iff_eq.mpr c2
  clear c2
  obtain rfl:=Option.some.inj H
  go_enter Tryd.func169,Tryd.ntmps169
  go_wp2
  go_ret
  exact⟨by first|rfl|(simp;done)|(simp [*];done),by repeat(first|exact za.refl _|apply za.step)⟩
 rw [if_neg c2] at H
 have c2b0:(a0 == 95)=false:=beq_eq_false_iff_ne.mpr c2
 have c2b1:(a0 != 95)=true:=bne_iff_ne.mpr c2
 by_cases c3:97≤a0
 ·rw [if_pos c3] at H
  have c3b0:=decide_eq_true c3
  clear c3
  obtain rfl:=Option.some.inj H
  go_enter Tryd.func169,Tryd.ntmps169
  go_wp2
  go_ret
  exact⟨by first|rfl|(simp;done)|(simp [*];done),by repeat(first|exact za.refl _|apply za.step)⟩
 rw [if_neg c3] at H
 have c3b0:=decide_eq_false c3
 clear c3
 obtain rfl:=Option.some.inj H
 go_enter Tryd.func169,Tryd.ntmps169
 go_wp2
 go_ret
 exact⟨by first|rfl|(simp;done)|(simp [*];done),by repeat(first|exact za.refl _|apply za.step)⟩

/-! ### zqu: function 162 -/
mutual
def zqu.j0:Nat→ByteArray→Bool→Option (Bool)
 | 0,_,_=>none
 | k+1,x0,x15=>if x15=true then(some false) else (zqu.l0 k x0 (x0.size:Int) 0)
def zqu.l0:Nat→ByteArray→Int→Int→Option (Bool)
 | 0,_,_,_=>none
 | k+1,x0,x17,x18=>if x18<x17 then(if 0≤x18 then(if x18<(x0.size:Int) then((zxx.f (bt x0 x18)).bind fun t102=>(if t102=true then(zqu.l0 k x0 x17 (wrap64 (x18+1))) else ((zxo.f (bt x0 x18)).bind fun t103=>(if t103=true then(zqu.l0 k x0 x17 (wrap64 (x18+1))) else (some false))))) else (none)) else (none)) else (some true)
end
def zqu.f (k:Nat) (a0:ByteArray):Option (Bool):=if a0.toList=([]:List UInt8) then(zqu.j0 k a0 true) else (if(a0.size:Int) > 12 then(zqu.j0 k a0 true) else (if 0<(a0.size:Int) then((zxo.f (bt a0 0)).bind fun t101=>(zqu.j0 k a0 t101)) else (none)))
theorem zqu.mono_l:∀ k,(∀ y0 y1,LeO (zqu.j0 k y0 y1) (zqu.j0 (k+1) y0 y1))∧(∀ y0 y1 y2,LeO (zqu.l0 k y0 y1 y2) (zqu.l0 (k+1) y0 y1 y2))
 | 0=>⟨fun _ _ r h=>by simp [zqu.j0] at h,fun _ _ _ r h=>by simp [zqu.l0] at h⟩
 | k+1=>by
  obtain ⟨ih0,ih1⟩:=zqu.mono_l k
  refine⟨?_,?_⟩
  ·intro y0 y1
   unfold zqu.j0
   repeat' first
   | (with_reducible first|exact ih0 _ _|exact ih1 _ _ _|exact LeO.refl _|exact LeO.none _|refine LeO.ite ?_ ?_|refine LeO.bind ?_ (fun _=>?_))
   | exact ih0 _ _
   | exact ih1 _ _ _
   | exact LeO.none _
   | refine LeO.ite ?_ ?_
   | refine LeO.bind ?_ (fun _=>?_)
  intro y0 y1 y2
  unfold zqu.l0
  repeat' first
  | (with_reducible first|exact ih0 _ _|exact ih1 _ _ _|exact LeO.refl _|exact LeO.none _|refine LeO.ite ?_ ?_|refine LeO.bind ?_ (fun _=>?_))
  | exact ih0 _ _
  | exact ih1 _ _ _
  | exact LeO.none _
  | refine LeO.ite ?_ ?_
  | refine LeO.bind ?_ (fun _=>?_)
theorem zqu.mono:∀ a0 k,LeO (zqu.f k a0) (zqu.f (k+1) a0):=by
 intro a0 k
 obtain ⟨ih0,ih1⟩:=zqu.mono_l k
 unfold zqu.f
 repeat' first
   | (with_reducible first|exact ih0 _ _|exact ih1 _ _ _|exact LeO.refl _|exact LeO.none _|refine LeO.ite ?_ ?_|refine LeO.bind ?_ (fun _=>?_))
   | exact ih0 _ _
   | exact ih1 _ _ _
   | exact LeO.none _
   | refine LeO.ite ?_ ?_
   | refine LeO.bind ?_ (fun _=>?_)
set_option maxHeartbeats 8000000 in
set_option maxRecDepth 100000 in
theorem zqu.calls (k:Nat) (a0:ByteArray) (r:Bool) (w:World) (h:zqu.f k a0=some r) :
  Calls Tryd.prog 162 #[.string a0] w fun e w'=>e = .returned (.bool r)∧za w w':=by
 have H:(if a0.toList=([]:List UInt8) then(zqu.j0 k a0 true) else (if(a0.size:Int) > 12 then(zqu.j0 k a0 true) else (if 0<(a0.size:Int) then((zxo.f (bt a0 0)).bind fun t101=>(zqu.j0 k a0 t101)) else (none))))=some r:=h
 clear h
 have HC2:=zq.mk H
 clear H
 go_enter Tryd.func162,Tryd.ntmps162
 go_upto_region 1 with (fail)
 go_cut [15] (fun v15 wc => ∃ (kq:Nat) (x15_1:Bool),v15 = .bool x15_1∧zq (zqu.j0 kq a0 x15_1=some r)∧zq (kq≤k)∧za w wc)
 case first=>
  have H:=HC2.out
  clear HC2
  by_cases c3:a0.toList=([]:List UInt8)
  ·rw [if_pos c3] at H
   have c3b0:(a0.toList == ([]:List UInt8))=true:=beq_iff_eq.mpr c3
   have c3b1:(a0.toList != ([]:List UInt8))=false:=bne_eq_false_iff_eq.mpr c3
   clear c3
   (first|rw [c3b0]|(simp only [zqp,zqq];rw [c3b0])|skip)
   have H':=zq.mk H
   clear H
   go_wp2
   go_meet
   case rel=>exact⟨_,(true),vr,H',⟨by first|omega|exact Nat.le_refl _⟩,by repeat(first|exact za.refl _|apply za.step)⟩
  rw [if_neg c3] at H
  have c3b0:(a0.toList == ([]:List UInt8))=false:=beq_eq_false_iff_ne.mpr c3
  have c3b1:(a0.toList != ([]:List UInt8))=true:=bne_iff_ne.mpr c3
  (first|rw [c3b0]|(simp only [zqp,zqq];rw [c3b0])|skip)
  by_cases c4:(a0.size:Int) > 12
  ·rw [if_pos c4] at H
   have c4b0:=decide_eq_true c4
   have c4b1:decide (12<a0.size)=true:=decide_eq_true (by omega)
   clear c4
   have H':=zq.mk H
   clear H
   go_wp2
   go_meet
   case rel=>exact⟨_,(true),vr,H',⟨by first|omega|exact Nat.le_refl _⟩,by repeat(first|exact za.refl _|apply za.step)⟩
  rw [if_neg c4] at H
  have c4b0:=decide_eq_false c4
  have c4b1:decide (12<a0.size)=false:=decide_eq_false (by omega)
  clear c4
  by_cases c5:0<(a0.size:Int)
  ·rw [if_pos c5] at H
   have c5b0:=decide_eq_true c5
   have c5b1:decide (0<a0.size)=true:=decide_eq_true (by omega)
   clear c5
   replace H:=Option.bind_eq_some_iff.mp H
   obtain ⟨t101,A70,H⟩:=H
   replace H:(zqu.j0 k a0 t101)=some r:=H
   have A7:=zq.mk A70
   clear A70
   have H':=zq.mk H
   clear H
   have p6:0≤(0:Int):=(by omega)
   have q6:0<a0.size:=(by have:(0:Int)<(a0.size:Int):=dt;omega)
   have hx6:∀ h:0<a0.size,((a0[0]'h).toNat:Int)=bt a0 0:=zxj a0 0
   clear p6
   have qi6:(0<(a0.size:Int))=True:=eq_true (dt)
   replace q6:=eq_true q6
   go_wp2_with (first|(go_at_call 168;(with_reducible refine(zxo.calls (bt a0 0) t101 _ A7.out).mono ?_);rintro e w' ⟨rfl,⟨nd,rfl⟩⟩))
   go_meet
   case rel=>exact⟨_,(t101),vr,H',⟨by first|omega|exact Nat.le_refl _⟩,by repeat(first|exact za.refl _|apply za.step)⟩
  rw [if_neg c5] at H
  exact absurd H (by simp)
 case rest=>
  clear HC2
  obtain ⟨kq,x15_1,rfl,HA,HJ1,⟨mc1,rfl⟩⟩:=hcut
  cases kq with
  | zero=>exact absurd HA.out (by simp [zqu.j0])
  | succ kj1=>
   have H:=HA.out
   clear HA
   simp only [zqu.j0] at H
   by_cases c8:x15_1=true
   ·subst c8
    rw [if_pos rfl] at H
    obtain rfl:=Option.some.inj H
    go_wp2
    go_ret
    exact⟨by first|rfl|(simp;done)|(simp [*];done),by repeat(first|exact za.refl _|apply za.step)⟩
   replace c8:=Bool.eq_false_iff.mpr c8
   subst c8
   rw [if_neg (show ¬ (false=true) by decide)] at H
   have H':=zq.mk H
   clear H
   go_wp2
   go_loopg [18] kj1 (fun kq v18 w' => ∃ (x18_2:Int),v18 = .int .i64 x18_2∧zq (zqu.l0 kq a0 (a0.size:Int) x18_2=some r)∧zq (kq≤kj1)∧za w w')
   case atStart=>exact⟨(0),vr,H',⟨Nat.le_refl _⟩,by repeat(first|exact za.refl _|apply za.step)⟩
   case round=>
    clear H'
    (try clear c8)
    obtain ⟨x18_2,rfl,HA,HK2,⟨m2,rfl⟩⟩:=hrel
    cases gk with
    | zero=>exact absurd HA.out (by simp [zqu.l0])
    | succ k2=>
     have H:=HA.out
     clear HA
     simp only [zqu.l0] at H
     by_cases c9:x18_2<(a0.size:Int)
     ·rw [if_pos c9] at H
      have c9b0:=decide_eq_true c9
      clear c9
      by_cases c10:0≤x18_2
      ·rw [if_pos c10] at H
       have c10b0:=decide_eq_true c10
       clear c10
       by_cases c11:x18_2<(a0.size:Int)
       ·rw [if_pos c11] at H
        have c11b0:=decide_eq_true c11
        clear c11
        replace H:=Option.bind_eq_some_iff.mp H
        obtain ⟨t102,A130,H⟩:=H
        replace H:(if t102=true then(zqu.l0 k2 a0 (a0.size:Int) (wrap64 (x18_2+1))) else ((zxo.f (bt a0 x18_2)).bind fun t103=>(if t103=true then(zqu.l0 k2 a0 (a0.size:Int) (wrap64 (x18_2+1))) else (some false))))=some r:=H
        have A13:=zq.mk A130
        clear A130
        by_cases c14:t102=true
        ·subst c14
         rw [if_pos rfl] at H
         have H':=zq.mk H
         clear H
         have p12:0≤(x18_2:Int):=dt
         have q12:x18_2<(a0.size:Int):=dt
         have hx12:=zxj a0 x18_2
         replace p12:=eq_true p12
         replace q12:=eq_true q12
         go_wp2_with (first|((with_reducible refine qh (f:=169) rfl ?_);refine zqn (some 24) rfl rfl Tryd.func169 (by kernel_rfl) rfl #[.int .u8 (bt a0 x18_2)] rfl gs ?_;(with_reducible refine(zxx.calls (bt a0 x18_2) true _ A13.out).mono ?_);rintro e w' ⟨rfl,⟨nd,rfl⟩⟩;refine⟨_,rfl,?_⟩))
         go_roundg k2
         case measure=>have:=HJ1.out;have:=HK2.out;omega
         case rel=>exact⟨(wrap64 (x18_2+1)),vr,H',⟨by have:=HJ1.out;have:=HK2.out;omega⟩,by repeat(first|exact za.refl _|apply za.step)⟩
        replace c14:=Bool.eq_false_iff.mpr c14
        subst c14
        rw [if_neg (show ¬ (false=true) by decide)] at H
        replace H:=Option.bind_eq_some_iff.mp H
        obtain ⟨t103,A160,H⟩:=H
        replace H:(if t103=true then(zqu.l0 k2 a0 (a0.size:Int) (wrap64 (x18_2+1))) else (some false))=some r:=H
        have A16:=zq.mk A160
        clear A160
        by_cases c17:t103=true
        ·subst c17
         rw [if_pos rfl] at H
         have H':=zq.mk H
         clear H
         have p12:0≤(x18_2:Int):=dt
         have q12:x18_2<(a0.size:Int):=dt
         have hx12:=zxj a0 x18_2
         replace p12:=eq_true p12
         replace q12:=eq_true q12
         go_wp2_with (first|((with_reducible refine qh (f:=169) rfl ?_);refine zqn (some 24) rfl rfl Tryd.func169 (by kernel_rfl) rfl #[.int .u8 (bt a0 x18_2)] rfl gs ?_;(with_reducible refine(zxx.calls (bt a0 x18_2) false _ A13.out).mono ?_);rintro e w' ⟨rfl,⟨nd,rfl⟩⟩;refine⟨_,rfl,?_⟩;have p15:0≤(x18_2:Int):=dt;have q15:x18_2<(a0.size:Int):=dt;have hx15:=zxj a0 x18_2;replace p15:=eq_true p15;replace q15:=eq_true q15)|(go_at_call 168;(with_reducible refine(zxo.calls (bt a0 x18_2) true _ A16.out).mono ?_);rintro e w' ⟨rfl,⟨nd,rfl⟩⟩))
         go_roundg k2
         case measure=>have:=HJ1.out;have:=HK2.out;omega
         case rel=>exact⟨(wrap64 (x18_2+1)),vr,H',⟨by have:=HJ1.out;have:=HK2.out;omega⟩,by repeat(first|exact za.refl _|apply za.step)⟩
        replace c17:=Bool.eq_false_iff.mpr c17
        subst c17
        rw [if_neg (show ¬ (false=true) by decide)] at H
        obtain rfl:=Option.some.inj H
        have p12:0≤(x18_2:Int):=dt
        have q12:x18_2<(a0.size:Int):=dt
        have hx12:=zxj a0 x18_2
        replace p12:=eq_true p12
        replace q12:=eq_true q12
        go_wp2_with (first|((with_reducible refine qh (f:=169) rfl ?_);refine zqn (some 24) rfl rfl Tryd.func169 (by kernel_rfl) rfl #[.int .u8 (bt a0 x18_2)] rfl gs ?_;(with_reducible refine(zxx.calls (bt a0 x18_2) false _ A13.out).mono ?_);rintro e w' ⟨rfl,⟨nd,rfl⟩⟩;refine⟨_,rfl,?_⟩;have p15:0≤(x18_2:Int):=dt;have q15:x18_2<(a0.size:Int):=dt;have hx15:=zxj a0 x18_2;replace p15:=eq_true p15;replace q15:=eq_true q15)|(go_at_call 168;(with_reducible refine(zxo.calls (bt a0 x18_2) false _ A16.out).mono ?_);rintro e w' ⟨rfl,⟨nd,rfl⟩⟩))
        go_ret
        exact⟨by first|rfl|(simp;done)|(simp [*];done),by repeat(first|exact za.refl _|apply za.step)⟩
       rw [if_neg c11] at H
       exact absurd H (by simp)
      rw [if_neg c10] at H
      exact absurd H (by simp)
     rw [if_neg c9] at H
     have c9b0:=decide_eq_false c9
     clear c9
     obtain rfl:=Option.some.inj H
     go_wp2
     go_ret
     exact⟨by first|rfl|(simp;done)|(simp [*];done),by repeat(first|exact za.refl _|apply za.step)⟩

/-! ### stringslite_HasPrefix: function 175 -/
def stringslite_HasPrefix.f (a0:ByteArray) (a1:ByteArray):Option (Bool):=if(a0.size:Int) ≥ (a1.size:Int) then(if 0≤(a1.size:Int) then(if(a1.size:Int)≤(a0.size:Int) then(some ((a0.extract 0 ((a1.size:Int):Int).toNat).toList == a1.toList)) else (none)) else (none)) else (some false)
set_option maxHeartbeats 8000000 in
set_option maxRecDepth 100000 in
theorem stringslite_HasPrefix.calls (a0:ByteArray) (a1:ByteArray) (r:Bool) (w:World) (h:stringslite_HasPrefix.f a0 a1=some r) :
  Calls Tryd.prog 175 #[.string a0,.string a1] w fun e w'=>e = .returned (.bool r)∧za w w':=by
 have H:(if(a0.size:Int) ≥ (a1.size:Int) then(if 0≤(a1.size:Int) then(if(a1.size:Int)≤(a0.size:Int) then(some ((a0.extract 0 ((a1.size:Int):Int).toNat).toList == a1.toList)) else (none)) else (none)) else (some false))=some r:=h
 clear h
 by_cases c3:(a0.size:Int) ≥ (a1.size:Int)
 ·rw [if_pos c3] at H
  have c3b0:=decide_eq_true c3
  have c3b1:decide (a1.size≤a0.size)=true:=decide_eq_true (Int.ofNat_le.mp c3)
  clear c3
  by_cases c4:0≤(a1.size:Int)
  ·rw [if_pos c4] at H
   have c4b0:=eq_true c4
   have c4b1:=decide_eq_true c4
   clear c4
   by_cases c5:(a1.size:Int)≤(a0.size:Int)
   ·rw [if_pos c5] at H
    have c5b0:=eq_true c5
    have c5b1:=decide_eq_true c5
    clear c5
    obtain rfl:=Option.some.inj H
    go_enter Tryd.func175,Tryd.ntmps175
    go_wp2
    go_ret
    exact⟨by first|rfl|(simp;done)|(simp [*];done),by repeat(first|exact za.refl _|apply za.step)⟩
   rw [if_neg c5] at H
   exact absurd H (by simp)
  rw [if_neg c4] at H
  exact absurd H (by simp)
 rw [if_neg c3] at H
 have c3b0:=decide_eq_false c3
 have c3b1:decide (a1.size≤a0.size)=false:=decide_eq_false (fun h=>c3 (Int.ofNat_le.mpr h))
 clear c3
 obtain rfl:=Option.some.inj H
 go_enter Tryd.func175,Tryd.ntmps175
 go_wp2
 go_ret
 exact⟨by first|rfl|(simp;done)|(simp [*];done),by repeat(first|exact za.refl _|apply za.step)⟩

/-! ### strings_HasPrefix: function 170 -/
def strings_HasPrefix.f (a0:ByteArray) (a1:ByteArray):Option (Bool):=(stringslite_HasPrefix.f a0 a1).bind fun t104=>(some t104)
set_option maxHeartbeats 8000000 in
set_option maxRecDepth 100000 in
theorem strings_HasPrefix.calls (a0:ByteArray) (a1:ByteArray) (r:Bool) (w:World) (h:strings_HasPrefix.f a0 a1=some r) :
  Calls Tryd.prog 170 #[.string a0,.string a1] w fun e w'=>e = .returned (.bool r)∧za w w':=by
 have H:((stringslite_HasPrefix.f a0 a1).bind fun t104=>(some t104))=some r:=h
 clear h
 replace H:=Option.bind_eq_some_iff.mp H
 obtain ⟨t104,A30,H⟩:=H
 replace H:(some t104)=some r:=H
 have A3:=zq.mk A30
 clear A30
 obtain rfl:=Option.some.inj H
 go_enter Tryd.func170,Tryd.ntmps170
 go_wp2_with (first|((with_reducible refine qh (f:=175) rfl ?_);refine zqn (some 7) rfl rfl Tryd.func175 (by kernel_rfl) rfl #[.string a0,.string a1] rfl gs ?_;(with_reducible refine(stringslite_HasPrefix.calls a0 a1 t104 _ A3.out).mono ?_);rintro e w' ⟨rfl,⟨nd,rfl⟩⟩;refine⟨_,rfl,?_⟩))
 go_ret
 exact⟨by first|rfl|(simp;done)|(simp [*];done),by repeat(first|exact za.refl _|apply za.step)⟩

/-! ### zqs: function 163, by hand -/
-- HAND rounds=0 making=0 laid=1 imports=Derived.Lib.LaidTab,Derived.Lib.LaidU8,Derived.Laws.Rows
def zqs.bytes:List (List UInt8) := [[60,61], [62,61], [60,62], [40], [41], [44], [46], [42], [43], [45], [47], [37], [61], [60], [62], []]
def zqs.marks:List ByteArray:=zqs.bytes.map fun l=>⟨l.toArray⟩
def zqs.go (s:ByteArray):List ByteArray→Option ByteArray
 | []=>some ⟨#[]⟩
 | m :: r=>(strings_HasPrefix.f s m).bind fun b=>if b=true then some m else zqs.go s r
def zqs.f (a0:ByteArray):Option (ByteArray):=zqs.go a0 zqs.marks
theorem zqs.strs {H:Type} {enc:TypeId × Value→H} {P:Program} {w:World} {base:Nat} {sp:Nat→Bool} {held:Bool} {fuel:Nat} {t e:TypeId} {n:Nat} {cs:List Value} {zs:List (List UInt8)} {p:List MemPlace}
  (ht:P.underlying t=some (.array n e)) (he:P.underlying e=some .string) (hce:P.cellsOf e=1) (hct:P.cellsOf t=n)
  (h:DataW.trod enc P w base sp held fuel t cs=some (.agg (zs.map fun z=>.lit (.string z)),p)):cs=zs.map fun z=>Value.string ⟨z.toArray⟩:=by
 cases fuel with
 | zero=>simp [DataW.trod] at h
 | succ fuel=>
  simp only [DataW.trod,ht,hce,hct,Nat.mul_one] at h
  split at h
  ·rename_i hl
   obtain ⟨xs,hm,hx⟩:=Option.map_eq_some_iff.1 h
   have hxs:xs.map (·.1)=zs.map fun z=>(DataW.lit (.string z):DataW H):=by
    have:=congrArg Prod.fst hx
    simpa using this
   have hxl:xs.length=n:=by simpa using Lib.mapM_length hm
   have hzl:zs.length=n:=by
    have:=congrArg List.length hxs
    simp at this
    omega
   apply List.ext_getElem?
   intro i
   by_cases hi:i<n
   ·obtain ⟨b,hb,hf⟩:=Lib.mapM_at hm i i (by simp [hi])
    obtain ⟨z,hc,rfl,_⟩:=DataW.trod_string he hf
    have h1:cs[i]? = some (.string z):=by
     have:=congrArg (·[0]?) hc
     simpa [List.getElem?_take,List.getElem?_drop] using this
    have h2:(xs.map (·.1))[i]? = some (DataW.lit (.string z.data.toList):DataW H):=by simp [hb]
    rw [hxs] at h2
    simp only [List.getElem?_map,Option.map_eq_some_iff,DataW.lit.injEq,Lit.string.injEq] at h2
    obtain ⟨z',hz',e'⟩:=h2
    subst e'
    simp [h1,hz']
   rw [List.getElem?_eq_none (by omega),List.getElem?_eq_none (by simp;omega)]
  cases h
theorem LD.marks {w:World} (h:LD w):∃ t fr,w.heap[(3:Nat)]? = some (.cells (zqs.marks.map Value.string).toArray t fr):=by
 obtain ⟨L0,h1,h2⟩:=h
 obtain ⟨g,t,cs,fuel,p,hg,ht,hv,hd⟩:=Lib.laidMet.reads h1 LD.in_commonhold_lex_marks
 have hg' : Tryd.prog.globalNamed "commonhold/lex.marks" = some 3 := by kernel_rfl
 obtain rfl:=Option.some.inj (hg'.symm.trans hg)
 have ht':(Tryd.prog.globals[(3:Nat)]?).map (·.type)=some 190:=by kernel_rfl
 obtain rfl:=Option.some.inj (ht'.symm.trans ht)
 rw [show(Rows.laid_commonhold_lex_marks:DataW Unit) = .agg (zqs.bytes.map fun z=>.lit (.string z)) by kernel_rfl] at hd
 have hc:=zqs.strs (n:=16) (e:=9) (by kernel_rfl) (by kernel_rfl) (by kernel_rfl) (by kernel_rfl) hd
 have e:cs=(zqs.marks.map Value.string).toArray:=by
  apply Array.ext'
  rw [hc]
  rfl
 subst e
 have hh:∃ t fr,L0.heap[(3:Nat)]? = some (.cells (zqs.marks.map Value.string).toArray t fr):=by
  unfold World.var? at hv
  rw [hg'] at hv
  revert hv
  simp only [Option.bind_eq_bind,Option.bind_some]
  cases hq:L0.heap[(3:Nat)]? with
  | none=>simp
  | some o=>cases o <;> simp [eq_comm]
 obtain ⟨t,fr,hh⟩:=hh
 exact⟨t,fr,(h2.block _ (Array.getElem?_eq_some_iff.1 hh).1).trans hh⟩
theorem zqs.index (k:Nat) (hk:k<16) (W:World):(Instr.index 190 (.agg (zqs.marks.map Value.string).toArray) (.int .i64 (k:Int))).run Tryd.prog W = .ok (.string (zqs.marks[k]?.getD ⟨#[]⟩)) W:=by
 have hl:(zqs.marks.map Value.string).toArray[k]? = some (.string (zqs.marks[k]?.getD ⟨#[]⟩)):=by
  have h:k<zqs.marks.length:=hk
  simp [h]
 generalize (zqs.marks.map Value.string).toArray=C at *
 have hb:(0:Int)≤(k:Int)∧(k:Int)<((16:Nat):Int):=⟨by omega,by omega⟩
 have hp:(part 9 C (k * 1)).run Tryd.prog W = .ok (.string (zqs.marks[k]?.getD ⟨#[]⟩)) W:=by
  unfold part
  rw [Nat.mul_one,hl]
  simp only [Sem.run_bind,Tryd.isAgg9,Result.andThen]
  rfl
 unfold Instr.index
 simp only [asIntOf,Sem.run_bind,Sem.run_pure,Result.andThen,run_underlying Tryd.underlying190,if_pos hb,Int.toNat_natCast,Tryd.sizeOf9,hp]
theorem zqs.go_at (s:ByteArray) (k:Nat) (hk:k<16):zqs.go s (zqs.marks.drop k)=(strings_HasPrefix.f s (zqs.marks[k]?.getD ⟨#[]⟩)).bind fun b=>if b=true then some (zqs.marks[k]?.getD ⟨#[]⟩) else zqs.go s (zqs.marks.drop (k+1)):=by
 have hl:k<zqs.marks.length:=hk
 rw [List.drop_eq_getElem_cons hl,zqs.go,List.getElem?_eq_getElem hl]
 rfl
set_option maxRecDepth 100000 in
set_option maxHeartbeats 2000000 in
theorem zqs.calls (a0:ByteArray) (r:ByteArray) (w:World) (hL:LD w) (h:zqs.f a0=some r) :
  Calls Tryd.prog 163 #[.string a0] w fun e w'=>e = .returned (.string r)∧za w w':=by
 obtain ⟨t,fr,hh⟩:=hL.marks
 have HH:=zq.mk hh
 have HS:=zq.mk h
 clear h hh hL
 unfold zqs.f at HS
 generalize hC:(zqs.marks.map Value.string).toArray=C at *
 have HC:=zq.mk hC
 clear hC
 go_enter Tryd.func163,Tryd.ntmps163
 go_wp2_with (refine wpList_load_row rfl 190 (.global 3) rfl 3 rfl t C fr _ HH.out Tryd.underlying190 rfl (by rw [← HC.out];kernel_rfl) ?_)
 go_loopw [4,6] (fun _ i wr => ∃ k:Nat,k≤16∧i = .int .i64 k∧zq (zqs.go a0 (zqs.marks.drop k)=some r)∧za w wr) (fun _ i _=>16 - (intOf i).toNat)
 case atStart=>exact⟨0,by omega,rfl,HS,⟨0,rfl⟩⟩
 case round=>
  obtain ⟨k,hk,rfl,HG,nd,rfl⟩:=hrel
  by_cases hlt:k<16
  ·have hi:∀ W:World,(Instr.index 190 (.agg C) (.int .i64 (k:Int))).run Tryd.prog W = .ok (.string (zqs.marks[k]?.getD ⟨#[]⟩)) W:=fun W=>by rw [← HC.out];exact zqs.index k hlt W
   have hg:=HG.out
   rw [zqs.go_at a0 k hlt] at hg
   clear HG
   generalize (zqs.marks[k]?.getD ⟨#[]⟩)=m at *
   obtain ⟨b,hb,hg⟩:=Option.bind_eq_some_iff.1 hg
   have HP:=zq.mk hb
   clear hb
   cases b with
   | true=>
    rw [if_pos rfl] at hg
    obtain rfl:=Option.some.inj hg
    clear hg
    go_wp2_with (go_at_call 170;(with_reducible refine(strings_HasPrefix.calls a0 m true _ HP.out).mono ?_);rintro e w' ⟨rfl,⟨n2,rfl⟩⟩)
    go_ret
    exact⟨rfl,⟨_,rfl⟩⟩
   | false=>
    rw [if_neg (by decide)] at hg
    have HG:=zq.mk hg
    clear hg
    go_wp2_with (go_at_call 170;(with_reducible refine(strings_HasPrefix.calls a0 m false _ HP.out).mono ?_);rintro e w' ⟨rfl,⟨n2,rfl⟩⟩)
    go_roundw
    case rel=>exact⟨k+1,by omega,by go_num,HG,⟨_,rfl⟩⟩
    case measure=>simp [intOf];omega
  obtain rfl:k=16:=by omega
  have hg:=HG.out
  rw [show zqs.marks.drop 16 = [] from rfl,zqs.go] at hg
  obtain rfl:=Option.some.inj hg
  clear HG hg
  go_wp2
  go_ret
  exact⟨rfl,⟨nd,rfl⟩⟩

/-! ### zxy: function 147 -/
def zxy.f (k:Nat) (a0_0:Int) (a0_1:Int) (a0_2:ByteArray):Option (Bool):=if a0_0=1 then(if a0_1=0 then((zqu.f k a0_2).bind fun t106=>(some t106)) else (some false)) else (if a0_0=2 then(if a0_1 ≥ 0 then(some (a0_2.toList == ([]:List UInt8))) else (some false)) else (if a0_0=3 then(if a0_1=0 then(if(a0_2.size:Int)≤40 then((utf8_ValidString.f a0_2).bind fun t107=>(some t107)) else (some false)) else (some false)) else (if a0_0=4 then(if a0_1=0 then(if a0_2.toList=([]:List UInt8) then(some false) else ((zqs.f a0_2).bind fun t108=>(some (t108.toList == a0_2.toList)))) else (some false)) else (some false))))
theorem zxy.mono:∀ a0 a1 a2 k,LeO (zxy.f k a0 a1 a2) (zxy.f (k+1) a0 a1 a2):=by
 intro a0 a1 a2 k
 unfold zxy.f
 repeat' first
   | (with_reducible first|exact zqu.mono _ _|exact LeO.refl _|exact LeO.none _|refine LeO.ite ?_ ?_|refine LeO.bind ?_ (fun _=>?_))
   | exact zqu.mono _ _
   | exact LeO.none _
   | refine LeO.ite ?_ ?_
   | refine LeO.bind ?_ (fun _=>?_)
set_option maxHeartbeats 8000000 in
set_option maxRecDepth 100000 in
theorem zxy.calls (k:Nat) (a0_0:Int) (a0_1:Int) (a0_2:ByteArray) (r:Bool) (w:World) (hL:LD w) (h:zxy.f k a0_0 a0_1 a0_2=some r) :
  Calls Tryd.prog 147 #[.agg #[.int .i64 a0_0,.int .i64 a0_1,.string a0_2]] w fun e w'=>e = .returned (.bool r)∧Below w.heap.size w w':=by
 have hu158:=Tryd.underlying158
 have HLD:=zq.mk hL
 clear hL
 have HB:=zq.mk (Below.refl w.heap.size w)
 have H:(if a0_0=1 then(if a0_1=0 then((zqu.f k a0_2).bind fun t106=>(some t106)) else (some false)) else (if a0_0=2 then(if a0_1 ≥ 0 then(some (a0_2.toList == ([]:List UInt8))) else (some false)) else (if a0_0=3 then(if a0_1=0 then(if(a0_2.size:Int)≤40 then((utf8_ValidString.f a0_2).bind fun t107=>(some t107)) else (some false)) else (some false)) else (if a0_0=4 then(if a0_1=0 then(if a0_2.toList=([]:List UInt8) then(some false) else ((zqs.f a0_2).bind fun t108=>(some (t108.toList == a0_2.toList)))) else (some false)) else (some false)))))=some r:=h
 clear h
 by_cases c2:a0_0=1
 ·rw [if_pos c2] at H
  have c2b0:(a0_0 == 1)=true:=beq_iff_eq.mpr c2
  have c2b1:(a0_0 != 1)=false:=bne_eq_false_iff_eq.mpr c2
  clear c2
  by_cases c3:a0_1=0
  ·rw [if_pos c3] at H
   have c3b0:(a0_1 == 0)=true:=beq_iff_eq.mpr c3
   have c3b1:(a0_1 != 0)=false:=bne_eq_false_iff_eq.mpr c3
   clear c3
   replace H:=Option.bind_eq_some_iff.mp H
   obtain ⟨t106,A40,H⟩:=H
   replace H:(some t106)=some r:=H
   have A4:=zq.mk A40
   clear A40
   obtain rfl:=Option.some.inj H
   go_enter Tryd.func147,Tryd.ntmps147
   go_wp2_with (first|((with_reducible refine qr (N:=1) rfl ?_);(try(refine ql (by rfl) ?_;dsimp only));refine qm ?hg (N:=1) ?hd (cs:=#[.int .i64 a0_0,.int .i64 a0_1,.string a0_2]) (t:=158) ?hr ?_;(case hd=>rfl);(case hg=>rfl);(case hr=>first|(go_simp;done)|(go_simp;rfl));intro gb105 hg w5 hbox hb;have BK105:=zq.mk (hbox);have GW105:=zq.mk ((by rw [hg];exact(zw bw):w.heap.size≤gb105));have GE105:=zq.mk ((by rw [hg];exact(zw bw):w.heap.size≤gb105));replace HB:=zq.mk (zn bw hb);clear hb hbox hg;obtain ⟨hcz6_0,hcz6_1,hcz6_2,hfz6_0,hfz6_1,hfz6_2⟩:=qd BK105.out)|(go_at_call 162;(with_reducible refine(zqu.calls k a0_2 t106 _ A4.out).mono ?_);rintro e w' ⟨rfl,⟨nd,rfl⟩⟩;(try first|exact⟨rfl,_,World.drewN_drewN _ _ _⟩|exact⟨rfl,_,Eq.trans (World.drewN_drewN _ _ _) (congrArg (World.drewN _) (Nat.add_assoc _ _ _))⟩)))
   repeat(go_quiet (first|((with_reducible refine qr (N:=1) rfl ?_);(try(refine ql (by rfl) ?_;dsimp only));refine qm ?hg (N:=1) ?hd (cs:=#[.int .i64 a0_0,.int .i64 a0_1,.string a0_2]) (t:=158) ?hr ?_;(case hd=>rfl);(case hg=>rfl);(case hr=>first|(go_simp;done)|(go_simp;rfl));intro gb105 hg w5 hbox hb;have BK105:=zq.mk (hbox);have GW105:=zq.mk ((by rw [hg];exact(zw bw):w.heap.size≤gb105));have GE105:=zq.mk ((by rw [hg];exact(zw bw):w.heap.size≤gb105));replace HB:=zq.mk (zn bw hb);clear hb hbox hg;obtain ⟨hcz6_0,hcz6_1,hcz6_2,hfz6_0,hfz6_1,hfz6_2⟩:=qd BK105.out)|(go_at_call 162;(with_reducible refine(zqu.calls k a0_2 t106 _ A4.out).mono ?_);rintro e w' ⟨rfl,⟨nd,rfl⟩⟩;(try first|exact⟨rfl,_,World.drewN_drewN _ _ _⟩|exact⟨rfl,_,Eq.trans (World.drewN_drewN _ _ _) (congrArg (World.drewN _) (Nat.add_assoc _ _ _))⟩)));try go_wp2_with (first|((with_reducible refine qr (N:=1) rfl ?_);(try(refine ql (by rfl) ?_;dsimp only));refine qm ?hg (N:=1) ?hd (cs:=#[.int .i64 a0_0,.int .i64 a0_1,.string a0_2]) (t:=158) ?hr ?_;(case hd=>rfl);(case hg=>rfl);(case hr=>first|(go_simp;done)|(go_simp;rfl));intro gb105 hg w5 hbox hb;have BK105:=zq.mk (hbox);have GW105:=zq.mk ((by rw [hg];exact(zw bw):w.heap.size≤gb105));have GE105:=zq.mk ((by rw [hg];exact(zw bw):w.heap.size≤gb105));replace HB:=zq.mk (zn bw hb);clear hb hbox hg;obtain ⟨hcz6_0,hcz6_1,hcz6_2,hfz6_0,hfz6_1,hfz6_2⟩:=qd BK105.out)|(go_at_call 162;(with_reducible refine(zqu.calls k a0_2 t106 _ A4.out).mono ?_);rintro e w' ⟨rfl,⟨nd,rfl⟩⟩;(try first|exact⟨rfl,_,World.drewN_drewN _ _ _⟩|exact⟨rfl,_,Eq.trans (World.drewN_drewN _ _ _) (congrArg (World.drewN _) (Nat.add_assoc _ _ _))⟩))))
   go_ret
   exact⟨by first|rfl|(simp [zg,zy] <;> rfl)|(simp [*,zg,zy] <;> rfl),bw⟩
  rw [if_neg c3] at H
  have c3b0:(a0_1 == 0)=false:=beq_eq_false_iff_ne.mpr c3
  have c3b1:(a0_1 != 0)=true:=bne_iff_ne.mpr c3
  obtain rfl:=Option.some.inj H
  go_enter Tryd.func147,Tryd.ntmps147
  go_wp2_with (first|((with_reducible refine qr (N:=1) rfl ?_);(try(refine ql (by rfl) ?_;dsimp only));refine qm ?hg (N:=1) ?hd (cs:=#[.int .i64 a0_0,.int .i64 a0_1,.string a0_2]) (t:=158) ?hr ?_;(case hd=>rfl);(case hg=>rfl);(case hr=>first|(go_simp;done)|(go_simp;rfl));intro gb105 hg w7 hbox hb;have BK105:=zq.mk (hbox);have GW105:=zq.mk ((by rw [hg];exact(zw bw):w.heap.size≤gb105));have GE105:=zq.mk ((by rw [hg];exact(zw bw):w.heap.size≤gb105));replace HB:=zq.mk (zn bw hb);clear hb hbox hg;obtain ⟨hcz8_0,hcz8_1,hcz8_2,hfz8_0,hfz8_1,hfz8_2⟩:=qd BK105.out))
  repeat(go_quiet (first|((with_reducible refine qr (N:=1) rfl ?_);(try(refine ql (by rfl) ?_;dsimp only));refine qm ?hg (N:=1) ?hd (cs:=#[.int .i64 a0_0,.int .i64 a0_1,.string a0_2]) (t:=158) ?hr ?_;(case hd=>rfl);(case hg=>rfl);(case hr=>first|(go_simp;done)|(go_simp;rfl));intro gb105 hg w7 hbox hb;have BK105:=zq.mk (hbox);have GW105:=zq.mk ((by rw [hg];exact(zw bw):w.heap.size≤gb105));have GE105:=zq.mk ((by rw [hg];exact(zw bw):w.heap.size≤gb105));replace HB:=zq.mk (zn bw hb);clear hb hbox hg;obtain ⟨hcz8_0,hcz8_1,hcz8_2,hfz8_0,hfz8_1,hfz8_2⟩:=qd BK105.out));try go_wp2_with (first|((with_reducible refine qr (N:=1) rfl ?_);(try(refine ql (by rfl) ?_;dsimp only));refine qm ?hg (N:=1) ?hd (cs:=#[.int .i64 a0_0,.int .i64 a0_1,.string a0_2]) (t:=158) ?hr ?_;(case hd=>rfl);(case hg=>rfl);(case hr=>first|(go_simp;done)|(go_simp;rfl));intro gb105 hg w7 hbox hb;have BK105:=zq.mk (hbox);have GW105:=zq.mk ((by rw [hg];exact(zw bw):w.heap.size≤gb105));have GE105:=zq.mk ((by rw [hg];exact(zw bw):w.heap.size≤gb105));replace HB:=zq.mk (zn bw hb);clear hb hbox hg;obtain ⟨hcz8_0,hcz8_1,hcz8_2,hfz8_0,hfz8_1,hfz8_2⟩:=qd BK105.out)))
  go_ret
  exact⟨by first|rfl|(simp [zg,zy] <;> rfl)|(simp [*,zg,zy] <;> rfl),bw⟩
 rw [if_neg c2] at H
 have c2b0:(a0_0 == 1)=false:=beq_eq_false_iff_ne.mpr c2
 have c2b1:(a0_0 != 1)=true:=bne_iff_ne.mpr c2
 by_cases c9:a0_0=2
 ·rw [if_pos c9] at H
  have c9b0:(a0_0 == 2)=true:=beq_iff_eq.mpr c9
  have c9b1:(a0_0 != 2)=false:=bne_eq_false_iff_eq.mpr c9
  clear c9
  by_cases c10:a0_1 ≥ 0
  ·rw [if_pos c10] at H
   have c10b0:=decide_eq_true c10
   clear c10
   obtain rfl:=Option.some.inj H
   go_enter Tryd.func147,Tryd.ntmps147
   go_wp2_with (first|((with_reducible refine qr (N:=1) rfl ?_);(try(refine ql (by rfl) ?_;dsimp only));refine qm ?hg (N:=1) ?hd (cs:=#[.int .i64 a0_0,.int .i64 a0_1,.string a0_2]) (t:=158) ?hr ?_;(case hd=>rfl);(case hg=>rfl);(case hr=>first|(go_simp;done)|(go_simp;rfl));intro gb105 hg w11 hbox hb;have BK105:=zq.mk (hbox);have GW105:=zq.mk ((by rw [hg];exact(zw bw):w.heap.size≤gb105));have GE105:=zq.mk ((by rw [hg];exact(zw bw):w.heap.size≤gb105));replace HB:=zq.mk (zn bw hb);clear hb hbox hg;obtain ⟨hcz12_0,hcz12_1,hcz12_2,hfz12_0,hfz12_1,hfz12_2⟩:=qd BK105.out))
   repeat(go_quiet (first|((with_reducible refine qr (N:=1) rfl ?_);(try(refine ql (by rfl) ?_;dsimp only));refine qm ?hg (N:=1) ?hd (cs:=#[.int .i64 a0_0,.int .i64 a0_1,.string a0_2]) (t:=158) ?hr ?_;(case hd=>rfl);(case hg=>rfl);(case hr=>first|(go_simp;done)|(go_simp;rfl));intro gb105 hg w11 hbox hb;have BK105:=zq.mk (hbox);have GW105:=zq.mk ((by rw [hg];exact(zw bw):w.heap.size≤gb105));have GE105:=zq.mk ((by rw [hg];exact(zw bw):w.heap.size≤gb105));replace HB:=zq.mk (zn bw hb);clear hb hbox hg;obtain ⟨hcz12_0,hcz12_1,hcz12_2,hfz12_0,hfz12_1,hfz12_2⟩:=qd BK105.out));try go_wp2_with (first|((with_reducible refine qr (N:=1) rfl ?_);(try(refine ql (by rfl) ?_;dsimp only));refine qm ?hg (N:=1) ?hd (cs:=#[.int .i64 a0_0,.int .i64 a0_1,.string a0_2]) (t:=158) ?hr ?_;(case hd=>rfl);(case hg=>rfl);(case hr=>first|(go_simp;done)|(go_simp;rfl));intro gb105 hg w11 hbox hb;have BK105:=zq.mk (hbox);have GW105:=zq.mk ((by rw [hg];exact(zw bw):w.heap.size≤gb105));have GE105:=zq.mk ((by rw [hg];exact(zw bw):w.heap.size≤gb105));replace HB:=zq.mk (zn bw hb);clear hb hbox hg;obtain ⟨hcz12_0,hcz12_1,hcz12_2,hfz12_0,hfz12_1,hfz12_2⟩:=qd BK105.out)))
   go_ret
   exact⟨by first|rfl|(simp [zg,zy] <;> rfl)|(simp [*,zg,zy] <;> rfl),bw⟩
  rw [if_neg c10] at H
  have c10b0:=decide_eq_false c10
  clear c10
  obtain rfl:=Option.some.inj H
  go_enter Tryd.func147,Tryd.ntmps147
  go_wp2_with (first|((with_reducible refine qr (N:=1) rfl ?_);(try(refine ql (by rfl) ?_;dsimp only));refine qm ?hg (N:=1) ?hd (cs:=#[.int .i64 a0_0,.int .i64 a0_1,.string a0_2]) (t:=158) ?hr ?_;(case hd=>rfl);(case hg=>rfl);(case hr=>first|(go_simp;done)|(go_simp;rfl));intro gb105 hg w13 hbox hb;have BK105:=zq.mk (hbox);have GW105:=zq.mk ((by rw [hg];exact(zw bw):w.heap.size≤gb105));have GE105:=zq.mk ((by rw [hg];exact(zw bw):w.heap.size≤gb105));replace HB:=zq.mk (zn bw hb);clear hb hbox hg;obtain ⟨hcz14_0,hcz14_1,hcz14_2,hfz14_0,hfz14_1,hfz14_2⟩:=qd BK105.out))
  repeat(go_quiet (first|((with_reducible refine qr (N:=1) rfl ?_);(try(refine ql (by rfl) ?_;dsimp only));refine qm ?hg (N:=1) ?hd (cs:=#[.int .i64 a0_0,.int .i64 a0_1,.string a0_2]) (t:=158) ?hr ?_;(case hd=>rfl);(case hg=>rfl);(case hr=>first|(go_simp;done)|(go_simp;rfl));intro gb105 hg w13 hbox hb;have BK105:=zq.mk (hbox);have GW105:=zq.mk ((by rw [hg];exact(zw bw):w.heap.size≤gb105));have GE105:=zq.mk ((by rw [hg];exact(zw bw):w.heap.size≤gb105));replace HB:=zq.mk (zn bw hb);clear hb hbox hg;obtain ⟨hcz14_0,hcz14_1,hcz14_2,hfz14_0,hfz14_1,hfz14_2⟩:=qd BK105.out));try go_wp2_with (first|((with_reducible refine qr (N:=1) rfl ?_);(try(refine ql (by rfl) ?_;dsimp only));refine qm ?hg (N:=1) ?hd (cs:=#[.int .i64 a0_0,.int .i64 a0_1,.string a0_2]) (t:=158) ?hr ?_;(case hd=>rfl);(case hg=>rfl);(case hr=>first|(go_simp;done)|(go_simp;rfl));intro gb105 hg w13 hbox hb;have BK105:=zq.mk (hbox);have GW105:=zq.mk ((by rw [hg];exact(zw bw):w.heap.size≤gb105));have GE105:=zq.mk ((by rw [hg];exact(zw bw):w.heap.size≤gb105));replace HB:=zq.mk (zn bw hb);clear hb hbox hg;obtain ⟨hcz14_0,hcz14_1,hcz14_2,hfz14_0,hfz14_1,hfz14_2⟩:=qd BK105.out)))
  go_ret
  exact⟨by first|rfl|(simp [zg,zy] <;> rfl)|(simp [*,zg,zy] <;> rfl),bw⟩
 rw [if_neg c9] at H
 have c9b0:(a0_0 == 2)=false:=beq_eq_false_iff_ne.mpr c9
 have c9b1:(a0_0 != 2)=true:=bne_iff_ne.mpr c9
 by_cases c15:a0_0=3
 ·rw [if_pos c15] at H
  have c15b0:(a0_0 == 3)=true:=beq_iff_eq.mpr c15
  have c15b1:(a0_0 != 3)=false:=bne_eq_false_iff_eq.mpr c15
  clear c15
  by_cases c16:a0_1=0
  ·rw [if_pos c16] at H
   have c16b0:(a0_1 == 0)=true:=beq_iff_eq.mpr c16
   have c16b1:(a0_1 != 0)=false:=bne_eq_false_iff_eq.mpr c16
   clear c16
   by_cases c17:(a0_2.size:Int)≤40
   ·rw [if_pos c17] at H
    have c17b0:=decide_eq_true c17
    have c17b1:decide (a0_2.size≤40)=true:=decide_eq_true (by omega)
    clear c17
    replace H:=Option.bind_eq_some_iff.mp H
    obtain ⟨t107,A180,H⟩:=H
    replace H:(some t107)=some r:=H
    have A18:=zq.mk A180
    clear A180
    obtain rfl:=Option.some.inj H
    go_enter Tryd.func147,Tryd.ntmps147
    go_wp2_with (first|((with_reducible refine qr (N:=1) rfl ?_);(try(refine ql (by rfl) ?_;dsimp only));refine qm ?hg (N:=1) ?hd (cs:=#[.int .i64 a0_0,.int .i64 a0_1,.string a0_2]) (t:=158) ?hr ?_;(case hd=>rfl);(case hg=>rfl);(case hr=>first|(go_simp;done)|(go_simp;rfl));intro gb105 hg w19 hbox hb;have BK105:=zq.mk (hbox);have GW105:=zq.mk ((by rw [hg];exact(zw bw):w.heap.size≤gb105));have GE105:=zq.mk ((by rw [hg];exact(zw bw):w.heap.size≤gb105));replace HB:=zq.mk (zn bw hb);clear hb hbox hg;obtain ⟨hcz20_0,hcz20_1,hcz20_2,hfz20_0,hfz20_1,hfz20_2⟩:=qd BK105.out)|(go_at_call 96;(with_reducible refine(utf8_ValidString.calls a0_2 t107 _ ?side1 A18.out).mono ?_);(case side1=>exact LD.below HLD.out (by first|(with_reducible exact Below.refl _ _)|((repeat(first|(with_reducible exact Below.refl _ _)|(with_reducible apply zl)|(with_reducible apply zr)|(with_reducible apply qx)));done)|exact bw));rintro e w21 ⟨rfl,hb⟩;replace BK105:=zq.mk (ze (g:=gb105) (o:=.cells #[.int .i64 a0_0,.int .i64 a0_1,.string a0_2] 158 (0,0)) (up BK105.out) hb);replace HB:=zq.mk (zn bw hb);(try clear hb);(try clear hb2);(try clear hk);(try clear hi)))
    repeat(go_quiet (first|((with_reducible refine qr (N:=1) rfl ?_);(try(refine ql (by rfl) ?_;dsimp only));refine qm ?hg (N:=1) ?hd (cs:=#[.int .i64 a0_0,.int .i64 a0_1,.string a0_2]) (t:=158) ?hr ?_;(case hd=>rfl);(case hg=>rfl);(case hr=>first|(go_simp;done)|(go_simp;rfl));intro gb105 hg w19 hbox hb;have BK105:=zq.mk (hbox);have GW105:=zq.mk ((by rw [hg];exact(zw bw):w.heap.size≤gb105));have GE105:=zq.mk ((by rw [hg];exact(zw bw):w.heap.size≤gb105));replace HB:=zq.mk (zn bw hb);clear hb hbox hg;obtain ⟨hcz20_0,hcz20_1,hcz20_2,hfz20_0,hfz20_1,hfz20_2⟩:=qd BK105.out)|(go_at_call 96;(with_reducible refine(utf8_ValidString.calls a0_2 t107 _ ?side1 A18.out).mono ?_);(case side1=>exact LD.below HLD.out (by first|(with_reducible exact Below.refl _ _)|((repeat(first|(with_reducible exact Below.refl _ _)|(with_reducible apply zl)|(with_reducible apply zr)|(with_reducible apply qx)));done)|exact bw));rintro e w21 ⟨rfl,hb⟩;replace BK105:=zq.mk (ze (g:=gb105) (o:=.cells #[.int .i64 a0_0,.int .i64 a0_1,.string a0_2] 158 (0,0)) (up BK105.out) hb);replace HB:=zq.mk (zn bw hb);(try clear hb);(try clear hb2);(try clear hk);(try clear hi)));try go_wp2_with (first|((with_reducible refine qr (N:=1) rfl ?_);(try(refine ql (by rfl) ?_;dsimp only));refine qm ?hg (N:=1) ?hd (cs:=#[.int .i64 a0_0,.int .i64 a0_1,.string a0_2]) (t:=158) ?hr ?_;(case hd=>rfl);(case hg=>rfl);(case hr=>first|(go_simp;done)|(go_simp;rfl));intro gb105 hg w19 hbox hb;have BK105:=zq.mk (hbox);have GW105:=zq.mk ((by rw [hg];exact(zw bw):w.heap.size≤gb105));have GE105:=zq.mk ((by rw [hg];exact(zw bw):w.heap.size≤gb105));replace HB:=zq.mk (zn bw hb);clear hb hbox hg;obtain ⟨hcz20_0,hcz20_1,hcz20_2,hfz20_0,hfz20_1,hfz20_2⟩:=qd BK105.out)|(go_at_call 96;(with_reducible refine(utf8_ValidString.calls a0_2 t107 _ ?side1 A18.out).mono ?_);(case side1=>exact LD.below HLD.out (by first|(with_reducible exact Below.refl _ _)|((repeat(first|(with_reducible exact Below.refl _ _)|(with_reducible apply zl)|(with_reducible apply zr)|(with_reducible apply qx)));done)|exact bw));rintro e w21 ⟨rfl,hb⟩;replace BK105:=zq.mk (ze (g:=gb105) (o:=.cells #[.int .i64 a0_0,.int .i64 a0_1,.string a0_2] 158 (0,0)) (up BK105.out) hb);replace HB:=zq.mk (zn bw hb);(try clear hb);(try clear hb2);(try clear hk);(try clear hi))))
    go_ret
    exact⟨by first|rfl|(simp [zg,zy] <;> rfl)|(simp [*,zg,zy] <;> rfl),bw⟩
   rw [if_neg c17] at H
   have c17b0:=decide_eq_false c17
   have c17b1:decide (a0_2.size≤40)=false:=decide_eq_false (by omega)
   clear c17
   obtain rfl:=Option.some.inj H
   go_enter Tryd.func147,Tryd.ntmps147
   go_wp2_with (first|((with_reducible refine qr (N:=1) rfl ?_);(try(refine ql (by rfl) ?_;dsimp only));refine qm ?hg (N:=1) ?hd (cs:=#[.int .i64 a0_0,.int .i64 a0_1,.string a0_2]) (t:=158) ?hr ?_;(case hd=>rfl);(case hg=>rfl);(case hr=>first|(go_simp;done)|(go_simp;rfl));intro gb105 hg w22 hbox hb;have BK105:=zq.mk (hbox);have GW105:=zq.mk ((by rw [hg];exact(zw bw):w.heap.size≤gb105));have GE105:=zq.mk ((by rw [hg];exact(zw bw):w.heap.size≤gb105));replace HB:=zq.mk (zn bw hb);clear hb hbox hg;obtain ⟨hcz23_0,hcz23_1,hcz23_2,hfz23_0,hfz23_1,hfz23_2⟩:=qd BK105.out))
   repeat(go_quiet (first|((with_reducible refine qr (N:=1) rfl ?_);(try(refine ql (by rfl) ?_;dsimp only));refine qm ?hg (N:=1) ?hd (cs:=#[.int .i64 a0_0,.int .i64 a0_1,.string a0_2]) (t:=158) ?hr ?_;(case hd=>rfl);(case hg=>rfl);(case hr=>first|(go_simp;done)|(go_simp;rfl));intro gb105 hg w22 hbox hb;have BK105:=zq.mk (hbox);have GW105:=zq.mk ((by rw [hg];exact(zw bw):w.heap.size≤gb105));have GE105:=zq.mk ((by rw [hg];exact(zw bw):w.heap.size≤gb105));replace HB:=zq.mk (zn bw hb);clear hb hbox hg;obtain ⟨hcz23_0,hcz23_1,hcz23_2,hfz23_0,hfz23_1,hfz23_2⟩:=qd BK105.out));try go_wp2_with (first|((with_reducible refine qr (N:=1) rfl ?_);(try(refine ql (by rfl) ?_;dsimp only));refine qm ?hg (N:=1) ?hd (cs:=#[.int .i64 a0_0,.int .i64 a0_1,.string a0_2]) (t:=158) ?hr ?_;(case hd=>rfl);(case hg=>rfl);(case hr=>first|(go_simp;done)|(go_simp;rfl));intro gb105 hg w22 hbox hb;have BK105:=zq.mk (hbox);have GW105:=zq.mk ((by rw [hg];exact(zw bw):w.heap.size≤gb105));have GE105:=zq.mk ((by rw [hg];exact(zw bw):w.heap.size≤gb105));replace HB:=zq.mk (zn bw hb);clear hb hbox hg;obtain ⟨hcz23_0,hcz23_1,hcz23_2,hfz23_0,hfz23_1,hfz23_2⟩:=qd BK105.out)))
   go_ret
   exact⟨by first|rfl|(simp [zg,zy] <;> rfl)|(simp [*,zg,zy] <;> rfl),bw⟩
  rw [if_neg c16] at H
  have c16b0:(a0_1 == 0)=false:=beq_eq_false_iff_ne.mpr c16
  have c16b1:(a0_1 != 0)=true:=bne_iff_ne.mpr c16
  obtain rfl:=Option.some.inj H
  go_enter Tryd.func147,Tryd.ntmps147
  go_wp2_with (first|((with_reducible refine qr (N:=1) rfl ?_);(try(refine ql (by rfl) ?_;dsimp only));refine qm ?hg (N:=1) ?hd (cs:=#[.int .i64 a0_0,.int .i64 a0_1,.string a0_2]) (t:=158) ?hr ?_;(case hd=>rfl);(case hg=>rfl);(case hr=>first|(go_simp;done)|(go_simp;rfl));intro gb105 hg w24 hbox hb;have BK105:=zq.mk (hbox);have GW105:=zq.mk ((by rw [hg];exact(zw bw):w.heap.size≤gb105));have GE105:=zq.mk ((by rw [hg];exact(zw bw):w.heap.size≤gb105));replace HB:=zq.mk (zn bw hb);clear hb hbox hg;obtain ⟨hcz25_0,hcz25_1,hcz25_2,hfz25_0,hfz25_1,hfz25_2⟩:=qd BK105.out))
  repeat(go_quiet (first|((with_reducible refine qr (N:=1) rfl ?_);(try(refine ql (by rfl) ?_;dsimp only));refine qm ?hg (N:=1) ?hd (cs:=#[.int .i64 a0_0,.int .i64 a0_1,.string a0_2]) (t:=158) ?hr ?_;(case hd=>rfl);(case hg=>rfl);(case hr=>first|(go_simp;done)|(go_simp;rfl));intro gb105 hg w24 hbox hb;have BK105:=zq.mk (hbox);have GW105:=zq.mk ((by rw [hg];exact(zw bw):w.heap.size≤gb105));have GE105:=zq.mk ((by rw [hg];exact(zw bw):w.heap.size≤gb105));replace HB:=zq.mk (zn bw hb);clear hb hbox hg;obtain ⟨hcz25_0,hcz25_1,hcz25_2,hfz25_0,hfz25_1,hfz25_2⟩:=qd BK105.out));try go_wp2_with (first|((with_reducible refine qr (N:=1) rfl ?_);(try(refine ql (by rfl) ?_;dsimp only));refine qm ?hg (N:=1) ?hd (cs:=#[.int .i64 a0_0,.int .i64 a0_1,.string a0_2]) (t:=158) ?hr ?_;(case hd=>rfl);(case hg=>rfl);(case hr=>first|(go_simp;done)|(go_simp;rfl));intro gb105 hg w24 hbox hb;have BK105:=zq.mk (hbox);have GW105:=zq.mk ((by rw [hg];exact(zw bw):w.heap.size≤gb105));have GE105:=zq.mk ((by rw [hg];exact(zw bw):w.heap.size≤gb105));replace HB:=zq.mk (zn bw hb);clear hb hbox hg;obtain ⟨hcz25_0,hcz25_1,hcz25_2,hfz25_0,hfz25_1,hfz25_2⟩:=qd BK105.out)))
  go_ret
  exact⟨by first|rfl|(simp [zg,zy] <;> rfl)|(simp [*,zg,zy] <;> rfl),bw⟩
 rw [if_neg c15] at H
 have c15b0:(a0_0 == 3)=false:=beq_eq_false_iff_ne.mpr c15
 have c15b1:(a0_0 != 3)=true:=bne_iff_ne.mpr c15
 by_cases c26:a0_0=4
 ·rw [if_pos c26] at H
  have c26b0:(a0_0 == 4)=true:=beq_iff_eq.mpr c26
  have c26b1:(a0_0 != 4)=false:=bne_eq_false_iff_eq.mpr c26
  clear c26
  by_cases c27:a0_1=0
  ·rw [if_pos c27] at H
   have c27b0:(a0_1 == 0)=true:=beq_iff_eq.mpr c27
   have c27b1:(a0_1 != 0)=false:=bne_eq_false_iff_eq.mpr c27
   clear c27
   by_cases c28:a0_2.toList=([]:List UInt8)
   ·rw [if_pos c28] at H
    have c28b0:(a0_2.toList == ([]:List UInt8))=true:=beq_iff_eq.mpr c28
    have c28b1:(a0_2.toList != ([]:List UInt8))=false:=bne_eq_false_iff_eq.mpr c28
    clear c28
    obtain rfl:=Option.some.inj H
    go_enter Tryd.func147,Tryd.ntmps147
    go_wp2_with (first|((with_reducible refine qr (N:=1) rfl ?_);(try(refine ql (by rfl) ?_;dsimp only));refine qm ?hg (N:=1) ?hd (cs:=#[.int .i64 a0_0,.int .i64 a0_1,.string a0_2]) (t:=158) ?hr ?_;(case hd=>rfl);(case hg=>rfl);(case hr=>first|(go_simp;done)|(go_simp;rfl));intro gb105 hg w29 hbox hb;have BK105:=zq.mk (hbox);have GW105:=zq.mk ((by rw [hg];exact(zw bw):w.heap.size≤gb105));have GE105:=zq.mk ((by rw [hg];exact(zw bw):w.heap.size≤gb105));replace HB:=zq.mk (zn bw hb);clear hb hbox hg;obtain ⟨hcz30_0,hcz30_1,hcz30_2,hfz30_0,hfz30_1,hfz30_2⟩:=qd BK105.out))
    repeat(go_quiet (first|((with_reducible refine qr (N:=1) rfl ?_);(try(refine ql (by rfl) ?_;dsimp only));refine qm ?hg (N:=1) ?hd (cs:=#[.int .i64 a0_0,.int .i64 a0_1,.string a0_2]) (t:=158) ?hr ?_;(case hd=>rfl);(case hg=>rfl);(case hr=>first|(go_simp;done)|(go_simp;rfl));intro gb105 hg w29 hbox hb;have BK105:=zq.mk (hbox);have GW105:=zq.mk ((by rw [hg];exact(zw bw):w.heap.size≤gb105));have GE105:=zq.mk ((by rw [hg];exact(zw bw):w.heap.size≤gb105));replace HB:=zq.mk (zn bw hb);clear hb hbox hg;obtain ⟨hcz30_0,hcz30_1,hcz30_2,hfz30_0,hfz30_1,hfz30_2⟩:=qd BK105.out));try go_wp2_with (first|((with_reducible refine qr (N:=1) rfl ?_);(try(refine ql (by rfl) ?_;dsimp only));refine qm ?hg (N:=1) ?hd (cs:=#[.int .i64 a0_0,.int .i64 a0_1,.string a0_2]) (t:=158) ?hr ?_;(case hd=>rfl);(case hg=>rfl);(case hr=>first|(go_simp;done)|(go_simp;rfl));intro gb105 hg w29 hbox hb;have BK105:=zq.mk (hbox);have GW105:=zq.mk ((by rw [hg];exact(zw bw):w.heap.size≤gb105));have GE105:=zq.mk ((by rw [hg];exact(zw bw):w.heap.size≤gb105));replace HB:=zq.mk (zn bw hb);clear hb hbox hg;obtain ⟨hcz30_0,hcz30_1,hcz30_2,hfz30_0,hfz30_1,hfz30_2⟩:=qd BK105.out)))
    go_ret
    exact⟨by first|rfl|(simp [zg,zy] <;> rfl)|(simp [*,zg,zy] <;> rfl),bw⟩
   rw [if_neg c28] at H
   have c28b0:(a0_2.toList == ([]:List UInt8))=false:=beq_eq_false_iff_ne.mpr c28
   have c28b1:(a0_2.toList != ([]:List UInt8))=true:=bne_iff_ne.mpr c28
   replace H:=Option.bind_eq_some_iff.mp H
   obtain ⟨t108,A310,H⟩:=H
   replace H:(some (t108.toList == a0_2.toList))=some r:=H
   have A31:=zq.mk A310
   clear A310
   obtain rfl:=Option.some.inj H
   go_enter Tryd.func147,Tryd.ntmps147
   go_wp2_with (first|((with_reducible refine qr (N:=1) rfl ?_);(try(refine ql (by rfl) ?_;dsimp only));refine qm ?hg (N:=1) ?hd (cs:=#[.int .i64 a0_0,.int .i64 a0_1,.string a0_2]) (t:=158) ?hr ?_;(case hd=>rfl);(case hg=>rfl);(case hr=>first|(go_simp;done)|(go_simp;rfl));intro gb105 hg w32 hbox hb;have BK105:=zq.mk (hbox);have GW105:=zq.mk ((by rw [hg];exact(zw bw):w.heap.size≤gb105));have GE105:=zq.mk ((by rw [hg];exact(zw bw):w.heap.size≤gb105));replace HB:=zq.mk (zn bw hb);clear hb hbox hg;obtain ⟨hcz33_0,hcz33_1,hcz33_2,hfz33_0,hfz33_1,hfz33_2⟩:=qd BK105.out)|(go_at_call 163;(with_reducible refine(zqs.calls a0_2 t108 _ ?side1 A31.out).mono ?_);(case side1=>exact LD.below HLD.out (by first|(with_reducible exact Below.refl _ _)|((repeat(first|(with_reducible exact Below.refl _ _)|(with_reducible apply zl)|(with_reducible apply zr)|(with_reducible apply qx)));done)|exact bw));rintro e w' ⟨rfl,⟨nd,rfl⟩⟩;(try first|exact⟨rfl,_,World.drewN_drewN _ _ _⟩|exact⟨rfl,_,Eq.trans (World.drewN_drewN _ _ _) (congrArg (World.drewN _) (Nat.add_assoc _ _ _))⟩)))
   repeat(go_quiet (first|((with_reducible refine qr (N:=1) rfl ?_);(try(refine ql (by rfl) ?_;dsimp only));refine qm ?hg (N:=1) ?hd (cs:=#[.int .i64 a0_0,.int .i64 a0_1,.string a0_2]) (t:=158) ?hr ?_;(case hd=>rfl);(case hg=>rfl);(case hr=>first|(go_simp;done)|(go_simp;rfl));intro gb105 hg w32 hbox hb;have BK105:=zq.mk (hbox);have GW105:=zq.mk ((by rw [hg];exact(zw bw):w.heap.size≤gb105));have GE105:=zq.mk ((by rw [hg];exact(zw bw):w.heap.size≤gb105));replace HB:=zq.mk (zn bw hb);clear hb hbox hg;obtain ⟨hcz33_0,hcz33_1,hcz33_2,hfz33_0,hfz33_1,hfz33_2⟩:=qd BK105.out)|(go_at_call 163;(with_reducible refine(zqs.calls a0_2 t108 _ ?side1 A31.out).mono ?_);(case side1=>exact LD.below HLD.out (by first|(with_reducible exact Below.refl _ _)|((repeat(first|(with_reducible exact Below.refl _ _)|(with_reducible apply zl)|(with_reducible apply zr)|(with_reducible apply qx)));done)|exact bw));rintro e w' ⟨rfl,⟨nd,rfl⟩⟩;(try first|exact⟨rfl,_,World.drewN_drewN _ _ _⟩|exact⟨rfl,_,Eq.trans (World.drewN_drewN _ _ _) (congrArg (World.drewN _) (Nat.add_assoc _ _ _))⟩)));try go_wp2_with (first|((with_reducible refine qr (N:=1) rfl ?_);(try(refine ql (by rfl) ?_;dsimp only));refine qm ?hg (N:=1) ?hd (cs:=#[.int .i64 a0_0,.int .i64 a0_1,.string a0_2]) (t:=158) ?hr ?_;(case hd=>rfl);(case hg=>rfl);(case hr=>first|(go_simp;done)|(go_simp;rfl));intro gb105 hg w32 hbox hb;have BK105:=zq.mk (hbox);have GW105:=zq.mk ((by rw [hg];exact(zw bw):w.heap.size≤gb105));have GE105:=zq.mk ((by rw [hg];exact(zw bw):w.heap.size≤gb105));replace HB:=zq.mk (zn bw hb);clear hb hbox hg;obtain ⟨hcz33_0,hcz33_1,hcz33_2,hfz33_0,hfz33_1,hfz33_2⟩:=qd BK105.out)|(go_at_call 163;(with_reducible refine(zqs.calls a0_2 t108 _ ?side1 A31.out).mono ?_);(case side1=>exact LD.below HLD.out (by first|(with_reducible exact Below.refl _ _)|((repeat(first|(with_reducible exact Below.refl _ _)|(with_reducible apply zl)|(with_reducible apply zr)|(with_reducible apply qx)));done)|exact bw));rintro e w' ⟨rfl,⟨nd,rfl⟩⟩;(try first|exact⟨rfl,_,World.drewN_drewN _ _ _⟩|exact⟨rfl,_,Eq.trans (World.drewN_drewN _ _ _) (congrArg (World.drewN _) (Nat.add_assoc _ _ _))⟩))))
   go_ret
   exact⟨by first|rfl|(simp [zg,zy] <;> rfl)|(simp [*,zg,zy] <;> rfl),bw⟩
  rw [if_neg c27] at H
  have c27b0:(a0_1 == 0)=false:=beq_eq_false_iff_ne.mpr c27
  have c27b1:(a0_1 != 0)=true:=bne_iff_ne.mpr c27
  obtain rfl:=Option.some.inj H
  go_enter Tryd.func147,Tryd.ntmps147
  go_wp2_with (first|((with_reducible refine qr (N:=1) rfl ?_);(try(refine ql (by rfl) ?_;dsimp only));refine qm ?hg (N:=1) ?hd (cs:=#[.int .i64 a0_0,.int .i64 a0_1,.string a0_2]) (t:=158) ?hr ?_;(case hd=>rfl);(case hg=>rfl);(case hr=>first|(go_simp;done)|(go_simp;rfl));intro gb105 hg w34 hbox hb;have BK105:=zq.mk (hbox);have GW105:=zq.mk ((by rw [hg];exact(zw bw):w.heap.size≤gb105));have GE105:=zq.mk ((by rw [hg];exact(zw bw):w.heap.size≤gb105));replace HB:=zq.mk (zn bw hb);clear hb hbox hg;obtain ⟨hcz35_0,hcz35_1,hcz35_2,hfz35_0,hfz35_1,hfz35_2⟩:=qd BK105.out))
  repeat(go_quiet (first|((with_reducible refine qr (N:=1) rfl ?_);(try(refine ql (by rfl) ?_;dsimp only));refine qm ?hg (N:=1) ?hd (cs:=#[.int .i64 a0_0,.int .i64 a0_1,.string a0_2]) (t:=158) ?hr ?_;(case hd=>rfl);(case hg=>rfl);(case hr=>first|(go_simp;done)|(go_simp;rfl));intro gb105 hg w34 hbox hb;have BK105:=zq.mk (hbox);have GW105:=zq.mk ((by rw [hg];exact(zw bw):w.heap.size≤gb105));have GE105:=zq.mk ((by rw [hg];exact(zw bw):w.heap.size≤gb105));replace HB:=zq.mk (zn bw hb);clear hb hbox hg;obtain ⟨hcz35_0,hcz35_1,hcz35_2,hfz35_0,hfz35_1,hfz35_2⟩:=qd BK105.out));try go_wp2_with (first|((with_reducible refine qr (N:=1) rfl ?_);(try(refine ql (by rfl) ?_;dsimp only));refine qm ?hg (N:=1) ?hd (cs:=#[.int .i64 a0_0,.int .i64 a0_1,.string a0_2]) (t:=158) ?hr ?_;(case hd=>rfl);(case hg=>rfl);(case hr=>first|(go_simp;done)|(go_simp;rfl));intro gb105 hg w34 hbox hb;have BK105:=zq.mk (hbox);have GW105:=zq.mk ((by rw [hg];exact(zw bw):w.heap.size≤gb105));have GE105:=zq.mk ((by rw [hg];exact(zw bw):w.heap.size≤gb105));replace HB:=zq.mk (zn bw hb);clear hb hbox hg;obtain ⟨hcz35_0,hcz35_1,hcz35_2,hfz35_0,hfz35_1,hfz35_2⟩:=qd BK105.out)))
  go_ret
  exact⟨by first|rfl|(simp [zg,zy] <;> rfl)|(simp [*,zg,zy] <;> rfl),bw⟩
 rw [if_neg c26] at H
 have c26b0:(a0_0 == 4)=false:=beq_eq_false_iff_ne.mpr c26
 have c26b1:(a0_0 != 4)=true:=bne_iff_ne.mpr c26
 obtain rfl:=Option.some.inj H
 go_enter Tryd.func147,Tryd.ntmps147
 go_wp2_with (first|((with_reducible refine qr (N:=1) rfl ?_);(try(refine ql (by rfl) ?_;dsimp only));refine qm ?hg (N:=1) ?hd (cs:=#[.int .i64 a0_0,.int .i64 a0_1,.string a0_2]) (t:=158) ?hr ?_;(case hd=>rfl);(case hg=>rfl);(case hr=>first|(go_simp;done)|(go_simp;rfl));intro gb105 hg w36 hbox hb;have BK105:=zq.mk (hbox);have GW105:=zq.mk ((by rw [hg];exact(zw bw):w.heap.size≤gb105));have GE105:=zq.mk ((by rw [hg];exact(zw bw):w.heap.size≤gb105));replace HB:=zq.mk (zn bw hb);clear hb hbox hg;obtain ⟨hcz37_0,hcz37_1,hcz37_2,hfz37_0,hfz37_1,hfz37_2⟩:=qd BK105.out))
 repeat(go_quiet (first|((with_reducible refine qr (N:=1) rfl ?_);(try(refine ql (by rfl) ?_;dsimp only));refine qm ?hg (N:=1) ?hd (cs:=#[.int .i64 a0_0,.int .i64 a0_1,.string a0_2]) (t:=158) ?hr ?_;(case hd=>rfl);(case hg=>rfl);(case hr=>first|(go_simp;done)|(go_simp;rfl));intro gb105 hg w36 hbox hb;have BK105:=zq.mk (hbox);have GW105:=zq.mk ((by rw [hg];exact(zw bw):w.heap.size≤gb105));have GE105:=zq.mk ((by rw [hg];exact(zw bw):w.heap.size≤gb105));replace HB:=zq.mk (zn bw hb);clear hb hbox hg;obtain ⟨hcz37_0,hcz37_1,hcz37_2,hfz37_0,hfz37_1,hfz37_2⟩:=qd BK105.out));try go_wp2_with (first|((with_reducible refine qr (N:=1) rfl ?_);(try(refine ql (by rfl) ?_;dsimp only));refine qm ?hg (N:=1) ?hd (cs:=#[.int .i64 a0_0,.int .i64 a0_1,.string a0_2]) (t:=158) ?hr ?_;(case hd=>rfl);(case hg=>rfl);(case hr=>first|(go_simp;done)|(go_simp;rfl));intro gb105 hg w36 hbox hb;have BK105:=zq.mk (hbox);have GW105:=zq.mk ((by rw [hg];exact(zw bw):w.heap.size≤gb105));have GE105:=zq.mk ((by rw [hg];exact(zw bw):w.heap.size≤gb105));replace HB:=zq.mk (zn bw hb);clear hb hbox hg;obtain ⟨hcz37_0,hcz37_1,hcz37_2,hfz37_0,hfz37_1,hfz37_2⟩:=qd BK105.out)))
 go_ret
 exact⟨by first|rfl|(simp [zg,zy] <;> rfl)|(simp [*,zg,zy] <;> rfl),bw⟩

/-! ### cmp_isNaN_string: function 176 -/
def cmp_isNaN_string.f (a0:ByteArray):Option (Bool):=some (a0.toList != a0.toList)
set_option maxHeartbeats 8000000 in
set_option maxRecDepth 100000 in
theorem cmp_isNaN_string.calls (a0:ByteArray) (r:Bool) (w:World) (h:cmp_isNaN_string.f a0=some r) :
  Calls Tryd.prog 176 #[.string a0] w fun e w'=>e = .returned (.bool r)∧za w w':=by
 have H:(some (a0.toList != a0.toList))=some r:=h
 clear h
 obtain rfl:=Option.some.inj H
 go_enter Tryd.func176,Tryd.ntmps176
 go_wp2
 go_ret
 exact⟨by first|rfl|(simp;done)|(simp [*];done),by repeat(first|exact za.refl _|apply za.step)⟩

end Go.Proofs.YthhejedfjgikdaaDoor.PRowReads
