-- Written by wip/pp of this repo (over the kit's print, with additions of this session); Lean checks every line.
import Derived.Test.YtmfpaeajibeikaaDoorPEvalHoldsx1
namespace Go.Proofs.YtmfpaeajibeikaaDoor.PEvalHolds
open Go.RowKit Go.Proofs.YtmfpaeajibeikaaDoorW.PrintWords Go.Proofs.YtmfpaeajibeikaaDoorW.PrintLast Go.Proofs.YtmfpaeajibeikaaDoorW.PrintMore
attribute [local go_sem] zje zjc zjo zjn zq1 zq0 zjd zjb   -- for this text's walks alone
set_option linter.unusedVariables false
set_option linter.unusedSimpArgs false

attribute [local go_sem high] eqA30
/-! ### zj2: function 84 -/
def zj2.f (a0:ByteArray):Option (Int):=if 0<(a0.size:Int) then(if 1<(a0.size:Int) then(if 2<(a0.size:Int) then(if 3<(a0.size:Int) then(if 4<(a0.size:Int) then(if 5<(a0.size:Int) then(if 6<(a0.size:Int) then(if 7<(a0.size:Int) then(some (Go.bits .or .u64 (Go.bits .or .u64 (Go.bits .or .u64 (Go.bits .or .u64 (Go.bits .or .u64 (Go.bits .or .u64 (Go.bits .or .u64 (IntKind.u64.wrap (bt a0 0)) (IntKind.u64.wrap ((IntKind.u64.wrap (bt a0 1)) * 256))) (IntKind.u64.wrap ((IntKind.u64.wrap (bt a0 2)) * 65536))) (IntKind.u64.wrap ((IntKind.u64.wrap (bt a0 3)) * 16777216))) (IntKind.u64.wrap ((IntKind.u64.wrap (bt a0 4)) * 4294967296))) (IntKind.u64.wrap ((IntKind.u64.wrap (bt a0 5)) * 1099511627776))) (IntKind.u64.wrap ((IntKind.u64.wrap (bt a0 6)) * 281474976710656))) (IntKind.u64.wrap ((IntKind.u64.wrap (bt a0 7)) * 72057594037927936)))) else (none)) else (none)) else (none)) else (none)) else (none)) else (none)) else (none)) else (none)
set_option maxHeartbeats 8000000 in
set_option maxRecDepth 100000 in
theorem zj2.calls (a0:ByteArray) (r:Int) (w:World) (h:zj2.f a0=some r) :
  Calls Tryd.prog 84 #[.string a0] w fun e w'=>e = .returned (.int .u64 r)∧qx w w':=by
 have H:(if 0<(a0.size:Int) then(if 1<(a0.size:Int) then(if 2<(a0.size:Int) then(if 3<(a0.size:Int) then(if 4<(a0.size:Int) then(if 5<(a0.size:Int) then(if 6<(a0.size:Int) then(if 7<(a0.size:Int) then(some (Go.bits .or .u64 (Go.bits .or .u64 (Go.bits .or .u64 (Go.bits .or .u64 (Go.bits .or .u64 (Go.bits .or .u64 (Go.bits .or .u64 (IntKind.u64.wrap (bt a0 0)) (IntKind.u64.wrap ((IntKind.u64.wrap (bt a0 1)) * 256))) (IntKind.u64.wrap ((IntKind.u64.wrap (bt a0 2)) * 65536))) (IntKind.u64.wrap ((IntKind.u64.wrap (bt a0 3)) * 16777216))) (IntKind.u64.wrap ((IntKind.u64.wrap (bt a0 4)) * 4294967296))) (IntKind.u64.wrap ((IntKind.u64.wrap (bt a0 5)) * 1099511627776))) (IntKind.u64.wrap ((IntKind.u64.wrap (bt a0 6)) * 281474976710656))) (IntKind.u64.wrap ((IntKind.u64.wrap (bt a0 7)) * 72057594037927936)))) else (none)) else (none)) else (none)) else (none)) else (none)) else (none)) else (none)) else (none))=some r:=h
 clear h
 by_cases c2:0<(a0.size:Int)
 ·rw [if_pos c2] at H
  have c2b0:=decide_eq_true c2
  have c2b1:decide (0<a0.size)=true:=decide_eq_true (by omega)
  clear c2
  by_cases c4:1<(a0.size:Int)
  ·rw [if_pos c4] at H
   have c4b0:=decide_eq_true c4
   have c4b1:decide (1<a0.size)=true:=decide_eq_true (by omega)
   clear c4
   by_cases c6:2<(a0.size:Int)
   ·rw [if_pos c6] at H
    have c6b0:=decide_eq_true c6
    have c6b1:decide (2<a0.size)=true:=decide_eq_true (by omega)
    clear c6
    by_cases c8:3<(a0.size:Int)
    ·rw [if_pos c8] at H
     have c8b0:=decide_eq_true c8
     have c8b1:decide (3<a0.size)=true:=decide_eq_true (by omega)
     clear c8
     by_cases c10:4<(a0.size:Int)
     ·rw [if_pos c10] at H
      have c10b0:=decide_eq_true c10
      have c10b1:decide (4<a0.size)=true:=decide_eq_true (by omega)
      clear c10
      by_cases c12:5<(a0.size:Int)
      ·rw [if_pos c12] at H
       have c12b0:=decide_eq_true c12
       have c12b1:decide (5<a0.size)=true:=decide_eq_true (by omega)
       clear c12
       by_cases c14:6<(a0.size:Int)
       ·rw [if_pos c14] at H
        have c14b0:=decide_eq_true c14
        have c14b1:decide (6<a0.size)=true:=decide_eq_true (by omega)
        clear c14
        by_cases c16:7<(a0.size:Int)
        ·rw [if_pos c16] at H
         have c16b0:=decide_eq_true c16
         have c16b1:decide (7<a0.size)=true:=decide_eq_true (by omega)
         clear c16
         obtain rfl:=Option.some.inj H
         have p3:0≤(0:Int):=(by omega)
         have q3:0<a0.size:=(by have:(0:Int)<(a0.size:Int):=dt;omega)
         have hx3:∀ h:0<a0.size,((a0[0]'h).toNat:Int)=bt a0 0:=zj3 a0 0
         clear p3
         have qi3:(0<(a0.size:Int))=True:=eq_true (dt)
         replace q3:=eq_true q3
         have p5:0≤(1:Int):=(by omega)
         have q5:1<a0.size:=(by have:(1:Int)<(a0.size:Int):=dt;omega)
         have hx5:∀ h:1<a0.size,((a0[1]'h).toNat:Int)=bt a0 1:=zj3 a0 1
         clear p5
         have qi5:(1<(a0.size:Int))=True:=eq_true (dt)
         replace q5:=eq_true q5
         have p7:0≤(2:Int):=(by omega)
         have q7:2<a0.size:=(by have:(2:Int)<(a0.size:Int):=dt;omega)
         have hx7:∀ h:2<a0.size,((a0[2]'h).toNat:Int)=bt a0 2:=zj3 a0 2
         clear p7
         have qi7:(2<(a0.size:Int))=True:=eq_true (dt)
         replace q7:=eq_true q7
         have p9:0≤(3:Int):=(by omega)
         have q9:3<a0.size:=(by have:(3:Int)<(a0.size:Int):=dt;omega)
         have hx9:∀ h:3<a0.size,((a0[3]'h).toNat:Int)=bt a0 3:=zj3 a0 3
         clear p9
         have qi9:(3<(a0.size:Int))=True:=eq_true (dt)
         replace q9:=eq_true q9
         have p11:0≤(4:Int):=(by omega)
         have q11:4<a0.size:=(by have:(4:Int)<(a0.size:Int):=dt;omega)
         have hx11:∀ h:4<a0.size,((a0[4]'h).toNat:Int)=bt a0 4:=zj3 a0 4
         clear p11
         have qi11:(4<(a0.size:Int))=True:=eq_true (dt)
         replace q11:=eq_true q11
         have p13:0≤(5:Int):=(by omega)
         have q13:5<a0.size:=(by have:(5:Int)<(a0.size:Int):=dt;omega)
         have hx13:∀ h:5<a0.size,((a0[5]'h).toNat:Int)=bt a0 5:=zj3 a0 5
         clear p13
         have qi13:(5<(a0.size:Int))=True:=eq_true (dt)
         replace q13:=eq_true q13
         have p15:0≤(6:Int):=(by omega)
         have q15:6<a0.size:=(by have:(6:Int)<(a0.size:Int):=dt;omega)
         have hx15:∀ h:6<a0.size,((a0[6]'h).toNat:Int)=bt a0 6:=zj3 a0 6
         clear p15
         have qi15:(6<(a0.size:Int))=True:=eq_true (dt)
         replace q15:=eq_true q15
         have p17:0≤(7:Int):=(by omega)
         have q17:7<a0.size:=(by have:(7:Int)<(a0.size:Int):=dt;omega)
         have hx17:∀ h:7<a0.size,((a0[7]'h).toNat:Int)=bt a0 7:=zj3 a0 7
         clear p17
         have qi17:(7<(a0.size:Int))=True:=eq_true (dt)
         replace q17:=eq_true q17
         go_enter Tryd.func84,Tryd.ntmps84
         go_wp2
         repeat(go_quiet (fail);try go_wp2)
         go_ret
         exact⟨by first|rfl|(simp;done)|(simp [*];done),by repeat(first|exact qx.refl _|apply qx.step)⟩
        rw [if_neg c16] at H
        exact absurd H (by simp)
       rw [if_neg c14] at H
       exact absurd H (by simp)
      rw [if_neg c12] at H
      exact absurd H (by simp)
     rw [if_neg c10] at H
     exact absurd H (by simp)
    rw [if_neg c8] at H
    exact absurd H (by simp)
   rw [if_neg c6] at H
   exact absurd H (by simp)
  rw [if_neg c4] at H
  exact absurd H (by simp)
 rw [if_neg c2] at H
 exact absurd H (by simp)

/-! ### utf8_ValidString: function 57, by hand -/
-- HAND rounds=0 making=1 laid=1 imports=Derived.Shelf.Unicode.ValidAny,Derived.Lib.LaidU8T,Derived.Test.YtmfpaeajibeikaaDoorShelfV
def utf8_ValidString.f (a0:ByteArray):Option (Bool):=if a0.size≤9223372036854775807 then some (Lib.validD a0.data.toList) else none
section
open Go.Shelf
set_option maxRecDepth 100000 in
theorem LD.first_tab:(Rows.laid_unicode_utf8_first:DataW Unit)=Lib.firstData:=by kernel_rfl
theorem LD.accept_tab:(Rows.laid_unicode_utf8_acceptRanges:DataW Unit)=Lib.acceptData:=by kernel_rfl
theorem LD.tabs {w:World} (h:LD w):Lib.Utf8Tabs (Tryd.laysValid_ren.g 3) (Tryd.laysValid_ren.g 4) w:=by
 obtain ⟨L0,h1,h2⟩:=h
 exact Utf8Tabs_below (utf8Tabs_of_readsT (U8Types.of196 Tryd.laysValid) ⟨by kernel_rfl,by kernel_rfl,by kernel_rfl,by kernel_rfl,by kernel_rfl,by kernel_rfl,by kernel_rfl⟩
  (Lib.laidMet.reads h1 (by rw [← LD.first_tab];exact LD.in_unicode_utf8_first)) (Lib.laidMet.reads h1 (by rw [← LD.accept_tab];exact LD.in_unicode_utf8_acceptRanges))) h2
theorem utf8_ValidString.calls (a0:ByteArray) (r:Bool) (w:World) (hL:LD w) (h:utf8_ValidString.f a0=some r) :
  Calls Tryd.prog 57 #[.string a0] w fun e w'=>e = .returned (.bool r)∧Below w.heap.size w w':=by
 unfold utf8_ValidString.f at h
 by_cases hs:a0.size≤9223372036854775807
 ·rw [if_pos hs] at h
  cases h
  exact Any.utf8_ValidString Tryd.laysValid a0 w hs hL.tabs
 rw [if_neg hs] at h
 cases h
end

/-! ### qi: function 40 -/
def qi.j0:Nat→Bool→Int→Int→ByteArray→Option (Int)
 | 0,_,_,_,_=>none
 | k+1,x11,x102000,x102001,x102002=>if x11=true then(some 3) else (if(x102002.size:Int) > 40 then(some 1) else (if x102000=0 then(if((x102000 == 0 && (x102001 == 0 && (x102002.toList == ([]:List UInt8))))=true) then(some 0) else (some 4)) else (if x102000=1 then(if(Go.bits .or .i64 x102001 1)=1 then(if(x102002.toList=([]:List UInt8)) then(some 0) else (some 4)) else (some 4)) else (if x102000=2 then(if(x102002.toList=([]:List UInt8)) then(some 0) else (some 4)) else (if x102000=3 then(if x102001=0 then((utf8_ValidString.f x102002).bind fun t102=>(if t102=true then(some 0) else (some 4))) else (some 4)) else (some 0))))))
def qi.f (k:Nat) (a0_0:Int) (a0_1:Int) (a0_2:ByteArray):Option (Int):=if a0_0<0 then(qi.j0 k true a0_0 a0_1 a0_2) else (qi.j0 k (decide (a0_0 > 3)) a0_0 a0_1 a0_2)
theorem qi.mono_l:∀ k,(∀ y0 y1 y2 y3,LeO (qi.j0 k y0 y1 y2 y3) (qi.j0 (k+1) y0 y1 y2 y3))
 | 0=>fun _ _ _ _ r h=>by simp [qi.j0] at h
 | k+1=>by
  have ih0:=qi.mono_l k
  intro y0 y1 y2 y3
  unfold qi.j0
  repeat' first
  | (with_reducible first|exact ih0 _ _ _ _|exact LeO.refl _|exact LeO.none _|refine LeO.ite ?_ ?_|refine LeO.bind ?_ (fun _=>?_))
  | exact ih0 _ _ _ _
  | exact LeO.none _
  | refine LeO.ite ?_ ?_
  | refine LeO.bind ?_ (fun _=>?_)
theorem qi.mono:∀ a0 a1 a2 k,LeO (qi.f k a0 a1 a2) (qi.f (k+1) a0 a1 a2):=by
 intro a0 a1 a2 k
 have ih0:=qi.mono_l k
 unfold qi.f
 repeat' first
   | (with_reducible first|exact ih0 _ _ _ _|exact LeO.refl _|exact LeO.none _|refine LeO.ite ?_ ?_|refine LeO.bind ?_ (fun _=>?_))
   | exact ih0 _ _ _ _
   | exact LeO.none _
   | refine LeO.ite ?_ ?_
   | refine LeO.bind ?_ (fun _=>?_)
set_option maxHeartbeats 8000000 in
set_option maxRecDepth 100000 in
theorem qi.calls (k:Nat) (a0_0:Int) (a0_1:Int) (a0_2:ByteArray) (r:Int) (w:World) (hL:LD w) (h:qi.f k a0_0 a0_1 a0_2=some r) :
  Calls Tryd.prog 40 #[.agg #[.int .i64 a0_0,.int .i64 a0_1,.string a0_2]] w fun e w'=>e = .returned (.int .i64 r)∧Below w.heap.size w w':=by
 have hu30:=Tryd.underlying30
 have HLD:=zq.mk hL
 clear hL
 have HB:=zq.mk (Below.refl w.heap.size w)
 have H:(if a0_0<0 then(qi.j0 k true a0_0 a0_1 a0_2) else (qi.j0 k (decide (a0_0 > 3)) a0_0 a0_1 a0_2))=some r:=h
 clear h
 have HC2:=zq.mk H
 clear H
 go_enter Tryd.func40,Tryd.ntmps40
 go_upto_region 1 with (first|((with_reducible refine ql (N:=1) rfl ?_);refine qh ?hg (N:=1) ?hd (cs:=#[.int .i64 a0_0,.int .i64 a0_1,.string a0_2]) (t:=30) ?hr ?_;(case hd=>rfl);(case hg=>rfl);(case hr=>first|(go_simp;done)|(go_simp;rfl));intro gb101 hg w3 hbox hb;have BK101:=zq.mk (hbox);have GW101:=zq.mk ((by rw [hg];exact(zv bw):w.heap.size≤gb101));have GE101:=zq.mk ((by rw [hg];exact(zv bw):w.heap.size≤gb101));replace HB:=zq.mk (zb bw hb);clear hb hbox hg))
 (try simp only [Act.put,List.setIfInBounds_toArray,List.set_cons_zero,List.set_cons_succ])
 go_cut [11] (fun v11 wc => ∃ (kq:Nat) (x11_1:Bool),v11 = .bool x11_1∧zq (qi.j0 kq x11_1 a0_0 a0_1 a0_2=some r)∧zq (kq≤k)∧zq (wc.heap[gb101]? = some (.cells #[.int .i64 a0_0,.int .i64 a0_1,.string a0_2] 30 (0,0)))∧zq (Below w.heap.size w wc))
 case first=>
  have H:=HC2.out
  clear HC2
  by_cases c4:a0_0<0
  ·rw [if_pos c4] at H
   have c4b0:=decide_eq_true c4
   clear c4
   (first|rw [c4b0]|(simp only [zqw,zqx];rw [c4b0])|skip)
   have H':=zq.mk H
   clear H
   obtain ⟨hcz5_0,hcz5_1,hcz5_2,hfz5_0,hfz5_1,hfz5_2⟩:=zr BK101.out
   go_wp2
   go_meet
   case rel=>exact⟨_,(true),vr,H',⟨by first|omega|exact Nat.le_refl _⟩,⟨by(with_reducible repeat(first|refine zn ?_ _|refine zt ?_|refine zy ?_ _));exact BK101.out⟩,⟨bw⟩⟩
  rw [if_neg c4] at H
  have c4b0:=decide_eq_false c4
  clear c4
  (first|rw [c4b0]|(simp only [zqw,zqx];rw [c4b0])|skip)
  have H':=zq.mk H
  clear H
  obtain ⟨hcz6_0,hcz6_1,hcz6_2,hfz6_0,hfz6_1,hfz6_2⟩:=zr BK101.out
  go_wp2
  go_meet
  case rel=>exact⟨_,(decide (a0_0 > 3)),vr,H',⟨by first|omega|exact Nat.le_refl _⟩,⟨by(with_reducible repeat(first|refine zn ?_ _|refine zt ?_|refine zy ?_ _));exact BK101.out⟩,⟨bw⟩⟩
 case rest=>
  clear HC2
  obtain ⟨kq,x11_1,rfl,HA,HJ1,BK101,HB⟩:=hcut
  cases kq with
  | zero=>exact absurd HA.out (by simp [qi.j0])
  | succ kj1=>
   have H:=HA.out
   clear HA
   simp only [qi.j0] at H
   by_cases c7:x11_1=true
   ·subst c7
    rw [if_pos rfl] at H
    obtain rfl:=Option.some.inj H
    go_wp2
    go_ret
    exact⟨by first|rfl|(simp [zk,zx] <;> rfl)|(simp [*,zk,zx] <;> rfl),bw⟩
   replace c7:=Bool.eq_false_iff.mpr c7
   subst c7
   rw [if_neg (show ¬ (false=true) by decide)] at H
   by_cases c8:(a0_2.size:Int) > 40
   ·rw [if_pos c8] at H
    have c8b0:=decide_eq_true c8
    have c8b1:decide (40<a0_2.size)=true:=decide_eq_true (by omega)
    clear c8
    obtain rfl:=Option.some.inj H
    obtain ⟨hcz9_0,hcz9_1,hcz9_2,hfz9_0,hfz9_1,hfz9_2⟩:=zr BK101.out
    go_wp2
    go_ret
    exact⟨by first|rfl|(simp [zk,zx] <;> rfl)|(simp [*,zk,zx] <;> rfl),bw⟩
   rw [if_neg c8] at H
   have c8b0:=decide_eq_false c8
   have c8b1:decide (40<a0_2.size)=false:=decide_eq_false (by omega)
   clear c8
   by_cases c10:a0_0=0
   ·rw [if_pos c10] at H
    have c10b0:(a0_0 == 0)=true:=beq_iff_eq.mpr c10
    have c10b1:(a0_0 != 0)=false:=bne_eq_false_iff_eq.mpr c10
    clear c10
    by_cases c11:((a0_0 == 0 && (a0_1 == 0 && (a0_2.toList == ([]:List UInt8))))=true)
    ·rw [if_pos c11] at H
     have c11b0:(a0_0 == 0 && (a0_1 == 0 && (a0_2.toList == ([]:List UInt8))))=true:=c11
     (try(have c11b1:(a0_0 == 0 && (a0_1 == 0 && a0_2.toList.isEmpty))=true:=by first|simpa using c11|simpa [*] using c11))
     (try(have c11b2:(a0_1 == 0 && a0_2.toList.isEmpty)=true:=by first|simpa using c11|simpa [*] using c11))
     (try(have c11b3:decide (a0_0=0 && (a0_1 == 0 && (a0_2.toList == ([]:List UInt8))))=true:=by simpa using c11))
     (try(have c11b4:(a0_0 == 0 && (a0_1 == 0 && (a0_2.toList == ([]:List UInt8))))=true:=by simpa using c11))
     clear c11
     obtain rfl:=Option.some.inj H
     obtain ⟨hcz12_0,hcz12_1,hcz12_2,hfz12_0,hfz12_1,hfz12_2⟩:=zr BK101.out
     go_wp2
     go_ret
     exact⟨by first|rfl|(simp [zk,zx] <;> rfl)|(simp [*,zk,zx] <;> rfl),bw⟩
    rw [if_neg c11] at H
    have c11b0:(a0_0 == 0 && (a0_1 == 0 && (a0_2.toList == ([]:List UInt8))))=false:=by simpa using c11
    (try(have c11b1:(a0_0 == 0 && (a0_1 == 0 && a0_2.toList.isEmpty))=false:=by first|simpa using c11|simpa [*] using c11))
    (try(have c11b2:(a0_1 == 0 && a0_2.toList.isEmpty)=false:=by first|simpa using c11|simpa [*] using c11))
    (try(have c11b3:decide (a0_0=0 && (a0_1 == 0 && (a0_2.toList == ([]:List UInt8))))=false:=by simpa using c11))
    (try(have c11b4:(a0_0 == 0 && (a0_1 == 0 && (a0_2.toList == ([]:List UInt8))))=false:=by simpa using c11))
    (try(have c11b5:¬ (a0_0=0 && (a0_1 == 0 && (a0_2.toList == ([]:List UInt8)))):=by simpa using c11))
    clear c11
    obtain rfl:=Option.some.inj H
    obtain ⟨hcz13_0,hcz13_1,hcz13_2,hfz13_0,hfz13_1,hfz13_2⟩:=zr BK101.out
    go_wp2
    go_ret
    exact⟨by first|rfl|(simp [zk,zx] <;> rfl)|(simp [*,zk,zx] <;> rfl),bw⟩
   rw [if_neg c10] at H
   have c10b0:(a0_0 == 0)=false:=beq_eq_false_iff_ne.mpr c10
   have c10b1:(a0_0 != 0)=true:=bne_iff_ne.mpr c10
   by_cases c14:a0_0=1
   ·rw [if_pos c14] at H
    have c14b0:(a0_0 == 1)=true:=beq_iff_eq.mpr c14
    have c14b1:(a0_0 != 1)=false:=bne_eq_false_iff_eq.mpr c14
    clear c14
    by_cases c15:(Go.bits .or .i64 a0_1 1)=1
    ·rw [if_pos c15] at H
     have c15b0:((Go.bits .or .i64 a0_1 1) == 1)=true:=beq_iff_eq.mpr c15
     have c15b1:((Go.bits .or .i64 a0_1 1) != 1)=false:=bne_eq_false_iff_eq.mpr c15
     clear c15
     by_cases c16:(a0_2.toList=([]:List UInt8))
     ·rw [if_pos c16] at H
      have c16b0:(a0_2.toList == ([]:List UInt8))=true:=beq_iff_eq.mpr c16
      have c16b1:(a0_2.toList != ([]:List UInt8))=false:=bne_eq_false_iff_eq.mpr c16
      clear c16
      obtain rfl:=Option.some.inj H
      obtain ⟨hcz17_0,hcz17_1,hcz17_2,hfz17_0,hfz17_1,hfz17_2⟩:=zr BK101.out
      go_wp2
      go_ret
      exact⟨by first|rfl|(simp [zk,zx] <;> rfl)|(simp [*,zk,zx] <;> rfl),bw⟩
     rw [if_neg c16] at H
     have c16b0:(a0_2.toList == ([]:List UInt8))=false:=beq_eq_false_iff_ne.mpr c16
     have c16b1:(a0_2.toList != ([]:List UInt8))=true:=bne_iff_ne.mpr c16
     obtain rfl:=Option.some.inj H
     obtain ⟨hcz18_0,hcz18_1,hcz18_2,hfz18_0,hfz18_1,hfz18_2⟩:=zr BK101.out
     go_wp2
     go_ret
     exact⟨by first|rfl|(simp [zk,zx] <;> rfl)|(simp [*,zk,zx] <;> rfl),bw⟩
    rw [if_neg c15] at H
    have c15b0:((Go.bits .or .i64 a0_1 1) == 1)=false:=beq_eq_false_iff_ne.mpr c15
    have c15b1:((Go.bits .or .i64 a0_1 1) != 1)=true:=bne_iff_ne.mpr c15
    obtain rfl:=Option.some.inj H
    obtain ⟨hcz19_0,hcz19_1,hcz19_2,hfz19_0,hfz19_1,hfz19_2⟩:=zr BK101.out
    go_wp2
    go_ret
    exact⟨by first|rfl|(simp [zk,zx] <;> rfl)|(simp [*,zk,zx] <;> rfl),bw⟩
   rw [if_neg c14] at H
   have c14b0:(a0_0 == 1)=false:=beq_eq_false_iff_ne.mpr c14
   have c14b1:(a0_0 != 1)=true:=bne_iff_ne.mpr c14
   by_cases c20:a0_0=2
   ·rw [if_pos c20] at H
    have c20b0:(a0_0 == 2)=true:=beq_iff_eq.mpr c20
    have c20b1:(a0_0 != 2)=false:=bne_eq_false_iff_eq.mpr c20
    clear c20
    by_cases c21:(a0_2.toList=([]:List UInt8))
    ·rw [if_pos c21] at H
     have c21b0:(a0_2.toList == ([]:List UInt8))=true:=beq_iff_eq.mpr c21
     have c21b1:(a0_2.toList != ([]:List UInt8))=false:=bne_eq_false_iff_eq.mpr c21
     clear c21
     obtain rfl:=Option.some.inj H
     obtain ⟨hcz22_0,hcz22_1,hcz22_2,hfz22_0,hfz22_1,hfz22_2⟩:=zr BK101.out
     go_wp2
     go_ret
     exact⟨by first|rfl|(simp [zk,zx] <;> rfl)|(simp [*,zk,zx] <;> rfl),bw⟩
    rw [if_neg c21] at H
    have c21b0:(a0_2.toList == ([]:List UInt8))=false:=beq_eq_false_iff_ne.mpr c21
    have c21b1:(a0_2.toList != ([]:List UInt8))=true:=bne_iff_ne.mpr c21
    obtain rfl:=Option.some.inj H
    obtain ⟨hcz23_0,hcz23_1,hcz23_2,hfz23_0,hfz23_1,hfz23_2⟩:=zr BK101.out
    go_wp2
    go_ret
    exact⟨by first|rfl|(simp [zk,zx] <;> rfl)|(simp [*,zk,zx] <;> rfl),bw⟩
   rw [if_neg c20] at H
   have c20b0:(a0_0 == 2)=false:=beq_eq_false_iff_ne.mpr c20
   have c20b1:(a0_0 != 2)=true:=bne_iff_ne.mpr c20
   by_cases c24:a0_0=3
   ·rw [if_pos c24] at H
    have c24b0:(a0_0 == 3)=true:=beq_iff_eq.mpr c24
    have c24b1:(a0_0 != 3)=false:=bne_eq_false_iff_eq.mpr c24
    clear c24
    by_cases c25:a0_1=0
    ·rw [if_pos c25] at H
     have c25b0:(a0_1 == 0)=true:=beq_iff_eq.mpr c25
     have c25b1:(a0_1 != 0)=false:=bne_eq_false_iff_eq.mpr c25
     clear c25
     replace H:=Option.bind_eq_some_iff.mp H
     obtain ⟨t102,A260,H⟩:=H
     replace H:(if t102=true then(some 0) else (some 4))=some r:=H
     have A26:=zq.mk A260
     clear A260
     by_cases c27:t102=true
     ·subst c27
      rw [if_pos rfl] at H
      obtain rfl:=Option.some.inj H
      obtain ⟨hcz28_0,hcz28_1,hcz28_2,hfz28_0,hfz28_1,hfz28_2⟩:=zr BK101.out
      go_wp2_with (first|(go_at_call 57;(with_reducible refine(utf8_ValidString.calls a0_2 true _ ?side1 A26.out).mono ?_);(case side1=>exact LD.below HLD.out (by first|(with_reducible exact Below.refl _ _)|((repeat(first|(with_reducible exact Below.refl _ _)|(with_reducible apply zm)|(with_reducible apply qd)|(with_reducible apply qe)));done)|exact bw));rintro e w29 ⟨rfl,hb⟩;replace BK101:=zq.mk (zf (g:=gb101) (o:=.cells #[.int .i64 a0_0,.int .i64 a0_1,.string a0_2] 30 (0,0)) (up BK101.out) hb);replace HB:=zq.mk (zb bw hb);(try clear hb);(try clear hb2);(try clear hk);(try clear hi)))
      go_ret
      exact⟨by first|rfl|(simp [zk,zx] <;> rfl)|(simp [*,zk,zx] <;> rfl),bw⟩
     replace c27:=Bool.eq_false_iff.mpr c27
     subst c27
     rw [if_neg (show ¬ (false=true) by decide)] at H
     obtain rfl:=Option.some.inj H
     obtain ⟨hcz30_0,hcz30_1,hcz30_2,hfz30_0,hfz30_1,hfz30_2⟩:=zr BK101.out
     go_wp2_with (first|(go_at_call 57;(with_reducible refine(utf8_ValidString.calls a0_2 false _ ?side1 A26.out).mono ?_);(case side1=>exact LD.below HLD.out (by first|(with_reducible exact Below.refl _ _)|((repeat(first|(with_reducible exact Below.refl _ _)|(with_reducible apply zm)|(with_reducible apply qd)|(with_reducible apply qe)));done)|exact bw));rintro e w31 ⟨rfl,hb⟩;replace BK101:=zq.mk (zf (g:=gb101) (o:=.cells #[.int .i64 a0_0,.int .i64 a0_1,.string a0_2] 30 (0,0)) (up BK101.out) hb);replace HB:=zq.mk (zb bw hb);(try clear hb);(try clear hb2);(try clear hk);(try clear hi)))
     go_ret
     exact⟨by first|rfl|(simp [zk,zx] <;> rfl)|(simp [*,zk,zx] <;> rfl),bw⟩
    rw [if_neg c25] at H
    have c25b0:(a0_1 == 0)=false:=beq_eq_false_iff_ne.mpr c25
    have c25b1:(a0_1 != 0)=true:=bne_iff_ne.mpr c25
    obtain rfl:=Option.some.inj H
    obtain ⟨hcz32_0,hcz32_1,hcz32_2,hfz32_0,hfz32_1,hfz32_2⟩:=zr BK101.out
    go_wp2
    go_ret
    exact⟨by first|rfl|(simp [zk,zx] <;> rfl)|(simp [*,zk,zx] <;> rfl),bw⟩
   rw [if_neg c24] at H
   have c24b0:(a0_0 == 3)=false:=beq_eq_false_iff_ne.mpr c24
   have c24b1:(a0_0 != 3)=true:=bne_iff_ne.mpr c24
   obtain rfl:=Option.some.inj H
   obtain ⟨hcz33_0,hcz33_1,hcz33_2,hfz33_0,hfz33_1,hfz33_2⟩:=zr BK101.out
   go_wp2
   go_ret
   exact⟨by first|rfl|(simp [zk,zx] <;> rfl)|(simp [*,zk,zx] <;> rfl),bw⟩

/-! ### zqd: function 115 -/
def zqd.j0:Nat→Int→Bool→Option (Int)
 | 0,_,_=>none
 | k+1,x3,x9=>if x9=true then(some 1) else (if x3 ≥ 8 then(if x3≤20 then(some 2) else (some (-1))) else (some (-1)))
def zqd.f (k:Nat) (a0_0:Int) (a0_1:Int) (a0_2:Int) (a0_3:ByteArray) (a0_4:ByteArray) (a0_5:ByteArray) (a0_6:Int) (l0_7:List (S33)):Option (Int):=if a0_0=1 then(some 0) else (if a0_0 ≥ 4 then(zqd.j0 k a0_0 (decide (a0_0≤7))) else (zqd.j0 k a0_0 false))
theorem zqd.mono_l:∀ k,(∀ y0 y1,LeO (zqd.j0 k y0 y1) (zqd.j0 (k+1) y0 y1))
 | 0=>fun _ _ r h=>by simp [zqd.j0] at h
 | k+1=>by
  have ih0:=zqd.mono_l k
  intro y0 y1
  unfold zqd.j0
  repeat' first
  | (with_reducible first|exact ih0 _ _|exact LeO.refl _|exact LeO.none _|refine LeO.ite ?_ ?_|refine LeO.bind ?_ (fun _=>?_))
  | exact ih0 _ _
  | exact LeO.none _
  | refine LeO.ite ?_ ?_
  | refine LeO.bind ?_ (fun _=>?_)
theorem zqd.mono:∀ a0 a1 a2 a3 a4 a5 a6 a7 k,LeO (zqd.f k a0 a1 a2 a3 a4 a5 a6 a7) (zqd.f (k+1) a0 a1 a2 a3 a4 a5 a6 a7):=by
 intro a0 a1 a2 a3 a4 a5 a6 a7 k
 have ih0:=zqd.mono_l k
 unfold zqd.f
 repeat' first
   | (with_reducible first|exact ih0 _ _|exact LeO.refl _|exact LeO.none _|refine LeO.ite ?_ ?_|refine LeO.bind ?_ (fun _=>?_))
   | exact ih0 _ _
   | exact LeO.none _
   | refine LeO.ite ?_ ?_
   | refine LeO.bind ?_ (fun _=>?_)
set_option maxHeartbeats 8000000 in
set_option maxRecDepth 100000 in
theorem zqd.calls (k:Nat) (a0_0:Int) (a0_1:Int) (a0_2:Int) (a0_3:ByteArray) (a0_4:ByteArray) (a0_5:ByteArray) (a0_6:Int) (A0_7:Option Addr) (c0_7:Nat) (l0_7:List (S33)) (r:Int) (w:World) (hr0_7:Kd.C k33 w A0_7 l0_7.length l0_7) (hc0_7:l0_7.length≤c0_7) (h:zqd.f k a0_0 a0_1 a0_2 a0_3 a0_4 a0_5 a0_6 l0_7=some r) :
  Calls Tryd.prog 115 #[.agg #[.int .i64 a0_0,.int .i64 a0_1,.int .i64 a0_2,.string a0_3,.string a0_4,.string a0_5,.int .i64 a0_6,.slice A0_7 l0_7.length c0_7]] w fun e w'=>e = .returned (.int .i64 r)∧Below w.heap.size w w':=by
 have hu75:=Tryd.underlying75
 have HR0_7:=zq.mk hr0_7
 have HC0_7:=zq.mk hc0_7
 clear hr0_7 hc0_7
 have HB:=zq.mk (Below.refl w.heap.size w)
 have H:(if a0_0=1 then(some 0) else (if a0_0 ≥ 4 then(zqd.j0 k a0_0 (decide (a0_0≤7))) else (zqd.j0 k a0_0 false)))=some r:=h
 clear h
 by_cases c2:a0_0=1
 ·rw [if_pos c2] at H
  have c2b0:(a0_0 == 1)=true:=beq_iff_eq.mpr c2
  have c2b1:(a0_0 != 1)=false:=bne_eq_false_iff_eq.mpr c2
  clear c2
  obtain rfl:=Option.some.inj H
  go_enter Tryd.func115,Tryd.ntmps115
  go_wp2_with (first|((with_reducible refine ql (N:=1) rfl ?_);refine qh ?hg (N:=1) ?hd (cs:=#[.int .i64 a0_0,.int .i64 a0_1,.int .i64 a0_2,.string a0_3,.string a0_4,.string a0_5,.int .i64 a0_6,.slice A0_7 l0_7.length c0_7]) (t:=75) ?hr ?_;(case hd=>rfl);(case hg=>rfl);(case hr=>first|(go_simp;done)|(go_simp;rfl));intro gb103 hg w3 hbox hb;have BK103:=zq.mk (hbox);have GW103:=zq.mk ((by rw [hg];exact(zv bw):w.heap.size≤gb103));have GE103:=zq.mk ((by rw [hg];exact(zv bw):w.heap.size≤gb103));replace HB:=zq.mk (zb bw hb);clear hb hbox hg;obtain ⟨hcz4_0,hcz4_1,hcz4_2,hcz4_3,hcz4_4,hcz4_5,hcz4_6,hcz4_7,hfz4_0,hfz4_1,hfz4_2,hfz4_3,hfz4_4,hfz4_5,hfz4_6,hfz4_7⟩:=zql BK103.out))
  go_ret
  exact⟨by first|rfl|(simp [zk,zx] <;> rfl)|(simp [*,zk,zx] <;> rfl),bw⟩
 rw [if_neg c2] at H
 have c2b0:(a0_0 == 1)=false:=beq_eq_false_iff_ne.mpr c2
 have c2b1:(a0_0 != 1)=true:=bne_iff_ne.mpr c2
 have HC5:=zq.mk H
 clear H
 go_enter Tryd.func115,Tryd.ntmps115
 go_upto_region 4 with (first|((with_reducible refine ql (N:=1) rfl ?_);refine qh ?hg (N:=1) ?hd (cs:=#[.int .i64 a0_0,.int .i64 a0_1,.int .i64 a0_2,.string a0_3,.string a0_4,.string a0_5,.int .i64 a0_6,.slice A0_7 l0_7.length c0_7]) (t:=75) ?hr ?_;(case hd=>rfl);(case hg=>rfl);(case hr=>first|(go_simp;done)|(go_simp;rfl));intro gb103 hg w6 hbox hb;have BK103:=zq.mk (hbox);have GW103:=zq.mk ((by rw [hg];exact(zv bw):w.heap.size≤gb103));have GE103:=zq.mk ((by rw [hg];exact(zv bw):w.heap.size≤gb103));replace HB:=zq.mk (zb bw hb);clear hb hbox hg;obtain ⟨hcz7_0,hcz7_1,hcz7_2,hcz7_3,hcz7_4,hcz7_5,hcz7_6,hcz7_7,hfz7_0,hfz7_1,hfz7_2,hfz7_3,hfz7_4,hfz7_5,hfz7_6,hfz7_7⟩:=zql BK103.out))
 (try simp only [Act.put,List.setIfInBounds_toArray,List.set_cons_zero,List.set_cons_succ])
 go_cut [9] (fun v9 wc => ∃ (kq:Nat) (x9_4:Bool),v9 = .bool x9_4∧zq (zqd.j0 kq a0_0 x9_4=some r)∧zq (kq≤k)∧zq (wc.heap[gb103]? = some (.cells #[.int .i64 a0_0,.int .i64 a0_1,.int .i64 a0_2,.string a0_3,.string a0_4,.string a0_5,.int .i64 a0_6,(.slice A0_7 l0_7.length c0_7)] 75 (0,0)))∧zq (Below w.heap.size w wc))
 case first=>
  have H:=HC5.out
  clear HC5
  by_cases c8:a0_0 ≥ 4
  ·rw [if_pos c8] at H
   have c8b0:=decide_eq_true c8
   clear c8
   (first|rw [c8b0]|(simp only [zqw,zqx];rw [c8b0])|skip)
   have H':=zq.mk H
   clear H
   go_wp2
   go_meet
   case rel=>exact⟨_,(decide (a0_0≤7)),vr,H',⟨by first|omega|exact Nat.le_refl _⟩,⟨by(with_reducible repeat(first|refine zn ?_ _|refine zt ?_|refine zy ?_ _));exact BK103.out⟩,⟨bw⟩⟩
  rw [if_neg c8] at H
  have c8b0:=decide_eq_false c8
  clear c8
  (first|rw [c8b0]|(simp only [zqw,zqx];rw [c8b0])|skip)
  have H':=zq.mk H
  clear H
  go_wp2
  go_meet
  case rel=>exact⟨_,(false),vr,H',⟨by first|omega|exact Nat.le_refl _⟩,⟨by(with_reducible repeat(first|refine zn ?_ _|refine zt ?_|refine zy ?_ _));exact BK103.out⟩,⟨bw⟩⟩
 case rest=>
  clear HC5
  (try clear c2);(try clear c2b0);(try clear c2b1);(try clear hcz7_0);(try clear hcz7_1);(try clear hcz7_2);(try clear hcz7_3);(try clear hcz7_4);(try clear hcz7_5);(try clear hcz7_6);(try clear hcz7_7);(try clear hfz7_0);(try clear hfz7_1);(try clear hfz7_2);(try clear hfz7_3);(try clear hfz7_4);(try clear hfz7_5);(try clear hfz7_6);(try clear hfz7_7)
  obtain ⟨kq,x9_4,rfl,HA,HJ4,BK103,HB⟩:=hcut
  cases kq with
  | zero=>exact absurd HA.out (by simp [zqd.j0])
  | succ kj4=>
   have H:=HA.out
   clear HA
   simp only [zqd.j0] at H
   by_cases c9:x9_4=true
   ·subst c9
    rw [if_pos rfl] at H
    obtain rfl:=Option.some.inj H
    go_wp2
    go_ret
    exact⟨by first|rfl|(simp [zk,zx] <;> rfl)|(simp [*,zk,zx] <;> rfl),bw⟩
   replace c9:=Bool.eq_false_iff.mpr c9
   subst c9
   rw [if_neg (show ¬ (false=true) by decide)] at H
   by_cases c10:a0_0 ≥ 8
   ·rw [if_pos c10] at H
    have c10b0:=decide_eq_true c10
    clear c10
    by_cases c11:a0_0≤20
    ·rw [if_pos c11] at H
     have c11b0:=decide_eq_true c11
     clear c11
     obtain rfl:=Option.some.inj H
     go_wp2
     go_ret
     exact⟨by first|rfl|(simp [zk,zx] <;> rfl)|(simp [*,zk,zx] <;> rfl),bw⟩
    rw [if_neg c11] at H
    have c11b0:=decide_eq_false c11
    clear c11
    obtain rfl:=Option.some.inj H
    go_wp2
    go_ret
    exact⟨by first|rfl|(simp [zk,zx] <;> rfl)|(simp [*,zk,zx] <;> rfl),bw⟩
   rw [if_neg c10] at H
   have c10b0:=decide_eq_false c10
   clear c10
   obtain rfl:=Option.some.inj H
   go_wp2
   go_ret
   exact⟨by first|rfl|(simp [zk,zx] <;> rfl)|(simp [*,zk,zx] <;> rfl),bw⟩

end Go.Proofs.YtmfpaeajibeikaaDoor.PEvalHolds
