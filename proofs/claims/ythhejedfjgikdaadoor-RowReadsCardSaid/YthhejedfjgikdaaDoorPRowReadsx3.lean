-- Written by wip/pp of this repo (over the kit's print, with additions of this session); Lean checks every line.
import Derived.Test.YthhejedfjgikdaaDoorPRowReadsx2
namespace Go.Proofs.YthhejedfjgikdaaDoor.PRowReads
open Go.RowKit Go.Proofs.YthhejedfjgikdaaDoorW.PrintWords Go.Proofs.YthhejedfjgikdaaDoorW.PrintLast Go.Proofs.YthhejedfjgikdaaDoorW.PrintMore
attribute [local go_sem] zjo zjm zjw zjv zja zq9 zjn zjl   -- for this text's walks alone
set_option linter.unusedVariables false
set_option linter.unusedSimpArgs false

/-! ### cmp_Less_string: function 171 -/
def cmp_Less_string.f (a0:ByteArray) (a1:ByteArray):Option (Bool):=(cmp_isNaN_string.f a0).bind fun t109=>(if t109=true then((cmp_isNaN_string.f a1).bind fun t110=>(if t110=true then(some (Op.bytesLess a0.toList a1.toList)) else (some true))) else (some (Op.bytesLess a0.toList a1.toList)))
set_option maxHeartbeats 8000000 in
set_option maxRecDepth 100000 in
theorem cmp_Less_string.calls (a0:ByteArray) (a1:ByteArray) (r:Bool) (w:World) (h:cmp_Less_string.f a0 a1=some r) :
  Calls Tryd.prog 171 #[.string a0,.string a1] w fun e w'=>e = .returned (.bool r)∧za w w':=by
 have H:((cmp_isNaN_string.f a0).bind fun t109=>(if t109=true then((cmp_isNaN_string.f a1).bind fun t110=>(if t110=true then(some (Op.bytesLess a0.toList a1.toList)) else (some true))) else (some (Op.bytesLess a0.toList a1.toList))))=some r:=h
 clear h
 replace H:=Option.bind_eq_some_iff.mp H
 obtain ⟨t109,A30,H⟩:=H
 replace H:(if t109=true then((cmp_isNaN_string.f a1).bind fun t110=>(if t110=true then(some (Op.bytesLess a0.toList a1.toList)) else (some true))) else (some (Op.bytesLess a0.toList a1.toList)))=some r:=H
 have A3:=zq.mk A30
 clear A30
 by_cases c4:t109=true
 ·subst c4
  rw [if_pos rfl] at H
  replace H:=Option.bind_eq_some_iff.mp H
  obtain ⟨t110,A50,H⟩:=H
  replace H:(if t110=true then(some (Op.bytesLess a0.toList a1.toList)) else (some true))=some r:=H
  have A5:=zq.mk A50
  clear A50
  by_cases c6:t110=true
  ·subst c6
   rw [if_pos rfl] at H
   obtain rfl:=Option.some.inj H
   go_enter Tryd.func171,Tryd.ntmps171
   go_wp2_with (first|((with_reducible refine qh (f:=176) rfl ?_);refine zqn (some 6) rfl rfl Tryd.func176 (by kernel_rfl) rfl #[.string a0] rfl gs ?_;(with_reducible refine(cmp_isNaN_string.calls a0 true _ A3.out).mono ?_);rintro e w' ⟨rfl,⟨nd,rfl⟩⟩;refine⟨_,rfl,?_⟩)|(go_at_call 176;(with_reducible refine(cmp_isNaN_string.calls a1 true _ A5.out).mono ?_);rintro e w' ⟨rfl,⟨nd,rfl⟩⟩))
   go_ret
   exact⟨by first|rfl|(simp;done)|(simp [*];done),by repeat(first|exact za.refl _|apply za.step)⟩
  replace c6:=Bool.eq_false_iff.mpr c6
  subst c6
  rw [if_neg (show ¬ (false=true) by decide)] at H
  obtain rfl:=Option.some.inj H
  go_enter Tryd.func171,Tryd.ntmps171
  go_wp2_with (first|((with_reducible refine qh (f:=176) rfl ?_);refine zqn (some 6) rfl rfl Tryd.func176 (by kernel_rfl) rfl #[.string a0] rfl gs ?_;(with_reducible refine(cmp_isNaN_string.calls a0 true _ A3.out).mono ?_);rintro e w' ⟨rfl,⟨nd,rfl⟩⟩;refine⟨_,rfl,?_⟩)|(go_at_call 176;(with_reducible refine(cmp_isNaN_string.calls a1 false _ A5.out).mono ?_);rintro e w' ⟨rfl,⟨nd,rfl⟩⟩))
  go_ret
  exact⟨by first|rfl|(simp;done)|(simp [*];done),by repeat(first|exact za.refl _|apply za.step)⟩
 replace c4:=Bool.eq_false_iff.mpr c4
 subst c4
 rw [if_neg (show ¬ (false=true) by decide)] at H
 obtain rfl:=Option.some.inj H
 go_enter Tryd.func171,Tryd.ntmps171
 go_wp2_with (first|((with_reducible refine qh (f:=176) rfl ?_);refine zqn (some 6) rfl rfl Tryd.func176 (by kernel_rfl) rfl #[.string a0] rfl gs ?_;(with_reducible refine(cmp_isNaN_string.calls a0 false _ A3.out).mono ?_);rintro e w' ⟨rfl,⟨nd,rfl⟩⟩;refine⟨_,rfl,?_⟩))
 go_ret
 exact⟨by first|rfl|(simp;done)|(simp [*];done),by repeat(first|exact za.refl _|apply za.step)⟩

/-! ### slices_isNaN_string: function 172 -/
def slices_isNaN_string.f (a0:ByteArray):Option (Bool):=some (a0.toList != a0.toList)
set_option maxHeartbeats 8000000 in
set_option maxRecDepth 100000 in
theorem slices_isNaN_string.calls (a0:ByteArray) (r:Bool) (w:World) (h:slices_isNaN_string.f a0=some r) :
  Calls Tryd.prog 172 #[.string a0] w fun e w'=>e = .returned (.bool r)∧za w w':=by
 have H:(some (a0.toList != a0.toList))=some r:=h
 clear h
 obtain rfl:=Option.some.inj H
 go_enter Tryd.func172,Tryd.ntmps172
 go_wp2
 go_ret
 exact⟨by first|rfl|(simp;done)|(simp [*];done),by repeat(first|exact za.refl _|apply za.step)⟩

/-! ### qq: function 164 -/
def qq.l0:Nat→List ByteArray→ByteArray→Int→Int→Int→Option (Int × Bool)
 | 0,_,_,_,_,_=>none
 | k+1,x0,x1,x6,x7,x8=>if x7<x8 then(if 0≤(wrap64 ((IntKind.u64.wrap (wrap64 (x7+x8))) / 2)) then(if(wrap64 ((IntKind.u64.wrap (wrap64 (x7+x8))) / 2))<(x0.length:Int) then((cmp_Less_string.f (rdOf ByteArray.empty x0 (wrap64 ((IntKind.u64.wrap (wrap64 (x7+x8))) / 2))) x1).bind fun t112=>(if t112=true then(qq.l0 k x0 x1 x6 (wrap64 ((wrap64 ((IntKind.u64.wrap (wrap64 (x7+x8))) / 2))+1)) x8) else (qq.l0 k x0 x1 x6 x7 (wrap64 ((IntKind.u64.wrap (wrap64 (x7+x8))) / 2))))) else (none)) else (none)) else (if x7<x6 then(if 0≤x7 then(if x7<(x0.length:Int) then(if(rdOf ByteArray.empty x0 x7).toList=x1.toList then(some (x7,true)) else ((slices_isNaN_string.f (rdOf ByteArray.empty x0 x7)).bind fun t115=>(if t115=true then((slices_isNaN_string.f x1).bind fun t116=>(some (x7,t116))) else (some (x7,false))))) else (none)) else (none)) else (some (x7,false)))
def qq.f (k:Nat) (l0:List ByteArray) (a1:ByteArray):Option (Int × Bool):=qq.l0 k l0 a1 (l0.length:Int) 0 (l0.length:Int)
theorem qq.mono_l:∀ k,(∀ y0 y1 y2 y3 y4,LeO (qq.l0 k y0 y1 y2 y3 y4) (qq.l0 (k+1) y0 y1 y2 y3 y4))
 | 0=>fun _ _ _ _ _ r h=>by simp [qq.l0] at h
 | k+1=>by
  have ih0:=qq.mono_l k
  intro y0 y1 y2 y3 y4
  unfold qq.l0
  repeat' first
  | (with_reducible first|exact ih0 _ _ _ _ _|exact LeO.refl _|exact LeO.none _|refine LeO.ite ?_ ?_|refine LeO.bind ?_ (fun _=>?_))
  | exact ih0 _ _ _ _ _
  | exact LeO.none _
  | refine LeO.ite ?_ ?_
  | refine LeO.bind ?_ (fun _=>?_)
theorem qq.mono:∀ a0 a1 k,LeO (qq.f k a0 a1) (qq.f (k+1) a0 a1):=by
 intro a0 a1 k
 have ih0:=qq.mono_l k
 unfold qq.f
 repeat' first
   | (with_reducible first|exact ih0 _ _ _ _ _|exact LeO.refl _|exact LeO.none _|refine LeO.ite ?_ ?_|refine LeO.bind ?_ (fun _=>?_))
   | exact ih0 _ _ _ _ _
   | exact LeO.none _
   | refine LeO.ite ?_ ?_
   | refine LeO.bind ?_ (fun _=>?_)
set_option maxHeartbeats 8000000 in
set_option maxRecDepth 100000 in
theorem qq.calls (k:Nat) (A0:Option Addr) (c0:Nat) (l0:List ByteArray) (a1:ByteArray) (r1:Int) (r2:Bool) (w:World) (hr0:Kd.C Kd.string w A0 l0.length l0) (hc0:l0.length≤c0) (h:qq.f k l0 a1=some (r1,r2)) :
  Calls Tryd.prog 164 #[.slice A0 l0.length c0,.string a1] w fun e w'=>e = .returned (.tuple #[.int .i64 r1,.bool r2])∧za w w':=by
 have HR0:=zq.mk hr0
 have HC0:=zq.mk hc0
 clear hr0 hc0
 have H:(qq.l0 k l0 a1 (l0.length:Int) 0 (l0.length:Int))=some (r1,r2):=h
 clear h
 have H':=zq.mk H
 clear H
 go_enter Tryd.func164,Tryd.ntmps164
 go_wp2
 go_loopg [7,8] k (fun kq v7 v8 w' => ∃ (x7_1:Int) (x8_1:Int),v7 = .int .i64 x7_1∧v8 = .int .i64 x8_1∧zq (qq.l0 kq l0 a1 (l0.length:Int) x7_1 x8_1=some (r1,r2))∧zq (kq≤k)∧za w w')
 case atStart=>exact⟨(0),((l0.length:Int)),vr,vr,H',⟨Nat.le_refl _⟩,by repeat(first|exact za.refl _|apply za.step)⟩
 case round=>
  clear H'
  obtain ⟨x7_1,x8_1,rfl,rfl,HA,HK1,⟨m1,rfl⟩⟩:=hrel
  cases gk with
  | zero=>exact absurd HA.out (by simp [qq.l0])
  | succ k1=>
   have H:=HA.out
   clear HA
   simp only [qq.l0] at H
   by_cases c3:x7_1<x8_1
   ·rw [if_pos c3] at H
    have c3b0:=decide_eq_true c3
    clear c3
    obtain ⟨ji4,hji4⟩:∃ j_:Int,(wrap64 ((IntKind.u64.wrap (wrap64 (x7_1+x8_1))) / 2))=j_:=⟨_,rfl⟩
    replace H:(if 0≤(ji4) then(if(ji4)<(l0.length:Int) then((cmp_Less_string.f (rdOf ByteArray.empty l0 (ji4)) a1).bind fun t112=>(if t112=true then(qq.l0 k1 l0 a1 (l0.length:Int) (wrap64 ((ji4)+1)) x8_1) else (qq.l0 k1 l0 a1 (l0.length:Int) x7_1 ji4))) else (none)) else (none))=some (r1,r2):=by first|(rw [hji4] at H;exact H)|(simp only [hji4] at H ⊢;exact H)
    have hji4w:(IntKind.i64.wrap ((IntKind.u64.wrap (wrap64 (x7_1+x8_1))) / 2))=ji4:=(zqp _).trans hji4
    by_cases c5:0≤(ji4)
    ·rw [if_pos c5] at H
     have c5b0:=decide_eq_true c5
     clear c5
     by_cases c6:(ji4)<(l0.length:Int)
     ·rw [if_pos c6] at H
      have c6b0:=decide_eq_true c6
      clear c6
      replace H:=Option.bind_eq_some_iff.mp H
      obtain ⟨t112,A70,H⟩:=H
      replace H:(if t112=true then(qq.l0 k1 l0 a1 (l0.length:Int) (wrap64 ((ji4)+1)) x8_1) else (qq.l0 k1 l0 a1 (l0.length:Int) x7_1 ji4))=some (r1,r2):=H
      have A7:=zq.mk A70
      clear A70
      by_cases c8:t112=true
      ·subst c8
       rw [if_pos rfl] at H
       have H':=zq.mk H
       clear H
       have p111:0≤((ji4):Int):=dt
       have q111:(ji4)<(l0.length:Int):=dt
       obtain ⟨ad111,e111,hx111_0⟩:=Kd.zxp HR0.out (ji4) p111 q111
       cases e111
       replace p111:=eq_true p111
       replace q111:=eq_true q111
       go_wp2_with (first|((with_reducible refine qh (f:=171) rfl ?_);refine zqn (some 27) rfl rfl Tryd.func171 (by kernel_rfl) rfl #[.string (rdOf ByteArray.empty l0 (ji4)),.string a1] rfl (by(try simp only [List.map_toArray,List.map_cons,List.map_nil]);first|done|(simp only [hji4];rfl)|rfl|(simp only [List.length_drop,List.length_take];rfl)) ?_;(with_reducible refine(cmp_Less_string.calls (rdOf ByteArray.empty l0 (ji4)) a1 true _ A7.out).mono ?_);rintro e w' ⟨rfl,⟨nd,rfl⟩⟩;refine⟨_,rfl,?_⟩))
       go_roundg k1
       case measure=>have:=HK1.out;omega
       case rel=>exact⟨(wrap64 ((ji4)+1)),(x8_1),(by first|rfl|(simp;done)|(simp only [← hji4] <;> (first|rfl|simp))|(simp [*];done)|(generalize ByteArray.toList _=q_;cases q_ <;> rfl)),vr,H',⟨by have:=HK1.out;omega⟩,by repeat(first|exact za.refl _|apply za.step)⟩
      replace c8:=Bool.eq_false_iff.mpr c8
      subst c8
      rw [if_neg (show ¬ (false=true) by decide)] at H
      have H':=zq.mk H
      clear H
      have p111:0≤((ji4):Int):=dt
      have q111:(ji4)<(l0.length:Int):=dt
      obtain ⟨ad111,e111,hx111_0⟩:=Kd.zxp HR0.out (ji4) p111 q111
      cases e111
      replace p111:=eq_true p111
      replace q111:=eq_true q111
      go_wp2_with (first|((with_reducible refine qh (f:=171) rfl ?_);refine zqn (some 27) rfl rfl Tryd.func171 (by kernel_rfl) rfl #[.string (rdOf ByteArray.empty l0 (ji4)),.string a1] rfl (by(try simp only [List.map_toArray,List.map_cons,List.map_nil]);first|done|(simp only [hji4];rfl)|rfl|(simp only [List.length_drop,List.length_take];rfl)) ?_;(with_reducible refine(cmp_Less_string.calls (rdOf ByteArray.empty l0 (ji4)) a1 false _ A7.out).mono ?_);rintro e w' ⟨rfl,⟨nd,rfl⟩⟩;refine⟨_,rfl,?_⟩))
      go_roundg k1
      case measure=>have:=HK1.out;omega
      case rel=>exact⟨(x7_1),(ji4),vr,(by first|rfl|(simp;done)|(simp only [← hji4] <;> (first|rfl|simp))|(simp [*];done)|(generalize ByteArray.toList _=q_;cases q_ <;> rfl)),H',⟨by have:=HK1.out;omega⟩,by repeat(first|exact za.refl _|apply za.step)⟩
     rw [if_neg c6] at H
     exact absurd H (by simp)
    rw [if_neg c5] at H
    exact absurd H (by simp)
   rw [if_neg c3] at H
   have c3b0:=decide_eq_false c3
   clear c3
   by_cases c9:x7_1<(l0.length:Int)
   ·rw [if_pos c9] at H
    have c9b0:=decide_eq_true c9
    clear c9
    by_cases c10:0≤x7_1
    ·rw [if_pos c10] at H
     have c10b0:=decide_eq_true c10
     clear c10
     by_cases c11:x7_1<(l0.length:Int)
     ·rw [if_pos c11] at H
      have c11b0:=decide_eq_true c11
      clear c11
      by_cases c12:(rdOf ByteArray.empty l0 x7_1).toList=a1.toList
      ·rw [if_pos c12] at H
       have c12b0:((rdOf ByteArray.empty l0 x7_1).toList == a1.toList)=true:=beq_iff_eq.mpr c12
       have c12b1:((rdOf ByteArray.empty l0 x7_1).toList != a1.toList)=false:=bne_eq_false_iff_eq.mpr c12
       clear c12
       simp only [Option.some.injEq,Prod.mk.injEq] at H
       obtain ⟨rfl,rfl⟩:=H
       have p113:0≤(x7_1:Int):=dt
       have q113:x7_1<(l0.length:Int):=dt
       obtain ⟨ad113,e113,hx113_0⟩:=Kd.zxp HR0.out x7_1 p113 q113
       cases e113
       replace p113:=eq_true p113
       replace q113:=eq_true q113
       go_wp2
       go_ret2
       exact⟨by first|rfl|(simp;done)|(simp [*];done),by repeat(first|exact za.refl _|apply za.step)⟩
      rw [if_neg c12] at H
      have c12b0:((rdOf ByteArray.empty l0 x7_1).toList == a1.toList)=false:=beq_eq_false_iff_ne.mpr c12
      have c12b1:((rdOf ByteArray.empty l0 x7_1).toList != a1.toList)=true:=bne_iff_ne.mpr c12
      replace H:=Option.bind_eq_some_iff.mp H
      obtain ⟨t115,A130,H⟩:=H
      replace H:(if t115=true then((slices_isNaN_string.f a1).bind fun t116=>(some (x7_1,t116))) else (some (x7_1,false)))=some (r1,r2):=H
      have A13:=zq.mk A130
      clear A130
      by_cases c14:t115=true
      ·subst c14
       rw [if_pos rfl] at H
       replace H:=Option.bind_eq_some_iff.mp H
       obtain ⟨t116,A150,H⟩:=H
       replace H:(some (x7_1,t116))=some (r1,r2):=H
       have A15:=zq.mk A150
       clear A150
       simp only [Option.some.injEq,Prod.mk.injEq] at H
       obtain ⟨rfl,rfl⟩:=H
       have p113:0≤(x7_1:Int):=dt
       have q113:x7_1<(l0.length:Int):=dt
       obtain ⟨ad113,e113,hx113_0⟩:=Kd.zxp HR0.out x7_1 p113 q113
       cases e113
       replace p113:=eq_true p113
       replace q113:=eq_true q113
       have p114:0≤(x7_1:Int):=dt
       have q114:x7_1<(l0.length:Int):=dt
       obtain ⟨ad114,e114,hx114_0⟩:=Kd.zxp HR0.out x7_1 p114 q114
       obtain rfl:ad113=ad114:=(by injection e114)
       replace p114:=eq_true p114
       replace q114:=eq_true q114
       go_wp2_with (first|(go_at_call 172;(with_reducible refine(slices_isNaN_string.calls (rdOf ByteArray.empty l0 x7_1) true _ A13.out).mono ?_);rintro e w' ⟨rfl,⟨nd,rfl⟩⟩)|(go_at_call 172;(with_reducible refine(slices_isNaN_string.calls a1 t116 _ A15.out).mono ?_);rintro e w' ⟨rfl,⟨nd,rfl⟩⟩))
       go_ret2
       exact⟨by first|rfl|(simp;done)|(simp [*];done),by repeat(first|exact za.refl _|apply za.step)⟩
      replace c14:=Bool.eq_false_iff.mpr c14
      subst c14
      rw [if_neg (show ¬ (false=true) by decide)] at H
      simp only [Option.some.injEq,Prod.mk.injEq] at H
      obtain ⟨rfl,rfl⟩:=H
      have p113:0≤(x7_1:Int):=dt
      have q113:x7_1<(l0.length:Int):=dt
      obtain ⟨ad113,e113,hx113_0⟩:=Kd.zxp HR0.out x7_1 p113 q113
      cases e113
      replace p113:=eq_true p113
      replace q113:=eq_true q113
      have p114:0≤(x7_1:Int):=dt
      have q114:x7_1<(l0.length:Int):=dt
      obtain ⟨ad114,e114,hx114_0⟩:=Kd.zxp HR0.out x7_1 p114 q114
      obtain rfl:ad113=ad114:=(by injection e114)
      replace p114:=eq_true p114
      replace q114:=eq_true q114
      go_wp2_with (first|(go_at_call 172;(with_reducible refine(slices_isNaN_string.calls (rdOf ByteArray.empty l0 x7_1) false _ A13.out).mono ?_);rintro e w' ⟨rfl,⟨nd,rfl⟩⟩))
      go_ret2
      exact⟨by first|rfl|(simp;done)|(simp [*];done),by repeat(first|exact za.refl _|apply za.step)⟩
     rw [if_neg c11] at H
     exact absurd H (by simp)
    rw [if_neg c10] at H
    exact absurd H (by simp)
   rw [if_neg c9] at H
   have c9b0:=decide_eq_false c9
   clear c9
   simp only [Option.some.injEq,Prod.mk.injEq] at H
   obtain ⟨rfl,rfl⟩:=H
   go_wp2
   go_ret2
   exact⟨by first|rfl|(simp;done)|(simp [*];done),by repeat(first|exact za.refl _|apply za.step)⟩

/-! ### zq6: function 148, by hand -/
-- HAND rounds=1 making=0 laid=1 imports=Derived.Lib.LaidTab,Derived.Lib.LaidU8
def zq6.bytes:List (List UInt8) := [[97,110,100], [98,121], [99,111,117,110,116], [99,114,101,97,116,101], [100,101,108,101,116,101], [100,101,115,99], [102,97,108,115,101], [102,114,111,109], [103,114,111,117,112], [105,110,100,101,120], [105,110,115,101,114,116], [105,110,116], [105,110,116,111], [105,115], [106,111,105,110], [107,101,121], [108,105,109,105,116], [109,97,120], [109,105,110], [110,111,116], [110,117,108,108], [111,110], [111,114], [111,114,100,101,114], [112,114,105,109,97,114,121], [115,101,108,101,99,116], [115,101,116], [115,117,109], [116,97,98,108,101], [116,101,120,116], [116,114,117,101], [116,114,117,116,104], [117,112,100,97,116,101], [118,97,108,117,101,115], [119,104,101,114,101]]
def zq6.words:List ByteArray:=zq6.bytes.map fun l=>⟨l.toArray⟩
def zq6.f (k:Nat) (a0:ByteArray):Option (Bool):=(qq.f k zq6.words a0).map (·.2)
theorem zq6.mono:∀ a0 k,LeO (zq6.f k a0) (zq6.f (k+1) a0):=fun a0 k=>LeO.map _ (qq.mono _ _ _)
theorem zq6.strs {H:Type} {enc:TypeId × Value→H} {P:Program} {w:World} {base:Nat} {sp:Nat→Bool} {held:Bool} {fuel:Nat} {t e:TypeId} {n:Nat} {cs:List Value} {zs:List (List UInt8)} {p:List MemPlace}
  (ht:P.underlying t=some (.array n e)) (he:P.underlying e=some .string) (hce:P.cellsOf e=1) (hct:P.cellsOf t=n)
  (h:DataW.trod enc P w base sp held fuel t cs=some (.agg (zs.map fun z=>.lit (.string z)),p)):cs=zs.map fun z=>Value.string ⟨z.toArray⟩:=by
 cases fuel with
 | zero=>simp [DataW.trod] at h
 | succ fuel=>
  simp only [DataW.trod,ht,hce,hct,Nat.mul_one] at h
  split at h
  ·rename_i hl
   obtain ⟨xs,hm,hx⟩:=Option.map_eq_some_iff.1 h
   have hxs:xs.map (·.1)=zs.map fun z=>(DataW.lit (.string z):DataW H):=by
    have:=congrArg Prod.fst hx
    simpa using this
   have hxl:xs.length=n:=by simpa using Lib.mapM_length hm
   have hzl:zs.length=n:=by
    have:=congrArg List.length hxs
    simp at this
    omega
   apply List.ext_getElem?
   intro i
   by_cases hi:i<n
   ·obtain ⟨b,hb,hf⟩:=Lib.mapM_at hm i i (by simp [hi])
    obtain ⟨z,hc,rfl,_⟩:=DataW.trod_string he hf
    have h1:cs[i]? = some (.string z):=by
     have:=congrArg (·[0]?) hc
     simpa [List.getElem?_take,List.getElem?_drop] using this
    have h2:(xs.map (·.1))[i]? = some (DataW.lit (.string z.data.toList):DataW H):=by simp [hb]
    rw [hxs] at h2
    simp only [List.getElem?_map,Option.map_eq_some_iff,DataW.lit.injEq,Lit.string.injEq] at h2
    obtain ⟨z',hz',e'⟩:=h2
    subst e'
    simp [h1,hz']
   rw [List.getElem?_eq_none (by omega),List.getElem?_eq_none (by simp;omega)]
  cases h
theorem LD.kept {w:World} (h:LD w):Kd.C Kd.string w (some ⟨2,0,none⟩) 35 zq6.words:=by
 obtain ⟨L0,h1,h2⟩:=h
 obtain ⟨g,t,cs,fuel,p,hg,ht,hv,hd⟩:=Lib.laidMet.reads h1 LD.in_commonhold_parse_kept
 have hg' : Tryd.prog.globalNamed "commonhold/parse.kept" = some 2 := by kernel_rfl
 obtain rfl:=Option.some.inj (hg'.symm.trans hg)
 have ht':(Tryd.prog.globals[(2:Nat)]?).map (·.type)=some 185:=by kernel_rfl
 obtain rfl:=Option.some.inj (ht'.symm.trans ht)
 rw [show(Rows.laid_commonhold_parse_kept:DataW Unit) = .agg (zq6.bytes.map fun z=>.lit (.string z)) by kernel_rfl] at hd
 have hc:=zq6.strs (n:=35) (e:=9) (by kernel_rfl) (by kernel_rfl) (by kernel_rfl) (by kernel_rfl) hd
 have hv2 : L0.var? Tryd.prog "commonhold/parse.kept" = some (zq6.bytes.map fun z => Value.string ⟨z.toArray⟩).toArray := by rw [hv, ← hc]
 refine Kd.qu ⟨rfl,by decide,fun _=>⟨_,rfl,fun j q hq=>⟨[.string q],rfl,rfl,fun i u hu=>?_⟩⟩⟩ h2
 obtain rfl:i=0:=by
  rcases i with _|i
  ·rfl
  simp at hu
 obtain rfl:Value.string q=u:=by simpa using hu
 have hj:j<35:=(List.getElem?_eq_some_iff.1 hq).1
 have:=World.var?_cell hg' hv2 j
 rw [show(⟨2,0,none⟩:Addr).add (j * Kd.string.sz+0)=⟨2,j,none⟩ from by rw [add_plain];show(⟨_,j * 1+0,none⟩:Addr)=_;simp]
 rw [this]
 unfold zq6.words at hq
 simp only [List.getElem?_map,Option.map_eq_some_iff] at hq
 obtain ⟨z,hz,rfl⟩:=hq
 simp [hz]
theorem zq6.search (k:Nat) (a0:ByteArray) (i:Int) (b:Bool) (w:World) (hL:LD w) (h:qq.f k zq6.words a0=some (i,b)) :
  Calls Tryd.prog 164 #[.slice (some ⟨2,0,none⟩) 35 35,.string a0] w fun e w'=>e = .returned (.tuple #[.int .i64 i,.bool b])∧za w w':=
 qq.calls k (some ⟨2,0,none⟩) 35 zq6.words a0 i b w hL.kept (by decide) h
set_option maxRecDepth 100000 in
set_option maxHeartbeats 2000000 in
theorem zq6.calls (k:Nat) (a0:ByteArray) (r:Bool) (w:World) (hL:LD w) (h:zq6.f k a0=some r) :
  Calls Tryd.prog 148 #[.string a0] w fun e w'=>e = .returned (.bool r)∧za w w':=by
 obtain ⟨⟨i,b⟩,hs,rfl⟩:=Option.map_eq_some_iff.1 h
 have HL:=zq.mk hL
 have HS:=zq.mk hs
 clear h hs hL
 go_enter Tryd.func148,Tryd.ntmps148
 go_wp2_with (go_at_call 164;(with_reducible refine(zq6.search k a0 i b _ HL.out HS.out).mono ?_);rintro e w' ⟨rfl,⟨nd,rfl⟩⟩)
 go_ret
 exact⟨rfl,⟨nd,rfl⟩⟩

/-! ### zjd: function 119 -/
def zjd.f (k:Nat) (a0:ByteArray):Option (Bool):=(zxy.f k 1 0 a0).bind fun t117=>(if t117=true then((zq6.f k a0).bind fun t118=>(some (!t118))) else (some false))
theorem zjd.mono:∀ a0 k,LeO (zjd.f k a0) (zjd.f (k+1) a0):=by
 intro a0 k
 unfold zjd.f
 repeat' first
   | (with_reducible first|exact zxy.mono _ _ _ _|exact zq6.mono _ _|exact LeO.refl _|exact LeO.none _|refine LeO.ite ?_ ?_|refine LeO.bind ?_ (fun _=>?_))
   | exact zxy.mono _ _ _ _
   | exact zq6.mono _ _
   | exact LeO.none _
   | refine LeO.ite ?_ ?_
   | refine LeO.bind ?_ (fun _=>?_)
set_option maxHeartbeats 8000000 in
set_option maxRecDepth 100000 in
theorem zjd.calls (k:Nat) (a0:ByteArray) (r:Bool) (w:World) (hL:LD w) (h:zjd.f k a0=some r) :
  Calls Tryd.prog 119 #[.string a0] w fun e w'=>e = .returned (.bool r)∧Below w.heap.size w w':=by
 have hu158:=Tryd.underlying158
 have HLD:=zq.mk hL
 clear hL
 have HB:=zq.mk (Below.refl w.heap.size w)
 have H:((zxy.f k 1 0 a0).bind fun t117=>(if t117=true then((zq6.f k a0).bind fun t118=>(some (!t118))) else (some false)))=some r:=h
 clear h
 replace H:=Option.bind_eq_some_iff.mp H
 obtain ⟨t117,A20,H⟩:=H
 replace H:(if t117=true then((zq6.f k a0).bind fun t118=>(some (!t118))) else (some false))=some r:=H
 have A2:=zq.mk A20
 clear A20
 by_cases c3:t117=true
 ·subst c3
  rw [if_pos rfl] at H
  replace H:=Option.bind_eq_some_iff.mp H
  obtain ⟨t118,A40,H⟩:=H
  replace H:(some (!t118))=some r:=H
  have A4:=zq.mk A40
  clear A40
  obtain rfl:=Option.some.inj H
  go_enter Tryd.func119,Tryd.ntmps119
  go_wp2_with (first|((with_reducible refine qh (f:=147) rfl ?_);refine zqn (some 5) rfl rfl Tryd.func147 (by kernel_rfl) rfl #[.agg #[.int .i64 1,.int .i64 0,.string a0]] rfl gs ?_;(with_reducible refine(zxy.calls k 1 0 a0 true _ ?side1 A2.out).mono ?_);(case side1=>exact LD.below HLD.out (by first|(with_reducible exact Below.refl _ _)|((repeat(first|(with_reducible exact Below.refl _ _)|(with_reducible apply zl)|(with_reducible apply zr)|(with_reducible apply qx)));done)|exact bw));rintro e w5 ⟨rfl,hb⟩;refine⟨_,rfl,?_⟩;replace HB:=zq.mk (zn bw hb);(try clear hb);(try clear hb2);(try clear hk);(try clear hi))|(go_at_call 148;(with_reducible refine(zq6.calls k a0 t118 _ ?side1 A4.out).mono ?_);(case side1=>exact LD.below HLD.out (by first|(with_reducible exact Below.refl _ _)|((repeat(first|(with_reducible exact Below.refl _ _)|(with_reducible apply zl)|(with_reducible apply zr)|(with_reducible apply qx)));done)|exact bw));rintro e w' ⟨rfl,⟨nd,rfl⟩⟩))
  go_ret
  exact⟨by first|rfl|(simp [zg,zy] <;> rfl)|(simp [*,zg,zy] <;> rfl),bw⟩
 replace c3:=Bool.eq_false_iff.mpr c3
 subst c3
 rw [if_neg (show ¬ (false=true) by decide)] at H
 obtain rfl:=Option.some.inj H
 go_enter Tryd.func119,Tryd.ntmps119
 go_wp2_with (first|((with_reducible refine qh (f:=147) rfl ?_);refine zqn (some 5) rfl rfl Tryd.func147 (by kernel_rfl) rfl #[.agg #[.int .i64 1,.int .i64 0,.string a0]] rfl gs ?_;(with_reducible refine(zxy.calls k 1 0 a0 false _ ?side1 A2.out).mono ?_);(case side1=>exact LD.below HLD.out (by first|(with_reducible exact Below.refl _ _)|((repeat(first|(with_reducible exact Below.refl _ _)|(with_reducible apply zl)|(with_reducible apply zr)|(with_reducible apply qx)));done)|exact bw));rintro e w6 ⟨rfl,hb⟩;refine⟨_,rfl,?_⟩;replace HB:=zq.mk (zn bw hb);(try clear hb);(try clear hb2);(try clear hk);(try clear hi)))
 go_ret
 exact⟨by first|rfl|(simp [zg,zy] <;> rfl)|(simp [*,zg,zy] <;> rfl),bw⟩

/-! ### qa: function 120, by hand -/
-- HAND rounds=0 making=1 imports=Derived.Maps.Own,Derived.Maps.OwnOps,Derived.Maps.Views
def qa.f (l0:List ByteArray):Option Bool:=if(∀ x ∈ l0,x.size≤9223372036854775807)∧l0.length≤9223372036854775807 then some (decide l0.Nodup) else none
def qa.Sees (D:DataW Unit) (xs:List ByteArray):Prop:=Go.Maps.IsMap D ∧ ∀ (x:ByteArray) (c:Int),D.atKey (.string x.data.toList) (.lit (.int .i64 0)) = .lit (.int .i64 c)→(0<c ↔ x ∈ xs)
theorem qa.sees_nil:qa.Sees (.map []) []:=by
 refine⟨Go.Maps.isMap_empty,fun x c h=>?_⟩
 have e:(DataW.map []:DataW Unit).atKey (.string x.data.toList) (.lit (.int .i64 0)) = .lit (.int .i64 0):=rfl
 rw [e] at h
 injection h with h
 injection h with _ h
 subst h
 simp
theorem qa.sees_put {D:DataW Unit} {xs:List ByteArray} (h:qa.Sees D xs) (x:ByteArray) (m:Int) (hm:0<m):qa.Sees (D.put (.string x.data.toList) (.lit (.int .i64 m))) (xs ++ [x]):=by
 refine⟨h.1.put _ _,fun y c hc=>?_⟩
 by_cases e:y=x
 ·subst e
  rw [Go.Maps.atKey_put_same h.1 (by first|exact trivial|rfl|decide|simp [WideAt.IsKeyLit])] at hc
  injection hc with hc
  injection hc with _ hc
  subst hc
  simp [hm]
 rw [Go.Maps.atKey_put_other (fun q=>e (by injection q with q;exact ByteArray.ext (Array.ext' q)))] at hc
 rw [h.2 y c hc]
 simp [e]
theorem qa.take_at (l:List ByteArray) (i:Nat) (h:i<l.length):l.take (i+1)=l.take i ++ [l[i]]:=List.take_succ_eq_append_getElem h
theorem qa.nodup_at (l:List ByteArray) (i:Nat) (h:i<l.length) (hm:l[i] ∉ l.take i) (hn:(l.take i).Nodup):(l.take (i+1)).Nodup:=by
 rw [qa.take_at l i h,List.nodup_append]
 exact⟨hn,by simp,fun a ha b hb=>by simp at hb;subst hb;exact fun q=>hm (q ▸ ha)⟩
theorem qa.twice_at (l:List ByteArray) (i:Nat) (h:i<l.length) (hm:l[i] ∈ l.take i):¬ l.Nodup:=by
 intro hn
 have h1:=qa.take_at l i h ▸ hn.sublist (List.take_sublist (i+1) l)
 rw [List.nodup_append] at h1
 exact h1.2.2 _ hm _ (by simp) rfl
theorem qa.zero (w:World):(zeroValue 3).run Tryd.prog w = .ok (.int .i64 0) w:=by kernel_rfl
set_option maxRecDepth 100000 in
set_option maxHeartbeats 2000000 in
theorem qa.calls (A0:Option Addr) (c0:Nat) (l0:List ByteArray) (r:Bool) (w:World) (hr0:Kd.C Kd.string w A0 l0.length l0) (hc0:l0.length≤c0) (h:qa.f l0=some r) :
  Calls Tryd.prog 120 #[.slice A0 l0.length c0] w fun e w'=>e = .returned (.bool r)∧Below w.heap.size w w':=by
 unfold qa.f at h
 split at h
 rotate_left
 ·cases h
 rename_i hb
 obtain rfl:=Option.some.inj h
 obtain ⟨hw,hm⟩:=hb
 have HW:=zq.mk hw
 have HR:=zq.mk hr0
 clear h hr0 hw
 have hmm := @run_makeMap Tryd.prog
 go_enter Tryd.func120,Tryd.ntmps120
 go_wp2
 go_loopw [9] (fun i wr => ∃ k:Nat,k≤l0.length∧i = .int .i64 k∧zq (∃ D:DataW Unit,wr.ownsMap Tryd.prog 9 (plainElem Tryd.prog 3) w.heap.size k D∧qa.Sees D (l0.take k))∧zq ((l0.take k).Nodup)∧zq (Below w.heap.size w wr))
  (fun i _=>l0.length - (intOf i).toNat)
 case atStart=>exact⟨0,Nat.zero_le _,rfl,⟨_,World.ownsMap_made _ _ _ _,qa.sees_nil⟩,⟨by simp⟩,⟨zl (Below.refl _ _) _⟩⟩
 case round=>
  obtain ⟨k,hk,rfl,HD,HN,HB⟩:=hrel
  by_cases hlt:k<l0.length
  ·obtain ⟨D,hown,hsee⟩:=HD.out
   have HS:=zq.mk hsee
   obtain ⟨ad,e1,hc'⟩:=Kd.zxp (Kd.qu HR.out HB.out) (k:Int) (by omega) (by omega)
   have ex:rdOf ByteArray.empty l0 (k:Int)=l0[k]:=by simp [rdOf,List.getD_eq_getElem?_getD,hlt]
   have hkey:keyOf Tryd.prog 9 (.string l0[k])=some (.string l0[k].data.toList):=WideMaps.keyOf_string_mk Tryd.underlying9 (by unfold maxLen;exact HW.out _ (List.getElem_mem hlt))
   have HK:=zq.mk hkey
   rw [ex] at hc'
   have HX:zq (l0.take (k+1)=l0.take k ++ [l0[k]]):=⟨qa.take_at l0 k hlt⟩
   have HP:zq (l0[k] ∉ l0.take k→(l0.take (k+1)).Nodup):=⟨fun q=>qa.nodup_at l0 k hlt q HN.out⟩
   have HQ:zq (l0[k] ∈ l0.take k → ¬ l0.Nodup):=⟨fun q=>qa.twice_at l0 k hlt q⟩
   clear hsee ex hkey HD
   simp only [Int.toNat_natCast] at hc'
   generalize l0[k]=x at *
   subst e1
   by_cases hmem:x ∈ l0.take k
   ·have HM:=zq.mk hmem
    clear hmem
    go_wp2_with (first
     | (at_lookup;refine wpList_lookup_own_int _ rfl _ _ 171 rfl 9 3 .i64 (Go.Maps.string_keyed Tryd.underlying9) Tryd.underlying171 Tryd.underlying3 (qa.zero _) w.heap.size k _ rfl hown _ _ rfl HK.out ?_;intro c hat hwc;have hcp:(0:Int)<c:=(HS.out.2 _ _ hat).2 HM.out;clear hat hwc))
    go_ret
    exact⟨congrArg (fun b=>Ending.returned (.bool b)) (decide_eq_false (HQ.out HM.out)).symm,HB.out⟩
   have HM:=zq.mk hmem
   clear hmem
   go_wp2_with (first
    | (at_lookup;refine wpList_lookup_own_int _ rfl _ _ 171 rfl 9 3 .i64 (Go.Maps.string_keyed Tryd.underlying9) Tryd.underlying171 Tryd.underlying3 (qa.zero _) w.heap.size k _ rfl hown _ _ rfl HK.out ?_;intro c hat hwc;have hcp:¬ (0:Int)<c:=(fun q=>HM.out ((HS.out.2 _ _ hat).1 q));clear hat hwc)
    | (at_mapUpdate;refine wpList_mapUpdate_own _ rfl _ _ _ 171 rfl 9 3 (Go.Maps.string_keyed Tryd.underlying9) Tryd.underlying171 _ w.heap.size k _ rfl hown (by unfold maxLen;omega) _ _ _ rfl rfl HK.out _ [] (plainElem_int Tryd.underlying3 (WalkArith.wf_i64 (by omega))) ?_;intro w1 hown1 hgrow1;have HO:=zq.mk hown1;have HG:=zq.mk hgrow1;clear hown1 hgrow1))
   go_roundw
   case rel=>exact⟨k+1,by omega,by go_num,⟨_,HO.out,by rw [HX.out];exact qa.sees_put HS.out x _ (by omega)⟩,⟨HP.out HM.out⟩,⟨HB.out.grown HG.out HB.out.size (fun j hj=>by cases hj;exact Nat.le_refl _)⟩⟩
   case measure=>simp [intOf];omega
  obtain rfl:k=l0.length:=by omega
  have hn:=HN.out
  rw [List.take_length] at hn
  have HN2:=zq.mk hn
  clear hn HD
  go_wp2
  go_ret
  exact⟨congrArg (fun b=>Ending.returned (.bool b)) (decide_eq_true HN2.out).symm,HB.out⟩

/-! ### qo: function 93 -/
def qo.l0:Nat→List ByteArray→List ByteArray→Int→Int→Option (Bool)
 | 0,_,_,_,_=>none
 | k+1,x0,x5,x6,x7=>if x7<x6 then(if 0≤x7 then(if x7<(x5.length:Int) then((zjd.f k (rdOf ByteArray.empty x5 x7)).bind fun t120=>(if t120=true then(qo.l0 k x0 x5 x6 (wrap64 (x7+1))) else (some false))) else (none)) else (none)) else ((qa.f x0).bind fun t121=>(some t121))
def qo.f (k:Nat) (l0:List ByteArray):Option (Bool):=qo.l0 k l0 l0 (l0.length:Int) 0
theorem qo.mono_l:∀ k,(∀ y0 y1 y2 y3,LeO (qo.l0 k y0 y1 y2 y3) (qo.l0 (k+1) y0 y1 y2 y3))
 | 0=>fun _ _ _ _ r h=>by simp [qo.l0] at h
 | k+1=>by
  have ih0:=qo.mono_l k
  intro y0 y1 y2 y3
  unfold qo.l0
  repeat' first
  | (with_reducible first|exact ih0 _ _ _ _|exact zjd.mono _ _|exact LeO.refl _|exact LeO.none _|refine LeO.ite ?_ ?_|refine LeO.bind ?_ (fun _=>?_))
  | exact ih0 _ _ _ _
  | exact zjd.mono _ _
  | exact LeO.none _
  | refine LeO.ite ?_ ?_
  | refine LeO.bind ?_ (fun _=>?_)
theorem qo.mono:∀ a0 k,LeO (qo.f k a0) (qo.f (k+1) a0):=by
 intro a0 k
 have ih0:=qo.mono_l k
 unfold qo.f
 repeat' first
   | (with_reducible first|exact ih0 _ _ _ _|exact zjd.mono _ _|exact LeO.refl _|exact LeO.none _|refine LeO.ite ?_ ?_|refine LeO.bind ?_ (fun _=>?_))
   | exact ih0 _ _ _ _
   | exact zjd.mono _ _
   | exact LeO.none _
   | refine LeO.ite ?_ ?_
   | refine LeO.bind ?_ (fun _=>?_)
set_option maxHeartbeats 8000000 in
set_option maxRecDepth 100000 in
theorem qo.calls (k:Nat) (A0:Option Addr) (c0:Nat) (l0:List ByteArray) (r:Bool) (w:World) (hr0:Kd.C Kd.string w A0 l0.length l0) (hc0:l0.length≤c0) (hL:LD w) (h:qo.f k l0=some r) :
  Calls Tryd.prog 93 #[.slice A0 l0.length c0] w fun e w'=>e = .returned (.bool r)∧Below w.heap.size w w':=by
 have HLD:=zq.mk hL
 clear hL
 have HR0:=zq.mk hr0
 have HC0:=zq.mk hc0
 clear hr0 hc0
 have HB:=zq.mk (Below.refl w.heap.size w)
 have H:(qo.l0 k l0 l0 (l0.length:Int) 0)=some r:=h
 clear h
 have H':=zq.mk H
 clear H
 go_enter Tryd.func93,Tryd.ntmps93
 go_wp2
 go_loopg [7] k (fun kq v7 w' => ∃ (x7_1:Int),v7 = .int .i64 x7_1∧zq (qo.l0 kq l0 l0 (l0.length:Int) x7_1=some r)∧zq (kq≤k)∧zq (Below w.heap.size w w'))
 case atStart=>exact⟨(0),vr,H',⟨Nat.le_refl _⟩,⟨bw⟩⟩
 case round=>
  clear H'
  obtain ⟨x7_1,rfl,HA,HK1,HB⟩:=hrel
  cases gk with
  | zero=>exact absurd HA.out (by simp [qo.l0])
  | succ k1=>
   have H:=HA.out
   clear HA
   simp only [qo.l0] at H
   by_cases c2:x7_1<(l0.length:Int)
   ·rw [if_pos c2] at H
    have c2b0:=decide_eq_true c2
    clear c2
    by_cases c3:0≤x7_1
    ·rw [if_pos c3] at H
     have c3b0:=decide_eq_true c3
     clear c3
     by_cases c4:x7_1<(l0.length:Int)
     ·rw [if_pos c4] at H
      have c4b0:=decide_eq_true c4
      clear c4
      replace H:=Option.bind_eq_some_iff.mp H
      obtain ⟨t120,A50,H⟩:=H
      replace H:(if t120=true then(qo.l0 k1 l0 l0 (l0.length:Int) (wrap64 (x7_1+1))) else (some false))=some r:=H
      have A5:=zq.mk A50
      clear A50
      by_cases c6:t120=true
      ·subst c6
       rw [if_pos rfl] at H
       have H':=zq.mk H
       clear H
       have p119:0≤(x7_1:Int):=dt
       have q119:x7_1<(l0.length:Int):=dt
       obtain ⟨ad119,e119,hx119_0⟩:=Kd.zxp HR0.out x7_1 p119 q119
       cases e119
       replace hx119_0:=(HB.out.cell (World.block_lt_of_cell? w _ hx119_0)).trans hx119_0
       replace p119:=eq_true p119
       replace q119:=eq_true q119
       go_wp2_with (first|((with_reducible refine qh (f:=119) rfl ?_);refine zqn (some 12) rfl rfl Tryd.func119 (by kernel_rfl) rfl #[.string (rdOf ByteArray.empty l0 x7_1)] rfl gs ?_;(with_reducible refine(zjd.calls k1 (rdOf ByteArray.empty l0 x7_1) true _ ?side1 A5.out).mono ?_);(case side1=>exact LD.below HLD.out (by first|(with_reducible exact Below.refl _ _)|((repeat(first|(with_reducible exact Below.refl _ _)|(with_reducible apply zl)|(with_reducible apply zr)|(with_reducible apply qx)));done)|exact bw));rintro e w7 ⟨rfl,hb⟩;refine⟨_,rfl,?_⟩;replace HB:=zq.mk (zn bw hb);(try clear hb);(try clear hb2);(try clear hk);(try clear hi)))
       go_roundg k1
       case measure=>have:=HK1.out;omega
       case rel=>exact⟨(wrap64 (x7_1+1)),vr,H',⟨by have:=HK1.out;omega⟩,⟨bw⟩⟩
      replace c6:=Bool.eq_false_iff.mpr c6
      subst c6
      rw [if_neg (show ¬ (false=true) by decide)] at H
      obtain rfl:=Option.some.inj H
      have p119:0≤(x7_1:Int):=dt
      have q119:x7_1<(l0.length:Int):=dt
      obtain ⟨ad119,e119,hx119_0⟩:=Kd.zxp HR0.out x7_1 p119 q119
      cases e119
      replace hx119_0:=(HB.out.cell (World.block_lt_of_cell? w _ hx119_0)).trans hx119_0
      replace p119:=eq_true p119
      replace q119:=eq_true q119
      go_wp2_with (first|((with_reducible refine qh (f:=119) rfl ?_);refine zqn (some 12) rfl rfl Tryd.func119 (by kernel_rfl) rfl #[.string (rdOf ByteArray.empty l0 x7_1)] rfl gs ?_;(with_reducible refine(zjd.calls k1 (rdOf ByteArray.empty l0 x7_1) false _ ?side1 A5.out).mono ?_);(case side1=>exact LD.below HLD.out (by first|(with_reducible exact Below.refl _ _)|((repeat(first|(with_reducible exact Below.refl _ _)|(with_reducible apply zl)|(with_reducible apply zr)|(with_reducible apply qx)));done)|exact bw));rintro e w8 ⟨rfl,hb⟩;refine⟨_,rfl,?_⟩;replace HB:=zq.mk (zn bw hb);(try clear hb);(try clear hb2);(try clear hk);(try clear hi)))
      go_ret
      exact⟨by first|rfl|(simp [zg,zy] <;> rfl)|(simp [*,zg,zy] <;> rfl),bw⟩
     rw [if_neg c4] at H
     exact absurd H (by simp)
    rw [if_neg c3] at H
    exact absurd H (by simp)
   rw [if_neg c2] at H
   have c2b0:=decide_eq_false c2
   clear c2
   replace H:=Option.bind_eq_some_iff.mp H
   obtain ⟨t121,A90,H⟩:=H
   replace H:(some t121)=some r:=H
   have A9:=zq.mk A90
   clear A90
   obtain rfl:=Option.some.inj H
   go_wp2_with (first|((with_reducible refine qh (f:=120) rfl ?_);refine zqn (some 16) rfl rfl Tryd.func120 (by kernel_rfl) rfl #[.slice A0 l0.length c0] rfl gs ?_;(with_reducible refine(qa.calls _ _ l0 t121 _ ?side1 ?side2 A9.out).mono ?_);(case side1=>exact Kd.cu (Kd.qu HR0.out HB.out));(case side2=>exact HC0.out);rintro e w10 ⟨rfl,hb⟩;refine⟨_,rfl,?_⟩;replace HB:=zq.mk (zn bw hb);(try clear hb);(try clear hb2);(try clear hk);(try clear hi)))
   go_ret
   exact⟨by first|rfl|(simp [zg,zy] <;> rfl)|(simp [*,zg,zy] <;> rfl),bw⟩

/-! ### zqg: function 146, by hand -/
-- HAND rounds=0 making=1 imports=Derived.Maps.Own,Derived.Maps.OwnOps,Derived.Maps.Views
def zqg.f (l0:List Int):Option Bool:=if(∀ x ∈ l0, -9223372036854775808≤x∧x≤9223372036854775807)∧l0.length≤9223372036854775807 then some (decide l0.Nodup) else none
def zqg.Sees (D:DataW Unit) (xs:List Int):Prop:=Go.Maps.IsMap D ∧ ∀ (x:Int) (c:Int),D.atKey (.int .i64 x) (.lit (.int .i64 0)) = .lit (.int .i64 c)→(0<c ↔ x ∈ xs)
theorem zqg.sees_nil:zqg.Sees (.map []) []:=by
 refine⟨Go.Maps.isMap_empty,fun x c h=>?_⟩
 have e:(DataW.map []:DataW Unit).atKey (.int .i64 x) (.lit (.int .i64 0)) = .lit (.int .i64 0):=rfl
 rw [e] at h
 injection h with h
 injection h with _ h
 subst h
 simp
theorem zqg.sees_put {D:DataW Unit} {xs:List Int} (h:zqg.Sees D xs) (x:Int) (m:Int) (hm:0<m):zqg.Sees (D.put (.int .i64 x) (.lit (.int .i64 m))) (xs ++ [x]):=by
 refine⟨h.1.put _ _,fun y c hc=>?_⟩
 by_cases e:y=x
 ·subst e
  rw [Go.Maps.atKey_put_same h.1 (by first|exact trivial|rfl|decide|simp [WideAt.IsKeyLit])] at hc
  injection hc with hc
  injection hc with _ hc
  subst hc
  simp [hm]
 rw [Go.Maps.atKey_put_other (fun q=>e (by injection q))] at hc
 rw [h.2 y c hc]
 simp [e]
theorem zqg.take_at (l:List Int) (i:Nat) (h:i<l.length):l.take (i+1)=l.take i ++ [l[i]]:=List.take_succ_eq_append_getElem h
theorem zqg.nodup_at (l:List Int) (i:Nat) (h:i<l.length) (hm:l[i] ∉ l.take i) (hn:(l.take i).Nodup):(l.take (i+1)).Nodup:=by
 rw [zqg.take_at l i h,List.nodup_append]
 exact⟨hn,by simp,fun a ha b hb=>by simp at hb;subst hb;exact fun q=>hm (q ▸ ha)⟩
theorem zqg.twice_at (l:List Int) (i:Nat) (h:i<l.length) (hm:l[i] ∈ l.take i):¬ l.Nodup:=by
 intro hn
 have h1:=zqg.take_at l i h ▸ hn.sublist (List.take_sublist (i+1) l)
 rw [List.nodup_append] at h1
 exact h1.2.2 _ hm _ (by simp) rfl
theorem zqg.zero (w:World):(zeroValue 3).run Tryd.prog w = .ok (.int .i64 0) w:=by kernel_rfl
set_option maxRecDepth 100000 in
set_option maxHeartbeats 2000000 in
theorem zqg.calls (A0:Option Addr) (c0:Nat) (l0:List Int) (r:Bool) (w:World) (hr0:Kd.C (Kd.int .i64) w A0 l0.length l0) (hc0:l0.length≤c0) (h:zqg.f l0=some r) :
  Calls Tryd.prog 146 #[.slice A0 l0.length c0] w fun e w'=>e = .returned (.bool r)∧Below w.heap.size w w':=by
 unfold zqg.f at h
 split at h
 rotate_left
 ·cases h
 rename_i hb
 obtain rfl:=Option.some.inj h
 obtain ⟨hw,hm⟩:=hb
 have HW:=zq.mk hw
 have HR:=zq.mk hr0
 clear h hr0 hw
 have hmm := @run_makeMap Tryd.prog
 go_enter Tryd.func146,Tryd.ntmps146
 go_wp2
 go_loopw [9] (fun i wr => ∃ k:Nat,k≤l0.length∧i = .int .i64 k∧zq (∃ D:DataW Unit,wr.ownsMap Tryd.prog 3 (plainElem Tryd.prog 3) w.heap.size k D∧zqg.Sees D (l0.take k))∧zq ((l0.take k).Nodup)∧zq (Below w.heap.size w wr))
  (fun i _=>l0.length - (intOf i).toNat)
 case atStart=>exact⟨0,Nat.zero_le _,rfl,⟨_,World.ownsMap_made _ _ _ _,zqg.sees_nil⟩,⟨by simp⟩,⟨zl (Below.refl _ _) _⟩⟩
 case round=>
  obtain ⟨k,hk,rfl,HD,HN,HB⟩:=hrel
  by_cases hlt:k<l0.length
  ·obtain ⟨D,hown,hsee⟩:=HD.out
   have HS:=zq.mk hsee
   obtain ⟨ad,e1,hc'⟩:=Kd.zjb (Kd.qu HR.out HB.out) (k:Int) (by omega) (by omega)
   have ex:rd l0 (k:Int)=l0[k]:=by simp [rd,List.getD_eq_getElem?_getD,hlt]
   have hkey:keyOf Tryd.prog 3 (.int .i64 l0[k])=some (.int .i64 l0[k]):=Go.Maps.keyOf_int_mk Tryd.underlying3 (WalkArith.wf_i64 (HW.out _ (List.getElem_mem hlt)))
   have HK:=zq.mk hkey
   rw [ex] at hc'
   have HX:zq (l0.take (k+1)=l0.take k ++ [l0[k]]):=⟨zqg.take_at l0 k hlt⟩
   have HP:zq (l0[k] ∉ l0.take k→(l0.take (k+1)).Nodup):=⟨fun q=>zqg.nodup_at l0 k hlt q HN.out⟩
   have HQ:zq (l0[k] ∈ l0.take k → ¬ l0.Nodup):=⟨fun q=>zqg.twice_at l0 k hlt q⟩
   clear hsee ex hkey HD
   simp only [Int.toNat_natCast] at hc'
   generalize l0[k]=x at *
   subst e1
   by_cases hmem:x ∈ l0.take k
   ·have HM:=zq.mk hmem
    clear hmem
    go_wp2_with (first
     | (at_lookup;refine wpList_lookup_own_int _ rfl _ _ 181 rfl 3 3 .i64 (Go.Maps.int_keyed Tryd.underlying3) Tryd.underlying181 Tryd.underlying3 (zqg.zero _) w.heap.size k _ rfl hown _ _ rfl HK.out ?_;intro c hat hwc;have hcp:(0:Int)<c:=(HS.out.2 _ _ hat).2 HM.out;clear hat hwc))
    go_ret
    exact⟨congrArg (fun b=>Ending.returned (.bool b)) (decide_eq_false (HQ.out HM.out)).symm,HB.out⟩
   have HM:=zq.mk hmem
   clear hmem
   go_wp2_with (first
    | (at_lookup;refine wpList_lookup_own_int _ rfl _ _ 181 rfl 3 3 .i64 (Go.Maps.int_keyed Tryd.underlying3) Tryd.underlying181 Tryd.underlying3 (zqg.zero _) w.heap.size k _ rfl hown _ _ rfl HK.out ?_;intro c hat hwc;have hcp:¬ (0:Int)<c:=(fun q=>HM.out ((HS.out.2 _ _ hat).1 q));clear hat hwc)
    | (at_mapUpdate;refine wpList_mapUpdate_own _ rfl _ _ _ 181 rfl 3 3 (Go.Maps.int_keyed Tryd.underlying3) Tryd.underlying181 _ w.heap.size k _ rfl hown (by unfold maxLen;omega) _ _ _ rfl rfl HK.out _ [] (plainElem_int Tryd.underlying3 (WalkArith.wf_i64 (by omega))) ?_;intro w1 hown1 hgrow1;have HO:=zq.mk hown1;have HG:=zq.mk hgrow1;clear hown1 hgrow1))
   go_roundw
   case rel=>exact⟨k+1,by omega,by go_num,⟨_,HO.out,by rw [HX.out];exact zqg.sees_put HS.out x _ (by omega)⟩,⟨HP.out HM.out⟩,⟨HB.out.grown HG.out HB.out.size (fun j hj=>by cases hj;exact Nat.le_refl _)⟩⟩
   case measure=>simp [intOf];omega
  obtain rfl:k=l0.length:=by omega
  have hn:=HN.out
  rw [List.take_length] at hn
  have HN2:=zq.mk hn
  clear hn HD
  go_wp2
  go_ret
  exact⟨congrArg (fun b=>Ending.returned (.bool b)) (decide_eq_true HN2.out).symm,HB.out⟩

end Go.Proofs.YthhejedfjgikdaaDoor.PRowReads
