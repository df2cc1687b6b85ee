-- Written by wip/pp of this repo (over the kit's print, with additions of this session); Lean checks every line.
import Derived.Test.YtkgllmjlhaimcaaDoorPEvalEvalsx11
namespace Go.Proofs.YtkgllmjlhaimcaaDoor.PEvalEvals
open Go.RowKit Go.Proofs.YtkgllmjlhaimcaaDoorW.PrintWords Go.Proofs.YtkgllmjlhaimcaaDoorW.PrintLast Go.Proofs.YtkgllmjlhaimcaaDoorW.PrintMore
attribute [local go_sem] zje zjc zjo zjn zq4 zq3 zjd zjb   -- for this text's walks alone
set_option linter.unusedVariables false
set_option linter.unusedSimpArgs false

/-! ### zjf: function 57 -/
def zjf.f (a0:Int) (a1:Int):Option (Int × Int):=(zi.f a0).bind fun t219=>((zi.f a1).bind fun t220=>(if((decide (a0<0)) == (decide (a1<0)))=true then(if(IntKind.u64.wrap (t219+t220))<t219 then(some (0,10)) else ((za.f (IntKind.u64.wrap (t219+t220)) (decide (a0<0))).bind fun bt221=>(some (bt221.1,bt221.2)))) else (if t219 ≥ t220 then((za.f (IntKind.u64.wrap (t219 - t220)) (decide (a0<0))).bind fun bt223=>(some (bt223.1,bt223.2))) else ((za.f (IntKind.u64.wrap (t220 - t219)) (decide (a1<0))).bind fun bt225=>(some (bt225.1,bt225.2))))))
set_option maxHeartbeats 8000000 in
set_option maxRecDepth 100000 in
theorem zjf.calls (a0:Int) (a1:Int) (r1:Int) (r2:Int) (w:World) (h:zjf.f a0 a1=some (r1,r2)) :
  Calls Tryd.prog 57 #[.int .i64 a0,.int .i64 a1] w fun e w'=>e = .returned (.tuple #[.int .i64 r1,.int .i64 r2])∧zu w w':=by
 have H:((zi.f a0).bind fun t219=>((zi.f a1).bind fun t220=>(if((decide (a0<0)) == (decide (a1<0)))=true then(if(IntKind.u64.wrap (t219+t220))<t219 then(some (0,10)) else ((za.f (IntKind.u64.wrap (t219+t220)) (decide (a0<0))).bind fun bt221=>(some (bt221.1,bt221.2)))) else (if t219 ≥ t220 then((za.f (IntKind.u64.wrap (t219 - t220)) (decide (a0<0))).bind fun bt223=>(some (bt223.1,bt223.2))) else ((za.f (IntKind.u64.wrap (t220 - t219)) (decide (a1<0))).bind fun bt225=>(some (bt225.1,bt225.2)))))))=some (r1,r2):=h
 clear h
 replace H:=Option.bind_eq_some_iff.mp H
 obtain ⟨t219,A30,H⟩:=H
 replace H:((zi.f a1).bind fun t220=>(if((decide (a0<0)) == (decide (a1<0)))=true then(if(IntKind.u64.wrap (t219+t220))<t219 then(some (0,10)) else ((za.f (IntKind.u64.wrap (t219+t220)) (decide (a0<0))).bind fun bt221=>(some (bt221.1,bt221.2)))) else (if t219 ≥ t220 then((za.f (IntKind.u64.wrap (t219 - t220)) (decide (a0<0))).bind fun bt223=>(some (bt223.1,bt223.2))) else ((za.f (IntKind.u64.wrap (t220 - t219)) (decide (a1<0))).bind fun bt225=>(some (bt225.1,bt225.2))))))=some (r1,r2):=H
 have A3:=zq.mk A30
 clear A30
 replace H:=Option.bind_eq_some_iff.mp H
 obtain ⟨t220,A40,H⟩:=H
 replace H:(if((decide (a0<0)) == (decide (a1<0)))=true then(if(IntKind.u64.wrap (t219+t220))<t219 then(some (0,10)) else ((za.f (IntKind.u64.wrap (t219+t220)) (decide (a0<0))).bind fun bt221=>(some (bt221.1,bt221.2)))) else (if t219 ≥ t220 then((za.f (IntKind.u64.wrap (t219 - t220)) (decide (a0<0))).bind fun bt223=>(some (bt223.1,bt223.2))) else ((za.f (IntKind.u64.wrap (t220 - t219)) (decide (a1<0))).bind fun bt225=>(some (bt225.1,bt225.2)))))=some (r1,r2):=H
 have A4:=zq.mk A40
 clear A40
 by_cases c5:((decide (a0<0)) == (decide (a1<0)))=true
 ·rw [if_pos c5] at H
  have c5b0:((decide (a0<0)) == (decide (a1<0)))=true:=c5
  (try(have c5b1:decide ((decide (a0<0))=(decide (a1<0)))=true:=by simpa using c5))
  (try(have c5b2:((decide (a0<0)) == (decide (a1<0)))=true:=by simpa using c5))
  clear c5
  by_cases c6:(IntKind.u64.wrap (t219+t220))<t219
  ·rw [if_pos c6] at H
   have c6b0:=decide_eq_true c6
   clear c6
   simp only [Option.some.injEq,Prod.mk.injEq] at H
   obtain ⟨rfl,rfl⟩:=H
   go_enter Tryd.func57,Tryd.ntmps57
   go_wp2_with (first|((with_reducible refine zo (f:=74) rfl ?_);refine qo (some 9) rfl rfl Tryd.func74 (by kernel_rfl) rfl #[.int .i64 a0] rfl gs ?_;(with_reducible refine(zi.calls a0 t219 _ A3.out).mono ?_);rintro e w' ⟨rfl,⟨nd,rfl⟩⟩;refine⟨_,rfl,?_⟩)|((with_reducible refine zo (f:=74) rfl ?_);refine qo (some 11) rfl rfl Tryd.func74 (by kernel_rfl) rfl #[.int .i64 a1] rfl gs ?_;(with_reducible refine(zi.calls a1 t220 _ A4.out).mono ?_);rintro e w' ⟨rfl,⟨nd,rfl⟩⟩;refine⟨_,rfl,?_⟩))
   go_ret2
   exact⟨by first|rfl|(simp;done)|(simp [*];done),by repeat(first|exact zu.refl _|apply zu.step)⟩
  rw [if_neg c6] at H
  have c6b0:=decide_eq_false c6
  clear c6
  replace H:=Option.bind_eq_some_iff.mp H
  obtain ⟨⟨t221,t222⟩,A70,H⟩:=H
  replace H:(some (t221,t222))=some (r1,r2):=H
  have A7:=zq.mk A70
  clear A70
  simp only [Option.some.injEq,Prod.mk.injEq] at H
  obtain ⟨rfl,rfl⟩:=H
  go_enter Tryd.func57,Tryd.ntmps57
  go_wp2_with (first|((with_reducible refine zo (f:=74) rfl ?_);refine qo (some 9) rfl rfl Tryd.func74 (by kernel_rfl) rfl #[.int .i64 a0] rfl gs ?_;(with_reducible refine(zi.calls a0 t219 _ A3.out).mono ?_);rintro e w' ⟨rfl,⟨nd,rfl⟩⟩;refine⟨_,rfl,?_⟩)|((with_reducible refine zo (f:=74) rfl ?_);refine qo (some 11) rfl rfl Tryd.func74 (by kernel_rfl) rfl #[.int .i64 a1] rfl gs ?_;(with_reducible refine(zi.calls a1 t220 _ A4.out).mono ?_);rintro e w' ⟨rfl,⟨nd,rfl⟩⟩;refine⟨_,rfl,?_⟩)|((with_reducible refine zo (f:=73) rfl ?_);refine qo (some 27) rfl rfl Tryd.func73 (by kernel_rfl) rfl #[.int .u64 (IntKind.u64.wrap (t219+t220)),.bool (decide (a0<0))] rfl gs ?_;(with_reducible refine(za.calls (IntKind.u64.wrap (t219+t220)) (decide (a0<0)) t221 t222 _ A7.out).mono ?_);rintro e w' ⟨rfl,⟨nd,rfl⟩⟩;refine⟨_,rfl,?_⟩))
  go_ret2
  exact⟨by first|rfl|(simp;done)|(simp [*];done),by repeat(first|exact zu.refl _|apply zu.step)⟩
 rw [if_neg c5] at H
 have c5b0:((decide (a0<0)) == (decide (a1<0)))=false:=by simpa using c5
 (try(have c5b1:decide ((decide (a0<0))=(decide (a1<0)))=false:=by simpa using c5))
 (try(have c5b2:((decide (a0<0)) == (decide (a1<0)))=false:=by simpa using c5))
 (try(have c5b3:¬ ((decide (a0<0))=(decide (a1<0))):=by simpa using c5))
 clear c5
 by_cases c8:t219 ≥ t220
 ·rw [if_pos c8] at H
  have c8b0:=decide_eq_true c8
  clear c8
  replace H:=Option.bind_eq_some_iff.mp H
  obtain ⟨⟨t223,t224⟩,A90,H⟩:=H
  replace H:(some (t223,t224))=some (r1,r2):=H
  have A9:=zq.mk A90
  clear A90
  simp only [Option.some.injEq,Prod.mk.injEq] at H
  obtain ⟨rfl,rfl⟩:=H
  go_enter Tryd.func57,Tryd.ntmps57
  go_wp2_with (first|((with_reducible refine zo (f:=74) rfl ?_);refine qo (some 9) rfl rfl Tryd.func74 (by kernel_rfl) rfl #[.int .i64 a0] rfl gs ?_;(with_reducible refine(zi.calls a0 t219 _ A3.out).mono ?_);rintro e w' ⟨rfl,⟨nd,rfl⟩⟩;refine⟨_,rfl,?_⟩)|((with_reducible refine zo (f:=74) rfl ?_);refine qo (some 11) rfl rfl Tryd.func74 (by kernel_rfl) rfl #[.int .i64 a1] rfl gs ?_;(with_reducible refine(zi.calls a1 t220 _ A4.out).mono ?_);rintro e w' ⟨rfl,⟨nd,rfl⟩⟩;refine⟨_,rfl,?_⟩)|((with_reducible refine zo (f:=73) rfl ?_);refine qo (some 38) rfl rfl Tryd.func73 (by kernel_rfl) rfl #[.int .u64 (IntKind.u64.wrap (t219 - t220)),.bool (decide (a0<0))] rfl gs ?_;(with_reducible refine(za.calls (IntKind.u64.wrap (t219 - t220)) (decide (a0<0)) t223 t224 _ A9.out).mono ?_);rintro e w' ⟨rfl,⟨nd,rfl⟩⟩;refine⟨_,rfl,?_⟩))
  go_ret2
  exact⟨by first|rfl|(simp;done)|(simp [*];done),by repeat(first|exact zu.refl _|apply zu.step)⟩
 rw [if_neg c8] at H
 have c8b0:=decide_eq_false c8
 clear c8
 replace H:=Option.bind_eq_some_iff.mp H
 obtain ⟨⟨t225,t226⟩,A100,H⟩:=H
 replace H:(some (t225,t226))=some (r1,r2):=H
 have A10:=zq.mk A100
 clear A100
 simp only [Option.some.injEq,Prod.mk.injEq] at H
 obtain ⟨rfl,rfl⟩:=H
 go_enter Tryd.func57,Tryd.ntmps57
 go_wp2_with (first|((with_reducible refine zo (f:=74) rfl ?_);refine qo (some 9) rfl rfl Tryd.func74 (by kernel_rfl) rfl #[.int .i64 a0] rfl gs ?_;(with_reducible refine(zi.calls a0 t219 _ A3.out).mono ?_);rintro e w' ⟨rfl,⟨nd,rfl⟩⟩;refine⟨_,rfl,?_⟩)|((with_reducible refine zo (f:=74) rfl ?_);refine qo (some 11) rfl rfl Tryd.func74 (by kernel_rfl) rfl #[.int .i64 a1] rfl gs ?_;(with_reducible refine(zi.calls a1 t220 _ A4.out).mono ?_);rintro e w' ⟨rfl,⟨nd,rfl⟩⟩;refine⟨_,rfl,?_⟩)|((with_reducible refine zo (f:=73) rfl ?_);refine qo (some 46) rfl rfl Tryd.func73 (by kernel_rfl) rfl #[.int .u64 (IntKind.u64.wrap (t220 - t219)),.bool (decide (a1<0))] rfl gs ?_;(with_reducible refine(za.calls (IntKind.u64.wrap (t220 - t219)) (decide (a1<0)) t225 t226 _ A10.out).mono ?_);rintro e w' ⟨rfl,⟨nd,rfl⟩⟩;refine⟨_,rfl,?_⟩))
 go_ret2
 exact⟨by first|rfl|(simp;done)|(simp [*];done),by repeat(first|exact zu.refl _|apply zu.step)⟩

/-! ### zq8: function 58 -/
def zq8.f (a0:Int) (a1:Int):Option (Int × Int):=(zi.f a0).bind fun t227=>((zi.f a1).bind fun t228=>(if((decide (a0<0)) != (decide (a1<0)))=true then(if(IntKind.u64.wrap (t227+t228))<t227 then(some (0,10)) else ((za.f (IntKind.u64.wrap (t227+t228)) (decide (a0<0))).bind fun bt229=>(some (bt229.1,bt229.2)))) else (if t227 ≥ t228 then((za.f (IntKind.u64.wrap (t227 - t228)) (decide (a0<0))).bind fun bt231=>(some (bt231.1,bt231.2))) else ((za.f (IntKind.u64.wrap (t228 - t227)) (decide (a0 ≥ 0))).bind fun bt233=>(some (bt233.1,bt233.2))))))
set_option maxHeartbeats 8000000 in
set_option maxRecDepth 100000 in
theorem zq8.calls (a0:Int) (a1:Int) (r1:Int) (r2:Int) (w:World) (h:zq8.f a0 a1=some (r1,r2)) :
  Calls Tryd.prog 58 #[.int .i64 a0,.int .i64 a1] w fun e w'=>e = .returned (.tuple #[.int .i64 r1,.int .i64 r2])∧zu w w':=by
 have H:((zi.f a0).bind fun t227=>((zi.f a1).bind fun t228=>(if((decide (a0<0)) != (decide (a1<0)))=true then(if(IntKind.u64.wrap (t227+t228))<t227 then(some (0,10)) else ((za.f (IntKind.u64.wrap (t227+t228)) (decide (a0<0))).bind fun bt229=>(some (bt229.1,bt229.2)))) else (if t227 ≥ t228 then((za.f (IntKind.u64.wrap (t227 - t228)) (decide (a0<0))).bind fun bt231=>(some (bt231.1,bt231.2))) else ((za.f (IntKind.u64.wrap (t228 - t227)) (decide (a0 ≥ 0))).bind fun bt233=>(some (bt233.1,bt233.2)))))))=some (r1,r2):=h
 clear h
 replace H:=Option.bind_eq_some_iff.mp H
 obtain ⟨t227,A30,H⟩:=H
 replace H:((zi.f a1).bind fun t228=>(if((decide (a0<0)) != (decide (a1<0)))=true then(if(IntKind.u64.wrap (t227+t228))<t227 then(some (0,10)) else ((za.f (IntKind.u64.wrap (t227+t228)) (decide (a0<0))).bind fun bt229=>(some (bt229.1,bt229.2)))) else (if t227 ≥ t228 then((za.f (IntKind.u64.wrap (t227 - t228)) (decide (a0<0))).bind fun bt231=>(some (bt231.1,bt231.2))) else ((za.f (IntKind.u64.wrap (t228 - t227)) (decide (a0 ≥ 0))).bind fun bt233=>(some (bt233.1,bt233.2))))))=some (r1,r2):=H
 have A3:=zq.mk A30
 clear A30
 replace H:=Option.bind_eq_some_iff.mp H
 obtain ⟨t228,A40,H⟩:=H
 replace H:(if((decide (a0<0)) != (decide (a1<0)))=true then(if(IntKind.u64.wrap (t227+t228))<t227 then(some (0,10)) else ((za.f (IntKind.u64.wrap (t227+t228)) (decide (a0<0))).bind fun bt229=>(some (bt229.1,bt229.2)))) else (if t227 ≥ t228 then((za.f (IntKind.u64.wrap (t227 - t228)) (decide (a0<0))).bind fun bt231=>(some (bt231.1,bt231.2))) else ((za.f (IntKind.u64.wrap (t228 - t227)) (decide (a0 ≥ 0))).bind fun bt233=>(some (bt233.1,bt233.2)))))=some (r1,r2):=H
 have A4:=zq.mk A40
 clear A40
 by_cases c5:((decide (a0<0)) != (decide (a1<0)))=true
 ·rw [if_pos c5] at H
  have c5b0:((decide (a0<0)) != (decide (a1<0)))=true:=c5
  (try(have c5b1:decide ((decide (a0<0))=(decide (a1<0)))=false:=by simpa using c5))
  (try(have c5b2:((decide (a0<0)) == (decide (a1<0)))=false:=by simpa using c5))
  (try(have c5b3:¬ ((decide (a0<0))=(decide (a1<0))):=by simpa using c5))
  clear c5
  by_cases c6:(IntKind.u64.wrap (t227+t228))<t227
  ·rw [if_pos c6] at H
   have c6b0:=decide_eq_true c6
   clear c6
   simp only [Option.some.injEq,Prod.mk.injEq] at H
   obtain ⟨rfl,rfl⟩:=H
   go_enter Tryd.func58,Tryd.ntmps58
   go_wp2_with (first|((with_reducible refine zo (f:=74) rfl ?_);refine qo (some 9) rfl rfl Tryd.func74 (by kernel_rfl) rfl #[.int .i64 a0] rfl gs ?_;(with_reducible refine(zi.calls a0 t227 _ A3.out).mono ?_);rintro e w' ⟨rfl,⟨nd,rfl⟩⟩;refine⟨_,rfl,?_⟩)|((with_reducible refine zo (f:=74) rfl ?_);refine qo (some 11) rfl rfl Tryd.func74 (by kernel_rfl) rfl #[.int .i64 a1] rfl gs ?_;(with_reducible refine(zi.calls a1 t228 _ A4.out).mono ?_);rintro e w' ⟨rfl,⟨nd,rfl⟩⟩;refine⟨_,rfl,?_⟩))
   go_ret2
   exact⟨by first|rfl|(simp;done)|(simp [*];done),by repeat(first|exact zu.refl _|apply zu.step)⟩
  rw [if_neg c6] at H
  have c6b0:=decide_eq_false c6
  clear c6
  replace H:=Option.bind_eq_some_iff.mp H
  obtain ⟨⟨t229,t230⟩,A70,H⟩:=H
  replace H:(some (t229,t230))=some (r1,r2):=H
  have A7:=zq.mk A70
  clear A70
  simp only [Option.some.injEq,Prod.mk.injEq] at H
  obtain ⟨rfl,rfl⟩:=H
  go_enter Tryd.func58,Tryd.ntmps58
  go_wp2_with (first|((with_reducible refine zo (f:=74) rfl ?_);refine qo (some 9) rfl rfl Tryd.func74 (by kernel_rfl) rfl #[.int .i64 a0] rfl gs ?_;(with_reducible refine(zi.calls a0 t227 _ A3.out).mono ?_);rintro e w' ⟨rfl,⟨nd,rfl⟩⟩;refine⟨_,rfl,?_⟩)|((with_reducible refine zo (f:=74) rfl ?_);refine qo (some 11) rfl rfl Tryd.func74 (by kernel_rfl) rfl #[.int .i64 a1] rfl gs ?_;(with_reducible refine(zi.calls a1 t228 _ A4.out).mono ?_);rintro e w' ⟨rfl,⟨nd,rfl⟩⟩;refine⟨_,rfl,?_⟩)|((with_reducible refine zo (f:=73) rfl ?_);refine qo (some 27) rfl rfl Tryd.func73 (by kernel_rfl) rfl #[.int .u64 (IntKind.u64.wrap (t227+t228)),.bool (decide (a0<0))] rfl gs ?_;(with_reducible refine(za.calls (IntKind.u64.wrap (t227+t228)) (decide (a0<0)) t229 t230 _ A7.out).mono ?_);rintro e w' ⟨rfl,⟨nd,rfl⟩⟩;refine⟨_,rfl,?_⟩))
  go_ret2
  exact⟨by first|rfl|(simp;done)|(simp [*];done),by repeat(first|exact zu.refl _|apply zu.step)⟩
 rw [if_neg c5] at H
 have c5b0:((decide (a0<0)) != (decide (a1<0)))=false:=by simpa using c5
 (try(have c5b1:decide ((decide (a0<0))=(decide (a1<0)))=true:=by simpa using c5))
 (try(have c5b2:((decide (a0<0)) == (decide (a1<0)))=true:=by simpa using c5))
 clear c5
 by_cases c8:t227 ≥ t228
 ·rw [if_pos c8] at H
  have c8b0:=decide_eq_true c8
  clear c8
  replace H:=Option.bind_eq_some_iff.mp H
  obtain ⟨⟨t231,t232⟩,A90,H⟩:=H
  replace H:(some (t231,t232))=some (r1,r2):=H
  have A9:=zq.mk A90
  clear A90
  simp only [Option.some.injEq,Prod.mk.injEq] at H
  obtain ⟨rfl,rfl⟩:=H
  go_enter Tryd.func58,Tryd.ntmps58
  go_wp2_with (first|((with_reducible refine zo (f:=74) rfl ?_);refine qo (some 9) rfl rfl Tryd.func74 (by kernel_rfl) rfl #[.int .i64 a0] rfl gs ?_;(with_reducible refine(zi.calls a0 t227 _ A3.out).mono ?_);rintro e w' ⟨rfl,⟨nd,rfl⟩⟩;refine⟨_,rfl,?_⟩)|((with_reducible refine zo (f:=74) rfl ?_);refine qo (some 11) rfl rfl Tryd.func74 (by kernel_rfl) rfl #[.int .i64 a1] rfl gs ?_;(with_reducible refine(zi.calls a1 t228 _ A4.out).mono ?_);rintro e w' ⟨rfl,⟨nd,rfl⟩⟩;refine⟨_,rfl,?_⟩)|((with_reducible refine zo (f:=73) rfl ?_);refine qo (some 38) rfl rfl Tryd.func73 (by kernel_rfl) rfl #[.int .u64 (IntKind.u64.wrap (t227 - t228)),.bool (decide (a0<0))] rfl gs ?_;(with_reducible refine(za.calls (IntKind.u64.wrap (t227 - t228)) (decide (a0<0)) t231 t232 _ A9.out).mono ?_);rintro e w' ⟨rfl,⟨nd,rfl⟩⟩;refine⟨_,rfl,?_⟩))
  go_ret2
  exact⟨by first|rfl|(simp;done)|(simp [*];done),by repeat(first|exact zu.refl _|apply zu.step)⟩
 rw [if_neg c8] at H
 have c8b0:=decide_eq_false c8
 clear c8
 replace H:=Option.bind_eq_some_iff.mp H
 obtain ⟨⟨t233,t234⟩,A100,H⟩:=H
 replace H:(some (t233,t234))=some (r1,r2):=H
 have A10:=zq.mk A100
 clear A100
 simp only [Option.some.injEq,Prod.mk.injEq] at H
 obtain ⟨rfl,rfl⟩:=H
 go_enter Tryd.func58,Tryd.ntmps58
 go_wp2_with (first|((with_reducible refine zo (f:=74) rfl ?_);refine qo (some 9) rfl rfl Tryd.func74 (by kernel_rfl) rfl #[.int .i64 a0] rfl gs ?_;(with_reducible refine(zi.calls a0 t227 _ A3.out).mono ?_);rintro e w' ⟨rfl,⟨nd,rfl⟩⟩;refine⟨_,rfl,?_⟩)|((with_reducible refine zo (f:=74) rfl ?_);refine qo (some 11) rfl rfl Tryd.func74 (by kernel_rfl) rfl #[.int .i64 a1] rfl gs ?_;(with_reducible refine(zi.calls a1 t228 _ A4.out).mono ?_);rintro e w' ⟨rfl,⟨nd,rfl⟩⟩;refine⟨_,rfl,?_⟩)|((with_reducible refine zo (f:=73) rfl ?_);refine qo (some 46) rfl rfl Tryd.func73 (by kernel_rfl) rfl #[.int .u64 (IntKind.u64.wrap (t228 - t227)),.bool (decide (a0 ≥ 0))] rfl gs ?_;(with_reducible refine(za.calls (IntKind.u64.wrap (t228 - t227)) (decide (a0 ≥ 0)) t233 t234 _ A10.out).mono ?_);rintro e w' ⟨rfl,⟨nd,rfl⟩⟩;refine⟨_,rfl,?_⟩))
 go_ret2
 exact⟨by first|rfl|(simp;done)|(simp [*];done),by repeat(first|exact zu.refl _|apply zu.step)⟩

/-! ### bits_Mul64: function 76 -/
def bits_Mul64.f (a0:Int) (a1:Int):Option (Int × Int):=some (IntKind.u64.wrap ((IntKind.u64.wrap ((IntKind.u64.wrap ((a0 / 4294967296) * (a1 / 4294967296)))+((IntKind.u64.wrap ((IntKind.u64.wrap ((a0 / 4294967296) * (Go.bits .and .u64 a1 4294967295)))+((IntKind.u64.wrap ((Go.bits .and .u64 a0 4294967295) * (Go.bits .and .u64 a1 4294967295))) / 4294967296))) / 4294967296)))+((IntKind.u64.wrap ((Go.bits .and .u64 (IntKind.u64.wrap ((IntKind.u64.wrap ((a0 / 4294967296) * (Go.bits .and .u64 a1 4294967295)))+((IntKind.u64.wrap ((Go.bits .and .u64 a0 4294967295) * (Go.bits .and .u64 a1 4294967295))) / 4294967296))) 4294967295)+(IntKind.u64.wrap ((Go.bits .and .u64 a0 4294967295) * (a1 / 4294967296))))) / 4294967296)),IntKind.u64.wrap (a0 * a1))
set_option maxHeartbeats 8000000 in
set_option maxRecDepth 100000 in
theorem bits_Mul64.calls (a0:Int) (a1:Int) (r1:Int) (r2:Int) (w:World) (h:bits_Mul64.f a0 a1=some (r1,r2)) :
  Calls Tryd.prog 76 #[.int .u64 a0,.int .u64 a1] w fun e w'=>e = .returned (.tuple #[.int .u64 r1,.int .u64 r2])∧zu w w':=by
 have H:(some (IntKind.u64.wrap ((IntKind.u64.wrap ((IntKind.u64.wrap ((a0 / 4294967296) * (a1 / 4294967296)))+((IntKind.u64.wrap ((IntKind.u64.wrap ((a0 / 4294967296) * (Go.bits .and .u64 a1 4294967295)))+((IntKind.u64.wrap ((Go.bits .and .u64 a0 4294967295) * (Go.bits .and .u64 a1 4294967295))) / 4294967296))) / 4294967296)))+((IntKind.u64.wrap ((Go.bits .and .u64 (IntKind.u64.wrap ((IntKind.u64.wrap ((a0 / 4294967296) * (Go.bits .and .u64 a1 4294967295)))+((IntKind.u64.wrap ((Go.bits .and .u64 a0 4294967295) * (Go.bits .and .u64 a1 4294967295))) / 4294967296))) 4294967295)+(IntKind.u64.wrap ((Go.bits .and .u64 a0 4294967295) * (a1 / 4294967296))))) / 4294967296)),IntKind.u64.wrap (a0 * a1)))=some (r1,r2):=h
 clear h
 simp only [Option.some.injEq,Prod.mk.injEq] at H
 obtain ⟨rfl,rfl⟩:=H
 go_enter Tryd.func76,Tryd.ntmps76
 go_wp2
 go_ret2
 exact⟨by first|rfl|(simp;done)|(simp [*];done),by repeat(first|exact zu.refl _|apply zu.step)⟩

/-! ### zq6: function 59 -/
def zq6.f (a0:Int) (a1:Int):Option (Int × Int):=(zi.f a0).bind fun t235=>((zi.f a1).bind fun t236=>((bits_Mul64.f t235 t236).bind fun bt237=>(if bt237.1=0 then((za.f bt237.2 ((decide (a0<0)) != (decide (a1<0)))).bind fun bt239=>(some (bt239.1,bt239.2))) else (some (0,10)))))
set_option maxHeartbeats 8000000 in
set_option maxRecDepth 100000 in
theorem zq6.calls (a0:Int) (a1:Int) (r1:Int) (r2:Int) (w:World) (h:zq6.f a0 a1=some (r1,r2)) :
  Calls Tryd.prog 59 #[.int .i64 a0,.int .i64 a1] w fun e w'=>e = .returned (.tuple #[.int .i64 r1,.int .i64 r2])∧zu w w':=by
 have H:((zi.f a0).bind fun t235=>((zi.f a1).bind fun t236=>((bits_Mul64.f t235 t236).bind fun bt237=>(if bt237.1=0 then((za.f bt237.2 ((decide (a0<0)) != (decide (a1<0)))).bind fun bt239=>(some (bt239.1,bt239.2))) else (some (0,10))))))=some (r1,r2):=h
 clear h
 replace H:=Option.bind_eq_some_iff.mp H
 obtain ⟨t235,A30,H⟩:=H
 replace H:((zi.f a1).bind fun t236=>((bits_Mul64.f t235 t236).bind fun bt237=>(if bt237.1=0 then((za.f bt237.2 ((decide (a0<0)) != (decide (a1<0)))).bind fun bt239=>(some (bt239.1,bt239.2))) else (some (0,10)))))=some (r1,r2):=H
 have A3:=zq.mk A30
 clear A30
 replace H:=Option.bind_eq_some_iff.mp H
 obtain ⟨t236,A40,H⟩:=H
 replace H:((bits_Mul64.f t235 t236).bind fun bt237=>(if bt237.1=0 then((za.f bt237.2 ((decide (a0<0)) != (decide (a1<0)))).bind fun bt239=>(some (bt239.1,bt239.2))) else (some (0,10))))=some (r1,r2):=H
 have A4:=zq.mk A40
 clear A40
 replace H:=Option.bind_eq_some_iff.mp H
 obtain ⟨⟨t237,t238⟩,A50,H⟩:=H
 replace H:(if t237=0 then((za.f t238 ((decide (a0<0)) != (decide (a1<0)))).bind fun bt239=>(some (bt239.1,bt239.2))) else (some (0,10)))=some (r1,r2):=H
 have A5:=zq.mk A50
 clear A50
 by_cases c6:t237=0
 ·rw [if_pos c6] at H
  have c6b0:(t237 == 0)=true:=beq_iff_eq.mpr c6
  have c6b1:(t237 != 0)=false:=bne_eq_false_iff_eq.mpr c6
  clear c6
  replace H:=Option.bind_eq_some_iff.mp H
  obtain ⟨⟨t239,t240⟩,A70,H⟩:=H
  replace H:(some (t239,t240))=some (r1,r2):=H
  have A7:=zq.mk A70
  clear A70
  simp only [Option.some.injEq,Prod.mk.injEq] at H
  obtain ⟨rfl,rfl⟩:=H
  go_enter Tryd.func59,Tryd.ntmps59
  go_wp2_with (first|((with_reducible refine zo (f:=74) rfl ?_);refine qo (some 10) rfl rfl Tryd.func74 (by kernel_rfl) rfl #[.int .i64 a0] rfl gs ?_;(with_reducible refine(zi.calls a0 t235 _ A3.out).mono ?_);rintro e w' ⟨rfl,⟨nd,rfl⟩⟩;refine⟨_,rfl,?_⟩)|((with_reducible refine zo (f:=74) rfl ?_);refine qo (some 12) rfl rfl Tryd.func74 (by kernel_rfl) rfl #[.int .i64 a1] rfl gs ?_;(with_reducible refine(zi.calls a1 t236 _ A4.out).mono ?_);rintro e w' ⟨rfl,⟨nd,rfl⟩⟩;refine⟨_,rfl,?_⟩)|((with_reducible refine zo (f:=76) rfl ?_);refine qo (some 13) rfl rfl Tryd.func76 (by kernel_rfl) rfl #[.int .u64 t235,.int .u64 t236] rfl gs ?_;(with_reducible refine(bits_Mul64.calls t235 t236 t237 t238 _ A5.out).mono ?_);rintro e w' ⟨rfl,⟨nd,rfl⟩⟩;refine⟨_,rfl,?_⟩)|((with_reducible refine zo (f:=73) rfl ?_);refine qo (some 24) rfl rfl Tryd.func73 (by kernel_rfl) rfl #[.int .u64 t238,.bool ((decide (a0<0)) != (decide (a1<0)))] rfl gs ?_;(with_reducible refine(za.calls t238 ((decide (a0<0)) != (decide (a1<0))) t239 t240 _ A7.out).mono ?_);rintro e w' ⟨rfl,⟨nd,rfl⟩⟩;refine⟨_,rfl,?_⟩))
  go_ret2
  exact⟨by first|rfl|(simp;done)|(simp [*];done),by repeat(first|exact zu.refl _|apply zu.step)⟩
 rw [if_neg c6] at H
 have c6b0:(t237 == 0)=false:=beq_eq_false_iff_ne.mpr c6
 have c6b1:(t237 != 0)=true:=bne_iff_ne.mpr c6
 simp only [Option.some.injEq,Prod.mk.injEq] at H
 obtain ⟨rfl,rfl⟩:=H
 go_enter Tryd.func59,Tryd.ntmps59
 go_wp2_with (first|((with_reducible refine zo (f:=74) rfl ?_);refine qo (some 10) rfl rfl Tryd.func74 (by kernel_rfl) rfl #[.int .i64 a0] rfl gs ?_;(with_reducible refine(zi.calls a0 t235 _ A3.out).mono ?_);rintro e w' ⟨rfl,⟨nd,rfl⟩⟩;refine⟨_,rfl,?_⟩)|((with_reducible refine zo (f:=74) rfl ?_);refine qo (some 12) rfl rfl Tryd.func74 (by kernel_rfl) rfl #[.int .i64 a1] rfl gs ?_;(with_reducible refine(zi.calls a1 t236 _ A4.out).mono ?_);rintro e w' ⟨rfl,⟨nd,rfl⟩⟩;refine⟨_,rfl,?_⟩)|((with_reducible refine zo (f:=76) rfl ?_);refine qo (some 13) rfl rfl Tryd.func76 (by kernel_rfl) rfl #[.int .u64 t235,.int .u64 t236] rfl gs ?_;(with_reducible refine(bits_Mul64.calls t235 t236 t237 t238 _ A5.out).mono ?_);rintro e w' ⟨rfl,⟨nd,rfl⟩⟩;refine⟨_,rfl,?_⟩))
 go_ret2
 exact⟨by first|rfl|(simp;done)|(simp [*];done),by repeat(first|exact zu.refl _|apply zu.step)⟩

/-! ### zq0: function 60 -/
def zq0.f (a0:Int) (a1:Int):Option (Int × Int):=if a1=0 then(some (0,11)) else ((zi.f a0).bind fun t241=>((zi.f a1).bind fun t242=>(if t242=0 then(none) else ((za.f (IntKind.u64.wrap (Int.tdiv t241 t242)) ((decide (a0<0)) != (decide (a1<0)))).bind fun bt243=>(some (bt243.1,bt243.2))))))
set_option maxHeartbeats 8000000 in
set_option maxRecDepth 100000 in
theorem zq0.calls (a0:Int) (a1:Int) (r1:Int) (r2:Int) (w:World) (h:zq0.f a0 a1=some (r1,r2)) :
  Calls Tryd.prog 60 #[.int .i64 a0,.int .i64 a1] w fun e w'=>e = .returned (.tuple #[.int .i64 r1,.int .i64 r2])∧zu w w':=by
 have H:(if a1=0 then(some (0,11)) else ((zi.f a0).bind fun t241=>((zi.f a1).bind fun t242=>(if t242=0 then(none) else ((za.f (IntKind.u64.wrap (Int.tdiv t241 t242)) ((decide (a0<0)) != (decide (a1<0)))).bind fun bt243=>(some (bt243.1,bt243.2)))))))=some (r1,r2):=h
 clear h
 by_cases c3:a1=0
 ·rw [if_pos c3] at H
  have c3b0:(a1 == 0)=true:=beq_iff_eq.mpr c3
  have c3b1:(a1 != 0)=false:=bne_eq_false_iff_eq.mpr c3
  clear c3
  simp only [Option.some.injEq,Prod.mk.injEq] at H
  obtain ⟨rfl,rfl⟩:=H
  go_enter Tryd.func60,Tryd.ntmps60
  go_wp2
  go_ret2
  exact⟨by first|rfl|(simp;done)|(simp [*];done),by repeat(first|exact zu.refl _|apply zu.step)⟩
 rw [if_neg c3] at H
 have c3b0:(a1 == 0)=false:=beq_eq_false_iff_ne.mpr c3
 have c3b1:(a1 != 0)=true:=bne_iff_ne.mpr c3
 replace H:=Option.bind_eq_some_iff.mp H
 obtain ⟨t241,A40,H⟩:=H
 replace H:((zi.f a1).bind fun t242=>(if t242=0 then(none) else ((za.f (IntKind.u64.wrap (Int.tdiv t241 t242)) ((decide (a0<0)) != (decide (a1<0)))).bind fun bt243=>(some (bt243.1,bt243.2)))))=some (r1,r2):=H
 have A4:=zq.mk A40
 clear A40
 replace H:=Option.bind_eq_some_iff.mp H
 obtain ⟨t242,A50,H⟩:=H
 replace H:(if t242=0 then(none) else ((za.f (IntKind.u64.wrap (Int.tdiv t241 t242)) ((decide (a0<0)) != (decide (a1<0)))).bind fun bt243=>(some (bt243.1,bt243.2))))=some (r1,r2):=H
 have A5:=zq.mk A50
 clear A50
 by_cases c6:t242=0
 ·rw [if_pos c6] at H
  exact absurd H (by simp)
 rw [if_neg c6] at H
 have c6b0:(t242 == 0)=false:=beq_eq_false_iff_ne.mpr c6
 have c6b1:(t242 != 0)=true:=bne_iff_ne.mpr c6
 replace H:=Option.bind_eq_some_iff.mp H
 obtain ⟨⟨t243,t244⟩,A70,H⟩:=H
 replace H:(some (t243,t244))=some (r1,r2):=H
 have A7:=zq.mk A70
 clear A70
 simp only [Option.some.injEq,Prod.mk.injEq] at H
 obtain ⟨rfl,rfl⟩:=H
 go_enter Tryd.func60,Tryd.ntmps60
 go_wp2_with (first|((with_reducible refine zo (f:=74) rfl ?_);refine qo (some 9) rfl rfl Tryd.func74 (by kernel_rfl) rfl #[.int .i64 a0] rfl gs ?_;(with_reducible refine(zi.calls a0 t241 _ A4.out).mono ?_);rintro e w' ⟨rfl,⟨nd,rfl⟩⟩;refine⟨_,rfl,?_⟩)|((with_reducible refine zo (f:=74) rfl ?_);refine qo (some 11) rfl rfl Tryd.func74 (by kernel_rfl) rfl #[.int .i64 a1] rfl gs ?_;(with_reducible refine(zi.calls a1 t242 _ A5.out).mono ?_);rintro e w' ⟨rfl,⟨nd,rfl⟩⟩;refine⟨_,rfl,?_⟩)|((with_reducible refine zo (f:=73) rfl ?_);refine qo (some 18) rfl rfl Tryd.func73 (by kernel_rfl) rfl #[.int .u64 (IntKind.u64.wrap (Int.tdiv t241 t242)),.bool ((decide (a0<0)) != (decide (a1<0)))] rfl gs ?_;(with_reducible refine(za.calls (IntKind.u64.wrap (Int.tdiv t241 t242)) ((decide (a0<0)) != (decide (a1<0))) t243 t244 _ A7.out).mono ?_);rintro e w' ⟨rfl,⟨nd,rfl⟩⟩;refine⟨_,rfl,?_⟩))
 go_ret2
 exact⟨by first|rfl|(simp;done)|(simp [*];done),by repeat(first|exact zu.refl _|apply zu.step)⟩

/-! ### zq7: function 61 -/
def zq7.f (a0:Int) (a1:Int):Option (Int × Int):=if a1=0 then(some (0,11)) else ((zi.f a0).bind fun t245=>((zi.f a1).bind fun t246=>(if t246=0 then(none) else ((za.f (Int.tmod t245 t246) (decide (a0<0))).bind fun bt247=>(some (bt247.1,bt247.2))))))
set_option maxHeartbeats 8000000 in
set_option maxRecDepth 100000 in
theorem zq7.calls (a0:Int) (a1:Int) (r1:Int) (r2:Int) (w:World) (h:zq7.f a0 a1=some (r1,r2)) :
  Calls Tryd.prog 61 #[.int .i64 a0,.int .i64 a1] w fun e w'=>e = .returned (.tuple #[.int .i64 r1,.int .i64 r2])∧zu w w':=by
 have H:(if a1=0 then(some (0,11)) else ((zi.f a0).bind fun t245=>((zi.f a1).bind fun t246=>(if t246=0 then(none) else ((za.f (Int.tmod t245 t246) (decide (a0<0))).bind fun bt247=>(some (bt247.1,bt247.2)))))))=some (r1,r2):=h
 clear h
 by_cases c3:a1=0
 ·rw [if_pos c3] at H
  have c3b0:(a1 == 0)=true:=beq_iff_eq.mpr c3
  have c3b1:(a1 != 0)=false:=bne_eq_false_iff_eq.mpr c3
  clear c3
  simp only [Option.some.injEq,Prod.mk.injEq] at H
  obtain ⟨rfl,rfl⟩:=H
  go_enter Tryd.func61,Tryd.ntmps61
  go_wp2
  go_ret2
  exact⟨by first|rfl|(simp;done)|(simp [*];done),by repeat(first|exact zu.refl _|apply zu.step)⟩
 rw [if_neg c3] at H
 have c3b0:(a1 == 0)=false:=beq_eq_false_iff_ne.mpr c3
 have c3b1:(a1 != 0)=true:=bne_iff_ne.mpr c3
 replace H:=Option.bind_eq_some_iff.mp H
 obtain ⟨t245,A40,H⟩:=H
 replace H:((zi.f a1).bind fun t246=>(if t246=0 then(none) else ((za.f (Int.tmod t245 t246) (decide (a0<0))).bind fun bt247=>(some (bt247.1,bt247.2)))))=some (r1,r2):=H
 have A4:=zq.mk A40
 clear A40
 replace H:=Option.bind_eq_some_iff.mp H
 obtain ⟨t246,A50,H⟩:=H
 replace H:(if t246=0 then(none) else ((za.f (Int.tmod t245 t246) (decide (a0<0))).bind fun bt247=>(some (bt247.1,bt247.2))))=some (r1,r2):=H
 have A5:=zq.mk A50
 clear A50
 by_cases c6:t246=0
 ·rw [if_pos c6] at H
  exact absurd H (by simp)
 rw [if_neg c6] at H
 have c6b0:(t246 == 0)=false:=beq_eq_false_iff_ne.mpr c6
 have c6b1:(t246 != 0)=true:=bne_iff_ne.mpr c6
 replace H:=Option.bind_eq_some_iff.mp H
 obtain ⟨⟨t247,t248⟩,A70,H⟩:=H
 replace H:(some (t247,t248))=some (r1,r2):=H
 have A7:=zq.mk A70
 clear A70
 simp only [Option.some.injEq,Prod.mk.injEq] at H
 obtain ⟨rfl,rfl⟩:=H
 go_enter Tryd.func61,Tryd.ntmps61
 go_wp2_with (first|((with_reducible refine zo (f:=74) rfl ?_);refine qo (some 9) rfl rfl Tryd.func74 (by kernel_rfl) rfl #[.int .i64 a0] rfl gs ?_;(with_reducible refine(zi.calls a0 t245 _ A4.out).mono ?_);rintro e w' ⟨rfl,⟨nd,rfl⟩⟩;refine⟨_,rfl,?_⟩)|((with_reducible refine zo (f:=74) rfl ?_);refine qo (some 11) rfl rfl Tryd.func74 (by kernel_rfl) rfl #[.int .i64 a1] rfl gs ?_;(with_reducible refine(zi.calls a1 t246 _ A5.out).mono ?_);rintro e w' ⟨rfl,⟨nd,rfl⟩⟩;refine⟨_,rfl,?_⟩)|((with_reducible refine zo (f:=73) rfl ?_);refine qo (some 15) rfl rfl Tryd.func73 (by kernel_rfl) rfl #[.int .u64 (Int.tmod t245 t246),.bool (decide (a0<0))] rfl gs ?_;(with_reducible refine(za.calls (Int.tmod t245 t246) (decide (a0<0)) t247 t248 _ A7.out).mono ?_);rintro e w' ⟨rfl,⟨nd,rfl⟩⟩;refine⟨_,rfl,?_⟩))
 go_ret2
 exact⟨by first|rfl|(simp;done)|(simp [*];done),by repeat(first|exact zu.refl _|apply zu.step)⟩

end Go.Proofs.YtkgllmjlhaimcaaDoor.PEvalEvals
