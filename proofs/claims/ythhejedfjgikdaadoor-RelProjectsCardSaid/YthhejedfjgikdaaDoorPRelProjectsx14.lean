-- Written by wip/pp of this repo (over the kit's print, with additions of this session); Lean checks every line.
import Derived.Test.YthhejedfjgikdaaDoorPRelProjectsx12
namespace Go.Proofs.YthhejedfjgikdaaDoor.PRelProjects
open Go.RowKit Go.Proofs.YthhejedfjgikdaaDoorW.PrintWords Go.Proofs.YthhejedfjgikdaaDoorW.PrintLast Go.Proofs.YthhejedfjgikdaaDoorW.PrintMore
attribute [local go_sem] zjh zjf zjq zjp zq4 zq3 zjg zje   -- for this text's walks alone
set_option linter.unusedVariables false
set_option linter.unusedSimpArgs false

/-! ### zji: function 83 -/
def zji.f (a0:Int) (a1:Int):Option (Int × Int):=(qz.f a0).bind fun t241=>((qz.f a1).bind fun t242=>(if((decide (a0<0)) == (decide (a1<0)))=true then(if(IntKind.u64.wrap (t241+t242))<t241 then(some (0,10)) else ((ze.f (IntKind.u64.wrap (t241+t242)) (decide (a0<0))).bind fun bt243=>(some (bt243.1,bt243.2)))) else (if t241 ≥ t242 then((ze.f (IntKind.u64.wrap (t241 - t242)) (decide (a0<0))).bind fun bt245=>(some (bt245.1,bt245.2))) else ((ze.f (IntKind.u64.wrap (t242 - t241)) (decide (a1<0))).bind fun bt247=>(some (bt247.1,bt247.2))))))
set_option maxHeartbeats 8000000 in
set_option maxRecDepth 100000 in
theorem zji.calls (a0:Int) (a1:Int) (r1:Int) (r2:Int) (w:World) (h:zji.f a0 a1=some (r1,r2)) :
  Calls Tryd.prog 83 #[.int .i64 a0,.int .i64 a1] w fun e w'=>e = .returned (.tuple #[.int .i64 r1,.int .i64 r2])∧zu w w':=by
 have H:((qz.f a0).bind fun t241=>((qz.f a1).bind fun t242=>(if((decide (a0<0)) == (decide (a1<0)))=true then(if(IntKind.u64.wrap (t241+t242))<t241 then(some (0,10)) else ((ze.f (IntKind.u64.wrap (t241+t242)) (decide (a0<0))).bind fun bt243=>(some (bt243.1,bt243.2)))) else (if t241 ≥ t242 then((ze.f (IntKind.u64.wrap (t241 - t242)) (decide (a0<0))).bind fun bt245=>(some (bt245.1,bt245.2))) else ((ze.f (IntKind.u64.wrap (t242 - t241)) (decide (a1<0))).bind fun bt247=>(some (bt247.1,bt247.2)))))))=some (r1,r2):=h
 clear h
 replace H:=Option.bind_eq_some_iff.mp H
 obtain ⟨t241,A30,H⟩:=H
 replace H:((qz.f a1).bind fun t242=>(if((decide (a0<0)) == (decide (a1<0)))=true then(if(IntKind.u64.wrap (t241+t242))<t241 then(some (0,10)) else ((ze.f (IntKind.u64.wrap (t241+t242)) (decide (a0<0))).bind fun bt243=>(some (bt243.1,bt243.2)))) else (if t241 ≥ t242 then((ze.f (IntKind.u64.wrap (t241 - t242)) (decide (a0<0))).bind fun bt245=>(some (bt245.1,bt245.2))) else ((ze.f (IntKind.u64.wrap (t242 - t241)) (decide (a1<0))).bind fun bt247=>(some (bt247.1,bt247.2))))))=some (r1,r2):=H
 have A3:=zq.mk A30
 clear A30
 replace H:=Option.bind_eq_some_iff.mp H
 obtain ⟨t242,A40,H⟩:=H
 replace H:(if((decide (a0<0)) == (decide (a1<0)))=true then(if(IntKind.u64.wrap (t241+t242))<t241 then(some (0,10)) else ((ze.f (IntKind.u64.wrap (t241+t242)) (decide (a0<0))).bind fun bt243=>(some (bt243.1,bt243.2)))) else (if t241 ≥ t242 then((ze.f (IntKind.u64.wrap (t241 - t242)) (decide (a0<0))).bind fun bt245=>(some (bt245.1,bt245.2))) else ((ze.f (IntKind.u64.wrap (t242 - t241)) (decide (a1<0))).bind fun bt247=>(some (bt247.1,bt247.2)))))=some (r1,r2):=H
 have A4:=zq.mk A40
 clear A40
 by_cases c5:((decide (a0<0)) == (decide (a1<0)))=true
 ·rw [if_pos c5] at H
  have c5b0:((decide (a0<0)) == (decide (a1<0)))=true:=c5
  (try(have c5b1:decide ((decide (a0<0))=(decide (a1<0)))=true:=by simpa using c5))
  (try(have c5b2:((decide (a0<0)) == (decide (a1<0)))=true:=by simpa using c5))
  clear c5
  by_cases c6:(IntKind.u64.wrap (t241+t242))<t241
  ·rw [if_pos c6] at H
   have c6b0:=decide_eq_true c6
   clear c6
   simp only [Option.some.injEq,Prod.mk.injEq] at H
   obtain ⟨rfl,rfl⟩:=H
   go_enter Tryd.func83,Tryd.ntmps83
   go_wp2_with (first|((with_reducible refine zl (f:=110) rfl ?_);refine qu (some 9) rfl rfl Tryd.func110 (by kernel_rfl) rfl #[.int .i64 a0] rfl gs ?_;(with_reducible refine(qz.calls a0 t241 _ A3.out).mono ?_);rintro e w' ⟨rfl,⟨nd,rfl⟩⟩;refine⟨_,rfl,?_⟩)|((with_reducible refine zl (f:=110) rfl ?_);refine qu (some 11) rfl rfl Tryd.func110 (by kernel_rfl) rfl #[.int .i64 a1] rfl gs ?_;(with_reducible refine(qz.calls a1 t242 _ A4.out).mono ?_);rintro e w' ⟨rfl,⟨nd,rfl⟩⟩;refine⟨_,rfl,?_⟩))
   go_ret2
   exact⟨by first|rfl|(simp;done)|(simp [*];done),by repeat(first|exact zu.refl _|apply zu.step)⟩
  rw [if_neg c6] at H
  have c6b0:=decide_eq_false c6
  clear c6
  replace H:=Option.bind_eq_some_iff.mp H
  obtain ⟨⟨t243,t244⟩,A70,H⟩:=H
  replace H:(some (t243,t244))=some (r1,r2):=H
  have A7:=zq.mk A70
  clear A70
  simp only [Option.some.injEq,Prod.mk.injEq] at H
  obtain ⟨rfl,rfl⟩:=H
  go_enter Tryd.func83,Tryd.ntmps83
  go_wp2_with (first|((with_reducible refine zl (f:=110) rfl ?_);refine qu (some 9) rfl rfl Tryd.func110 (by kernel_rfl) rfl #[.int .i64 a0] rfl gs ?_;(with_reducible refine(qz.calls a0 t241 _ A3.out).mono ?_);rintro e w' ⟨rfl,⟨nd,rfl⟩⟩;refine⟨_,rfl,?_⟩)|((with_reducible refine zl (f:=110) rfl ?_);refine qu (some 11) rfl rfl Tryd.func110 (by kernel_rfl) rfl #[.int .i64 a1] rfl gs ?_;(with_reducible refine(qz.calls a1 t242 _ A4.out).mono ?_);rintro e w' ⟨rfl,⟨nd,rfl⟩⟩;refine⟨_,rfl,?_⟩)|((with_reducible refine zl (f:=109) rfl ?_);refine qu (some 27) rfl rfl Tryd.func109 (by kernel_rfl) rfl #[.int .u64 (IntKind.u64.wrap (t241+t242)),.bool (decide (a0<0))] rfl gs ?_;(with_reducible refine(ze.calls (IntKind.u64.wrap (t241+t242)) (decide (a0<0)) t243 t244 _ A7.out).mono ?_);rintro e w' ⟨rfl,⟨nd,rfl⟩⟩;refine⟨_,rfl,?_⟩))
  go_ret2
  exact⟨by first|rfl|(simp;done)|(simp [*];done),by repeat(first|exact zu.refl _|apply zu.step)⟩
 rw [if_neg c5] at H
 have c5b0:((decide (a0<0)) == (decide (a1<0)))=false:=by simpa using c5
 (try(have c5b1:decide ((decide (a0<0))=(decide (a1<0)))=false:=by simpa using c5))
 (try(have c5b2:((decide (a0<0)) == (decide (a1<0)))=false:=by simpa using c5))
 (try(have c5b3:¬ ((decide (a0<0))=(decide (a1<0))):=by simpa using c5))
 clear c5
 by_cases c8:t241 ≥ t242
 ·rw [if_pos c8] at H
  have c8b0:=decide_eq_true c8
  clear c8
  replace H:=Option.bind_eq_some_iff.mp H
  obtain ⟨⟨t245,t246⟩,A90,H⟩:=H
  replace H:(some (t245,t246))=some (r1,r2):=H
  have A9:=zq.mk A90
  clear A90
  simp only [Option.some.injEq,Prod.mk.injEq] at H
  obtain ⟨rfl,rfl⟩:=H
  go_enter Tryd.func83,Tryd.ntmps83
  go_wp2_with (first|((with_reducible refine zl (f:=110) rfl ?_);refine qu (some 9) rfl rfl Tryd.func110 (by kernel_rfl) rfl #[.int .i64 a0] rfl gs ?_;(with_reducible refine(qz.calls a0 t241 _ A3.out).mono ?_);rintro e w' ⟨rfl,⟨nd,rfl⟩⟩;refine⟨_,rfl,?_⟩)|((with_reducible refine zl (f:=110) rfl ?_);refine qu (some 11) rfl rfl Tryd.func110 (by kernel_rfl) rfl #[.int .i64 a1] rfl gs ?_;(with_reducible refine(qz.calls a1 t242 _ A4.out).mono ?_);rintro e w' ⟨rfl,⟨nd,rfl⟩⟩;refine⟨_,rfl,?_⟩)|((with_reducible refine zl (f:=109) rfl ?_);refine qu (some 38) rfl rfl Tryd.func109 (by kernel_rfl) rfl #[.int .u64 (IntKind.u64.wrap (t241 - t242)),.bool (decide (a0<0))] rfl gs ?_;(with_reducible refine(ze.calls (IntKind.u64.wrap (t241 - t242)) (decide (a0<0)) t245 t246 _ A9.out).mono ?_);rintro e w' ⟨rfl,⟨nd,rfl⟩⟩;refine⟨_,rfl,?_⟩))
  go_ret2
  exact⟨by first|rfl|(simp;done)|(simp [*];done),by repeat(first|exact zu.refl _|apply zu.step)⟩
 rw [if_neg c8] at H
 have c8b0:=decide_eq_false c8
 clear c8
 replace H:=Option.bind_eq_some_iff.mp H
 obtain ⟨⟨t247,t248⟩,A100,H⟩:=H
 replace H:(some (t247,t248))=some (r1,r2):=H
 have A10:=zq.mk A100
 clear A100
 simp only [Option.some.injEq,Prod.mk.injEq] at H
 obtain ⟨rfl,rfl⟩:=H
 go_enter Tryd.func83,Tryd.ntmps83
 go_wp2_with (first|((with_reducible refine zl (f:=110) rfl ?_);refine qu (some 9) rfl rfl Tryd.func110 (by kernel_rfl) rfl #[.int .i64 a0] rfl gs ?_;(with_reducible refine(qz.calls a0 t241 _ A3.out).mono ?_);rintro e w' ⟨rfl,⟨nd,rfl⟩⟩;refine⟨_,rfl,?_⟩)|((with_reducible refine zl (f:=110) rfl ?_);refine qu (some 11) rfl rfl Tryd.func110 (by kernel_rfl) rfl #[.int .i64 a1] rfl gs ?_;(with_reducible refine(qz.calls a1 t242 _ A4.out).mono ?_);rintro e w' ⟨rfl,⟨nd,rfl⟩⟩;refine⟨_,rfl,?_⟩)|((with_reducible refine zl (f:=109) rfl ?_);refine qu (some 46) rfl rfl Tryd.func109 (by kernel_rfl) rfl #[.int .u64 (IntKind.u64.wrap (t242 - t241)),.bool (decide (a1<0))] rfl gs ?_;(with_reducible refine(ze.calls (IntKind.u64.wrap (t242 - t241)) (decide (a1<0)) t247 t248 _ A10.out).mono ?_);rintro e w' ⟨rfl,⟨nd,rfl⟩⟩;refine⟨_,rfl,?_⟩))
 go_ret2
 exact⟨by first|rfl|(simp;done)|(simp [*];done),by repeat(first|exact zu.refl _|apply zu.step)⟩

/-! ### zjb: function 84 -/
def zjb.f (a0:Int) (a1:Int):Option (Int × Int):=(qz.f a0).bind fun t249=>((qz.f a1).bind fun t250=>(if((decide (a0<0)) != (decide (a1<0)))=true then(if(IntKind.u64.wrap (t249+t250))<t249 then(some (0,10)) else ((ze.f (IntKind.u64.wrap (t249+t250)) (decide (a0<0))).bind fun bt251=>(some (bt251.1,bt251.2)))) else (if t249 ≥ t250 then((ze.f (IntKind.u64.wrap (t249 - t250)) (decide (a0<0))).bind fun bt253=>(some (bt253.1,bt253.2))) else ((ze.f (IntKind.u64.wrap (t250 - t249)) (decide (a0 ≥ 0))).bind fun bt255=>(some (bt255.1,bt255.2))))))
set_option maxHeartbeats 8000000 in
set_option maxRecDepth 100000 in
theorem zjb.calls (a0:Int) (a1:Int) (r1:Int) (r2:Int) (w:World) (h:zjb.f a0 a1=some (r1,r2)) :
  Calls Tryd.prog 84 #[.int .i64 a0,.int .i64 a1] w fun e w'=>e = .returned (.tuple #[.int .i64 r1,.int .i64 r2])∧zu w w':=by
 have H:((qz.f a0).bind fun t249=>((qz.f a1).bind fun t250=>(if((decide (a0<0)) != (decide (a1<0)))=true then(if(IntKind.u64.wrap (t249+t250))<t249 then(some (0,10)) else ((ze.f (IntKind.u64.wrap (t249+t250)) (decide (a0<0))).bind fun bt251=>(some (bt251.1,bt251.2)))) else (if t249 ≥ t250 then((ze.f (IntKind.u64.wrap (t249 - t250)) (decide (a0<0))).bind fun bt253=>(some (bt253.1,bt253.2))) else ((ze.f (IntKind.u64.wrap (t250 - t249)) (decide (a0 ≥ 0))).bind fun bt255=>(some (bt255.1,bt255.2)))))))=some (r1,r2):=h
 clear h
 replace H:=Option.bind_eq_some_iff.mp H
 obtain ⟨t249,A30,H⟩:=H
 replace H:((qz.f a1).bind fun t250=>(if((decide (a0<0)) != (decide (a1<0)))=true then(if(IntKind.u64.wrap (t249+t250))<t249 then(some (0,10)) else ((ze.f (IntKind.u64.wrap (t249+t250)) (decide (a0<0))).bind fun bt251=>(some (bt251.1,bt251.2)))) else (if t249 ≥ t250 then((ze.f (IntKind.u64.wrap (t249 - t250)) (decide (a0<0))).bind fun bt253=>(some (bt253.1,bt253.2))) else ((ze.f (IntKind.u64.wrap (t250 - t249)) (decide (a0 ≥ 0))).bind fun bt255=>(some (bt255.1,bt255.2))))))=some (r1,r2):=H
 have A3:=zq.mk A30
 clear A30
 replace H:=Option.bind_eq_some_iff.mp H
 obtain ⟨t250,A40,H⟩:=H
 replace H:(if((decide (a0<0)) != (decide (a1<0)))=true then(if(IntKind.u64.wrap (t249+t250))<t249 then(some (0,10)) else ((ze.f (IntKind.u64.wrap (t249+t250)) (decide (a0<0))).bind fun bt251=>(some (bt251.1,bt251.2)))) else (if t249 ≥ t250 then((ze.f (IntKind.u64.wrap (t249 - t250)) (decide (a0<0))).bind fun bt253=>(some (bt253.1,bt253.2))) else ((ze.f (IntKind.u64.wrap (t250 - t249)) (decide (a0 ≥ 0))).bind fun bt255=>(some (bt255.1,bt255.2)))))=some (r1,r2):=H
 have A4:=zq.mk A40
 clear A40
 by_cases c5:((decide (a0<0)) != (decide (a1<0)))=true
 ·rw [if_pos c5] at H
  have c5b0:((decide (a0<0)) != (decide (a1<0)))=true:=c5
  (try(have c5b1:decide ((decide (a0<0))=(decide (a1<0)))=false:=by simpa using c5))
  (try(have c5b2:((decide (a0<0)) == (decide (a1<0)))=false:=by simpa using c5))
  (try(have c5b3:¬ ((decide (a0<0))=(decide (a1<0))):=by simpa using c5))
  clear c5
  by_cases c6:(IntKind.u64.wrap (t249+t250))<t249
  ·rw [if_pos c6] at H
   have c6b0:=decide_eq_true c6
   clear c6
   simp only [Option.some.injEq,Prod.mk.injEq] at H
   obtain ⟨rfl,rfl⟩:=H
   go_enter Tryd.func84,Tryd.ntmps84
   go_wp2_with (first|((with_reducible refine zl (f:=110) rfl ?_);refine qu (some 9) rfl rfl Tryd.func110 (by kernel_rfl) rfl #[.int .i64 a0] rfl gs ?_;(with_reducible refine(qz.calls a0 t249 _ A3.out).mono ?_);rintro e w' ⟨rfl,⟨nd,rfl⟩⟩;refine⟨_,rfl,?_⟩)|((with_reducible refine zl (f:=110) rfl ?_);refine qu (some 11) rfl rfl Tryd.func110 (by kernel_rfl) rfl #[.int .i64 a1] rfl gs ?_;(with_reducible refine(qz.calls a1 t250 _ A4.out).mono ?_);rintro e w' ⟨rfl,⟨nd,rfl⟩⟩;refine⟨_,rfl,?_⟩))
   go_ret2
   exact⟨by first|rfl|(simp;done)|(simp [*];done),by repeat(first|exact zu.refl _|apply zu.step)⟩
  rw [if_neg c6] at H
  have c6b0:=decide_eq_false c6
  clear c6
  replace H:=Option.bind_eq_some_iff.mp H
  obtain ⟨⟨t251,t252⟩,A70,H⟩:=H
  replace H:(some (t251,t252))=some (r1,r2):=H
  have A7:=zq.mk A70
  clear A70
  simp only [Option.some.injEq,Prod.mk.injEq] at H
  obtain ⟨rfl,rfl⟩:=H
  go_enter Tryd.func84,Tryd.ntmps84
  go_wp2_with (first|((with_reducible refine zl (f:=110) rfl ?_);refine qu (some 9) rfl rfl Tryd.func110 (by kernel_rfl) rfl #[.int .i64 a0] rfl gs ?_;(with_reducible refine(qz.calls a0 t249 _ A3.out).mono ?_);rintro e w' ⟨rfl,⟨nd,rfl⟩⟩;refine⟨_,rfl,?_⟩)|((with_reducible refine zl (f:=110) rfl ?_);refine qu (some 11) rfl rfl Tryd.func110 (by kernel_rfl) rfl #[.int .i64 a1] rfl gs ?_;(with_reducible refine(qz.calls a1 t250 _ A4.out).mono ?_);rintro e w' ⟨rfl,⟨nd,rfl⟩⟩;refine⟨_,rfl,?_⟩)|((with_reducible refine zl (f:=109) rfl ?_);refine qu (some 27) rfl rfl Tryd.func109 (by kernel_rfl) rfl #[.int .u64 (IntKind.u64.wrap (t249+t250)),.bool (decide (a0<0))] rfl gs ?_;(with_reducible refine(ze.calls (IntKind.u64.wrap (t249+t250)) (decide (a0<0)) t251 t252 _ A7.out).mono ?_);rintro e w' ⟨rfl,⟨nd,rfl⟩⟩;refine⟨_,rfl,?_⟩))
  go_ret2
  exact⟨by first|rfl|(simp;done)|(simp [*];done),by repeat(first|exact zu.refl _|apply zu.step)⟩
 rw [if_neg c5] at H
 have c5b0:((decide (a0<0)) != (decide (a1<0)))=false:=by simpa using c5
 (try(have c5b1:decide ((decide (a0<0))=(decide (a1<0)))=true:=by simpa using c5))
 (try(have c5b2:((decide (a0<0)) == (decide (a1<0)))=true:=by simpa using c5))
 clear c5
 by_cases c8:t249 ≥ t250
 ·rw [if_pos c8] at H
  have c8b0:=decide_eq_true c8
  clear c8
  replace H:=Option.bind_eq_some_iff.mp H
  obtain ⟨⟨t253,t254⟩,A90,H⟩:=H
  replace H:(some (t253,t254))=some (r1,r2):=H
  have A9:=zq.mk A90
  clear A90
  simp only [Option.some.injEq,Prod.mk.injEq] at H
  obtain ⟨rfl,rfl⟩:=H
  go_enter Tryd.func84,Tryd.ntmps84
  go_wp2_with (first|((with_reducible refine zl (f:=110) rfl ?_);refine qu (some 9) rfl rfl Tryd.func110 (by kernel_rfl) rfl #[.int .i64 a0] rfl gs ?_;(with_reducible refine(qz.calls a0 t249 _ A3.out).mono ?_);rintro e w' ⟨rfl,⟨nd,rfl⟩⟩;refine⟨_,rfl,?_⟩)|((with_reducible refine zl (f:=110) rfl ?_);refine qu (some 11) rfl rfl Tryd.func110 (by kernel_rfl) rfl #[.int .i64 a1] rfl gs ?_;(with_reducible refine(qz.calls a1 t250 _ A4.out).mono ?_);rintro e w' ⟨rfl,⟨nd,rfl⟩⟩;refine⟨_,rfl,?_⟩)|((with_reducible refine zl (f:=109) rfl ?_);refine qu (some 38) rfl rfl Tryd.func109 (by kernel_rfl) rfl #[.int .u64 (IntKind.u64.wrap (t249 - t250)),.bool (decide (a0<0))] rfl gs ?_;(with_reducible refine(ze.calls (IntKind.u64.wrap (t249 - t250)) (decide (a0<0)) t253 t254 _ A9.out).mono ?_);rintro e w' ⟨rfl,⟨nd,rfl⟩⟩;refine⟨_,rfl,?_⟩))
  go_ret2
  exact⟨by first|rfl|(simp;done)|(simp [*];done),by repeat(first|exact zu.refl _|apply zu.step)⟩
 rw [if_neg c8] at H
 have c8b0:=decide_eq_false c8
 clear c8
 replace H:=Option.bind_eq_some_iff.mp H
 obtain ⟨⟨t255,t256⟩,A100,H⟩:=H
 replace H:(some (t255,t256))=some (r1,r2):=H
 have A10:=zq.mk A100
 clear A100
 simp only [Option.some.injEq,Prod.mk.injEq] at H
 obtain ⟨rfl,rfl⟩:=H
 go_enter Tryd.func84,Tryd.ntmps84
 go_wp2_with (first|((with_reducible refine zl (f:=110) rfl ?_);refine qu (some 9) rfl rfl Tryd.func110 (by kernel_rfl) rfl #[.int .i64 a0] rfl gs ?_;(with_reducible refine(qz.calls a0 t249 _ A3.out).mono ?_);rintro e w' ⟨rfl,⟨nd,rfl⟩⟩;refine⟨_,rfl,?_⟩)|((with_reducible refine zl (f:=110) rfl ?_);refine qu (some 11) rfl rfl Tryd.func110 (by kernel_rfl) rfl #[.int .i64 a1] rfl gs ?_;(with_reducible refine(qz.calls a1 t250 _ A4.out).mono ?_);rintro e w' ⟨rfl,⟨nd,rfl⟩⟩;refine⟨_,rfl,?_⟩)|((with_reducible refine zl (f:=109) rfl ?_);refine qu (some 46) rfl rfl Tryd.func109 (by kernel_rfl) rfl #[.int .u64 (IntKind.u64.wrap (t250 - t249)),.bool (decide (a0 ≥ 0))] rfl gs ?_;(with_reducible refine(ze.calls (IntKind.u64.wrap (t250 - t249)) (decide (a0 ≥ 0)) t255 t256 _ A10.out).mono ?_);rintro e w' ⟨rfl,⟨nd,rfl⟩⟩;refine⟨_,rfl,?_⟩))
 go_ret2
 exact⟨by first|rfl|(simp;done)|(simp [*];done),by repeat(first|exact zu.refl _|apply zu.step)⟩

/-! ### bits_Mul64: function 112 -/
def bits_Mul64.f (a0:Int) (a1:Int):Option (Int × Int):=some (IntKind.u64.wrap ((IntKind.u64.wrap ((IntKind.u64.wrap ((a0 / 4294967296) * (a1 / 4294967296)))+((IntKind.u64.wrap ((IntKind.u64.wrap ((a0 / 4294967296) * (Go.bits .and .u64 a1 4294967295)))+((IntKind.u64.wrap ((Go.bits .and .u64 a0 4294967295) * (Go.bits .and .u64 a1 4294967295))) / 4294967296))) / 4294967296)))+((IntKind.u64.wrap ((Go.bits .and .u64 (IntKind.u64.wrap ((IntKind.u64.wrap ((a0 / 4294967296) * (Go.bits .and .u64 a1 4294967295)))+((IntKind.u64.wrap ((Go.bits .and .u64 a0 4294967295) * (Go.bits .and .u64 a1 4294967295))) / 4294967296))) 4294967295)+(IntKind.u64.wrap ((Go.bits .and .u64 a0 4294967295) * (a1 / 4294967296))))) / 4294967296)),IntKind.u64.wrap (a0 * a1))
set_option maxHeartbeats 8000000 in
set_option maxRecDepth 100000 in
theorem bits_Mul64.calls (a0:Int) (a1:Int) (r1:Int) (r2:Int) (w:World) (h:bits_Mul64.f a0 a1=some (r1,r2)) :
  Calls Tryd.prog 112 #[.int .u64 a0,.int .u64 a1] w fun e w'=>e = .returned (.tuple #[.int .u64 r1,.int .u64 r2])∧zu w w':=by
 have H:(some (IntKind.u64.wrap ((IntKind.u64.wrap ((IntKind.u64.wrap ((a0 / 4294967296) * (a1 / 4294967296)))+((IntKind.u64.wrap ((IntKind.u64.wrap ((a0 / 4294967296) * (Go.bits .and .u64 a1 4294967295)))+((IntKind.u64.wrap ((Go.bits .and .u64 a0 4294967295) * (Go.bits .and .u64 a1 4294967295))) / 4294967296))) / 4294967296)))+((IntKind.u64.wrap ((Go.bits .and .u64 (IntKind.u64.wrap ((IntKind.u64.wrap ((a0 / 4294967296) * (Go.bits .and .u64 a1 4294967295)))+((IntKind.u64.wrap ((Go.bits .and .u64 a0 4294967295) * (Go.bits .and .u64 a1 4294967295))) / 4294967296))) 4294967295)+(IntKind.u64.wrap ((Go.bits .and .u64 a0 4294967295) * (a1 / 4294967296))))) / 4294967296)),IntKind.u64.wrap (a0 * a1)))=some (r1,r2):=h
 clear h
 simp only [Option.some.injEq,Prod.mk.injEq] at H
 obtain ⟨rfl,rfl⟩:=H
 go_enter Tryd.func112,Tryd.ntmps112
 go_wp2
 go_ret2
 exact⟨by first|rfl|(simp;done)|(simp [*];done),by repeat(first|exact zu.refl _|apply zu.step)⟩

/-! ### zq9: function 85 -/
def zq9.f (a0:Int) (a1:Int):Option (Int × Int):=(qz.f a0).bind fun t257=>((qz.f a1).bind fun t258=>((bits_Mul64.f t257 t258).bind fun bt259=>(if bt259.1=0 then((ze.f bt259.2 ((decide (a0<0)) != (decide (a1<0)))).bind fun bt261=>(some (bt261.1,bt261.2))) else (some (0,10)))))
set_option maxHeartbeats 8000000 in
set_option maxRecDepth 100000 in
theorem zq9.calls (a0:Int) (a1:Int) (r1:Int) (r2:Int) (w:World) (h:zq9.f a0 a1=some (r1,r2)) :
  Calls Tryd.prog 85 #[.int .i64 a0,.int .i64 a1] w fun e w'=>e = .returned (.tuple #[.int .i64 r1,.int .i64 r2])∧zu w w':=by
 have H:((qz.f a0).bind fun t257=>((qz.f a1).bind fun t258=>((bits_Mul64.f t257 t258).bind fun bt259=>(if bt259.1=0 then((ze.f bt259.2 ((decide (a0<0)) != (decide (a1<0)))).bind fun bt261=>(some (bt261.1,bt261.2))) else (some (0,10))))))=some (r1,r2):=h
 clear h
 replace H:=Option.bind_eq_some_iff.mp H
 obtain ⟨t257,A30,H⟩:=H
 replace H:((qz.f a1).bind fun t258=>((bits_Mul64.f t257 t258).bind fun bt259=>(if bt259.1=0 then((ze.f bt259.2 ((decide (a0<0)) != (decide (a1<0)))).bind fun bt261=>(some (bt261.1,bt261.2))) else (some (0,10)))))=some (r1,r2):=H
 have A3:=zq.mk A30
 clear A30
 replace H:=Option.bind_eq_some_iff.mp H
 obtain ⟨t258,A40,H⟩:=H
 replace H:((bits_Mul64.f t257 t258).bind fun bt259=>(if bt259.1=0 then((ze.f bt259.2 ((decide (a0<0)) != (decide (a1<0)))).bind fun bt261=>(some (bt261.1,bt261.2))) else (some (0,10))))=some (r1,r2):=H
 have A4:=zq.mk A40
 clear A40
 replace H:=Option.bind_eq_some_iff.mp H
 obtain ⟨⟨t259,t260⟩,A50,H⟩:=H
 replace H:(if t259=0 then((ze.f t260 ((decide (a0<0)) != (decide (a1<0)))).bind fun bt261=>(some (bt261.1,bt261.2))) else (some (0,10)))=some (r1,r2):=H
 have A5:=zq.mk A50
 clear A50
 by_cases c6:t259=0
 ·rw [if_pos c6] at H
  have c6b0:(t259 == 0)=true:=beq_iff_eq.mpr c6
  have c6b1:(t259 != 0)=false:=bne_eq_false_iff_eq.mpr c6
  clear c6
  replace H:=Option.bind_eq_some_iff.mp H
  obtain ⟨⟨t261,t262⟩,A70,H⟩:=H
  replace H:(some (t261,t262))=some (r1,r2):=H
  have A7:=zq.mk A70
  clear A70
  simp only [Option.some.injEq,Prod.mk.injEq] at H
  obtain ⟨rfl,rfl⟩:=H
  go_enter Tryd.func85,Tryd.ntmps85
  go_wp2_with (first|((with_reducible refine zl (f:=110) rfl ?_);refine qu (some 10) rfl rfl Tryd.func110 (by kernel_rfl) rfl #[.int .i64 a0] rfl gs ?_;(with_reducible refine(qz.calls a0 t257 _ A3.out).mono ?_);rintro e w' ⟨rfl,⟨nd,rfl⟩⟩;refine⟨_,rfl,?_⟩)|((with_reducible refine zl (f:=110) rfl ?_);refine qu (some 12) rfl rfl Tryd.func110 (by kernel_rfl) rfl #[.int .i64 a1] rfl gs ?_;(with_reducible refine(qz.calls a1 t258 _ A4.out).mono ?_);rintro e w' ⟨rfl,⟨nd,rfl⟩⟩;refine⟨_,rfl,?_⟩)|((with_reducible refine zl (f:=112) rfl ?_);refine qu (some 13) rfl rfl Tryd.func112 (by kernel_rfl) rfl #[.int .u64 t257,.int .u64 t258] rfl gs ?_;(with_reducible refine(bits_Mul64.calls t257 t258 t259 t260 _ A5.out).mono ?_);rintro e w' ⟨rfl,⟨nd,rfl⟩⟩;refine⟨_,rfl,?_⟩)|((with_reducible refine zl (f:=109) rfl ?_);refine qu (some 24) rfl rfl Tryd.func109 (by kernel_rfl) rfl #[.int .u64 t260,.bool ((decide (a0<0)) != (decide (a1<0)))] rfl gs ?_;(with_reducible refine(ze.calls t260 ((decide (a0<0)) != (decide (a1<0))) t261 t262 _ A7.out).mono ?_);rintro e w' ⟨rfl,⟨nd,rfl⟩⟩;refine⟨_,rfl,?_⟩))
  go_ret2
  exact⟨by first|rfl|(simp;done)|(simp [*];done),by repeat(first|exact zu.refl _|apply zu.step)⟩
 rw [if_neg c6] at H
 have c6b0:(t259 == 0)=false:=beq_eq_false_iff_ne.mpr c6
 have c6b1:(t259 != 0)=true:=bne_iff_ne.mpr c6
 simp only [Option.some.injEq,Prod.mk.injEq] at H
 obtain ⟨rfl,rfl⟩:=H
 go_enter Tryd.func85,Tryd.ntmps85
 go_wp2_with (first|((with_reducible refine zl (f:=110) rfl ?_);refine qu (some 10) rfl rfl Tryd.func110 (by kernel_rfl) rfl #[.int .i64 a0] rfl gs ?_;(with_reducible refine(qz.calls a0 t257 _ A3.out).mono ?_);rintro e w' ⟨rfl,⟨nd,rfl⟩⟩;refine⟨_,rfl,?_⟩)|((with_reducible refine zl (f:=110) rfl ?_);refine qu (some 12) rfl rfl Tryd.func110 (by kernel_rfl) rfl #[.int .i64 a1] rfl gs ?_;(with_reducible refine(qz.calls a1 t258 _ A4.out).mono ?_);rintro e w' ⟨rfl,⟨nd,rfl⟩⟩;refine⟨_,rfl,?_⟩)|((with_reducible refine zl (f:=112) rfl ?_);refine qu (some 13) rfl rfl Tryd.func112 (by kernel_rfl) rfl #[.int .u64 t257,.int .u64 t258] rfl gs ?_;(with_reducible refine(bits_Mul64.calls t257 t258 t259 t260 _ A5.out).mono ?_);rintro e w' ⟨rfl,⟨nd,rfl⟩⟩;refine⟨_,rfl,?_⟩))
 go_ret2
 exact⟨by first|rfl|(simp;done)|(simp [*];done),by repeat(first|exact zu.refl _|apply zu.step)⟩

/-! ### zq5: function 86 -/
def zq5.f (a0:Int) (a1:Int):Option (Int × Int):=if a1=0 then(some (0,11)) else ((qz.f a0).bind fun t263=>((qz.f a1).bind fun t264=>(if t264=0 then(none) else ((ze.f (IntKind.u64.wrap (Int.tdiv t263 t264)) ((decide (a0<0)) != (decide (a1<0)))).bind fun bt265=>(some (bt265.1,bt265.2))))))
set_option maxHeartbeats 8000000 in
set_option maxRecDepth 100000 in
theorem zq5.calls (a0:Int) (a1:Int) (r1:Int) (r2:Int) (w:World) (h:zq5.f a0 a1=some (r1,r2)) :
  Calls Tryd.prog 86 #[.int .i64 a0,.int .i64 a1] w fun e w'=>e = .returned (.tuple #[.int .i64 r1,.int .i64 r2])∧zu w w':=by
 have H:(if a1=0 then(some (0,11)) else ((qz.f a0).bind fun t263=>((qz.f a1).bind fun t264=>(if t264=0 then(none) else ((ze.f (IntKind.u64.wrap (Int.tdiv t263 t264)) ((decide (a0<0)) != (decide (a1<0)))).bind fun bt265=>(some (bt265.1,bt265.2)))))))=some (r1,r2):=h
 clear h
 by_cases c3:a1=0
 ·rw [if_pos c3] at H
  have c3b0:(a1 == 0)=true:=beq_iff_eq.mpr c3
  have c3b1:(a1 != 0)=false:=bne_eq_false_iff_eq.mpr c3
  clear c3
  simp only [Option.some.injEq,Prod.mk.injEq] at H
  obtain ⟨rfl,rfl⟩:=H
  go_enter Tryd.func86,Tryd.ntmps86
  go_wp2
  go_ret2
  exact⟨by first|rfl|(simp;done)|(simp [*];done),by repeat(first|exact zu.refl _|apply zu.step)⟩
 rw [if_neg c3] at H
 have c3b0:(a1 == 0)=false:=beq_eq_false_iff_ne.mpr c3
 have c3b1:(a1 != 0)=true:=bne_iff_ne.mpr c3
 replace H:=Option.bind_eq_some_iff.mp H
 obtain ⟨t263,A40,H⟩:=H
 replace H:((qz.f a1).bind fun t264=>(if t264=0 then(none) else ((ze.f (IntKind.u64.wrap (Int.tdiv t263 t264)) ((decide (a0<0)) != (decide (a1<0)))).bind fun bt265=>(some (bt265.1,bt265.2)))))=some (r1,r2):=H
 have A4:=zq.mk A40
 clear A40
 replace H:=Option.bind_eq_some_iff.mp H
 obtain ⟨t264,A50,H⟩:=H
 replace H:(if t264=0 then(none) else ((ze.f (IntKind.u64.wrap (Int.tdiv t263 t264)) ((decide (a0<0)) != (decide (a1<0)))).bind fun bt265=>(some (bt265.1,bt265.2))))=some (r1,r2):=H
 have A5:=zq.mk A50
 clear A50
 by_cases c6:t264=0
 ·rw [if_pos c6] at H
  exact absurd H (by simp)
 rw [if_neg c6] at H
 have c6b0:(t264 == 0)=false:=beq_eq_false_iff_ne.mpr c6
 have c6b1:(t264 != 0)=true:=bne_iff_ne.mpr c6
 replace H:=Option.bind_eq_some_iff.mp H
 obtain ⟨⟨t265,t266⟩,A70,H⟩:=H
 replace H:(some (t265,t266))=some (r1,r2):=H
 have A7:=zq.mk A70
 clear A70
 simp only [Option.some.injEq,Prod.mk.injEq] at H
 obtain ⟨rfl,rfl⟩:=H
 go_enter Tryd.func86,Tryd.ntmps86
 go_wp2_with (first|((with_reducible refine zl (f:=110) rfl ?_);refine qu (some 9) rfl rfl Tryd.func110 (by kernel_rfl) rfl #[.int .i64 a0] rfl gs ?_;(with_reducible refine(qz.calls a0 t263 _ A4.out).mono ?_);rintro e w' ⟨rfl,⟨nd,rfl⟩⟩;refine⟨_,rfl,?_⟩)|((with_reducible refine zl (f:=110) rfl ?_);refine qu (some 11) rfl rfl Tryd.func110 (by kernel_rfl) rfl #[.int .i64 a1] rfl gs ?_;(with_reducible refine(qz.calls a1 t264 _ A5.out).mono ?_);rintro e w' ⟨rfl,⟨nd,rfl⟩⟩;refine⟨_,rfl,?_⟩)|((with_reducible refine zl (f:=109) rfl ?_);refine qu (some 18) rfl rfl Tryd.func109 (by kernel_rfl) rfl #[.int .u64 (IntKind.u64.wrap (Int.tdiv t263 t264)),.bool ((decide (a0<0)) != (decide (a1<0)))] rfl gs ?_;(with_reducible refine(ze.calls (IntKind.u64.wrap (Int.tdiv t263 t264)) ((decide (a0<0)) != (decide (a1<0))) t265 t266 _ A7.out).mono ?_);rintro e w' ⟨rfl,⟨nd,rfl⟩⟩;refine⟨_,rfl,?_⟩))
 go_ret2
 exact⟨by first|rfl|(simp;done)|(simp [*];done),by repeat(first|exact zu.refl _|apply zu.step)⟩

/-! ### zja: function 87 -/
def zja.f (a0:Int) (a1:Int):Option (Int × Int):=if a1=0 then(some (0,11)) else ((qz.f a0).bind fun t267=>((qz.f a1).bind fun t268=>(if t268=0 then(none) else ((ze.f (Int.tmod t267 t268) (decide (a0<0))).bind fun bt269=>(some (bt269.1,bt269.2))))))
set_option maxHeartbeats 8000000 in
set_option maxRecDepth 100000 in
theorem zja.calls (a0:Int) (a1:Int) (r1:Int) (r2:Int) (w:World) (h:zja.f a0 a1=some (r1,r2)) :
  Calls Tryd.prog 87 #[.int .i64 a0,.int .i64 a1] w fun e w'=>e = .returned (.tuple #[.int .i64 r1,.int .i64 r2])∧zu w w':=by
 have H:(if a1=0 then(some (0,11)) else ((qz.f a0).bind fun t267=>((qz.f a1).bind fun t268=>(if t268=0 then(none) else ((ze.f (Int.tmod t267 t268) (decide (a0<0))).bind fun bt269=>(some (bt269.1,bt269.2)))))))=some (r1,r2):=h
 clear h
 by_cases c3:a1=0
 ·rw [if_pos c3] at H
  have c3b0:(a1 == 0)=true:=beq_iff_eq.mpr c3
  have c3b1:(a1 != 0)=false:=bne_eq_false_iff_eq.mpr c3
  clear c3
  simp only [Option.some.injEq,Prod.mk.injEq] at H
  obtain ⟨rfl,rfl⟩:=H
  go_enter Tryd.func87,Tryd.ntmps87
  go_wp2
  go_ret2
  exact⟨by first|rfl|(simp;done)|(simp [*];done),by repeat(first|exact zu.refl _|apply zu.step)⟩
 rw [if_neg c3] at H
 have c3b0:(a1 == 0)=false:=beq_eq_false_iff_ne.mpr c3
 have c3b1:(a1 != 0)=true:=bne_iff_ne.mpr c3
 replace H:=Option.bind_eq_some_iff.mp H
 obtain ⟨t267,A40,H⟩:=H
 replace H:((qz.f a1).bind fun t268=>(if t268=0 then(none) else ((ze.f (Int.tmod t267 t268) (decide (a0<0))).bind fun bt269=>(some (bt269.1,bt269.2)))))=some (r1,r2):=H
 have A4:=zq.mk A40
 clear A40
 replace H:=Option.bind_eq_some_iff.mp H
 obtain ⟨t268,A50,H⟩:=H
 replace H:(if t268=0 then(none) else ((ze.f (Int.tmod t267 t268) (decide (a0<0))).bind fun bt269=>(some (bt269.1,bt269.2))))=some (r1,r2):=H
 have A5:=zq.mk A50
 clear A50
 by_cases c6:t268=0
 ·rw [if_pos c6] at H
  exact absurd H (by simp)
 rw [if_neg c6] at H
 have c6b0:(t268 == 0)=false:=beq_eq_false_iff_ne.mpr c6
 have c6b1:(t268 != 0)=true:=bne_iff_ne.mpr c6
 replace H:=Option.bind_eq_some_iff.mp H
 obtain ⟨⟨t269,t270⟩,A70,H⟩:=H
 replace H:(some (t269,t270))=some (r1,r2):=H
 have A7:=zq.mk A70
 clear A70
 simp only [Option.some.injEq,Prod.mk.injEq] at H
 obtain ⟨rfl,rfl⟩:=H
 go_enter Tryd.func87,Tryd.ntmps87
 go_wp2_with (first|((with_reducible refine zl (f:=110) rfl ?_);refine qu (some 9) rfl rfl Tryd.func110 (by kernel_rfl) rfl #[.int .i64 a0] rfl gs ?_;(with_reducible refine(qz.calls a0 t267 _ A4.out).mono ?_);rintro e w' ⟨rfl,⟨nd,rfl⟩⟩;refine⟨_,rfl,?_⟩)|((with_reducible refine zl (f:=110) rfl ?_);refine qu (some 11) rfl rfl Tryd.func110 (by kernel_rfl) rfl #[.int .i64 a1] rfl gs ?_;(with_reducible refine(qz.calls a1 t268 _ A5.out).mono ?_);rintro e w' ⟨rfl,⟨nd,rfl⟩⟩;refine⟨_,rfl,?_⟩)|((with_reducible refine zl (f:=109) rfl ?_);refine qu (some 15) rfl rfl Tryd.func109 (by kernel_rfl) rfl #[.int .u64 (Int.tmod t267 t268),.bool (decide (a0<0))] rfl gs ?_;(with_reducible refine(ze.calls (Int.tmod t267 t268) (decide (a0<0)) t269 t270 _ A7.out).mono ?_);rintro e w' ⟨rfl,⟨nd,rfl⟩⟩;refine⟨_,rfl,?_⟩))
 go_ret2
 exact⟨by first|rfl|(simp;done)|(simp [*];done),by repeat(first|exact zu.refl _|apply zu.step)⟩

end Go.Proofs.YthhejedfjgikdaaDoor.PRelProjects
