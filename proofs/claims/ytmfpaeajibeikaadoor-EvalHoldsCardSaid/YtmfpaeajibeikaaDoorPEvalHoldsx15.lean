-- Written by wip/pp of this repo (over the kit's print, with additions of this session); Lean checks every line.
import Derived.Test.YtmfpaeajibeikaaDoorPEvalHoldsx13
namespace Go.Proofs.YtmfpaeajibeikaaDoor.PEvalHolds
open Go.RowKit Go.Proofs.YtmfpaeajibeikaaDoorW.PrintWords Go.Proofs.YtmfpaeajibeikaaDoorW.PrintLast Go.Proofs.YtmfpaeajibeikaaDoorW.PrintMore
attribute [local go_sem] zje zjc zjo zjn zq1 zq0 zjd zjb   -- for this text's walks alone
set_option linter.unusedVariables false
set_option linter.unusedSimpArgs false

/-! ### zjk: function 78 -/
def zjk.f (a0:Int) (a1:Int):Option (Int × Int):=(qj.f a0).bind fun t221=>((qj.f a1).bind fun t222=>(if((decide (a0<0)) == (decide (a1<0)))=true then(if(IntKind.u64.wrap (t221+t222))<t221 then(some (0,10)) else ((zu.f (IntKind.u64.wrap (t221+t222)) (decide (a0<0))).bind fun bt223=>(some (bt223.1,bt223.2)))) else (if t221 ≥ t222 then((zu.f (IntKind.u64.wrap (t221 - t222)) (decide (a0<0))).bind fun bt225=>(some (bt225.1,bt225.2))) else ((zu.f (IntKind.u64.wrap (t222 - t221)) (decide (a1<0))).bind fun bt227=>(some (bt227.1,bt227.2))))))
set_option maxHeartbeats 8000000 in
set_option maxRecDepth 100000 in
theorem zjk.calls (a0:Int) (a1:Int) (r1:Int) (r2:Int) (w:World) (h:zjk.f a0 a1=some (r1,r2)) :
  Calls Tryd.prog 78 #[.int .i64 a0,.int .i64 a1] w fun e w'=>e = .returned (.tuple #[.int .i64 r1,.int .i64 r2])∧qx w w':=by
 have H:((qj.f a0).bind fun t221=>((qj.f a1).bind fun t222=>(if((decide (a0<0)) == (decide (a1<0)))=true then(if(IntKind.u64.wrap (t221+t222))<t221 then(some (0,10)) else ((zu.f (IntKind.u64.wrap (t221+t222)) (decide (a0<0))).bind fun bt223=>(some (bt223.1,bt223.2)))) else (if t221 ≥ t222 then((zu.f (IntKind.u64.wrap (t221 - t222)) (decide (a0<0))).bind fun bt225=>(some (bt225.1,bt225.2))) else ((zu.f (IntKind.u64.wrap (t222 - t221)) (decide (a1<0))).bind fun bt227=>(some (bt227.1,bt227.2)))))))=some (r1,r2):=h
 clear h
 replace H:=Option.bind_eq_some_iff.mp H
 obtain ⟨t221,A30,H⟩:=H
 replace H:((qj.f a1).bind fun t222=>(if((decide (a0<0)) == (decide (a1<0)))=true then(if(IntKind.u64.wrap (t221+t222))<t221 then(some (0,10)) else ((zu.f (IntKind.u64.wrap (t221+t222)) (decide (a0<0))).bind fun bt223=>(some (bt223.1,bt223.2)))) else (if t221 ≥ t222 then((zu.f (IntKind.u64.wrap (t221 - t222)) (decide (a0<0))).bind fun bt225=>(some (bt225.1,bt225.2))) else ((zu.f (IntKind.u64.wrap (t222 - t221)) (decide (a1<0))).bind fun bt227=>(some (bt227.1,bt227.2))))))=some (r1,r2):=H
 have A3:=zq.mk A30
 clear A30
 replace H:=Option.bind_eq_some_iff.mp H
 obtain ⟨t222,A40,H⟩:=H
 replace H:(if((decide (a0<0)) == (decide (a1<0)))=true then(if(IntKind.u64.wrap (t221+t222))<t221 then(some (0,10)) else ((zu.f (IntKind.u64.wrap (t221+t222)) (decide (a0<0))).bind fun bt223=>(some (bt223.1,bt223.2)))) else (if t221 ≥ t222 then((zu.f (IntKind.u64.wrap (t221 - t222)) (decide (a0<0))).bind fun bt225=>(some (bt225.1,bt225.2))) else ((zu.f (IntKind.u64.wrap (t222 - t221)) (decide (a1<0))).bind fun bt227=>(some (bt227.1,bt227.2)))))=some (r1,r2):=H
 have A4:=zq.mk A40
 clear A40
 by_cases c5:((decide (a0<0)) == (decide (a1<0)))=true
 ·rw [if_pos c5] at H
  have c5b0:((decide (a0<0)) == (decide (a1<0)))=true:=c5
  (try(have c5b1:decide ((decide (a0<0))=(decide (a1<0)))=true:=by simpa using c5))
  (try(have c5b2:((decide (a0<0)) == (decide (a1<0)))=true:=by simpa using c5))
  clear c5
  by_cases c6:(IntKind.u64.wrap (t221+t222))<t221
  ·rw [if_pos c6] at H
   have c6b0:=decide_eq_true c6
   clear c6
   simp only [Option.some.injEq,Prod.mk.injEq] at H
   obtain ⟨rfl,rfl⟩:=H
   go_enter Tryd.func78,Tryd.ntmps78
   go_wp2_with (first|((with_reducible refine zs (f:=109) rfl ?_);refine qo (some 9) rfl rfl Tryd.func109 (by kernel_rfl) rfl #[.int .i64 a0] rfl gs ?_;(with_reducible refine(qj.calls a0 t221 _ A3.out).mono ?_);rintro e w' ⟨rfl,⟨nd,rfl⟩⟩;refine⟨_,rfl,?_⟩)|((with_reducible refine zs (f:=109) rfl ?_);refine qo (some 11) rfl rfl Tryd.func109 (by kernel_rfl) rfl #[.int .i64 a1] rfl gs ?_;(with_reducible refine(qj.calls a1 t222 _ A4.out).mono ?_);rintro e w' ⟨rfl,⟨nd,rfl⟩⟩;refine⟨_,rfl,?_⟩))
   go_ret2
   exact⟨by first|rfl|(simp;done)|(simp [*];done),by repeat(first|exact qx.refl _|apply qx.step)⟩
  rw [if_neg c6] at H
  have c6b0:=decide_eq_false c6
  clear c6
  replace H:=Option.bind_eq_some_iff.mp H
  obtain ⟨⟨t223,t224⟩,A70,H⟩:=H
  replace H:(some (t223,t224))=some (r1,r2):=H
  have A7:=zq.mk A70
  clear A70
  simp only [Option.some.injEq,Prod.mk.injEq] at H
  obtain ⟨rfl,rfl⟩:=H
  go_enter Tryd.func78,Tryd.ntmps78
  go_wp2_with (first|((with_reducible refine zs (f:=109) rfl ?_);refine qo (some 9) rfl rfl Tryd.func109 (by kernel_rfl) rfl #[.int .i64 a0] rfl gs ?_;(with_reducible refine(qj.calls a0 t221 _ A3.out).mono ?_);rintro e w' ⟨rfl,⟨nd,rfl⟩⟩;refine⟨_,rfl,?_⟩)|((with_reducible refine zs (f:=109) rfl ?_);refine qo (some 11) rfl rfl Tryd.func109 (by kernel_rfl) rfl #[.int .i64 a1] rfl gs ?_;(with_reducible refine(qj.calls a1 t222 _ A4.out).mono ?_);rintro e w' ⟨rfl,⟨nd,rfl⟩⟩;refine⟨_,rfl,?_⟩)|((with_reducible refine zs (f:=108) rfl ?_);refine qo (some 27) rfl rfl Tryd.func108 (by kernel_rfl) rfl #[.int .u64 (IntKind.u64.wrap (t221+t222)),.bool (decide (a0<0))] rfl gs ?_;(with_reducible refine(zu.calls (IntKind.u64.wrap (t221+t222)) (decide (a0<0)) t223 t224 _ A7.out).mono ?_);rintro e w' ⟨rfl,⟨nd,rfl⟩⟩;refine⟨_,rfl,?_⟩))
  go_ret2
  exact⟨by first|rfl|(simp;done)|(simp [*];done),by repeat(first|exact qx.refl _|apply qx.step)⟩
 rw [if_neg c5] at H
 have c5b0:((decide (a0<0)) == (decide (a1<0)))=false:=by simpa using c5
 (try(have c5b1:decide ((decide (a0<0))=(decide (a1<0)))=false:=by simpa using c5))
 (try(have c5b2:((decide (a0<0)) == (decide (a1<0)))=false:=by simpa using c5))
 (try(have c5b3:¬ ((decide (a0<0))=(decide (a1<0))):=by simpa using c5))
 clear c5
 by_cases c8:t221 ≥ t222
 ·rw [if_pos c8] at H
  have c8b0:=decide_eq_true c8
  clear c8
  replace H:=Option.bind_eq_some_iff.mp H
  obtain ⟨⟨t225,t226⟩,A90,H⟩:=H
  replace H:(some (t225,t226))=some (r1,r2):=H
  have A9:=zq.mk A90
  clear A90
  simp only [Option.some.injEq,Prod.mk.injEq] at H
  obtain ⟨rfl,rfl⟩:=H
  go_enter Tryd.func78,Tryd.ntmps78
  go_wp2_with (first|((with_reducible refine zs (f:=109) rfl ?_);refine qo (some 9) rfl rfl Tryd.func109 (by kernel_rfl) rfl #[.int .i64 a0] rfl gs ?_;(with_reducible refine(qj.calls a0 t221 _ A3.out).mono ?_);rintro e w' ⟨rfl,⟨nd,rfl⟩⟩;refine⟨_,rfl,?_⟩)|((with_reducible refine zs (f:=109) rfl ?_);refine qo (some 11) rfl rfl Tryd.func109 (by kernel_rfl) rfl #[.int .i64 a1] rfl gs ?_;(with_reducible refine(qj.calls a1 t222 _ A4.out).mono ?_);rintro e w' ⟨rfl,⟨nd,rfl⟩⟩;refine⟨_,rfl,?_⟩)|((with_reducible refine zs (f:=108) rfl ?_);refine qo (some 38) rfl rfl Tryd.func108 (by kernel_rfl) rfl #[.int .u64 (IntKind.u64.wrap (t221 - t222)),.bool (decide (a0<0))] rfl gs ?_;(with_reducible refine(zu.calls (IntKind.u64.wrap (t221 - t222)) (decide (a0<0)) t225 t226 _ A9.out).mono ?_);rintro e w' ⟨rfl,⟨nd,rfl⟩⟩;refine⟨_,rfl,?_⟩))
  go_ret2
  exact⟨by first|rfl|(simp;done)|(simp [*];done),by repeat(first|exact qx.refl _|apply qx.step)⟩
 rw [if_neg c8] at H
 have c8b0:=decide_eq_false c8
 clear c8
 replace H:=Option.bind_eq_some_iff.mp H
 obtain ⟨⟨t227,t228⟩,A100,H⟩:=H
 replace H:(some (t227,t228))=some (r1,r2):=H
 have A10:=zq.mk A100
 clear A100
 simp only [Option.some.injEq,Prod.mk.injEq] at H
 obtain ⟨rfl,rfl⟩:=H
 go_enter Tryd.func78,Tryd.ntmps78
 go_wp2_with (first|((with_reducible refine zs (f:=109) rfl ?_);refine qo (some 9) rfl rfl Tryd.func109 (by kernel_rfl) rfl #[.int .i64 a0] rfl gs ?_;(with_reducible refine(qj.calls a0 t221 _ A3.out).mono ?_);rintro e w' ⟨rfl,⟨nd,rfl⟩⟩;refine⟨_,rfl,?_⟩)|((with_reducible refine zs (f:=109) rfl ?_);refine qo (some 11) rfl rfl Tryd.func109 (by kernel_rfl) rfl #[.int .i64 a1] rfl gs ?_;(with_reducible refine(qj.calls a1 t222 _ A4.out).mono ?_);rintro e w' ⟨rfl,⟨nd,rfl⟩⟩;refine⟨_,rfl,?_⟩)|((with_reducible refine zs (f:=108) rfl ?_);refine qo (some 46) rfl rfl Tryd.func108 (by kernel_rfl) rfl #[.int .u64 (IntKind.u64.wrap (t222 - t221)),.bool (decide (a1<0))] rfl gs ?_;(with_reducible refine(zu.calls (IntKind.u64.wrap (t222 - t221)) (decide (a1<0)) t227 t228 _ A10.out).mono ?_);rintro e w' ⟨rfl,⟨nd,rfl⟩⟩;refine⟨_,rfl,?_⟩))
 go_ret2
 exact⟨by first|rfl|(simp;done)|(simp [*];done),by repeat(first|exact qx.refl _|apply qx.step)⟩

/-! ### zji: function 79 -/
def zji.f (a0:Int) (a1:Int):Option (Int × Int):=(qj.f a0).bind fun t229=>((qj.f a1).bind fun t230=>(if((decide (a0<0)) != (decide (a1<0)))=true then(if(IntKind.u64.wrap (t229+t230))<t229 then(some (0,10)) else ((zu.f (IntKind.u64.wrap (t229+t230)) (decide (a0<0))).bind fun bt231=>(some (bt231.1,bt231.2)))) else (if t229 ≥ t230 then((zu.f (IntKind.u64.wrap (t229 - t230)) (decide (a0<0))).bind fun bt233=>(some (bt233.1,bt233.2))) else ((zu.f (IntKind.u64.wrap (t230 - t229)) (decide (a0 ≥ 0))).bind fun bt235=>(some (bt235.1,bt235.2))))))
set_option maxHeartbeats 8000000 in
set_option maxRecDepth 100000 in
theorem zji.calls (a0:Int) (a1:Int) (r1:Int) (r2:Int) (w:World) (h:zji.f a0 a1=some (r1,r2)) :
  Calls Tryd.prog 79 #[.int .i64 a0,.int .i64 a1] w fun e w'=>e = .returned (.tuple #[.int .i64 r1,.int .i64 r2])∧qx w w':=by
 have H:((qj.f a0).bind fun t229=>((qj.f a1).bind fun t230=>(if((decide (a0<0)) != (decide (a1<0)))=true then(if(IntKind.u64.wrap (t229+t230))<t229 then(some (0,10)) else ((zu.f (IntKind.u64.wrap (t229+t230)) (decide (a0<0))).bind fun bt231=>(some (bt231.1,bt231.2)))) else (if t229 ≥ t230 then((zu.f (IntKind.u64.wrap (t229 - t230)) (decide (a0<0))).bind fun bt233=>(some (bt233.1,bt233.2))) else ((zu.f (IntKind.u64.wrap (t230 - t229)) (decide (a0 ≥ 0))).bind fun bt235=>(some (bt235.1,bt235.2)))))))=some (r1,r2):=h
 clear h
 replace H:=Option.bind_eq_some_iff.mp H
 obtain ⟨t229,A30,H⟩:=H
 replace H:((qj.f a1).bind fun t230=>(if((decide (a0<0)) != (decide (a1<0)))=true then(if(IntKind.u64.wrap (t229+t230))<t229 then(some (0,10)) else ((zu.f (IntKind.u64.wrap (t229+t230)) (decide (a0<0))).bind fun bt231=>(some (bt231.1,bt231.2)))) else (if t229 ≥ t230 then((zu.f (IntKind.u64.wrap (t229 - t230)) (decide (a0<0))).bind fun bt233=>(some (bt233.1,bt233.2))) else ((zu.f (IntKind.u64.wrap (t230 - t229)) (decide (a0 ≥ 0))).bind fun bt235=>(some (bt235.1,bt235.2))))))=some (r1,r2):=H
 have A3:=zq.mk A30
 clear A30
 replace H:=Option.bind_eq_some_iff.mp H
 obtain ⟨t230,A40,H⟩:=H
 replace H:(if((decide (a0<0)) != (decide (a1<0)))=true then(if(IntKind.u64.wrap (t229+t230))<t229 then(some (0,10)) else ((zu.f (IntKind.u64.wrap (t229+t230)) (decide (a0<0))).bind fun bt231=>(some (bt231.1,bt231.2)))) else (if t229 ≥ t230 then((zu.f (IntKind.u64.wrap (t229 - t230)) (decide (a0<0))).bind fun bt233=>(some (bt233.1,bt233.2))) else ((zu.f (IntKind.u64.wrap (t230 - t229)) (decide (a0 ≥ 0))).bind fun bt235=>(some (bt235.1,bt235.2)))))=some (r1,r2):=H
 have A4:=zq.mk A40
 clear A40
 by_cases c5:((decide (a0<0)) != (decide (a1<0)))=true
 ·rw [if_pos c5] at H
  have c5b0:((decide (a0<0)) != (decide (a1<0)))=true:=c5
  (try(have c5b1:decide ((decide (a0<0))=(decide (a1<0)))=false:=by simpa using c5))
  (try(have c5b2:((decide (a0<0)) == (decide (a1<0)))=false:=by simpa using c5))
  (try(have c5b3:¬ ((decide (a0<0))=(decide (a1<0))):=by simpa using c5))
  clear c5
  by_cases c6:(IntKind.u64.wrap (t229+t230))<t229
  ·rw [if_pos c6] at H
   have c6b0:=decide_eq_true c6
   clear c6
   simp only [Option.some.injEq,Prod.mk.injEq] at H
   obtain ⟨rfl,rfl⟩:=H
   go_enter Tryd.func79,Tryd.ntmps79
   go_wp2_with (first|((with_reducible refine zs (f:=109) rfl ?_);refine qo (some 9) rfl rfl Tryd.func109 (by kernel_rfl) rfl #[.int .i64 a0] rfl gs ?_;(with_reducible refine(qj.calls a0 t229 _ A3.out).mono ?_);rintro e w' ⟨rfl,⟨nd,rfl⟩⟩;refine⟨_,rfl,?_⟩)|((with_reducible refine zs (f:=109) rfl ?_);refine qo (some 11) rfl rfl Tryd.func109 (by kernel_rfl) rfl #[.int .i64 a1] rfl gs ?_;(with_reducible refine(qj.calls a1 t230 _ A4.out).mono ?_);rintro e w' ⟨rfl,⟨nd,rfl⟩⟩;refine⟨_,rfl,?_⟩))
   go_ret2
   exact⟨by first|rfl|(simp;done)|(simp [*];done),by repeat(first|exact qx.refl _|apply qx.step)⟩
  rw [if_neg c6] at H
  have c6b0:=decide_eq_false c6
  clear c6
  replace H:=Option.bind_eq_some_iff.mp H
  obtain ⟨⟨t231,t232⟩,A70,H⟩:=H
  replace H:(some (t231,t232))=some (r1,r2):=H
  have A7:=zq.mk A70
  clear A70
  simp only [Option.some.injEq,Prod.mk.injEq] at H
  obtain ⟨rfl,rfl⟩:=H
  go_enter Tryd.func79,Tryd.ntmps79
  go_wp2_with (first|((with_reducible refine zs (f:=109) rfl ?_);refine qo (some 9) rfl rfl Tryd.func109 (by kernel_rfl) rfl #[.int .i64 a0] rfl gs ?_;(with_reducible refine(qj.calls a0 t229 _ A3.out).mono ?_);rintro e w' ⟨rfl,⟨nd,rfl⟩⟩;refine⟨_,rfl,?_⟩)|((with_reducible refine zs (f:=109) rfl ?_);refine qo (some 11) rfl rfl Tryd.func109 (by kernel_rfl) rfl #[.int .i64 a1] rfl gs ?_;(with_reducible refine(qj.calls a1 t230 _ A4.out).mono ?_);rintro e w' ⟨rfl,⟨nd,rfl⟩⟩;refine⟨_,rfl,?_⟩)|((with_reducible refine zs (f:=108) rfl ?_);refine qo (some 27) rfl rfl Tryd.func108 (by kernel_rfl) rfl #[.int .u64 (IntKind.u64.wrap (t229+t230)),.bool (decide (a0<0))] rfl gs ?_;(with_reducible refine(zu.calls (IntKind.u64.wrap (t229+t230)) (decide (a0<0)) t231 t232 _ A7.out).mono ?_);rintro e w' ⟨rfl,⟨nd,rfl⟩⟩;refine⟨_,rfl,?_⟩))
  go_ret2
  exact⟨by first|rfl|(simp;done)|(simp [*];done),by repeat(first|exact qx.refl _|apply qx.step)⟩
 rw [if_neg c5] at H
 have c5b0:((decide (a0<0)) != (decide (a1<0)))=false:=by simpa using c5
 (try(have c5b1:decide ((decide (a0<0))=(decide (a1<0)))=true:=by simpa using c5))
 (try(have c5b2:((decide (a0<0)) == (decide (a1<0)))=true:=by simpa using c5))
 clear c5
 by_cases c8:t229 ≥ t230
 ·rw [if_pos c8] at H
  have c8b0:=decide_eq_true c8
  clear c8
  replace H:=Option.bind_eq_some_iff.mp H
  obtain ⟨⟨t233,t234⟩,A90,H⟩:=H
  replace H:(some (t233,t234))=some (r1,r2):=H
  have A9:=zq.mk A90
  clear A90
  simp only [Option.some.injEq,Prod.mk.injEq] at H
  obtain ⟨rfl,rfl⟩:=H
  go_enter Tryd.func79,Tryd.ntmps79
  go_wp2_with (first|((with_reducible refine zs (f:=109) rfl ?_);refine qo (some 9) rfl rfl Tryd.func109 (by kernel_rfl) rfl #[.int .i64 a0] rfl gs ?_;(with_reducible refine(qj.calls a0 t229 _ A3.out).mono ?_);rintro e w' ⟨rfl,⟨nd,rfl⟩⟩;refine⟨_,rfl,?_⟩)|((with_reducible refine zs (f:=109) rfl ?_);refine qo (some 11) rfl rfl Tryd.func109 (by kernel_rfl) rfl #[.int .i64 a1] rfl gs ?_;(with_reducible refine(qj.calls a1 t230 _ A4.out).mono ?_);rintro e w' ⟨rfl,⟨nd,rfl⟩⟩;refine⟨_,rfl,?_⟩)|((with_reducible refine zs (f:=108) rfl ?_);refine qo (some 38) rfl rfl Tryd.func108 (by kernel_rfl) rfl #[.int .u64 (IntKind.u64.wrap (t229 - t230)),.bool (decide (a0<0))] rfl gs ?_;(with_reducible refine(zu.calls (IntKind.u64.wrap (t229 - t230)) (decide (a0<0)) t233 t234 _ A9.out).mono ?_);rintro e w' ⟨rfl,⟨nd,rfl⟩⟩;refine⟨_,rfl,?_⟩))
  go_ret2
  exact⟨by first|rfl|(simp;done)|(simp [*];done),by repeat(first|exact qx.refl _|apply qx.step)⟩
 rw [if_neg c8] at H
 have c8b0:=decide_eq_false c8
 clear c8
 replace H:=Option.bind_eq_some_iff.mp H
 obtain ⟨⟨t235,t236⟩,A100,H⟩:=H
 replace H:(some (t235,t236))=some (r1,r2):=H
 have A10:=zq.mk A100
 clear A100
 simp only [Option.some.injEq,Prod.mk.injEq] at H
 obtain ⟨rfl,rfl⟩:=H
 go_enter Tryd.func79,Tryd.ntmps79
 go_wp2_with (first|((with_reducible refine zs (f:=109) rfl ?_);refine qo (some 9) rfl rfl Tryd.func109 (by kernel_rfl) rfl #[.int .i64 a0] rfl gs ?_;(with_reducible refine(qj.calls a0 t229 _ A3.out).mono ?_);rintro e w' ⟨rfl,⟨nd,rfl⟩⟩;refine⟨_,rfl,?_⟩)|((with_reducible refine zs (f:=109) rfl ?_);refine qo (some 11) rfl rfl Tryd.func109 (by kernel_rfl) rfl #[.int .i64 a1] rfl gs ?_;(with_reducible refine(qj.calls a1 t230 _ A4.out).mono ?_);rintro e w' ⟨rfl,⟨nd,rfl⟩⟩;refine⟨_,rfl,?_⟩)|((with_reducible refine zs (f:=108) rfl ?_);refine qo (some 46) rfl rfl Tryd.func108 (by kernel_rfl) rfl #[.int .u64 (IntKind.u64.wrap (t230 - t229)),.bool (decide (a0 ≥ 0))] rfl gs ?_;(with_reducible refine(zu.calls (IntKind.u64.wrap (t230 - t229)) (decide (a0 ≥ 0)) t235 t236 _ A10.out).mono ?_);rintro e w' ⟨rfl,⟨nd,rfl⟩⟩;refine⟨_,rfl,?_⟩))
 go_ret2
 exact⟨by first|rfl|(simp;done)|(simp [*];done),by repeat(first|exact qx.refl _|apply qx.step)⟩

/-! ### bits_Mul64: function 111 -/
def bits_Mul64.f (a0:Int) (a1:Int):Option (Int × Int):=some (IntKind.u64.wrap ((IntKind.u64.wrap ((IntKind.u64.wrap ((a0 / 4294967296) * (a1 / 4294967296)))+((IntKind.u64.wrap ((IntKind.u64.wrap ((a0 / 4294967296) * (Go.bits .and .u64 a1 4294967295)))+((IntKind.u64.wrap ((Go.bits .and .u64 a0 4294967295) * (Go.bits .and .u64 a1 4294967295))) / 4294967296))) / 4294967296)))+((IntKind.u64.wrap ((Go.bits .and .u64 (IntKind.u64.wrap ((IntKind.u64.wrap ((a0 / 4294967296) * (Go.bits .and .u64 a1 4294967295)))+((IntKind.u64.wrap ((Go.bits .and .u64 a0 4294967295) * (Go.bits .and .u64 a1 4294967295))) / 4294967296))) 4294967295)+(IntKind.u64.wrap ((Go.bits .and .u64 a0 4294967295) * (a1 / 4294967296))))) / 4294967296)),IntKind.u64.wrap (a0 * a1))
set_option maxHeartbeats 8000000 in
set_option maxRecDepth 100000 in
theorem bits_Mul64.calls (a0:Int) (a1:Int) (r1:Int) (r2:Int) (w:World) (h:bits_Mul64.f a0 a1=some (r1,r2)) :
  Calls Tryd.prog 111 #[.int .u64 a0,.int .u64 a1] w fun e w'=>e = .returned (.tuple #[.int .u64 r1,.int .u64 r2])∧qx w w':=by
 have H:(some (IntKind.u64.wrap ((IntKind.u64.wrap ((IntKind.u64.wrap ((a0 / 4294967296) * (a1 / 4294967296)))+((IntKind.u64.wrap ((IntKind.u64.wrap ((a0 / 4294967296) * (Go.bits .and .u64 a1 4294967295)))+((IntKind.u64.wrap ((Go.bits .and .u64 a0 4294967295) * (Go.bits .and .u64 a1 4294967295))) / 4294967296))) / 4294967296)))+((IntKind.u64.wrap ((Go.bits .and .u64 (IntKind.u64.wrap ((IntKind.u64.wrap ((a0 / 4294967296) * (Go.bits .and .u64 a1 4294967295)))+((IntKind.u64.wrap ((Go.bits .and .u64 a0 4294967295) * (Go.bits .and .u64 a1 4294967295))) / 4294967296))) 4294967295)+(IntKind.u64.wrap ((Go.bits .and .u64 a0 4294967295) * (a1 / 4294967296))))) / 4294967296)),IntKind.u64.wrap (a0 * a1)))=some (r1,r2):=h
 clear h
 simp only [Option.some.injEq,Prod.mk.injEq] at H
 obtain ⟨rfl,rfl⟩:=H
 go_enter Tryd.func111,Tryd.ntmps111
 go_wp2
 go_ret2
 exact⟨by first|rfl|(simp;done)|(simp [*];done),by repeat(first|exact qx.refl _|apply qx.step)⟩

/-! ### zjg: function 80 -/
def zjg.f (a0:Int) (a1:Int):Option (Int × Int):=(qj.f a0).bind fun t237=>((qj.f a1).bind fun t238=>((bits_Mul64.f t237 t238).bind fun bt239=>(if bt239.1=0 then((zu.f bt239.2 ((decide (a0<0)) != (decide (a1<0)))).bind fun bt241=>(some (bt241.1,bt241.2))) else (some (0,10)))))
set_option maxHeartbeats 8000000 in
set_option maxRecDepth 100000 in
theorem zjg.calls (a0:Int) (a1:Int) (r1:Int) (r2:Int) (w:World) (h:zjg.f a0 a1=some (r1,r2)) :
  Calls Tryd.prog 80 #[.int .i64 a0,.int .i64 a1] w fun e w'=>e = .returned (.tuple #[.int .i64 r1,.int .i64 r2])∧qx w w':=by
 have H:((qj.f a0).bind fun t237=>((qj.f a1).bind fun t238=>((bits_Mul64.f t237 t238).bind fun bt239=>(if bt239.1=0 then((zu.f bt239.2 ((decide (a0<0)) != (decide (a1<0)))).bind fun bt241=>(some (bt241.1,bt241.2))) else (some (0,10))))))=some (r1,r2):=h
 clear h
 replace H:=Option.bind_eq_some_iff.mp H
 obtain ⟨t237,A30,H⟩:=H
 replace H:((qj.f a1).bind fun t238=>((bits_Mul64.f t237 t238).bind fun bt239=>(if bt239.1=0 then((zu.f bt239.2 ((decide (a0<0)) != (decide (a1<0)))).bind fun bt241=>(some (bt241.1,bt241.2))) else (some (0,10)))))=some (r1,r2):=H
 have A3:=zq.mk A30
 clear A30
 replace H:=Option.bind_eq_some_iff.mp H
 obtain ⟨t238,A40,H⟩:=H
 replace H:((bits_Mul64.f t237 t238).bind fun bt239=>(if bt239.1=0 then((zu.f bt239.2 ((decide (a0<0)) != (decide (a1<0)))).bind fun bt241=>(some (bt241.1,bt241.2))) else (some (0,10))))=some (r1,r2):=H
 have A4:=zq.mk A40
 clear A40
 replace H:=Option.bind_eq_some_iff.mp H
 obtain ⟨⟨t239,t240⟩,A50,H⟩:=H
 replace H:(if t239=0 then((zu.f t240 ((decide (a0<0)) != (decide (a1<0)))).bind fun bt241=>(some (bt241.1,bt241.2))) else (some (0,10)))=some (r1,r2):=H
 have A5:=zq.mk A50
 clear A50
 by_cases c6:t239=0
 ·rw [if_pos c6] at H
  have c6b0:(t239 == 0)=true:=beq_iff_eq.mpr c6
  have c6b1:(t239 != 0)=false:=bne_eq_false_iff_eq.mpr c6
  clear c6
  replace H:=Option.bind_eq_some_iff.mp H
  obtain ⟨⟨t241,t242⟩,A70,H⟩:=H
  replace H:(some (t241,t242))=some (r1,r2):=H
  have A7:=zq.mk A70
  clear A70
  simp only [Option.some.injEq,Prod.mk.injEq] at H
  obtain ⟨rfl,rfl⟩:=H
  go_enter Tryd.func80,Tryd.ntmps80
  go_wp2_with (first|((with_reducible refine zs (f:=109) rfl ?_);refine qo (some 10) rfl rfl Tryd.func109 (by kernel_rfl) rfl #[.int .i64 a0] rfl gs ?_;(with_reducible refine(qj.calls a0 t237 _ A3.out).mono ?_);rintro e w' ⟨rfl,⟨nd,rfl⟩⟩;refine⟨_,rfl,?_⟩)|((with_reducible refine zs (f:=109) rfl ?_);refine qo (some 12) rfl rfl Tryd.func109 (by kernel_rfl) rfl #[.int .i64 a1] rfl gs ?_;(with_reducible refine(qj.calls a1 t238 _ A4.out).mono ?_);rintro e w' ⟨rfl,⟨nd,rfl⟩⟩;refine⟨_,rfl,?_⟩)|((with_reducible refine zs (f:=111) rfl ?_);refine qo (some 13) rfl rfl Tryd.func111 (by kernel_rfl) rfl #[.int .u64 t237,.int .u64 t238] rfl gs ?_;(with_reducible refine(bits_Mul64.calls t237 t238 t239 t240 _ A5.out).mono ?_);rintro e w' ⟨rfl,⟨nd,rfl⟩⟩;refine⟨_,rfl,?_⟩)|((with_reducible refine zs (f:=108) rfl ?_);refine qo (some 24) rfl rfl Tryd.func108 (by kernel_rfl) rfl #[.int .u64 t240,.bool ((decide (a0<0)) != (decide (a1<0)))] rfl gs ?_;(with_reducible refine(zu.calls t240 ((decide (a0<0)) != (decide (a1<0))) t241 t242 _ A7.out).mono ?_);rintro e w' ⟨rfl,⟨nd,rfl⟩⟩;refine⟨_,rfl,?_⟩))
  go_ret2
  exact⟨by first|rfl|(simp;done)|(simp [*];done),by repeat(first|exact qx.refl _|apply qx.step)⟩
 rw [if_neg c6] at H
 have c6b0:(t239 == 0)=false:=beq_eq_false_iff_ne.mpr c6
 have c6b1:(t239 != 0)=true:=bne_iff_ne.mpr c6
 simp only [Option.some.injEq,Prod.mk.injEq] at H
 obtain ⟨rfl,rfl⟩:=H
 go_enter Tryd.func80,Tryd.ntmps80
 go_wp2_with (first|((with_reducible refine zs (f:=109) rfl ?_);refine qo (some 10) rfl rfl Tryd.func109 (by kernel_rfl) rfl #[.int .i64 a0] rfl gs ?_;(with_reducible refine(qj.calls a0 t237 _ A3.out).mono ?_);rintro e w' ⟨rfl,⟨nd,rfl⟩⟩;refine⟨_,rfl,?_⟩)|((with_reducible refine zs (f:=109) rfl ?_);refine qo (some 12) rfl rfl Tryd.func109 (by kernel_rfl) rfl #[.int .i64 a1] rfl gs ?_;(with_reducible refine(qj.calls a1 t238 _ A4.out).mono ?_);rintro e w' ⟨rfl,⟨nd,rfl⟩⟩;refine⟨_,rfl,?_⟩)|((with_reducible refine zs (f:=111) rfl ?_);refine qo (some 13) rfl rfl Tryd.func111 (by kernel_rfl) rfl #[.int .u64 t237,.int .u64 t238] rfl gs ?_;(with_reducible refine(bits_Mul64.calls t237 t238 t239 t240 _ A5.out).mono ?_);rintro e w' ⟨rfl,⟨nd,rfl⟩⟩;refine⟨_,rfl,?_⟩))
 go_ret2
 exact⟨by first|rfl|(simp;done)|(simp [*];done),by repeat(first|exact qx.refl _|apply qx.step)⟩

/-! ### zq6: function 81 -/
def zq6.f (a0:Int) (a1:Int):Option (Int × Int):=if a1=0 then(some (0,11)) else ((qj.f a0).bind fun t243=>((qj.f a1).bind fun t244=>(if t244=0 then(none) else ((zu.f (IntKind.u64.wrap (Int.tdiv t243 t244)) ((decide (a0<0)) != (decide (a1<0)))).bind fun bt245=>(some (bt245.1,bt245.2))))))
set_option maxHeartbeats 8000000 in
set_option maxRecDepth 100000 in
theorem zq6.calls (a0:Int) (a1:Int) (r1:Int) (r2:Int) (w:World) (h:zq6.f a0 a1=some (r1,r2)) :
  Calls Tryd.prog 81 #[.int .i64 a0,.int .i64 a1] w fun e w'=>e = .returned (.tuple #[.int .i64 r1,.int .i64 r2])∧qx w w':=by
 have H:(if a1=0 then(some (0,11)) else ((qj.f a0).bind fun t243=>((qj.f a1).bind fun t244=>(if t244=0 then(none) else ((zu.f (IntKind.u64.wrap (Int.tdiv t243 t244)) ((decide (a0<0)) != (decide (a1<0)))).bind fun bt245=>(some (bt245.1,bt245.2)))))))=some (r1,r2):=h
 clear h
 by_cases c3:a1=0
 ·rw [if_pos c3] at H
  have c3b0:(a1 == 0)=true:=beq_iff_eq.mpr c3
  have c3b1:(a1 != 0)=false:=bne_eq_false_iff_eq.mpr c3
  clear c3
  simp only [Option.some.injEq,Prod.mk.injEq] at H
  obtain ⟨rfl,rfl⟩:=H
  go_enter Tryd.func81,Tryd.ntmps81
  go_wp2
  go_ret2
  exact⟨by first|rfl|(simp;done)|(simp [*];done),by repeat(first|exact qx.refl _|apply qx.step)⟩
 rw [if_neg c3] at H
 have c3b0:(a1 == 0)=false:=beq_eq_false_iff_ne.mpr c3
 have c3b1:(a1 != 0)=true:=bne_iff_ne.mpr c3
 replace H:=Option.bind_eq_some_iff.mp H
 obtain ⟨t243,A40,H⟩:=H
 replace H:((qj.f a1).bind fun t244=>(if t244=0 then(none) else ((zu.f (IntKind.u64.wrap (Int.tdiv t243 t244)) ((decide (a0<0)) != (decide (a1<0)))).bind fun bt245=>(some (bt245.1,bt245.2)))))=some (r1,r2):=H
 have A4:=zq.mk A40
 clear A40
 replace H:=Option.bind_eq_some_iff.mp H
 obtain ⟨t244,A50,H⟩:=H
 replace H:(if t244=0 then(none) else ((zu.f (IntKind.u64.wrap (Int.tdiv t243 t244)) ((decide (a0<0)) != (decide (a1<0)))).bind fun bt245=>(some (bt245.1,bt245.2))))=some (r1,r2):=H
 have A5:=zq.mk A50
 clear A50
 by_cases c6:t244=0
 ·rw [if_pos c6] at H
  exact absurd H (by simp)
 rw [if_neg c6] at H
 have c6b0:(t244 == 0)=false:=beq_eq_false_iff_ne.mpr c6
 have c6b1:(t244 != 0)=true:=bne_iff_ne.mpr c6
 replace H:=Option.bind_eq_some_iff.mp H
 obtain ⟨⟨t245,t246⟩,A70,H⟩:=H
 replace H:(some (t245,t246))=some (r1,r2):=H
 have A7:=zq.mk A70
 clear A70
 simp only [Option.some.injEq,Prod.mk.injEq] at H
 obtain ⟨rfl,rfl⟩:=H
 go_enter Tryd.func81,Tryd.ntmps81
 go_wp2_with (first|((with_reducible refine zs (f:=109) rfl ?_);refine qo (some 9) rfl rfl Tryd.func109 (by kernel_rfl) rfl #[.int .i64 a0] rfl gs ?_;(with_reducible refine(qj.calls a0 t243 _ A4.out).mono ?_);rintro e w' ⟨rfl,⟨nd,rfl⟩⟩;refine⟨_,rfl,?_⟩)|((with_reducible refine zs (f:=109) rfl ?_);refine qo (some 11) rfl rfl Tryd.func109 (by kernel_rfl) rfl #[.int .i64 a1] rfl gs ?_;(with_reducible refine(qj.calls a1 t244 _ A5.out).mono ?_);rintro e w' ⟨rfl,⟨nd,rfl⟩⟩;refine⟨_,rfl,?_⟩)|((with_reducible refine zs (f:=108) rfl ?_);refine qo (some 18) rfl rfl Tryd.func108 (by kernel_rfl) rfl #[.int .u64 (IntKind.u64.wrap (Int.tdiv t243 t244)),.bool ((decide (a0<0)) != (decide (a1<0)))] rfl gs ?_;(with_reducible refine(zu.calls (IntKind.u64.wrap (Int.tdiv t243 t244)) ((decide (a0<0)) != (decide (a1<0))) t245 t246 _ A7.out).mono ?_);rintro e w' ⟨rfl,⟨nd,rfl⟩⟩;refine⟨_,rfl,?_⟩))
 go_ret2
 exact⟨by first|rfl|(simp;done)|(simp [*];done),by repeat(first|exact qx.refl _|apply qx.step)⟩

/-! ### zjh: function 82 -/
def zjh.f (a0:Int) (a1:Int):Option (Int × Int):=if a1=0 then(some (0,11)) else ((qj.f a0).bind fun t247=>((qj.f a1).bind fun t248=>(if t248=0 then(none) else ((zu.f (Int.tmod t247 t248) (decide (a0<0))).bind fun bt249=>(some (bt249.1,bt249.2))))))
set_option maxHeartbeats 8000000 in
set_option maxRecDepth 100000 in
theorem zjh.calls (a0:Int) (a1:Int) (r1:Int) (r2:Int) (w:World) (h:zjh.f a0 a1=some (r1,r2)) :
  Calls Tryd.prog 82 #[.int .i64 a0,.int .i64 a1] w fun e w'=>e = .returned (.tuple #[.int .i64 r1,.int .i64 r2])∧qx w w':=by
 have H:(if a1=0 then(some (0,11)) else ((qj.f a0).bind fun t247=>((qj.f a1).bind fun t248=>(if t248=0 then(none) else ((zu.f (Int.tmod t247 t248) (decide (a0<0))).bind fun bt249=>(some (bt249.1,bt249.2)))))))=some (r1,r2):=h
 clear h
 by_cases c3:a1=0
 ·rw [if_pos c3] at H
  have c3b0:(a1 == 0)=true:=beq_iff_eq.mpr c3
  have c3b1:(a1 != 0)=false:=bne_eq_false_iff_eq.mpr c3
  clear c3
  simp only [Option.some.injEq,Prod.mk.injEq] at H
  obtain ⟨rfl,rfl⟩:=H
  go_enter Tryd.func82,Tryd.ntmps82
  go_wp2
  go_ret2
  exact⟨by first|rfl|(simp;done)|(simp [*];done),by repeat(first|exact qx.refl _|apply qx.step)⟩
 rw [if_neg c3] at H
 have c3b0:(a1 == 0)=false:=beq_eq_false_iff_ne.mpr c3
 have c3b1:(a1 != 0)=true:=bne_iff_ne.mpr c3
 replace H:=Option.bind_eq_some_iff.mp H
 obtain ⟨t247,A40,H⟩:=H
 replace H:((qj.f a1).bind fun t248=>(if t248=0 then(none) else ((zu.f (Int.tmod t247 t248) (decide (a0<0))).bind fun bt249=>(some (bt249.1,bt249.2)))))=some (r1,r2):=H
 have A4:=zq.mk A40
 clear A40
 replace H:=Option.bind_eq_some_iff.mp H
 obtain ⟨t248,A50,H⟩:=H
 replace H:(if t248=0 then(none) else ((zu.f (Int.tmod t247 t248) (decide (a0<0))).bind fun bt249=>(some (bt249.1,bt249.2))))=some (r1,r2):=H
 have A5:=zq.mk A50
 clear A50
 by_cases c6:t248=0
 ·rw [if_pos c6] at H
  exact absurd H (by simp)
 rw [if_neg c6] at H
 have c6b0:(t248 == 0)=false:=beq_eq_false_iff_ne.mpr c6
 have c6b1:(t248 != 0)=true:=bne_iff_ne.mpr c6
 replace H:=Option.bind_eq_some_iff.mp H
 obtain ⟨⟨t249,t250⟩,A70,H⟩:=H
 replace H:(some (t249,t250))=some (r1,r2):=H
 have A7:=zq.mk A70
 clear A70
 simp only [Option.some.injEq,Prod.mk.injEq] at H
 obtain ⟨rfl,rfl⟩:=H
 go_enter Tryd.func82,Tryd.ntmps82
 go_wp2_with (first|((with_reducible refine zs (f:=109) rfl ?_);refine qo (some 9) rfl rfl Tryd.func109 (by kernel_rfl) rfl #[.int .i64 a0] rfl gs ?_;(with_reducible refine(qj.calls a0 t247 _ A4.out).mono ?_);rintro e w' ⟨rfl,⟨nd,rfl⟩⟩;refine⟨_,rfl,?_⟩)|((with_reducible refine zs (f:=109) rfl ?_);refine qo (some 11) rfl rfl Tryd.func109 (by kernel_rfl) rfl #[.int .i64 a1] rfl gs ?_;(with_reducible refine(qj.calls a1 t248 _ A5.out).mono ?_);rintro e w' ⟨rfl,⟨nd,rfl⟩⟩;refine⟨_,rfl,?_⟩)|((with_reducible refine zs (f:=108) rfl ?_);refine qo (some 15) rfl rfl Tryd.func108 (by kernel_rfl) rfl #[.int .u64 (Int.tmod t247 t248),.bool (decide (a0<0))] rfl gs ?_;(with_reducible refine(zu.calls (Int.tmod t247 t248) (decide (a0<0)) t249 t250 _ A7.out).mono ?_);rintro e w' ⟨rfl,⟨nd,rfl⟩⟩;refine⟨_,rfl,?_⟩))
 go_ret2
 exact⟨by first|rfl|(simp;done)|(simp [*];done),by repeat(first|exact qx.refl _|apply qx.step)⟩

end Go.Proofs.YtmfpaeajibeikaaDoor.PEvalHolds
