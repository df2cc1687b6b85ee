-- Written by wip/pp of this repo (over the kit's print, with additions of this session); Lean checks every line.
import Derived.Test.YtmfpaeajibeikaaDoorPEvalHoldsx3
namespace Go.Proofs.YtmfpaeajibeikaaDoor.PEvalHolds
open Go.RowKit Go.Proofs.YtmfpaeajibeikaaDoorW.PrintWords Go.Proofs.YtmfpaeajibeikaaDoorW.PrintLast Go.Proofs.YtmfpaeajibeikaaDoorW.PrintMore
attribute [local go_sem] zje zjc zjo zjn zq1 zq0 zjd zjb   -- for this text's walks alone
set_option linter.unusedVariables false
set_option linter.unusedSimpArgs false

/-! ### cmp_isNaN_int: function 113 -/
def cmp_isNaN_int.f (a0:Int):Option (Bool):=some (a0 != a0)
set_option maxHeartbeats 8000000 in
set_option maxRecDepth 100000 in
theorem cmp_isNaN_int.calls (a0:Int) (r:Bool) (w:World) (h:cmp_isNaN_int.f a0=some r) :
  Calls Tryd.prog 113 #[.int .i64 a0] w fun e w'=>e = .returned (.bool r)∧qx w w':=by
 have H:(some (a0 != a0))=some r:=h
 clear h
 obtain rfl:=Option.some.inj H
 go_enter Tryd.func113,Tryd.ntmps113
 go_wp2
 go_ret
 exact⟨by first|rfl|(simp;done)|(simp [*];done),by repeat(first|exact qx.refl _|apply qx.step)⟩

/-! ### cmp_Compare_int: function 86 -/
def cmp_Compare_int.f (a0:Int) (a1:Int):Option (Int):=(cmp_isNaN_int.f a0).bind fun t121=>((cmp_isNaN_int.f a1).bind fun t122=>(if t121=true then(if t122=true then(some 0) else (some (-1))) else (if t122=true then(some 1) else (if a0<a1 then(some (-1)) else (if a0 > a1 then(some 1) else (some 0))))))
set_option maxHeartbeats 8000000 in
set_option maxRecDepth 100000 in
theorem cmp_Compare_int.calls (a0:Int) (a1:Int) (r:Int) (w:World) (h:cmp_Compare_int.f a0 a1=some r) :
  Calls Tryd.prog 86 #[.int .i64 a0,.int .i64 a1] w fun e w'=>e = .returned (.int .i64 r)∧qx w w':=by
 have H:((cmp_isNaN_int.f a0).bind fun t121=>((cmp_isNaN_int.f a1).bind fun t122=>(if t121=true then(if t122=true then(some 0) else (some (-1))) else (if t122=true then(some 1) else (if a0<a1 then(some (-1)) else (if a0 > a1 then(some 1) else (some 0)))))))=some r:=h
 clear h
 replace H:=Option.bind_eq_some_iff.mp H
 obtain ⟨t121,A30,H⟩:=H
 replace H:((cmp_isNaN_int.f a1).bind fun t122=>(if t121=true then(if t122=true then(some 0) else (some (-1))) else (if t122=true then(some 1) else (if a0<a1 then(some (-1)) else (if a0 > a1 then(some 1) else (some 0))))))=some r:=H
 have A3:=zq.mk A30
 clear A30
 replace H:=Option.bind_eq_some_iff.mp H
 obtain ⟨t122,A40,H⟩:=H
 replace H:(if t121=true then(if t122=true then(some 0) else (some (-1))) else (if t122=true then(some 1) else (if a0<a1 then(some (-1)) else (if a0 > a1 then(some 1) else (some 0)))))=some r:=H
 have A4:=zq.mk A40
 clear A40
 by_cases c5:t121=true
 ·subst c5
  rw [if_pos rfl] at H
  by_cases c6:t122=true
  ·subst c6
   rw [if_pos rfl] at H
   obtain rfl:=Option.some.inj H
   go_enter Tryd.func86,Tryd.ntmps86
   go_wp2_with (first|((with_reducible refine zs (f:=113) rfl ?_);refine qo (some 8) rfl rfl Tryd.func113 (by kernel_rfl) rfl #[.int .i64 a0] rfl gs ?_;(with_reducible refine(cmp_isNaN_int.calls a0 true _ A3.out).mono ?_);rintro e w' ⟨rfl,⟨nd,rfl⟩⟩;refine⟨_,rfl,?_⟩)|((with_reducible refine zs (f:=113) rfl ?_);refine qo (some 10) rfl rfl Tryd.func113 (by kernel_rfl) rfl #[.int .i64 a1] rfl gs ?_;(with_reducible refine(cmp_isNaN_int.calls a1 true _ A4.out).mono ?_);rintro e w' ⟨rfl,⟨nd,rfl⟩⟩;refine⟨_,rfl,?_⟩))
   go_ret
   exact⟨by first|rfl|(simp;done)|(simp [*];done),by repeat(first|exact qx.refl _|apply qx.step)⟩
  replace c6:=Bool.eq_false_iff.mpr c6
  subst c6
  rw [if_neg (show ¬ (false=true) by decide)] at H
  obtain rfl:=Option.some.inj H
  go_enter Tryd.func86,Tryd.ntmps86
  go_wp2_with (first|((with_reducible refine zs (f:=113) rfl ?_);refine qo (some 8) rfl rfl Tryd.func113 (by kernel_rfl) rfl #[.int .i64 a0] rfl gs ?_;(with_reducible refine(cmp_isNaN_int.calls a0 true _ A3.out).mono ?_);rintro e w' ⟨rfl,⟨nd,rfl⟩⟩;refine⟨_,rfl,?_⟩)|((with_reducible refine zs (f:=113) rfl ?_);refine qo (some 10) rfl rfl Tryd.func113 (by kernel_rfl) rfl #[.int .i64 a1] rfl gs ?_;(with_reducible refine(cmp_isNaN_int.calls a1 false _ A4.out).mono ?_);rintro e w' ⟨rfl,⟨nd,rfl⟩⟩;refine⟨_,rfl,?_⟩))
  go_ret
  exact⟨by first|rfl|(simp;done)|(simp [*];done),by repeat(first|exact qx.refl _|apply qx.step)⟩
 replace c5:=Bool.eq_false_iff.mpr c5
 subst c5
 rw [if_neg (show ¬ (false=true) by decide)] at H
 by_cases c7:t122=true
 ·subst c7
  rw [if_pos rfl] at H
  obtain rfl:=Option.some.inj H
  go_enter Tryd.func86,Tryd.ntmps86
  go_wp2_with (first|((with_reducible refine zs (f:=113) rfl ?_);refine qo (some 8) rfl rfl Tryd.func113 (by kernel_rfl) rfl #[.int .i64 a0] rfl gs ?_;(with_reducible refine(cmp_isNaN_int.calls a0 false _ A3.out).mono ?_);rintro e w' ⟨rfl,⟨nd,rfl⟩⟩;refine⟨_,rfl,?_⟩)|((with_reducible refine zs (f:=113) rfl ?_);refine qo (some 10) rfl rfl Tryd.func113 (by kernel_rfl) rfl #[.int .i64 a1] rfl gs ?_;(with_reducible refine(cmp_isNaN_int.calls a1 true _ A4.out).mono ?_);rintro e w' ⟨rfl,⟨nd,rfl⟩⟩;refine⟨_,rfl,?_⟩))
  go_ret
  exact⟨by first|rfl|(simp;done)|(simp [*];done),by repeat(first|exact qx.refl _|apply qx.step)⟩
 replace c7:=Bool.eq_false_iff.mpr c7
 subst c7
 rw [if_neg (show ¬ (false=true) by decide)] at H
 by_cases c8:a0<a1
 ·rw [if_pos c8] at H
  have c8b0:=decide_eq_true c8
  clear c8
  obtain rfl:=Option.some.inj H
  go_enter Tryd.func86,Tryd.ntmps86
  go_wp2_with (first|((with_reducible refine zs (f:=113) rfl ?_);refine qo (some 8) rfl rfl Tryd.func113 (by kernel_rfl) rfl #[.int .i64 a0] rfl gs ?_;(with_reducible refine(cmp_isNaN_int.calls a0 false _ A3.out).mono ?_);rintro e w' ⟨rfl,⟨nd,rfl⟩⟩;refine⟨_,rfl,?_⟩)|((with_reducible refine zs (f:=113) rfl ?_);refine qo (some 10) rfl rfl Tryd.func113 (by kernel_rfl) rfl #[.int .i64 a1] rfl gs ?_;(with_reducible refine(cmp_isNaN_int.calls a1 false _ A4.out).mono ?_);rintro e w' ⟨rfl,⟨nd,rfl⟩⟩;refine⟨_,rfl,?_⟩))
  go_ret
  exact⟨by first|rfl|(simp;done)|(simp [*];done),by repeat(first|exact qx.refl _|apply qx.step)⟩
 rw [if_neg c8] at H
 have c8b0:=decide_eq_false c8
 clear c8
 by_cases c9:a0 > a1
 ·rw [if_pos c9] at H
  have c9b0:=decide_eq_true c9
  clear c9
  obtain rfl:=Option.some.inj H
  go_enter Tryd.func86,Tryd.ntmps86
  go_wp2_with (first|((with_reducible refine zs (f:=113) rfl ?_);refine qo (some 8) rfl rfl Tryd.func113 (by kernel_rfl) rfl #[.int .i64 a0] rfl gs ?_;(with_reducible refine(cmp_isNaN_int.calls a0 false _ A3.out).mono ?_);rintro e w' ⟨rfl,⟨nd,rfl⟩⟩;refine⟨_,rfl,?_⟩)|((with_reducible refine zs (f:=113) rfl ?_);refine qo (some 10) rfl rfl Tryd.func113 (by kernel_rfl) rfl #[.int .i64 a1] rfl gs ?_;(with_reducible refine(cmp_isNaN_int.calls a1 false _ A4.out).mono ?_);rintro e w' ⟨rfl,⟨nd,rfl⟩⟩;refine⟨_,rfl,?_⟩))
  go_ret
  exact⟨by first|rfl|(simp;done)|(simp [*];done),by repeat(first|exact qx.refl _|apply qx.step)⟩
 rw [if_neg c9] at H
 have c9b0:=decide_eq_false c9
 clear c9
 obtain rfl:=Option.some.inj H
 go_enter Tryd.func86,Tryd.ntmps86
 go_wp2_with (first|((with_reducible refine zs (f:=113) rfl ?_);refine qo (some 8) rfl rfl Tryd.func113 (by kernel_rfl) rfl #[.int .i64 a0] rfl gs ?_;(with_reducible refine(cmp_isNaN_int.calls a0 false _ A3.out).mono ?_);rintro e w' ⟨rfl,⟨nd,rfl⟩⟩;refine⟨_,rfl,?_⟩)|((with_reducible refine zs (f:=113) rfl ?_);refine qo (some 10) rfl rfl Tryd.func113 (by kernel_rfl) rfl #[.int .i64 a1] rfl gs ?_;(with_reducible refine(cmp_isNaN_int.calls a1 false _ A4.out).mono ?_);rintro e w' ⟨rfl,⟨nd,rfl⟩⟩;refine⟨_,rfl,?_⟩))
 go_ret
 exact⟨by first|rfl|(simp;done)|(simp [*];done),by repeat(first|exact qx.refl _|apply qx.step)⟩

-- NOT PRINTED: function 123 (bytealg_abigen_runtime_cmpstring)

-- NOT PRINTED: function 114 (bytealg_CompareString)

/-! ### strings_Compare: function 87, by hand -/
-- HAND rounds=0 making=0 imports=Derived.Shelf.Small.Strs,Derived.Test.YtmfpaeajibeikaaDoorShelfV
def strings_Compare.f (a0:ByteArray) (a1:ByteArray):Option (Int):=some (Lib.compareBytes a0.data.toList a1.data.toList)
section
open Go.Shelf
theorem strings_Compare.calls (a0:ByteArray) (a1:ByteArray) (r:Int) (w:World) (h:strings_Compare.f a0 a1=some r) :
  Calls Tryd.prog 87 #[.string a0,.string a1] w fun e w'=>e = .returned (.int .i64 r)∧qx w w':=by
 cases h
 refine(Any.strings_Compare Tryd.laysCompare a0 a1 w).mono ?_
 rintro e w' ⟨rfl,rfl⟩
 exact⟨rfl,0,rfl⟩
end

/-! ### zj0: function 61 -/
def zj0.f (a0_0:Int) (a0_1:Int) (a0_2:ByteArray) (a1_0:Int) (a1_1:Int) (a1_2:ByteArray):Option (Int):=(cmp_Compare_int.f a0_0 a1_0).bind fun t125=>(if t125=0 then((cmp_Compare_int.f a0_1 a1_1).bind fun t126=>(if t126=0 then((strings_Compare.f a0_2 a1_2).bind fun t127=>(some t127)) else (some t126))) else (some t125))
set_option maxHeartbeats 8000000 in
set_option maxRecDepth 100000 in
theorem zj0.calls (a0_0:Int) (a0_1:Int) (a0_2:ByteArray) (a1_0:Int) (a1_1:Int) (a1_2:ByteArray) (r:Int) (w:World) (h:zj0.f a0_0 a0_1 a0_2 a1_0 a1_1 a1_2=some r) :
  Calls Tryd.prog 61 #[.agg #[.int .i64 a0_0,.int .i64 a0_1,.string a0_2],.agg #[.int .i64 a1_0,.int .i64 a1_1,.string a1_2]] w fun e w'=>e = .returned (.int .i64 r)∧Below w.heap.size w w':=by
 have hu30:=Tryd.underlying30
 have HB:=zq.mk (Below.refl w.heap.size w)
 have H:((cmp_Compare_int.f a0_0 a1_0).bind fun t125=>(if t125=0 then((cmp_Compare_int.f a0_1 a1_1).bind fun t126=>(if t126=0 then((strings_Compare.f a0_2 a1_2).bind fun t127=>(some t127)) else (some t126))) else (some t125)))=some r:=h
 clear h
 replace H:=Option.bind_eq_some_iff.mp H
 obtain ⟨t125,A30,H⟩:=H
 replace H:(if t125=0 then((cmp_Compare_int.f a0_1 a1_1).bind fun t126=>(if t126=0 then((strings_Compare.f a0_2 a1_2).bind fun t127=>(some t127)) else (some t126))) else (some t125))=some r:=H
 have A3:=zq.mk A30
 clear A30
 by_cases c4:t125=0
 ·rw [if_pos c4] at H
  have c4b0:(t125 == 0)=true:=beq_iff_eq.mpr c4
  have c4b1:(t125 != 0)=false:=bne_eq_false_iff_eq.mpr c4
  clear c4
  replace H:=Option.bind_eq_some_iff.mp H
  obtain ⟨t126,A50,H⟩:=H
  replace H:(if t126=0 then((strings_Compare.f a0_2 a1_2).bind fun t127=>(some t127)) else (some t126))=some r:=H
  have A5:=zq.mk A50
  clear A50
  by_cases c6:t126=0
  ·rw [if_pos c6] at H
   have c6b0:(t126 == 0)=true:=beq_iff_eq.mpr c6
   have c6b1:(t126 != 0)=false:=bne_eq_false_iff_eq.mpr c6
   clear c6
   replace H:=Option.bind_eq_some_iff.mp H
   obtain ⟨t127,A70,H⟩:=H
   replace H:(some t127)=some r:=H
   have A7:=zq.mk A70
   clear A70
   obtain rfl:=Option.some.inj H
   go_enter Tryd.func61,Tryd.ntmps61
   go_wp2_with (first|((with_reducible refine ql (N:=2) rfl ?_);refine qh ?hg (N:=2) ?hd (cs:=#[.int .i64 a0_0,.int .i64 a0_1,.string a0_2]) (t:=30) ?hr ?_;(case hd=>rfl);(case hg=>rfl);(case hr=>first|(go_simp;done)|(go_simp;rfl));intro gb123 hg w8 hbox hb;have BK123:=zq.mk (hbox);have GW123:=zq.mk ((by rw [hg];exact(zv bw):w.heap.size≤gb123));have GE123:=zq.mk ((by rw [hg];exact(zv bw):w.heap.size≤gb123));replace HB:=zq.mk (zb bw hb);clear hb hbox hg)|((with_reducible refine ql (N:=3) rfl ?_);refine qh ?hg (N:=3) ?hd (cs:=#[.int .i64 a1_0,.int .i64 a1_1,.string a1_2]) (t:=30) ?hr ?_;(case hd=>rfl);(case hg=>rfl);(case hr=>first|(go_simp;done)|(go_simp;rfl));intro gb124 hg w9 hbox hb;have BK124:=zq.mk (hbox);have GW124:=zq.mk ((by rw [hg];exact(zv bw):w.heap.size≤gb124));have GE124:=zq.mk ((by rw [hg];exact(zv bw):w.heap.size≤gb124));replace HB:=zq.mk (zb bw hb);have NB123_124:=zq.mk ((by rw [hg];exact Nat.ne_of_lt (qf (g:=gb123) (o:=.cells #[.int .i64 a0_0,.int .i64 a0_1,.string a0_2] 30 (0,0)) (up BK123.out)):gb123≠gb124));have NB124_123:=zq.mk ((by rw [hg];exact Nat.ne_of_gt (qf (g:=gb123) (o:=.cells #[.int .i64 a0_0,.int .i64 a0_1,.string a0_2] 30 (0,0)) (up BK123.out)):gb124≠gb123));replace BK123:=zq.mk (zf (g:=gb123) (o:=.cells #[.int .i64 a0_0,.int .i64 a0_1,.string a0_2] 30 (0,0)) (up BK123.out) hb);clear hb hbox hg;have hnb10:=NB123_124.out;have hnc10:=NB124_123.out;obtain ⟨hcz11_0,hcz11_1,hcz11_2,hfz11_0,hfz11_1,hfz11_2⟩:=zr BK123.out;obtain ⟨hcz12_0,hcz12_1,hcz12_2,hfz12_0,hfz12_1,hfz12_2⟩:=zr BK124.out)|((with_reducible refine zs (f:=86) rfl ?_);refine qo (some 11) rfl rfl Tryd.func86 (by kernel_rfl) rfl #[.int .i64 a0_0,.int .i64 a1_0] rfl gs ?_;(with_reducible refine(cmp_Compare_int.calls a0_0 a1_0 t125 _ A3.out).mono ?_);rintro e w' ⟨rfl,⟨nd,rfl⟩⟩;refine⟨_,rfl,?_⟩)|((with_reducible refine zs (f:=86) rfl ?_);refine qo (some 19) rfl rfl Tryd.func86 (by kernel_rfl) rfl #[.int .i64 a0_1,.int .i64 a1_1] rfl gs ?_;(with_reducible refine(cmp_Compare_int.calls a0_1 a1_1 t126 _ A5.out).mono ?_);rintro e w' ⟨rfl,⟨nd,rfl⟩⟩;refine⟨_,rfl,?_⟩)|((with_reducible refine zs (f:=87) rfl ?_);refine qo (some 27) rfl rfl Tryd.func87 (by kernel_rfl) rfl #[.string a0_2,.string a1_2] rfl gs ?_;(with_reducible refine(strings_Compare.calls a0_2 a1_2 t127 _ A7.out).mono ?_);rintro e w' ⟨rfl,⟨nd,rfl⟩⟩;refine⟨_,rfl,?_⟩))
   go_ret
   exact⟨by first|rfl|(simp [zk,zx] <;> rfl)|(simp [*,zk,zx] <;> rfl),bw⟩
  rw [if_neg c6] at H
  have c6b0:(t126 == 0)=false:=beq_eq_false_iff_ne.mpr c6
  have c6b1:(t126 != 0)=true:=bne_iff_ne.mpr c6
  obtain rfl:=Option.some.inj H
  go_enter Tryd.func61,Tryd.ntmps61
  go_wp2_with (first|((with_reducible refine ql (N:=2) rfl ?_);refine qh ?hg (N:=2) ?hd (cs:=#[.int .i64 a0_0,.int .i64 a0_1,.string a0_2]) (t:=30) ?hr ?_;(case hd=>rfl);(case hg=>rfl);(case hr=>first|(go_simp;done)|(go_simp;rfl));intro gb123 hg w13 hbox hb;have BK123:=zq.mk (hbox);have GW123:=zq.mk ((by rw [hg];exact(zv bw):w.heap.size≤gb123));have GE123:=zq.mk ((by rw [hg];exact(zv bw):w.heap.size≤gb123));replace HB:=zq.mk (zb bw hb);clear hb hbox hg)|((with_reducible refine ql (N:=3) rfl ?_);refine qh ?hg (N:=3) ?hd (cs:=#[.int .i64 a1_0,.int .i64 a1_1,.string a1_2]) (t:=30) ?hr ?_;(case hd=>rfl);(case hg=>rfl);(case hr=>first|(go_simp;done)|(go_simp;rfl));intro gb124 hg w14 hbox hb;have BK124:=zq.mk (hbox);have GW124:=zq.mk ((by rw [hg];exact(zv bw):w.heap.size≤gb124));have GE124:=zq.mk ((by rw [hg];exact(zv bw):w.heap.size≤gb124));replace HB:=zq.mk (zb bw hb);have NB123_124:=zq.mk ((by rw [hg];exact Nat.ne_of_lt (qf (g:=gb123) (o:=.cells #[.int .i64 a0_0,.int .i64 a0_1,.string a0_2] 30 (0,0)) (up BK123.out)):gb123≠gb124));have NB124_123:=zq.mk ((by rw [hg];exact Nat.ne_of_gt (qf (g:=gb123) (o:=.cells #[.int .i64 a0_0,.int .i64 a0_1,.string a0_2] 30 (0,0)) (up BK123.out)):gb124≠gb123));replace BK123:=zq.mk (zf (g:=gb123) (o:=.cells #[.int .i64 a0_0,.int .i64 a0_1,.string a0_2] 30 (0,0)) (up BK123.out) hb);clear hb hbox hg;have hnb15:=NB123_124.out;have hnc15:=NB124_123.out;obtain ⟨hcz16_0,hcz16_1,hcz16_2,hfz16_0,hfz16_1,hfz16_2⟩:=zr BK123.out;obtain ⟨hcz17_0,hcz17_1,hcz17_2,hfz17_0,hfz17_1,hfz17_2⟩:=zr BK124.out)|((with_reducible refine zs (f:=86) rfl ?_);refine qo (some 11) rfl rfl Tryd.func86 (by kernel_rfl) rfl #[.int .i64 a0_0,.int .i64 a1_0] rfl gs ?_;(with_reducible refine(cmp_Compare_int.calls a0_0 a1_0 t125 _ A3.out).mono ?_);rintro e w' ⟨rfl,⟨nd,rfl⟩⟩;refine⟨_,rfl,?_⟩)|((with_reducible refine zs (f:=86) rfl ?_);refine qo (some 19) rfl rfl Tryd.func86 (by kernel_rfl) rfl #[.int .i64 a0_1,.int .i64 a1_1] rfl gs ?_;(with_reducible refine(cmp_Compare_int.calls a0_1 a1_1 t126 _ A5.out).mono ?_);rintro e w' ⟨rfl,⟨nd,rfl⟩⟩;refine⟨_,rfl,?_⟩))
  go_ret
  exact⟨by first|rfl|(simp [zk,zx] <;> rfl)|(simp [*,zk,zx] <;> rfl),bw⟩
 rw [if_neg c4] at H
 have c4b0:(t125 == 0)=false:=beq_eq_false_iff_ne.mpr c4
 have c4b1:(t125 != 0)=true:=bne_iff_ne.mpr c4
 obtain rfl:=Option.some.inj H
 go_enter Tryd.func61,Tryd.ntmps61
 go_wp2_with (first|((with_reducible refine ql (N:=2) rfl ?_);refine qh ?hg (N:=2) ?hd (cs:=#[.int .i64 a0_0,.int .i64 a0_1,.string a0_2]) (t:=30) ?hr ?_;(case hd=>rfl);(case hg=>rfl);(case hr=>first|(go_simp;done)|(go_simp;rfl));intro gb123 hg w18 hbox hb;have BK123:=zq.mk (hbox);have GW123:=zq.mk ((by rw [hg];exact(zv bw):w.heap.size≤gb123));have GE123:=zq.mk ((by rw [hg];exact(zv bw):w.heap.size≤gb123));replace HB:=zq.mk (zb bw hb);clear hb hbox hg)|((with_reducible refine ql (N:=3) rfl ?_);refine qh ?hg (N:=3) ?hd (cs:=#[.int .i64 a1_0,.int .i64 a1_1,.string a1_2]) (t:=30) ?hr ?_;(case hd=>rfl);(case hg=>rfl);(case hr=>first|(go_simp;done)|(go_simp;rfl));intro gb124 hg w19 hbox hb;have BK124:=zq.mk (hbox);have GW124:=zq.mk ((by rw [hg];exact(zv bw):w.heap.size≤gb124));have GE124:=zq.mk ((by rw [hg];exact(zv bw):w.heap.size≤gb124));replace HB:=zq.mk (zb bw hb);have NB123_124:=zq.mk ((by rw [hg];exact Nat.ne_of_lt (qf (g:=gb123) (o:=.cells #[.int .i64 a0_0,.int .i64 a0_1,.string a0_2] 30 (0,0)) (up BK123.out)):gb123≠gb124));have NB124_123:=zq.mk ((by rw [hg];exact Nat.ne_of_gt (qf (g:=gb123) (o:=.cells #[.int .i64 a0_0,.int .i64 a0_1,.string a0_2] 30 (0,0)) (up BK123.out)):gb124≠gb123));replace BK123:=zq.mk (zf (g:=gb123) (o:=.cells #[.int .i64 a0_0,.int .i64 a0_1,.string a0_2] 30 (0,0)) (up BK123.out) hb);clear hb hbox hg;have hnb20:=NB123_124.out;have hnc20:=NB124_123.out;obtain ⟨hcz21_0,hcz21_1,hcz21_2,hfz21_0,hfz21_1,hfz21_2⟩:=zr BK123.out;obtain ⟨hcz22_0,hcz22_1,hcz22_2,hfz22_0,hfz22_1,hfz22_2⟩:=zr BK124.out)|((with_reducible refine zs (f:=86) rfl ?_);refine qo (some 11) rfl rfl Tryd.func86 (by kernel_rfl) rfl #[.int .i64 a0_0,.int .i64 a1_0] rfl gs ?_;(with_reducible refine(cmp_Compare_int.calls a0_0 a1_0 t125 _ A3.out).mono ?_);rintro e w' ⟨rfl,⟨nd,rfl⟩⟩;refine⟨_,rfl,?_⟩))
 go_ret
 exact⟨by first|rfl|(simp [zk,zx] <;> rfl)|(simp [*,zk,zx] <;> rfl),bw⟩

/-! ### zjl: function 119, by hand -/
-- HAND rounds=0 making=1
def zjl.at (o c:Int):Bool:=if o=13 then decide (c=0) else if o=14 then decide (c≠0) else if o=15 then decide (c<0) else if o=16 then decide (c≤0) else if o=17 then decide (c > 0) else decide (c ≥ 0)
def zjl.f (a0 a1:Int):Option (Bool):=if 13≤a0∧a0≤18 ∧ -1≤a1∧a1≤1 then some (zjl.at a0 a1) else none
set_option maxHeartbeats 4000000 in
set_option maxRecDepth 100000 in
theorem zjl.calls (a0:Int) (a1:Int) (r:Bool) (w:World) (h:zjl.f a0 a1=some r) :
  Calls Tryd.prog 119 #[.int .i64 a0,.int .i64 a1] w fun e w'=>e = .returned (.bool r)∧Below w.heap.size w w':=by
 unfold zjl.f at h
 split at h
 ·rename_i hb
  have h0:a0=13∨a0=14∨a0=15∨a0=16∨a0=17∨a0=18:=by omega
  have h1:a1 = -1∨a1=0∨a1=1:=by omega
  clear hb
  rcases h0 with rfl|rfl|rfl|rfl|rfl|rfl <;> rcases h1 with rfl|rfl|rfl <;>
  ·obtain rfl:=Option.some.inj h
   clear h
   go_enter Tryd.func119,Tryd.ntmps119
   go_wp2
   go_ret
   exact⟨rfl,by repeat(first|exact Below.refl _ _|apply zm|apply qe)⟩
 cases h

/-! ### zqa: function 95 -/
mutual
def zqa.j0:Nat→Int→Bool→Int→Int→ByteArray→Int→Int→ByteArray→Option (Int × Int)
 | 0,_,_,_,_,_,_,_,_=>none
 | k+1,x0,x14,x129000,x129001,x129002,x130000,x130001,x130002=>if x14=true then(some (0,3)) else ((zq5.f k x129000 x129001 x129002 x130000 x130001 x130002).bind fun t130=>(if t130=0 then(if x129000=0 then(zqa.j1 k x0 true x129000 x129001 x129002 x130000 x130001 x130002) else (zqa.j1 k x0 (x130000 == 0) x129000 x129001 x129002 x130000 x130001 x130002)) else (some (0,t130))))
def zqa.j1:Nat→Int→Bool→Int→Int→ByteArray→Int→Int→ByteArray→Option (Int × Int)
 | 0,_,_,_,_,_,_,_,_=>none
 | k+1,x0,x21,x129000,x129001,x129002,x130000,x130001,x130002=>if x21=true then(some (1,0)) else (if x129000=x130000 then((zj0.f x129000 x129001 x129002 x130000 x130001 x130002).bind fun t131=>((zjl.f x0 t131).bind fun t132=>(if t132=true then(some (2,0)) else (some (0,0))))) else (some (0,12)))
end
def zqa.f (k:Nat) (a0:Int) (a1_0:Int) (a1_1:Int) (a1_2:ByteArray) (a2_0:Int) (a2_1:Int) (a2_2:ByteArray):Option (Int × Int):=if a0<13 then(zqa.j0 k a0 true a1_0 a1_1 a1_2 a2_0 a2_1 a2_2) else (zqa.j0 k a0 (decide (a0 > 18)) a1_0 a1_1 a1_2 a2_0 a2_1 a2_2)
theorem zqa.mono_l:∀ k,(∀ y0 y1 y2 y3 y4 y5 y6 y7,LeO (zqa.j0 k y0 y1 y2 y3 y4 y5 y6 y7) (zqa.j0 (k+1) y0 y1 y2 y3 y4 y5 y6 y7))∧(∀ y0 y1 y2 y3 y4 y5 y6 y7,LeO (zqa.j1 k y0 y1 y2 y3 y4 y5 y6 y7) (zqa.j1 (k+1) y0 y1 y2 y3 y4 y5 y6 y7))
 | 0=>⟨fun _ _ _ _ _ _ _ _ r h=>by simp [zqa.j0] at h,fun _ _ _ _ _ _ _ _ r h=>by simp [zqa.j1] at h⟩
 | k+1=>by
  obtain ⟨ih0,ih1⟩:=zqa.mono_l k
  refine⟨?_,?_⟩
  ·intro y0 y1 y2 y3 y4 y5 y6 y7
   unfold zqa.j0
   repeat' first
   | (with_reducible first|exact ih0 _ _ _ _ _ _ _ _|exact ih1 _ _ _ _ _ _ _ _|exact zq5.mono _ _ _ _ _ _ _|exact LeO.refl _|exact LeO.none _|refine LeO.ite ?_ ?_|refine LeO.bind ?_ (fun _=>?_))
   | exact ih0 _ _ _ _ _ _ _ _
   | exact ih1 _ _ _ _ _ _ _ _
   | exact zq5.mono _ _ _ _ _ _ _
   | exact LeO.none _
   | refine LeO.ite ?_ ?_
   | refine LeO.bind ?_ (fun _=>?_)
  intro y0 y1 y2 y3 y4 y5 y6 y7
  unfold zqa.j1
  repeat' first
  | (with_reducible first|exact ih0 _ _ _ _ _ _ _ _|exact ih1 _ _ _ _ _ _ _ _|exact zq5.mono _ _ _ _ _ _ _|exact LeO.refl _|exact LeO.none _|refine LeO.ite ?_ ?_|refine LeO.bind ?_ (fun _=>?_))
  | exact ih0 _ _ _ _ _ _ _ _
  | exact ih1 _ _ _ _ _ _ _ _
  | exact zq5.mono _ _ _ _ _ _ _
  | exact LeO.none _
  | refine LeO.ite ?_ ?_
  | refine LeO.bind ?_ (fun _=>?_)
theorem zqa.mono:∀ a0 a1 a2 a3 a4 a5 a6 k,LeO (zqa.f k a0 a1 a2 a3 a4 a5 a6) (zqa.f (k+1) a0 a1 a2 a3 a4 a5 a6):=by
 intro a0 a1 a2 a3 a4 a5 a6 k
 obtain ⟨ih0,ih1⟩:=zqa.mono_l k
 unfold zqa.f
 repeat' first
   | (with_reducible first|exact ih0 _ _ _ _ _ _ _ _|exact ih1 _ _ _ _ _ _ _ _|exact zq5.mono _ _ _ _ _ _ _|exact LeO.refl _|exact LeO.none _|refine LeO.ite ?_ ?_|refine LeO.bind ?_ (fun _=>?_))
   | exact ih0 _ _ _ _ _ _ _ _
   | exact ih1 _ _ _ _ _ _ _ _
   | exact zq5.mono _ _ _ _ _ _ _
   | exact LeO.none _
   | refine LeO.ite ?_ ?_
   | refine LeO.bind ?_ (fun _=>?_)
set_option maxHeartbeats 8000000 in
set_option maxRecDepth 100000 in
theorem zqa.calls (k:Nat) (a0:Int) (a1_0:Int) (a1_1:Int) (a1_2:ByteArray) (a2_0:Int) (a2_1:Int) (a2_2:ByteArray) (r1:Int) (r2:Int) (w:World) (hL:LD w) (h:zqa.f k a0 a1_0 a1_1 a1_2 a2_0 a2_1 a2_2=some (r1,r2)) :
  Calls Tryd.prog 95 #[.int .i64 a0,.agg #[.int .i64 a1_0,.int .i64 a1_1,.string a1_2],.agg #[.int .i64 a2_0,.int .i64 a2_1,.string a2_2]] w fun e w'=>e = .returned (.tuple #[.int .i64 r1,.int .i64 r2])∧Below w.heap.size w w':=by
 have hu30:=Tryd.underlying30
 have HLD:=zq.mk hL
 clear hL
 have HB:=zq.mk (Below.refl w.heap.size w)
 have H:(if a0<13 then(zqa.j0 k a0 true a1_0 a1_1 a1_2 a2_0 a2_1 a2_2) else (zqa.j0 k a0 (decide (a0 > 18)) a1_0 a1_1 a1_2 a2_0 a2_1 a2_2))=some (r1,r2):=h
 clear h
 have HC4:=zq.mk H
 clear H
 go_enter Tryd.func95,Tryd.ntmps95
 go_upto_region 1 with (first|((with_reducible refine ql (N:=4) rfl ?_);refine qh ?hg (N:=4) ?hd (cs:=#[.int .i64 a1_0,.int .i64 a1_1,.string a1_2]) (t:=30) ?hr ?_;(case hd=>rfl);(case hg=>rfl);(case hr=>first|(go_simp;done)|(go_simp;rfl));intro gb128 hg w5 hbox hb;have BK128:=zq.mk (hbox);have GW128:=zq.mk ((by rw [hg];exact(zv bw):w.heap.size≤gb128));have GE128:=zq.mk ((by rw [hg];exact(zv bw):w.heap.size≤gb128));replace HB:=zq.mk (zb bw hb);clear hb hbox hg)|((with_reducible refine ql (N:=5) rfl ?_);refine qh ?hg (N:=5) ?hd (cs:=#[.int .i64 a2_0,.int .i64 a2_1,.string a2_2]) (t:=30) ?hr ?_;(case hd=>rfl);(case hg=>rfl);(case hr=>first|(go_simp;done)|(go_simp;rfl));intro gb129 hg w6 hbox hb;have BK129:=zq.mk (hbox);have GW129:=zq.mk ((by rw [hg];exact(zv bw):w.heap.size≤gb129));have GE129:=zq.mk ((by rw [hg];exact(zv bw):w.heap.size≤gb129));replace HB:=zq.mk (zb bw hb);have NB128_129:=zq.mk ((by rw [hg];exact Nat.ne_of_lt (qf (g:=gb128) (o:=.cells #[.int .i64 a1_0,.int .i64 a1_1,.string a1_2] 30 (0,0)) (up BK128.out)):gb128≠gb129));have NB129_128:=zq.mk ((by rw [hg];exact Nat.ne_of_gt (qf (g:=gb128) (o:=.cells #[.int .i64 a1_0,.int .i64 a1_1,.string a1_2] 30 (0,0)) (up BK128.out)):gb129≠gb128));replace BK128:=zq.mk (zf (g:=gb128) (o:=.cells #[.int .i64 a1_0,.int .i64 a1_1,.string a1_2] 30 (0,0)) (up BK128.out) hb);clear hb hbox hg))
 (try simp only [Act.put,List.setIfInBounds_toArray,List.set_cons_zero,List.set_cons_succ])
 go_cut [14] (fun v14 wc => ∃ (kq:Nat) (x14_3:Bool),v14 = .bool x14_3∧zq (zqa.j0 kq a0 x14_3 a1_0 a1_1 a1_2 a2_0 a2_1 a2_2=some (r1,r2))∧zq (kq≤k)∧zq (wc.heap[gb128]? = some (.cells #[.int .i64 a1_0,.int .i64 a1_1,.string a1_2] 30 (0,0)))∧zq (wc.heap[gb129]? = some (.cells #[.int .i64 a2_0,.int .i64 a2_1,.string a2_2] 30 (0,0)))∧zq (Below w.heap.size w wc))
 case first=>
  have H:=HC4.out
  clear HC4
  by_cases c7:a0<13
  ·rw [if_pos c7] at H
   have c7b0:=decide_eq_true c7
   clear c7
   (first|rw [c7b0]|(simp only [zqw,zqx];rw [c7b0])|skip)
   have H':=zq.mk H
   clear H
   go_wp2
   go_meet
   case rel=>exact⟨_,(true),vr,H',⟨by first|omega|exact Nat.le_refl _⟩,⟨by(with_reducible repeat(first|refine zn ?_ _|refine zt ?_|refine zy ?_ _));exact BK128.out⟩,⟨by(with_reducible repeat(first|refine zn ?_ _|refine zt ?_|refine zy ?_ _));exact BK129.out⟩,⟨bw⟩⟩
  rw [if_neg c7] at H
  have c7b0:=decide_eq_false c7
  clear c7
  (first|rw [c7b0]|(simp only [zqw,zqx];rw [c7b0])|skip)
  have H':=zq.mk H
  clear H
  go_wp2
  go_meet
  case rel=>exact⟨_,(decide (a0 > 18)),vr,H',⟨by first|omega|exact Nat.le_refl _⟩,⟨by(with_reducible repeat(first|refine zn ?_ _|refine zt ?_|refine zy ?_ _));exact BK128.out⟩,⟨by(with_reducible repeat(first|refine zn ?_ _|refine zt ?_|refine zy ?_ _));exact BK129.out⟩,⟨bw⟩⟩
 case rest=>
  clear HC4
  obtain ⟨kq,x14_3,rfl,HA,HJ3,BK128,BK129,HB⟩:=hcut
  cases kq with
  | zero=>exact absurd HA.out (by simp [zqa.j0])
  | succ kj3=>
   have H:=HA.out
   clear HA
   simp only [zqa.j0] at H
   by_cases c8:x14_3=true
   ·subst c8
    rw [if_pos rfl] at H
    simp only [Option.some.injEq,Prod.mk.injEq] at H
    obtain ⟨rfl,rfl⟩:=H
    go_wp2
    go_ret2
    exact⟨by first|rfl|(simp [zk,zx] <;> rfl)|(simp [*,zk,zx] <;> rfl),bw⟩
   replace c8:=Bool.eq_false_iff.mpr c8
   subst c8
   rw [if_neg (show ¬ (false=true) by decide)] at H
   replace H:=Option.bind_eq_some_iff.mp H
   obtain ⟨t130,A90,H⟩:=H
   replace H:(if t130=0 then(if a1_0=0 then(zqa.j1 kj3 a0 true a1_0 a1_1 a1_2 a2_0 a2_1 a2_2) else (zqa.j1 kj3 a0 (a2_0 == 0) a1_0 a1_1 a1_2 a2_0 a2_1 a2_2)) else (some (0,t130)))=some (r1,r2):=H
   have A9:=zq.mk A90
   clear A90
   by_cases c10:t130=0
   ·rw [if_pos c10] at H
    have c10b0:(t130 == 0)=true:=beq_iff_eq.mpr c10
    have c10b1:(t130 != 0)=false:=bne_eq_false_iff_eq.mpr c10
    clear c10
    have HC11:=zq.mk H
    clear H
    have hnb12:=NB128_129.out
    have hnc12:=NB129_128.out
    obtain ⟨hcz13_0,hcz13_1,hcz13_2,hfz13_0,hfz13_1,hfz13_2⟩:=zr BK128.out
    obtain ⟨hcz14_0,hcz14_1,hcz14_2,hfz14_0,hfz14_1,hfz14_2⟩:=zr BK129.out
    go_upto_region 6 with (first|((with_reducible refine zs (f:=60) rfl ?_);refine qo (some 17) rfl rfl Tryd.func60 (by kernel_rfl) rfl #[.agg #[.int .i64 a1_0,.int .i64 a1_1,.string a1_2],.agg #[.int .i64 a2_0,.int .i64 a2_1,.string a2_2]] rfl gs ?_;(with_reducible refine(zq5.calls kj3 a1_0 a1_1 a1_2 a2_0 a2_1 a2_2 t130 _ ?side1 A9.out).mono ?_);(case side1=>exact LD.below HLD.out (by first|(with_reducible exact Below.refl _ _)|((repeat(first|(with_reducible exact Below.refl _ _)|(with_reducible apply zm)|(with_reducible apply qd)|(with_reducible apply qe)));done)|exact bw));rintro e w15 ⟨rfl,hb⟩;refine⟨_,rfl,?_⟩;replace BK128:=zq.mk (zf (g:=gb128) (o:=.cells #[.int .i64 a1_0,.int .i64 a1_1,.string a1_2] 30 (0,0)) (up BK128.out) hb);replace BK129:=zq.mk (zf (g:=gb129) (o:=.cells #[.int .i64 a2_0,.int .i64 a2_1,.string a2_2] 30 (0,0)) (up BK129.out) hb);replace HB:=zq.mk (zb bw hb);(try clear hb);(try clear hb2);(try clear hk);(try clear hi)))
    (try simp only [Act.put,List.setIfInBounds_toArray,List.set_cons_zero,List.set_cons_succ])
    go_cut [21] (fun v21 wc => ∃ (kq:Nat) (x21_10:Bool),v21 = .bool x21_10∧zq (zqa.j1 kq a0 x21_10 a1_0 a1_1 a1_2 a2_0 a2_1 a2_2=some (r1,r2))∧zq (kq≤kj3)∧zq (wc.heap[gb128]? = some (.cells #[.int .i64 a1_0,.int .i64 a1_1,.string a1_2] 30 (0,0)))∧zq (wc.heap[gb129]? = some (.cells #[.int .i64 a2_0,.int .i64 a2_1,.string a2_2] 30 (0,0)))∧zq (Below w.heap.size w wc))
    case first=>
     have H:=HC11.out
     clear HC11
     by_cases c16:a1_0=0
     ·rw [if_pos c16] at H
      have c16b0:(a1_0 == 0)=true:=beq_iff_eq.mpr c16
      have c16b1:(a1_0 != 0)=false:=bne_eq_false_iff_eq.mpr c16
      clear c16
      (first|rw [c16b0]|(simp only [zqw,zqx];rw [c16b0])|skip)
      have H':=zq.mk H
      clear H
      have hnb17:=NB128_129.out
      have hnc17:=NB129_128.out
      obtain ⟨hcz18_0,hcz18_1,hcz18_2,hfz18_0,hfz18_1,hfz18_2⟩:=zr BK128.out
      go_wp2
      go_meet
      case rel=>exact⟨_,(true),vr,H',⟨by have:=HJ3.out;first|omega|exact Nat.le_refl _⟩,⟨by(with_reducible repeat(first|refine zn ?_ _|refine zt ?_|refine zy ?_ _));exact BK128.out⟩,⟨by(with_reducible repeat(first|refine zn ?_ _|refine zt ?_|refine zy ?_ _));exact BK129.out⟩,⟨bw⟩⟩
     rw [if_neg c16] at H
     have c16b0:(a1_0 == 0)=false:=beq_eq_false_iff_ne.mpr c16
     have c16b1:(a1_0 != 0)=true:=bne_iff_ne.mpr c16
     (first|rw [c16b0]|(simp only [zqw,zqx];rw [c16b0])|skip)
     have H':=zq.mk H
     clear H
     have hnb19:=NB128_129.out
     have hnc19:=NB129_128.out
     obtain ⟨hcz20_0,hcz20_1,hcz20_2,hfz20_0,hfz20_1,hfz20_2⟩:=zr BK128.out
     obtain ⟨hcz21_0,hcz21_1,hcz21_2,hfz21_0,hfz21_1,hfz21_2⟩:=zr BK129.out
     go_wp2
     go_meet
     case rel=>exact⟨_,((a2_0 == 0)),vr,H',⟨by have:=HJ3.out;first|omega|exact Nat.le_refl _⟩,⟨by(with_reducible repeat(first|refine zn ?_ _|refine zt ?_|refine zy ?_ _));exact BK128.out⟩,⟨by(with_reducible repeat(first|refine zn ?_ _|refine zt ?_|refine zy ?_ _));exact BK129.out⟩,⟨bw⟩⟩
    case rest=>
     clear HC11
     (try clear c8);(try clear c10);(try clear c10b0);(try clear c10b1);(try clear hcz13_0);(try clear hcz13_1);(try clear hcz13_2);(try clear hcz14_0);(try clear hcz14_1);(try clear hcz14_2);(try clear hfz13_0);(try clear hfz13_1);(try clear hfz13_2);(try clear hfz14_0);(try clear hfz14_1);(try clear hfz14_2)
     obtain ⟨kq,x21_10,rfl,HA,HJ10,BK128,BK129,HB⟩:=hcut
     cases kq with
     | zero=>exact absurd HA.out (by simp [zqa.j1])
     | succ kj10=>
      have H:=HA.out
      clear HA
      simp only [zqa.j1] at H
      by_cases c22:x21_10=true
      ·subst c22
       rw [if_pos rfl] at H
       simp only [Option.some.injEq,Prod.mk.injEq] at H
       obtain ⟨rfl,rfl⟩:=H
       go_wp2
       go_ret2
       exact⟨by first|rfl|(simp [zk,zx] <;> rfl)|(simp [*,zk,zx] <;> rfl),bw⟩
      replace c22:=Bool.eq_false_iff.mpr c22
      subst c22
      rw [if_neg (show ¬ (false=true) by decide)] at H
      by_cases c23:a1_0=a2_0
      ·rw [if_pos c23] at H
       have c23b0:(a1_0 == a2_0)=true:=beq_iff_eq.mpr c23
       have c23b1:(a1_0 != a2_0)=false:=bne_eq_false_iff_eq.mpr c23
       clear c23
       replace H:=Option.bind_eq_some_iff.mp H
       obtain ⟨t131,A240,H⟩:=H
       replace H:((zjl.f a0 t131).bind fun t132=>(if t132=true then(some (2,0)) else (some (0,0))))=some (r1,r2):=H
       have A24:=zq.mk A240
       clear A240
       replace H:=Option.bind_eq_some_iff.mp H
       obtain ⟨t132,A250,H⟩:=H
       replace H:(if t132=true then(some (2,0)) else (some (0,0)))=some (r1,r2):=H
       have A25:=zq.mk A250
       clear A250
       by_cases c26:t132=true
       ·subst c26
        rw [if_pos rfl] at H
        simp only [Option.some.injEq,Prod.mk.injEq] at H
        obtain ⟨rfl,rfl⟩:=H
        have hnb27:=NB128_129.out
        have hnc27:=NB129_128.out
        obtain ⟨hcz28_0,hcz28_1,hcz28_2,hfz28_0,hfz28_1,hfz28_2⟩:=zr BK128.out
        obtain ⟨hcz29_0,hcz29_1,hcz29_2,hfz29_0,hfz29_1,hfz29_2⟩:=zr BK129.out
        go_wp2_with (first|((with_reducible refine zs (f:=61) rfl ?_);refine qo (some 40) rfl rfl Tryd.func61 (by kernel_rfl) rfl #[.agg #[.int .i64 a1_0,.int .i64 a1_1,.string a1_2],.agg #[.int .i64 a2_0,.int .i64 a2_1,.string a2_2]] rfl gs ?_;(with_reducible refine(zj0.calls a1_0 a1_1 a1_2 a2_0 a2_1 a2_2 t131 _ A24.out).mono ?_);rintro e w30 ⟨rfl,hb⟩;refine⟨_,rfl,?_⟩;replace BK128:=zq.mk (zf (g:=gb128) (o:=.cells #[.int .i64 a1_0,.int .i64 a1_1,.string a1_2] 30 (0,0)) (up BK128.out) hb);replace BK129:=zq.mk (zf (g:=gb129) (o:=.cells #[.int .i64 a2_0,.int .i64 a2_1,.string a2_2] 30 (0,0)) (up BK129.out) hb);replace HB:=zq.mk (zb bw hb);(try clear hb);(try clear hb2);(try clear hk);(try clear hi))|((with_reducible refine zs (f:=119) rfl ?_);refine qo (some 41) rfl rfl Tryd.func119 (by kernel_rfl) rfl #[.int .i64 a0,.int .i64 t131] rfl gs ?_;(with_reducible refine(zjl.calls a0 t131 true _ A25.out).mono ?_);rintro e w31 ⟨rfl,hb⟩;refine⟨_,rfl,?_⟩;replace BK128:=zq.mk (zf (g:=gb128) (o:=.cells #[.int .i64 a1_0,.int .i64 a1_1,.string a1_2] 30 (0,0)) (up BK128.out) hb);replace BK129:=zq.mk (zf (g:=gb129) (o:=.cells #[.int .i64 a2_0,.int .i64 a2_1,.string a2_2] 30 (0,0)) (up BK129.out) hb);replace HB:=zq.mk (zb bw hb);(try clear hb);(try clear hb2);(try clear hk);(try clear hi)))
        go_ret2
        exact⟨by first|rfl|(simp [zk,zx] <;> rfl)|(simp [*,zk,zx] <;> rfl),bw⟩
       replace c26:=Bool.eq_false_iff.mpr c26
       subst c26
       rw [if_neg (show ¬ (false=true) by decide)] at H
       simp only [Option.some.injEq,Prod.mk.injEq] at H
       obtain ⟨rfl,rfl⟩:=H
       have hnb32:=NB128_129.out
       have hnc32:=NB129_128.out
       obtain ⟨hcz33_0,hcz33_1,hcz33_2,hfz33_0,hfz33_1,hfz33_2⟩:=zr BK128.out
       obtain ⟨hcz34_0,hcz34_1,hcz34_2,hfz34_0,hfz34_1,hfz34_2⟩:=zr BK129.out
       go_wp2_with (first|((with_reducible refine zs (f:=61) rfl ?_);refine qo (some 40) rfl rfl Tryd.func61 (by kernel_rfl) rfl #[.agg #[.int .i64 a1_0,.int .i64 a1_1,.string a1_2],.agg #[.int .i64 a2_0,.int .i64 a2_1,.string a2_2]] rfl gs ?_;(with_reducible refine(zj0.calls a1_0 a1_1 a1_2 a2_0 a2_1 a2_2 t131 _ A24.out).mono ?_);rintro e w35 ⟨rfl,hb⟩;refine⟨_,rfl,?_⟩;replace BK128:=zq.mk (zf (g:=gb128) (o:=.cells #[.int .i64 a1_0,.int .i64 a1_1,.string a1_2] 30 (0,0)) (up BK128.out) hb);replace BK129:=zq.mk (zf (g:=gb129) (o:=.cells #[.int .i64 a2_0,.int .i64 a2_1,.string a2_2] 30 (0,0)) (up BK129.out) hb);replace HB:=zq.mk (zb bw hb);(try clear hb);(try clear hb2);(try clear hk);(try clear hi))|((with_reducible refine zs (f:=119) rfl ?_);refine qo (some 41) rfl rfl Tryd.func119 (by kernel_rfl) rfl #[.int .i64 a0,.int .i64 t131] rfl gs ?_;(with_reducible refine(zjl.calls a0 t131 false _ A25.out).mono ?_);rintro e w36 ⟨rfl,hb⟩;refine⟨_,rfl,?_⟩;replace BK128:=zq.mk (zf (g:=gb128) (o:=.cells #[.int .i64 a1_0,.int .i64 a1_1,.string a1_2] 30 (0,0)) (up BK128.out) hb);replace BK129:=zq.mk (zf (g:=gb129) (o:=.cells #[.int .i64 a2_0,.int .i64 a2_1,.string a2_2] 30 (0,0)) (up BK129.out) hb);replace HB:=zq.mk (zb bw hb);(try clear hb);(try clear hb2);(try clear hk);(try clear hi)))
       go_ret2
       exact⟨by first|rfl|(simp [zk,zx] <;> rfl)|(simp [*,zk,zx] <;> rfl),bw⟩
      rw [if_neg c23] at H
      have c23b0:(a1_0 == a2_0)=false:=beq_eq_false_iff_ne.mpr c23
      have c23b1:(a1_0 != a2_0)=true:=bne_iff_ne.mpr c23
      simp only [Option.some.injEq,Prod.mk.injEq] at H
      obtain ⟨rfl,rfl⟩:=H
      have hnb37:=NB128_129.out
      have hnc37:=NB129_128.out
      obtain ⟨hcz38_0,hcz38_1,hcz38_2,hfz38_0,hfz38_1,hfz38_2⟩:=zr BK128.out
      obtain ⟨hcz39_0,hcz39_1,hcz39_2,hfz39_0,hfz39_1,hfz39_2⟩:=zr BK129.out
      go_wp2
      go_ret2
      exact⟨by first|rfl|(simp [zk,zx] <;> rfl)|(simp [*,zk,zx] <;> rfl),bw⟩
   rw [if_neg c10] at H
   have c10b0:(t130 == 0)=false:=beq_eq_false_iff_ne.mpr c10
   have c10b1:(t130 != 0)=true:=bne_iff_ne.mpr c10
   simp only [Option.some.injEq,Prod.mk.injEq] at H
   obtain ⟨rfl,rfl⟩:=H
   have hnb40:=NB128_129.out
   have hnc40:=NB129_128.out
   obtain ⟨hcz41_0,hcz41_1,hcz41_2,hfz41_0,hfz41_1,hfz41_2⟩:=zr BK128.out
   obtain ⟨hcz42_0,hcz42_1,hcz42_2,hfz42_0,hfz42_1,hfz42_2⟩:=zr BK129.out
   go_wp2_with (first|((with_reducible refine zs (f:=60) rfl ?_);refine qo (some 17) rfl rfl Tryd.func60 (by kernel_rfl) rfl #[.agg #[.int .i64 a1_0,.int .i64 a1_1,.string a1_2],.agg #[.int .i64 a2_0,.int .i64 a2_1,.string a2_2]] rfl gs ?_;(with_reducible refine(zq5.calls kj3 a1_0 a1_1 a1_2 a2_0 a2_1 a2_2 t130 _ ?side1 A9.out).mono ?_);(case side1=>exact LD.below HLD.out (by first|(with_reducible exact Below.refl _ _)|((repeat(first|(with_reducible exact Below.refl _ _)|(with_reducible apply zm)|(with_reducible apply qd)|(with_reducible apply qe)));done)|exact bw));rintro e w43 ⟨rfl,hb⟩;refine⟨_,rfl,?_⟩;replace BK128:=zq.mk (zf (g:=gb128) (o:=.cells #[.int .i64 a1_0,.int .i64 a1_1,.string a1_2] 30 (0,0)) (up BK128.out) hb);replace BK129:=zq.mk (zf (g:=gb129) (o:=.cells #[.int .i64 a2_0,.int .i64 a2_1,.string a2_2] 30 (0,0)) (up BK129.out) hb);replace HB:=zq.mk (zb bw hb);(try clear hb);(try clear hb2);(try clear hk);(try clear hi)))
   go_ret2
   exact⟨by first|rfl|(simp [zk,zx] <;> rfl)|(simp [*,zk,zx] <;> rfl),bw⟩

/-! ### zj1: function 96 -/
def zj1.f (k:Nat) (a0:Bool):Option (Int × Int × ByteArray × Int):=if a0=true then((zqn.f k 2).bind fun bt134=>(some (bt134.1,bt134.2.1,bt134.2.2.1,bt134.2.2.2))) else ((zqn.f k 0).bind fun bt138=>(some (bt138.1,bt138.2.1,bt138.2.2.1,bt138.2.2.2)))
theorem zj1.mono:∀ a0 k,LeO (zj1.f k a0) (zj1.f (k+1) a0):=by
 intro a0 k
 unfold zj1.f
 repeat' first
   | (with_reducible first|exact zqn.mono _ _|exact LeO.refl _|exact LeO.none _|refine LeO.ite ?_ ?_|refine LeO.bind ?_ (fun _=>?_))
   | exact zqn.mono _ _
   | exact LeO.none _
   | refine LeO.ite ?_ ?_
   | refine LeO.bind ?_ (fun _=>?_)
set_option maxHeartbeats 8000000 in
set_option maxRecDepth 100000 in
theorem zj1.calls (k:Nat) (a0:Bool) (r1:Int) (r2:Int) (r3:ByteArray) (r4:Int) (w:World) (h:zj1.f k a0=some (r1,r2,r3,r4)) :
  Calls Tryd.prog 96 #[.bool a0] w fun e w'=>e = .returned (.tuple #[.agg #[.int .i64 r1,.int .i64 r2,.string r3],.int .i64 r4])∧Below w.heap.size w w':=by
 have hu30:=Tryd.underlying30
 have HB:=zq.mk (Below.refl w.heap.size w)
 have H:(if a0=true then((zqn.f k 2).bind fun bt134=>(some (bt134.1,bt134.2.1,bt134.2.2.1,bt134.2.2.2))) else ((zqn.f k 0).bind fun bt138=>(some (bt138.1,bt138.2.1,bt138.2.2.1,bt138.2.2.2))))=some (r1,r2,r3,r4):=h
 clear h
 by_cases c2:a0=true
 ·subst c2
  rw [if_pos rfl] at H
  replace H:=Option.bind_eq_some_iff.mp H
  obtain ⟨⟨t134,t135,t136,t137⟩,A30,H⟩:=H
  replace H:(some (t134,t135,t136,t137))=some (r1,r2,r3,r4):=H
  have A3:=zq.mk A30
  clear A30
  simp only [Option.some.injEq,Prod.mk.injEq] at H
  obtain ⟨rfl,rfl,rfl,rfl⟩:=H
  go_enter Tryd.func96,Tryd.ntmps96
  go_wp2_with (first|((with_reducible refine ql (N:=2) rfl ?_);refine qh ?hg (N:=2) ?hd (cs:=#[.int .i64 0,.int .i64 0,.string (⟨#[]⟩:ByteArray)]) (t:=30) ?hr ?_;(case hd=>rfl);(case hg=>rfl);(case hr=>first|(go_simp;done)|(go_simp;rfl));intro gb133 hg w4 hbox hb;have BK133:=zq.mk (hbox);have GW133:=zq.mk ((by rw [hg];exact(zv bw):w.heap.size≤gb133));have GE133:=zq.mk ((by rw [hg];exact(zv bw):w.heap.size≤gb133));replace HB:=zq.mk (zb bw hb);clear hb hbox hg)|((with_reducible refine zs (f:=93) rfl ?_);refine qo (some 5) rfl rfl Tryd.func93 (by kernel_rfl) rfl #[.int .i64 2] rfl gs ?_;(with_reducible refine(zqn.calls k 2 t134 t135 t136 t137 _ A3.out).mono ?_);rintro e w5 ⟨rfl,hb⟩;refine⟨_,rfl,?_⟩;replace BK133:=zq.mk (zf (g:=gb133) (o:=.cells #[.int .i64 0,.int .i64 0,.string (⟨#[]⟩:ByteArray)] 30 (0,0)) (up BK133.out) hb);replace HB:=zq.mk (zb bw hb);(try clear hb);(try clear hb2);(try clear hk);(try clear hi);obtain ⟨hcz6_0,hcz6_1,hcz6_2,hfz6_0,hfz6_1,hfz6_2⟩:=zr BK133.out))
  refine bodyPost_ret (zq8 rfl _ _ gb133 30 #[.int .i64 t134,.int .i64 t135,.string t136] (0,0) _ rfl (by(with_reducible repeat(first|refine zn ?_ _|refine zt ?_|refine zy ?_ _));refine zl (cs:=#[.int .i64 t134,.int .i64 t135,.string (⟨#[]⟩:ByteArray)]) ?_ 2 _ rfl;(with_reducible repeat(first|refine zn ?_ _|refine zt ?_|refine zy ?_ _));refine zl (cs:=#[.int .i64 t134,.int .i64 0,.string (⟨#[]⟩:ByteArray)]) ?_ 1 _ rfl;(with_reducible repeat(first|refine zn ?_ _|refine zt ?_|refine zy ?_ _));refine zl (cs:=#[.int .i64 0,.int .i64 0,.string (⟨#[]⟩:ByteArray)]) ?_ 0 _ rfl;(with_reducible repeat(first|refine zn ?_ _|refine zt ?_|refine zy ?_ _));exact BK133.out) Tryd.underlying30 rfl (by kernel_rfl)) rfl ?_
  exact⟨by first|rfl|(simp [zk,zx] <;> rfl)|(simp [*,zk,zx] <;> rfl),bw⟩
 replace c2:=Bool.eq_false_iff.mpr c2
 subst c2
 rw [if_neg (show ¬ (false=true) by decide)] at H
 replace H:=Option.bind_eq_some_iff.mp H
 obtain ⟨⟨t138,t139,t140,t141⟩,A70,H⟩:=H
 replace H:(some (t138,t139,t140,t141))=some (r1,r2,r3,r4):=H
 have A7:=zq.mk A70
 clear A70
 simp only [Option.some.injEq,Prod.mk.injEq] at H
 obtain ⟨rfl,rfl,rfl,rfl⟩:=H
 go_enter Tryd.func96,Tryd.ntmps96
 go_wp2_with (first|((with_reducible refine ql (N:=2) rfl ?_);refine qh ?hg (N:=2) ?hd (cs:=#[.int .i64 0,.int .i64 0,.string (⟨#[]⟩:ByteArray)]) (t:=30) ?hr ?_;(case hd=>rfl);(case hg=>rfl);(case hr=>first|(go_simp;done)|(go_simp;rfl));intro gb133 hg w8 hbox hb;have BK133:=zq.mk (hbox);have GW133:=zq.mk ((by rw [hg];exact(zv bw):w.heap.size≤gb133));have GE133:=zq.mk ((by rw [hg];exact(zv bw):w.heap.size≤gb133));replace HB:=zq.mk (zb bw hb);clear hb hbox hg)|((with_reducible refine zs (f:=93) rfl ?_);refine qo (some 8) rfl rfl Tryd.func93 (by kernel_rfl) rfl #[.int .i64 0] rfl gs ?_;(with_reducible refine(zqn.calls k 0 t138 t139 t140 t141 _ A7.out).mono ?_);rintro e w9 ⟨rfl,hb⟩;refine⟨_,rfl,?_⟩;replace BK133:=zq.mk (zf (g:=gb133) (o:=.cells #[.int .i64 0,.int .i64 0,.string (⟨#[]⟩:ByteArray)] 30 (0,0)) (up BK133.out) hb);replace HB:=zq.mk (zb bw hb);(try clear hb);(try clear hb2);(try clear hk);(try clear hi);obtain ⟨hcz10_0,hcz10_1,hcz10_2,hfz10_0,hfz10_1,hfz10_2⟩:=zr BK133.out))
 refine bodyPost_ret (zq8 rfl _ _ gb133 30 #[.int .i64 t138,.int .i64 t139,.string t140] (0,0) _ rfl (by(with_reducible repeat(first|refine zn ?_ _|refine zt ?_|refine zy ?_ _));refine zl (cs:=#[.int .i64 t138,.int .i64 t139,.string (⟨#[]⟩:ByteArray)]) ?_ 2 _ rfl;(with_reducible repeat(first|refine zn ?_ _|refine zt ?_|refine zy ?_ _));refine zl (cs:=#[.int .i64 t138,.int .i64 0,.string (⟨#[]⟩:ByteArray)]) ?_ 1 _ rfl;(with_reducible repeat(first|refine zn ?_ _|refine zt ?_|refine zy ?_ _));refine zl (cs:=#[.int .i64 0,.int .i64 0,.string (⟨#[]⟩:ByteArray)]) ?_ 0 _ rfl;(with_reducible repeat(first|refine zn ?_ _|refine zt ?_|refine zy ?_ _));exact BK133.out) Tryd.underlying30 rfl (by kernel_rfl)) rfl ?_
 exact⟨by first|rfl|(simp [zk,zx] <;> rfl)|(simp [*,zk,zx] <;> rfl),bw⟩

/-! ### zxh: function 97 -/
def zxh.f (a0:Int):Option (Int × Int):=if a0<0 then(some (0,2)) else (if a0 > 2 then(some (0,2)) else (some (wrap64 (2 - a0),0)))
set_option maxHeartbeats 8000000 in
set_option maxRecDepth 100000 in
theorem zxh.calls (a0:Int) (r1:Int) (r2:Int) (w:World) (h:zxh.f a0=some (r1,r2)) :
  Calls Tryd.prog 97 #[.int .i64 a0] w fun e w'=>e = .returned (.tuple #[.int .i64 r1,.int .i64 r2])∧qx w w':=by
 have H:(if a0<0 then(some (0,2)) else (if a0 > 2 then(some (0,2)) else (some (wrap64 (2 - a0),0))))=some (r1,r2):=h
 clear h
 by_cases c2:a0<0
 ·rw [if_pos c2] at H
  have c2b0:=decide_eq_true c2
  clear c2
  simp only [Option.some.injEq,Prod.mk.injEq] at H
  obtain ⟨rfl,rfl⟩:=H
  go_enter Tryd.func97,Tryd.ntmps97
  go_wp2
  go_ret2
  exact⟨by first|rfl|(simp;done)|(simp [*];done),by repeat(first|exact qx.refl _|apply qx.step)⟩
 rw [if_neg c2] at H
 have c2b0:=decide_eq_false c2
 clear c2
 by_cases c3:a0 > 2
 ·rw [if_pos c3] at H
  have c3b0:=decide_eq_true c3
  clear c3
  simp only [Option.some.injEq,Prod.mk.injEq] at H
  obtain ⟨rfl,rfl⟩:=H
  go_enter Tryd.func97,Tryd.ntmps97
  go_wp2
  go_ret2
  exact⟨by first|rfl|(simp;done)|(simp [*];done),by repeat(first|exact qx.refl _|apply qx.step)⟩
 rw [if_neg c3] at H
 have c3b0:=decide_eq_false c3
 clear c3
 simp only [Option.some.injEq,Prod.mk.injEq] at H
 obtain ⟨rfl,rfl⟩:=H
 go_enter Tryd.func97,Tryd.ntmps97
 go_wp2
 go_ret2
 exact⟨by first|rfl|(simp;done)|(simp [*];done),by repeat(first|exact qx.refl _|apply qx.step)⟩

/-! ### za: function 98, by hand -/
-- HAND rounds=1 making=1 func=1 imports=Derived.Deep.QuietTactic,Derived.BigQuiet,Derived.Deep.RegionHeld3,Derived.Deep.RegionWith
theorem za.lift {f:Nat} {xs:Array Value} {r:Ending} {W0 W:World} (hb:Below W0.heap.size W0 W) (h:Calls Tryd.prog f xs W fun e w'=>e=r∧Below W.heap.size W w'):Calls Tryd.prog f xs W fun e w'=>e=r∧Below W0.heap.size W0 w':=h.mono fun e w' ⟨h1,h2⟩=>⟨h1,hb.trans (h2.mono hb.size)⟩
theorem za.drawn {f:Nat} {xs:Array Value} {r:Ending} {W:World} (h:Calls Tryd.prog f xs W fun e w'=>e=r∧qx W w'):Calls Tryd.prog f xs W fun e w'=>e=r∧Below W.heap.size W w':=h.mono fun e w' ⟨h1,h2⟩=>⟨h1,h2.below⟩
def za.odd (k:Int):Bool:=(k != 0) && (k != 2)
def za.of (F:Int→Int→Option (Int × Int)) (a b:S30):Option (Int × Int × ByteArray × Int):=
 if(za.odd a.f0 || za.odd b.f0)=true then some (0,0,⟨#[]⟩,12) else if a.f0=0∨b.f0=0 then some (0,0,⟨#[]⟩,0) else
  (F a.f1 b.f1).bind fun p=>if p.2=0 then some (2,p.1,⟨#[]⟩,0) else some (0,0,⟨#[]⟩,p.2)
def za.f (_k:Nat) (_a:Int):Option Bool:=none
theorem za.mono:∀ a0 k,LeO (za.f k a0) (za.f (k+1) a0):=fun _ _=>LeO.refl _
theorem za.zx7 {F G:Int→Int→Option (Int × Int)} (h:∀ x y,LeO (F x y) (G x y)) (a b:S30):LeO (za.of F a b) (za.of G a b):=by
 unfold za.of
 exact LeO.ite (LeO.refl _) (LeO.ite (LeO.refl _) (LeO.bind (h _ _) (fun _=>LeO.refl _)))
set_option maxRecDepth 100000 in
theorem za.odd_at (a:S30) (W:World):Calls Tryd.prog 120 #[.agg #[.int .i64 a.f0,.int .i64 a.f1,.string a.f2]] W fun e w'=>e = .returned (.bool (za.odd a.f0))∧Below W.heap.size W w':=by
 by_cases h0:a.f0=0
 ·have d0:(a.f0 != 0)=false:=by simpa using h0
  have ho:za.odd a.f0=false:=by simp [za.odd,h0]
  rw [ho]
  clear h0 ho
  go_enter Tryd.func120,Tryd.ntmps120
  go_wp2
  go_ret
  exact⟨rfl,zm (Below.refl _ _) _⟩
 have d0:(a.f0 != 0)=true:=by simpa using h0
 by_cases h2:a.f0=2
 ·have d2:(a.f0 != 2)=false:=by simpa using h2
  have ho:za.odd a.f0=false:=by simp [za.odd,h2]
  rw [ho]
  clear h0 h2 ho
  go_enter Tryd.func120,Tryd.ntmps120
  go_wp2
  go_ret
  exact⟨rfl,zm (Below.refl _ _) _⟩
 have d2:(a.f0 != 2)=true:=by simpa using h2
 have ho:za.odd a.f0=true:=by simp [za.odd,h0,h2]
 rw [ho]
 clear h0 h2 ho
 go_enter Tryd.func120,Tryd.ntmps120
 go_wp2
 go_ret
 exact⟨rfl,zm (Below.refl _ _) _⟩
abbrev za.w0 (a b:S30) (w:World):World:=((w.alloc (.cells #[.int .i64 a.f0,.int .i64 a.f1,.string a.f2] 30)).alloc (.cells #[.int .i64 b.f0,.int .i64 b.f1,.string b.f2] 30)).alloc (.cells #[.int .i64 0,.int .i64 0,.string ⟨#[]⟩] 30)
structure za.Kp (a b:S30) (w W:World):Prop where mk :: (c0:W.cell? ⟨w.heap.size,0,none⟩=some (.int .i64 a.f0)) (c1:W.cell? ⟨w.heap.size,1,none⟩=some (.int .i64 a.f1)) (c2:W.cell? ⟨w.heap.size,2,none⟩=some (.string a.f2)) (c3:W.cell? ⟨w.heap.size+1,0,none⟩=some (.int .i64 b.f0)) (c4:W.cell? ⟨w.heap.size+1,1,none⟩=some (.int .i64 b.f1)) (c5:W.cell? ⟨w.heap.size+1,2,none⟩=some (.string b.f2)) (c6:W.cell? ⟨w.heap.size+1+1,0,none⟩=some (.int .i64 0)) (c7:W.cell? ⟨w.heap.size+1+1,1,none⟩=some (.int .i64 0)) (c8:W.cell? ⟨w.heap.size+1+1,2,none⟩=some (.string ⟨#[]⟩)) (c9:W.frozen? ⟨w.heap.size+1+1,0,none⟩=false) (c10:W.frozen? ⟨w.heap.size+1+1,1,none⟩=false) (c11:W.frozen? ⟨w.heap.size+1+1,2,none⟩=false)
theorem za.zq7 {a b:S30} {w:World} : (za.w0 a b w).heap.size=w.heap.size+1+1+1:=by simp [za.w0]
theorem za.hz {a b:S30} {w W:World} (hb:Below (za.w0 a b w).heap.size (za.w0 a b w) W):W.heap[w.heap.size+1+1]? = some (.cells #[.int .i64 0,.int .i64 0,.string ⟨#[]⟩] 30 (0,0)):=by
 have q_:((w.alloc (.cells #[.int .i64 a.f0,.int .i64 a.f1,.string a.f2] 30)).alloc (.cells #[.int .i64 b.f0,.int .i64 b.f1,.string b.f2] 30)).heap.size=w.heap.size+1+1:=by simp
 have h:=zjt ((w.alloc (.cells #[.int .i64 a.f0,.int .i64 a.f1,.string a.f2] 30)).alloc (.cells #[.int .i64 b.f0,.int .i64 b.f1,.string b.f2] 30)) (.cells #[.int .i64 0,.int .i64 0,.string ⟨#[]⟩] 30)
 rw [q_] at h
 exact zf h hb
theorem za.hr {a b:S30} {w W:World} (hb:Below (za.w0 a b w).heap.size (za.w0 a b w) W):Below w.heap.size w W:=by
 have h0:Below w.heap.size w (za.w0 a b w):=zm (zm (zm (Below.refl _ _) _) _) _
 exact h0.trans (hb.mono h0.size)
theorem za.kp {a b:S30} {w W:World} (hb:Below (za.w0 a b w).heap.size (za.w0 a b w) W):za.Kp a b w W:=by
 have hs:=hb.size
 rw [za.zq7] at hs
 exact⟨zp hb (by simp [go_sem]),zp hb (by simp [go_sem]),zp hb (by simp [go_sem]),zp hb (by simp [go_sem]),zp hb (by simp [go_sem]),zp hb (by simp [go_sem]),zp hb (by simp [go_sem]),zp hb (by simp [go_sem]),zp hb (by simp [go_sem]),qy (za.hz hb) 0,qy (za.hz hb) 1,qy (za.hz hb) 2⟩
set_option maxRecDepth 100000 in
set_option maxHeartbeats 4000000 in
theorem za.at_ (F:Int→Int→Option (Int × Int)) (q:Nat) (hq:q=99∨q=101∨q=102∨q=103∨q=104∨q=105) (hF:∀ x y r c (W:World),F x y=some (r,c)→Calls Tryd.prog q #[.int .i64 x,.int .i64 y] W fun e w'=>e = .returned (.tuple #[.int .i64 r,.int .i64 c])∧Below W.heap.size W w')
  (a b:S30) (r1 r2:Int) (r3:ByteArray) (r4:Int) (w:World) (h:za.of F a b=some (r1,r2,r3,r4)) :
  Calls Tryd.prog 98 #[.func (.func q) #[] #[],.agg #[.int .i64 a.f0,.int .i64 a.f1,.string a.f2],.agg #[.int .i64 b.f0,.int .i64 b.f1,.string b.f2]] w fun e w'=>e = .returned (.tuple #[.agg #[.int .i64 r1,.int .i64 r2,.string r3],.int .i64 r4])∧Below w.heap.size w w':=by
 have huv:=Tryd.underlying30
 have OA:=zq.mk (za.odd_at a)
 have OB:=zq.mk (za.odd_at b)
 have HF:=zq.mk hF
 clear hF
 unfold za.of at h
 generalize hqa:za.odd a.f0=qa at *
 generalize hqb:za.odd b.f0=qb at *
 clear hqa hqb
 cases qa with
 | true=>
  rw [Bool.true_or,if_pos rfl] at h
  obtain ⟨rfl,rfl,rfl,rfl⟩:0=r1∧0=r2∧(⟨#[]⟩:ByteArray)=r3∧12=r4:=by simpa using h
  clear h
  go_enter Tryd.func98,Tryd.ntmps98
  go_wp2_with (go_at_call 120;(with_reducible refine(za.lift (W0:=za.w0 a b w) (Below.refl _ _) (OA.out _)).mono ?_);rintro e w1 ⟨rfl,hb1⟩;have HB1:=zq.mk hb1;cases za.kp hb1;clear hb1)
  have HVX:=(zl (zl (zl (za.hz HB1.out) 0 (.int .i64 0) rfl) 1 (.int .i64 0) rfl) 2 (.string ⟨#[]⟩) rfl)
  refine bodyPost_ret (qm (rs := [.cell 6 30,.tmp 7]) rfl (by simp) (.cell (w.heap.size+1+1) 30 _ (0,0) _ rfl HVX huv rfl (by kernel_rfl) (.tmp .nil))) rfl ?_
  exact⟨rfl,(((za.hr HB1.out).setCell (p:=⟨w.heap.size+1+1,0,none⟩) (by simp <;> omega) _).setCell (p:=⟨w.heap.size+1+1,1,none⟩) (by simp <;> omega) _).setCell (p:=⟨w.heap.size+1+1,2,none⟩) (by simp <;> omega) _⟩
 | false=>
  cases qb with
  | true=>
   rw [Bool.false_or,if_pos rfl] at h
   obtain ⟨rfl,rfl,rfl,rfl⟩:0=r1∧0=r2∧(⟨#[]⟩:ByteArray)=r3∧12=r4:=by simpa using h
   clear h
   go_enter Tryd.func98,Tryd.ntmps98
   go_wp2_with (first|(go_at_call 120;(with_reducible refine(za.lift (W0:=za.w0 a b w) (Below.refl _ _) (OA.out _)).mono ?_);rintro e w1 ⟨rfl,hb1⟩;have HB1:=zq.mk hb1;cases za.kp hb1;clear hb1)|(go_at_call 120;(with_reducible refine(za.lift (HB1.out) (OB.out _)).mono ?_);rintro e w2 ⟨rfl,hb2⟩;have HB2:=zq.mk hb2;cases za.kp hb2;clear hb2))
   have HVX:=(zl (zl (zl (za.hz HB2.out) 0 (.int .i64 0) rfl) 1 (.int .i64 0) rfl) 2 (.string ⟨#[]⟩) rfl)
   refine bodyPost_ret (qm (rs := [.cell 6 30,.tmp 7]) rfl (by simp) (.cell (w.heap.size+1+1) 30 _ (0,0) _ rfl HVX huv rfl (by kernel_rfl) (.tmp .nil))) rfl ?_
   exact⟨rfl,(((za.hr HB2.out).setCell (p:=⟨w.heap.size+1+1,0,none⟩) (by simp <;> omega) _).setCell (p:=⟨w.heap.size+1+1,1,none⟩) (by simp <;> omega) _).setCell (p:=⟨w.heap.size+1+1,2,none⟩) (by simp <;> omega) _⟩
  | false=>
   rw [Bool.false_or,if_neg (by decide)] at h
   by_cases c0:a.f0=0
   ·rw [if_pos (.inl c0)] at h
    obtain ⟨rfl,rfl,rfl,rfl⟩:0=r1∧0=r2∧(⟨#[]⟩:ByteArray)=r3∧0=r4:=by simpa using h
    have d0:(a.f0 == 0)=true:=by simpa using c0
    clear h c0
    go_enter Tryd.func98,Tryd.ntmps98
    go_wp2_with (first|(go_at_call 120;(with_reducible refine(za.lift (W0:=za.w0 a b w) (Below.refl _ _) (OA.out _)).mono ?_);rintro e w1 ⟨rfl,hb1⟩;have HB1:=zq.mk hb1;cases za.kp hb1;clear hb1)|(go_at_call 120;(with_reducible refine(za.lift (HB1.out) (OB.out _)).mono ?_);rintro e w2 ⟨rfl,hb2⟩;have HB2:=zq.mk hb2;cases za.kp hb2;clear hb2))
    have HVX:=(zl (zl (zl (za.hz HB2.out) 0 (.int .i64 0) rfl) 1 (.int .i64 0) rfl) 2 (.string ⟨#[]⟩) rfl)
    refine bodyPost_ret (qm (rs := [.cell 6 30,.tmp 7]) rfl (by simp) (.cell (w.heap.size+1+1) 30 _ (0,0) _ rfl HVX huv rfl (by kernel_rfl) (.tmp .nil))) rfl ?_
    exact⟨rfl,(((za.hr HB2.out).setCell (p:=⟨w.heap.size+1+1,0,none⟩) (by simp <;> omega) _).setCell (p:=⟨w.heap.size+1+1,1,none⟩) (by simp <;> omega) _).setCell (p:=⟨w.heap.size+1+1,2,none⟩) (by simp <;> omega) _⟩
   have d0:(a.f0 == 0)=false:=by simpa using c0
   by_cases c1:b.f0=0
   ·rw [if_pos (.inr c1)] at h
    obtain ⟨rfl,rfl,rfl,rfl⟩:0=r1∧0=r2∧(⟨#[]⟩:ByteArray)=r3∧0=r4:=by simpa using h
    have d1:(b.f0 == 0)=true:=by simpa using c1
    clear h c0 c1
    go_enter Tryd.func98,Tryd.ntmps98
    go_wp2_with (first|(go_at_call 120;(with_reducible refine(za.lift (W0:=za.w0 a b w) (Below.refl _ _) (OA.out _)).mono ?_);rintro e w1 ⟨rfl,hb1⟩;have HB1:=zq.mk hb1;cases za.kp hb1;clear hb1)|(go_at_call 120;(with_reducible refine(za.lift (HB1.out) (OB.out _)).mono ?_);rintro e w2 ⟨rfl,hb2⟩;have HB2:=zq.mk hb2;cases za.kp hb2;clear hb2))
    have HVX:=(zl (zl (zl (za.hz HB2.out) 0 (.int .i64 0) rfl) 1 (.int .i64 0) rfl) 2 (.string ⟨#[]⟩) rfl)
    refine bodyPost_ret (qm (rs := [.cell 6 30,.tmp 7]) rfl (by simp) (.cell (w.heap.size+1+1) 30 _ (0,0) _ rfl HVX huv rfl (by kernel_rfl) (.tmp .nil))) rfl ?_
    exact⟨rfl,(((za.hr HB2.out).setCell (p:=⟨w.heap.size+1+1,0,none⟩) (by simp <;> omega) _).setCell (p:=⟨w.heap.size+1+1,1,none⟩) (by simp <;> omega) _).setCell (p:=⟨w.heap.size+1+1,2,none⟩) (by simp <;> omega) _⟩
   have d1:(b.f0 == 0)=false:=by simpa using c1
   rw [if_neg (by rintro (h_|h_) <;> first|exact c0 h_|exact c1 h_)] at h
   obtain ⟨⟨x,c⟩,hx,h⟩:=Option.bind_eq_some_iff.1 h
   have HX:=zq.mk hx
   clear hx c0 c1
   by_cases z:c=0
   ·rw [if_pos z] at h
    obtain ⟨rfl,rfl,rfl,rfl⟩:2=r1∧x=r2∧(⟨#[]⟩:ByteArray)=r3∧0=r4:=by simpa using h
    subst z
    clear h
    rcases hq with rfl|rfl|rfl|rfl|rfl|rfl
    all_goals
     go_enter Tryd.func98,Tryd.ntmps98
     go_wp2_with (first|(go_at_call 120;(with_reducible refine(za.lift (W0:=za.w0 a b w) (Below.refl _ _) (OA.out _)).mono ?_);rintro e w1 ⟨rfl,hb1⟩;have HB1:=zq.mk hb1;cases za.kp hb1;clear hb1)|(go_at_call 120;(with_reducible refine(za.lift (HB1.out) (OB.out _)).mono ?_);rintro e w2 ⟨rfl,hb2⟩;have HB2:=zq.mk hb2;cases za.kp hb2;clear hb2)|((with_reducible refine(za.lift (HB2.out) (HF.out _ _ _ _ _ HX.out)).mono ?_);rintro e w3 ⟨rfl,hb3⟩;have HB3:=zq.mk hb3;cases za.kp hb3;clear hb3))
     have HVX:=(zl (zl (zl (za.hz HB3.out) 0 (.int .i64 2) rfl) 1 (.int .i64 x) rfl) 2 (.string ⟨#[]⟩) rfl)
     refine bodyPost_ret (qm (rs := [.cell 6 30,.tmp 7]) rfl (by simp) (.cell (w.heap.size+1+1) 30 _ (0,0) _ rfl HVX huv rfl (by kernel_rfl) (.tmp .nil))) rfl ?_
     exact⟨rfl,(((za.hr HB3.out).setCell (p:=⟨w.heap.size+1+1,0,none⟩) (by simp <;> omega) _).setCell (p:=⟨w.heap.size+1+1,1,none⟩) (by simp <;> omega) _).setCell (p:=⟨w.heap.size+1+1,2,none⟩) (by simp <;> omega) _⟩
   rw [if_neg z] at h
   obtain ⟨rfl,rfl,rfl,rfl⟩:0=r1∧0=r2∧(⟨#[]⟩:ByteArray)=r3∧c=r4:=by simpa using h
   have dz:(c != 0)=true:=by simpa using z
   clear h z
   rcases hq with rfl|rfl|rfl|rfl|rfl|rfl
   all_goals
    go_enter Tryd.func98,Tryd.ntmps98
    go_wp2_with (first|(go_at_call 120;(with_reducible refine(za.lift (W0:=za.w0 a b w) (Below.refl _ _) (OA.out _)).mono ?_);rintro e w1 ⟨rfl,hb1⟩;have HB1:=zq.mk hb1;cases za.kp hb1;clear hb1)|(go_at_call 120;(with_reducible refine(za.lift (HB1.out) (OB.out _)).mono ?_);rintro e w2 ⟨rfl,hb2⟩;have HB2:=zq.mk hb2;cases za.kp hb2;clear hb2)|((with_reducible refine(za.lift (HB2.out) (HF.out _ _ _ _ _ HX.out)).mono ?_);rintro e w3 ⟨rfl,hb3⟩;have HB3:=zq.mk hb3;cases za.kp hb3;clear hb3))
    have HVX:=(zl (zl (zl (za.hz HB3.out) 0 (.int .i64 0) rfl) 1 (.int .i64 0) rfl) 2 (.string ⟨#[]⟩) rfl)
    refine bodyPost_ret (qm (rs := [.cell 6 30,.tmp 7]) rfl (by simp) (.cell (w.heap.size+1+1) 30 _ (0,0) _ rfl HVX huv rfl (by kernel_rfl) (.tmp .nil))) rfl ?_
    exact⟨rfl,(((za.hr HB3.out).setCell (p:=⟨w.heap.size+1+1,0,none⟩) (by simp <;> omega) _).setCell (p:=⟨w.heap.size+1+1,1,none⟩) (by simp <;> omega) _).setCell (p:=⟨w.heap.size+1+1,2,none⟩) (by simp <;> omega) _⟩

/-! ### zqq: function 122 -/
def zqq.f (a0:Int) (a1:Bool):Option (Int × Int):=if a1=true then(some (a0,0)) else (some (0,10))
set_option maxHeartbeats 8000000 in
set_option maxRecDepth 100000 in
theorem zqq.calls (a0:Int) (a1:Bool) (r1:Int) (r2:Int) (w:World) (h:zqq.f a0 a1=some (r1,r2)) :
  Calls Tryd.prog 122 #[.int .i64 a0,.bool a1] w fun e w'=>e = .returned (.tuple #[.int .i64 r1,.int .i64 r2])∧qx w w':=by
 have H:(if a1=true then(some (a0,0)) else (some (0,10)))=some (r1,r2):=h
 clear h
 by_cases c3:a1=true
 ·subst c3
  rw [if_pos rfl] at H
  simp only [Option.some.injEq,Prod.mk.injEq] at H
  obtain ⟨rfl,rfl⟩:=H
  go_enter Tryd.func122,Tryd.ntmps122
  go_wp2
  go_ret2
  exact⟨by first|rfl|(simp;done)|(simp [*];done),by repeat(first|exact qx.refl _|apply qx.step)⟩
 replace c3:=Bool.eq_false_iff.mpr c3
 subst c3
 rw [if_neg (show ¬ (false=true) by decide)] at H
 simp only [Option.some.injEq,Prod.mk.injEq] at H
 obtain ⟨rfl,rfl⟩:=H
 go_enter Tryd.func122,Tryd.ntmps122
 go_wp2
 go_ret2
 exact⟨by first|rfl|(simp;done)|(simp [*];done),by repeat(first|exact qx.refl _|apply qx.step)⟩

/-! ### zx5: function 101 -/
def zx5.f (a0:Int) (a1:Int):Option (Int × Int):=(zqq.f (wrap64 (a0+a1)) (decide ((Go.bits .and .i64 (Go.bits .xor .i64 a0 (wrap64 (a0+a1))) (Go.bits .xor .i64 a1 (wrap64 (a0+a1)))) ≥ 0))).bind fun bt142=>(some (bt142.1,bt142.2))
set_option maxHeartbeats 8000000 in
set_option maxRecDepth 100000 in
theorem zx5.calls (a0:Int) (a1:Int) (r1:Int) (r2:Int) (w:World) (h:zx5.f a0 a1=some (r1,r2)) :
  Calls Tryd.prog 101 #[.int .i64 a0,.int .i64 a1] w fun e w'=>e = .returned (.tuple #[.int .i64 r1,.int .i64 r2])∧qx w w':=by
 have H:((zqq.f (wrap64 (a0+a1)) (decide ((Go.bits .and .i64 (Go.bits .xor .i64 a0 (wrap64 (a0+a1))) (Go.bits .xor .i64 a1 (wrap64 (a0+a1)))) ≥ 0))).bind fun bt142=>(some (bt142.1,bt142.2)))=some (r1,r2):=h
 clear h
 replace H:=Option.bind_eq_some_iff.mp H
 obtain ⟨⟨t142,t143⟩,A30,H⟩:=H
 replace H:(some (t142,t143))=some (r1,r2):=H
 have A3:=zq.mk A30
 clear A30
 simp only [Option.some.injEq,Prod.mk.injEq] at H
 obtain ⟨rfl,rfl⟩:=H
 go_enter Tryd.func101,Tryd.ntmps101
 go_wp2_with (first|((with_reducible refine zs (f:=122) rfl ?_);refine qo (some 19) rfl rfl Tryd.func122 (by kernel_rfl) rfl #[.int .i64 (wrap64 (a0+a1)),.bool (decide ((Go.bits .and .i64 (Go.bits .xor .i64 a0 (wrap64 (a0+a1))) (Go.bits .xor .i64 a1 (wrap64 (a0+a1)))) ≥ 0))] rfl gs ?_;(with_reducible refine(zqq.calls (wrap64 (a0+a1)) (decide ((Go.bits .and .i64 (Go.bits .xor .i64 a0 (wrap64 (a0+a1))) (Go.bits .xor .i64 a1 (wrap64 (a0+a1)))) ≥ 0)) t142 t143 _ A3.out).mono ?_);rintro e w' ⟨rfl,⟨nd,rfl⟩⟩;refine⟨_,rfl,?_⟩))
 go_ret2
 exact⟨by first|rfl|(simp;done)|(simp [*];done),by repeat(first|exact qx.refl _|apply qx.step)⟩

end Go.Proofs.YtmfpaeajibeikaaDoor.PEvalHolds
