-- Written by wip/pp of this repo (over the kit's print, with additions of this session); Lean checks every line.
import Derived.Test.YtmfpaeajibeikaaDoorPEvalHoldsx10
import Derived.Test.YtmfpaeajibeikaaDoorPEvalHoldsx11
namespace Go.Proofs.YtmfpaeajibeikaaDoor.PEvalHolds
open Go.RowKit Go.Proofs.YtmfpaeajibeikaaDoorW.PrintWords Go.Proofs.YtmfpaeajibeikaaDoorW.PrintLast Go.Proofs.YtmfpaeajibeikaaDoorW.PrintMore
attribute [local go_sem] zje zjc zjo zjn zq1 zq0 zjd zjb   -- for this text's walks alone
set_option linter.unusedVariables false
set_option linter.unusedSimpArgs false

/-! ### zqk: function 34 -/
def zqk.f (k:Nat) (a0_0:Int) (a0_1:Int) (a0_2:Int) (a0_3:ByteArray) (a0_4:ByteArray) (a0_5:ByteArray) (a0_6:Int) (l0_7:List (S33)) (a1:Int):Option (Bool):=(qc.f k a0_0 a0_1 a0_2 a0_3 a0_4 a0_5 a0_6 l0_7 14).bind fun t187=>(if t187≤12 then((zc.f k a0_0 a0_1 a0_2 a0_3 a0_4 a0_5 a0_6 l0_7 a1).bind fun t188=>(some t188)) else (some false))
theorem zqk.mono:∀ a0 a1 a2 a3 a4 a5 a6 a7 a8 k,LeO (zqk.f k a0 a1 a2 a3 a4 a5 a6 a7 a8) (zqk.f (k+1) a0 a1 a2 a3 a4 a5 a6 a7 a8):=by
 intro a0 a1 a2 a3 a4 a5 a6 a7 a8 k
 unfold zqk.f
 repeat' first
   | (with_reducible first|exact zc.mono _ _ _ _ _ _ _ _ _ _|exact qc.mono _ _ _ _ _ _ _ _ _ _|exact LeO.refl _|exact LeO.none _|refine LeO.ite ?_ ?_|refine LeO.bind ?_ (fun _=>?_))
   | exact zc.mono _ _ _ _ _ _ _ _ _ _
   | exact qc.mono _ _ _ _ _ _ _ _ _ _
   | exact LeO.none _
   | refine LeO.ite ?_ ?_
   | refine LeO.bind ?_ (fun _=>?_)
set_option maxHeartbeats 8000000 in
set_option maxRecDepth 100000 in
theorem zqk.calls (k:Nat) (a0_0:Int) (a0_1:Int) (a0_2:Int) (a0_3:ByteArray) (a0_4:ByteArray) (a0_5:ByteArray) (a0_6:Int) (A0_7:Option Addr) (c0_7:Nat) (l0_7:List (S33)) (a1:Int) (r:Bool) (w:World) (hr0_7:Kd.C k33 w A0_7 l0_7.length l0_7) (hc0_7:l0_7.length≤c0_7) (h:zqk.f k a0_0 a0_1 a0_2 a0_3 a0_4 a0_5 a0_6 l0_7 a1=some r) :
  Calls Tryd.prog 34 #[.agg #[.int .i64 a0_0,.int .i64 a0_1,.int .i64 a0_2,.string a0_3,.string a0_4,.string a0_5,.int .i64 a0_6,.slice A0_7 l0_7.length c0_7],.int .i64 a1] w fun e w'=>e = .returned (.bool r)∧Below w.heap.size w w':=by
 have hu33:=Tryd.underlying33
 have HR0_7:=zq.mk hr0_7
 have HC0_7:=zq.mk hc0_7
 clear hr0_7 hc0_7
 have HB:=zq.mk (Below.refl w.heap.size w)
 have H:((qc.f k a0_0 a0_1 a0_2 a0_3 a0_4 a0_5 a0_6 l0_7 14).bind fun t187=>(if t187≤12 then((zc.f k a0_0 a0_1 a0_2 a0_3 a0_4 a0_5 a0_6 l0_7 a1).bind fun t188=>(some t188)) else (some false)))=some r:=h
 clear h
 replace H:=Option.bind_eq_some_iff.mp H
 obtain ⟨t187,A30,H⟩:=H
 replace H:(if t187≤12 then((zc.f k a0_0 a0_1 a0_2 a0_3 a0_4 a0_5 a0_6 l0_7 a1).bind fun t188=>(some t188)) else (some false))=some r:=H
 have A3:=zq.mk A30
 clear A30
 by_cases c4:t187≤12
 ·rw [if_pos c4] at H
  have c4b0:=decide_eq_true c4
  clear c4
  replace H:=Option.bind_eq_some_iff.mp H
  obtain ⟨t188,A50,H⟩:=H
  replace H:(some t188)=some r:=H
  have A5:=zq.mk A50
  clear A50
  obtain rfl:=Option.some.inj H
  go_enter Tryd.func34,Tryd.ntmps34
  go_wp2_with (first|((with_reducible refine ql (N:=2) rfl ?_);refine qh ?hg (N:=2) ?hd (cs:=#[.int .i64 a0_0,.int .i64 a0_1,.int .i64 a0_2,.string a0_3,.string a0_4,.string a0_5,.int .i64 a0_6,.slice A0_7 l0_7.length c0_7]) (t:=33) ?hr ?_;(case hd=>rfl);(case hg=>rfl);(case hr=>first|(go_simp;done)|(go_simp;rfl));intro gb186 hg w6 hbox hb;have BK186:=zq.mk (hbox);have GW186:=zq.mk ((by rw [hg];exact(zv bw):w.heap.size≤gb186));have GE186:=zq.mk ((by rw [hg];exact(zv bw):w.heap.size≤gb186));replace HB:=zq.mk (zb bw hb);clear hb hbox hg;obtain ⟨hcz7_0,hcz7_1,hcz7_2,hcz7_3,hcz7_4,hcz7_5,hcz7_6,hcz7_7,hfz7_0,hfz7_1,hfz7_2,hfz7_3,hfz7_4,hfz7_5,hfz7_6,hfz7_7⟩:=zql BK186.out)|((with_reducible refine zs (f:=50) rfl ?_);refine qo (some 6) rfl rfl Tryd.func50 (by kernel_rfl) rfl #[.agg #[.int .i64 a0_0,.int .i64 a0_1,.int .i64 a0_2,.string a0_3,.string a0_4,.string a0_5,.int .i64 a0_6,.slice A0_7 l0_7.length c0_7],.int .i64 14] rfl gs ?_;(with_reducible refine(qc.calls k a0_0 a0_1 a0_2 a0_3 a0_4 a0_5 a0_6 _ _ l0_7 14 t187 _ ?side1 ?side2 A3.out).mono ?_);(case side1=>exact Kd.cu (Kd.zqe HR0_7.out HB.out));(case side2=>exact HC0_7.out);rintro e w8 ⟨rfl,hb⟩;refine⟨_,rfl,?_⟩;replace BK186:=zq.mk (zf (g:=gb186) (o:=.cells #[.int .i64 a0_0,.int .i64 a0_1,.int .i64 a0_2,.string a0_3,.string a0_4,.string a0_5,.int .i64 a0_6,.slice A0_7 l0_7.length c0_7] 33 (0,0)) (up BK186.out) hb);replace HB:=zq.mk (zb bw hb);(try clear hb);(try clear hb2);(try clear hk);(try clear hi);obtain ⟨hcz9_0,hcz9_1,hcz9_2,hcz9_3,hcz9_4,hcz9_5,hcz9_6,hcz9_7,hfz9_0,hfz9_1,hfz9_2,hfz9_3,hfz9_4,hfz9_5,hfz9_6,hfz9_7⟩:=zql BK186.out)|(go_at_call 51;(with_reducible refine(zc.calls k a0_0 a0_1 a0_2 a0_3 a0_4 a0_5 a0_6 _ _ l0_7 a1 t188 _ ?side1 ?side2 A5.out).mono ?_);(case side1=>exact Kd.cu (Kd.zqe HR0_7.out HB.out));(case side2=>exact HC0_7.out);rintro e w10 ⟨rfl,hb⟩;replace BK186:=zq.mk (zf (g:=gb186) (o:=.cells #[.int .i64 a0_0,.int .i64 a0_1,.int .i64 a0_2,.string a0_3,.string a0_4,.string a0_5,.int .i64 a0_6,.slice A0_7 l0_7.length c0_7] 33 (0,0)) (up BK186.out) hb);replace HB:=zq.mk (zb bw hb);(try clear hb);(try clear hb2);(try clear hk);(try clear hi)))
  go_ret
  exact⟨by first|rfl|(simp [zk,zx] <;> rfl)|(simp [*,zk,zx] <;> rfl),bw⟩
 rw [if_neg c4] at H
 have c4b0:=decide_eq_false c4
 clear c4
 obtain rfl:=Option.some.inj H
 go_enter Tryd.func34,Tryd.ntmps34
 go_wp2_with (first|((with_reducible refine ql (N:=2) rfl ?_);refine qh ?hg (N:=2) ?hd (cs:=#[.int .i64 a0_0,.int .i64 a0_1,.int .i64 a0_2,.string a0_3,.string a0_4,.string a0_5,.int .i64 a0_6,.slice A0_7 l0_7.length c0_7]) (t:=33) ?hr ?_;(case hd=>rfl);(case hg=>rfl);(case hr=>first|(go_simp;done)|(go_simp;rfl));intro gb186 hg w11 hbox hb;have BK186:=zq.mk (hbox);have GW186:=zq.mk ((by rw [hg];exact(zv bw):w.heap.size≤gb186));have GE186:=zq.mk ((by rw [hg];exact(zv bw):w.heap.size≤gb186));replace HB:=zq.mk (zb bw hb);clear hb hbox hg;obtain ⟨hcz12_0,hcz12_1,hcz12_2,hcz12_3,hcz12_4,hcz12_5,hcz12_6,hcz12_7,hfz12_0,hfz12_1,hfz12_2,hfz12_3,hfz12_4,hfz12_5,hfz12_6,hfz12_7⟩:=zql BK186.out)|((with_reducible refine zs (f:=50) rfl ?_);refine qo (some 6) rfl rfl Tryd.func50 (by kernel_rfl) rfl #[.agg #[.int .i64 a0_0,.int .i64 a0_1,.int .i64 a0_2,.string a0_3,.string a0_4,.string a0_5,.int .i64 a0_6,.slice A0_7 l0_7.length c0_7],.int .i64 14] rfl gs ?_;(with_reducible refine(qc.calls k a0_0 a0_1 a0_2 a0_3 a0_4 a0_5 a0_6 _ _ l0_7 14 t187 _ ?side1 ?side2 A3.out).mono ?_);(case side1=>exact Kd.cu (Kd.zqe HR0_7.out HB.out));(case side2=>exact HC0_7.out);rintro e w13 ⟨rfl,hb⟩;refine⟨_,rfl,?_⟩;replace BK186:=zq.mk (zf (g:=gb186) (o:=.cells #[.int .i64 a0_0,.int .i64 a0_1,.int .i64 a0_2,.string a0_3,.string a0_4,.string a0_5,.int .i64 a0_6,.slice A0_7 l0_7.length c0_7] 33 (0,0)) (up BK186.out) hb);replace HB:=zq.mk (zb bw hb);(try clear hb);(try clear hb2);(try clear hk);(try clear hi)))
 go_ret
 exact⟨by first|rfl|(simp [zk,zx] <;> rfl)|(simp [*,zk,zx] <;> rfl),bw⟩

/-! ### qw: function 53 -/
def qw.f (k:Nat) (a0_0:Int) (a0_1:Int) (a0_2:ByteArray):Option (Int × Int):=(zw.f k a0_0 a0_1 a0_2).bind fun t190=>(if t190=0 then(if a0_0=0 then(some (1,0)) else (if a0_0=1 then(if a0_1=1 then(some (2,0)) else (some (0,0))) else (some (0,12)))) else (some (0,t190)))
theorem qw.mono:∀ a0 a1 a2 k,LeO (qw.f k a0 a1 a2) (qw.f (k+1) a0 a1 a2):=by
 intro a0 a1 a2 k
 unfold qw.f
 repeat' first
   | (with_reducible first|exact zw.mono _ _ _ _|exact LeO.refl _|exact LeO.none _|refine LeO.ite ?_ ?_|refine LeO.bind ?_ (fun _=>?_))
   | exact zw.mono _ _ _ _
   | exact LeO.none _
   | refine LeO.ite ?_ ?_
   | refine LeO.bind ?_ (fun _=>?_)
set_option maxHeartbeats 8000000 in
set_option maxRecDepth 100000 in
theorem qw.calls (k:Nat) (a0_0:Int) (a0_1:Int) (a0_2:ByteArray) (r1:Int) (r2:Int) (w:World) (h:qw.f k a0_0 a0_1 a0_2=some (r1,r2)) :
  Calls Tryd.prog 53 #[.agg #[.int .i64 a0_0,.int .i64 a0_1,.string a0_2]] w fun e w'=>e = .returned (.tuple #[.int .i64 r1,.int .i64 r2])∧Below w.heap.size w w':=by
 have hu30:=Tryd.underlying30
 have HB:=zq.mk (Below.refl w.heap.size w)
 have H:((zw.f k a0_0 a0_1 a0_2).bind fun t190=>(if t190=0 then(if a0_0=0 then(some (1,0)) else (if a0_0=1 then(if a0_1=1 then(some (2,0)) else (some (0,0))) else (some (0,12)))) else (some (0,t190))))=some (r1,r2):=h
 clear h
 replace H:=Option.bind_eq_some_iff.mp H
 obtain ⟨t190,A20,H⟩:=H
 replace H:(if t190=0 then(if a0_0=0 then(some (1,0)) else (if a0_0=1 then(if a0_1=1 then(some (2,0)) else (some (0,0))) else (some (0,12)))) else (some (0,t190)))=some (r1,r2):=H
 have A2:=zq.mk A20
 clear A20
 by_cases c3:t190=0
 ·rw [if_pos c3] at H
  have c3b0:(t190 == 0)=true:=beq_iff_eq.mpr c3
  have c3b1:(t190 != 0)=false:=bne_eq_false_iff_eq.mpr c3
  clear c3
  by_cases c4:a0_0=0
  ·rw [if_pos c4] at H
   have c4b0:(a0_0 == 0)=true:=beq_iff_eq.mpr c4
   have c4b1:(a0_0 != 0)=false:=bne_eq_false_iff_eq.mpr c4
   clear c4
   simp only [Option.some.injEq,Prod.mk.injEq] at H
   obtain ⟨rfl,rfl⟩:=H
   go_enter Tryd.func53,Tryd.ntmps53
   go_wp2_with (first|((with_reducible refine ql (N:=1) rfl ?_);refine qh ?hg (N:=1) ?hd (cs:=#[.int .i64 a0_0,.int .i64 a0_1,.string a0_2]) (t:=30) ?hr ?_;(case hd=>rfl);(case hg=>rfl);(case hr=>first|(go_simp;done)|(go_simp;rfl));intro gb189 hg w5 hbox hb;have BK189:=zq.mk (hbox);have GW189:=zq.mk ((by rw [hg];exact(zv bw):w.heap.size≤gb189));have GE189:=zq.mk ((by rw [hg];exact(zv bw):w.heap.size≤gb189));replace HB:=zq.mk (zb bw hb);clear hb hbox hg;obtain ⟨hcz6_0,hcz6_1,hcz6_2,hfz6_0,hfz6_1,hfz6_2⟩:=zr BK189.out)|((with_reducible refine zs (f:=49) rfl ?_);refine qo (some 6) rfl rfl Tryd.func49 (by kernel_rfl) rfl #[.agg #[.int .i64 a0_0,.int .i64 a0_1,.string a0_2]] rfl gs ?_;(with_reducible refine(zw.calls k a0_0 a0_1 a0_2 t190 _ A2.out).mono ?_);rintro e w7 ⟨rfl,hb⟩;refine⟨_,rfl,?_⟩;replace BK189:=zq.mk (zf (g:=gb189) (o:=.cells #[.int .i64 a0_0,.int .i64 a0_1,.string a0_2] 30 (0,0)) (up BK189.out) hb);replace HB:=zq.mk (zb bw hb);(try clear hb);(try clear hb2);(try clear hk);(try clear hi);obtain ⟨hcz8_0,hcz8_1,hcz8_2,hfz8_0,hfz8_1,hfz8_2⟩:=zr BK189.out))
   go_ret2
   exact⟨by first|rfl|(simp [zk,zx] <;> rfl)|(simp [*,zk,zx] <;> rfl),bw⟩
  rw [if_neg c4] at H
  have c4b0:(a0_0 == 0)=false:=beq_eq_false_iff_ne.mpr c4
  have c4b1:(a0_0 != 0)=true:=bne_iff_ne.mpr c4
  by_cases c9:a0_0=1
  ·rw [if_pos c9] at H
   have c9b0:(a0_0 == 1)=true:=beq_iff_eq.mpr c9
   have c9b1:(a0_0 != 1)=false:=bne_eq_false_iff_eq.mpr c9
   clear c9
   by_cases c10:a0_1=1
   ·rw [if_pos c10] at H
    have c10b0:(a0_1 == 1)=true:=beq_iff_eq.mpr c10
    have c10b1:(a0_1 != 1)=false:=bne_eq_false_iff_eq.mpr c10
    clear c10
    simp only [Option.some.injEq,Prod.mk.injEq] at H
    obtain ⟨rfl,rfl⟩:=H
    go_enter Tryd.func53,Tryd.ntmps53
    go_wp2_with (first|((with_reducible refine ql (N:=1) rfl ?_);refine qh ?hg (N:=1) ?hd (cs:=#[.int .i64 a0_0,.int .i64 a0_1,.string a0_2]) (t:=30) ?hr ?_;(case hd=>rfl);(case hg=>rfl);(case hr=>first|(go_simp;done)|(go_simp;rfl));intro gb189 hg w11 hbox hb;have BK189:=zq.mk (hbox);have GW189:=zq.mk ((by rw [hg];exact(zv bw):w.heap.size≤gb189));have GE189:=zq.mk ((by rw [hg];exact(zv bw):w.heap.size≤gb189));replace HB:=zq.mk (zb bw hb);clear hb hbox hg;obtain ⟨hcz12_0,hcz12_1,hcz12_2,hfz12_0,hfz12_1,hfz12_2⟩:=zr BK189.out)|((with_reducible refine zs (f:=49) rfl ?_);refine qo (some 6) rfl rfl Tryd.func49 (by kernel_rfl) rfl #[.agg #[.int .i64 a0_0,.int .i64 a0_1,.string a0_2]] rfl gs ?_;(with_reducible refine(zw.calls k a0_0 a0_1 a0_2 t190 _ A2.out).mono ?_);rintro e w13 ⟨rfl,hb⟩;refine⟨_,rfl,?_⟩;replace BK189:=zq.mk (zf (g:=gb189) (o:=.cells #[.int .i64 a0_0,.int .i64 a0_1,.string a0_2] 30 (0,0)) (up BK189.out) hb);replace HB:=zq.mk (zb bw hb);(try clear hb);(try clear hb2);(try clear hk);(try clear hi);obtain ⟨hcz14_0,hcz14_1,hcz14_2,hfz14_0,hfz14_1,hfz14_2⟩:=zr BK189.out))
    go_ret2
    exact⟨by first|rfl|(simp [zk,zx] <;> rfl)|(simp [*,zk,zx] <;> rfl),bw⟩
   rw [if_neg c10] at H
   have c10b0:(a0_1 == 1)=false:=beq_eq_false_iff_ne.mpr c10
   have c10b1:(a0_1 != 1)=true:=bne_iff_ne.mpr c10
   simp only [Option.some.injEq,Prod.mk.injEq] at H
   obtain ⟨rfl,rfl⟩:=H
   go_enter Tryd.func53,Tryd.ntmps53
   go_wp2_with (first|((with_reducible refine ql (N:=1) rfl ?_);refine qh ?hg (N:=1) ?hd (cs:=#[.int .i64 a0_0,.int .i64 a0_1,.string a0_2]) (t:=30) ?hr ?_;(case hd=>rfl);(case hg=>rfl);(case hr=>first|(go_simp;done)|(go_simp;rfl));intro gb189 hg w15 hbox hb;have BK189:=zq.mk (hbox);have GW189:=zq.mk ((by rw [hg];exact(zv bw):w.heap.size≤gb189));have GE189:=zq.mk ((by rw [hg];exact(zv bw):w.heap.size≤gb189));replace HB:=zq.mk (zb bw hb);clear hb hbox hg;obtain ⟨hcz16_0,hcz16_1,hcz16_2,hfz16_0,hfz16_1,hfz16_2⟩:=zr BK189.out)|((with_reducible refine zs (f:=49) rfl ?_);refine qo (some 6) rfl rfl Tryd.func49 (by kernel_rfl) rfl #[.agg #[.int .i64 a0_0,.int .i64 a0_1,.string a0_2]] rfl gs ?_;(with_reducible refine(zw.calls k a0_0 a0_1 a0_2 t190 _ A2.out).mono ?_);rintro e w17 ⟨rfl,hb⟩;refine⟨_,rfl,?_⟩;replace BK189:=zq.mk (zf (g:=gb189) (o:=.cells #[.int .i64 a0_0,.int .i64 a0_1,.string a0_2] 30 (0,0)) (up BK189.out) hb);replace HB:=zq.mk (zb bw hb);(try clear hb);(try clear hb2);(try clear hk);(try clear hi);obtain ⟨hcz18_0,hcz18_1,hcz18_2,hfz18_0,hfz18_1,hfz18_2⟩:=zr BK189.out))
   go_ret2
   exact⟨by first|rfl|(simp [zk,zx] <;> rfl)|(simp [*,zk,zx] <;> rfl),bw⟩
  rw [if_neg c9] at H
  have c9b0:(a0_0 == 1)=false:=beq_eq_false_iff_ne.mpr c9
  have c9b1:(a0_0 != 1)=true:=bne_iff_ne.mpr c9
  simp only [Option.some.injEq,Prod.mk.injEq] at H
  obtain ⟨rfl,rfl⟩:=H
  go_enter Tryd.func53,Tryd.ntmps53
  go_wp2_with (first|((with_reducible refine ql (N:=1) rfl ?_);refine qh ?hg (N:=1) ?hd (cs:=#[.int .i64 a0_0,.int .i64 a0_1,.string a0_2]) (t:=30) ?hr ?_;(case hd=>rfl);(case hg=>rfl);(case hr=>first|(go_simp;done)|(go_simp;rfl));intro gb189 hg w19 hbox hb;have BK189:=zq.mk (hbox);have GW189:=zq.mk ((by rw [hg];exact(zv bw):w.heap.size≤gb189));have GE189:=zq.mk ((by rw [hg];exact(zv bw):w.heap.size≤gb189));replace HB:=zq.mk (zb bw hb);clear hb hbox hg;obtain ⟨hcz20_0,hcz20_1,hcz20_2,hfz20_0,hfz20_1,hfz20_2⟩:=zr BK189.out)|((with_reducible refine zs (f:=49) rfl ?_);refine qo (some 6) rfl rfl Tryd.func49 (by kernel_rfl) rfl #[.agg #[.int .i64 a0_0,.int .i64 a0_1,.string a0_2]] rfl gs ?_;(with_reducible refine(zw.calls k a0_0 a0_1 a0_2 t190 _ A2.out).mono ?_);rintro e w21 ⟨rfl,hb⟩;refine⟨_,rfl,?_⟩;replace BK189:=zq.mk (zf (g:=gb189) (o:=.cells #[.int .i64 a0_0,.int .i64 a0_1,.string a0_2] 30 (0,0)) (up BK189.out) hb);replace HB:=zq.mk (zb bw hb);(try clear hb);(try clear hb2);(try clear hk);(try clear hi);obtain ⟨hcz22_0,hcz22_1,hcz22_2,hfz22_0,hfz22_1,hfz22_2⟩:=zr BK189.out))
  go_ret2
  exact⟨by first|rfl|(simp [zk,zx] <;> rfl)|(simp [*,zk,zx] <;> rfl),bw⟩
 rw [if_neg c3] at H
 have c3b0:(t190 == 0)=false:=beq_eq_false_iff_ne.mpr c3
 have c3b1:(t190 != 0)=true:=bne_iff_ne.mpr c3
 simp only [Option.some.injEq,Prod.mk.injEq] at H
 obtain ⟨rfl,rfl⟩:=H
 go_enter Tryd.func53,Tryd.ntmps53
 go_wp2_with (first|((with_reducible refine ql (N:=1) rfl ?_);refine qh ?hg (N:=1) ?hd (cs:=#[.int .i64 a0_0,.int .i64 a0_1,.string a0_2]) (t:=30) ?hr ?_;(case hd=>rfl);(case hg=>rfl);(case hr=>first|(go_simp;done)|(go_simp;rfl));intro gb189 hg w23 hbox hb;have BK189:=zq.mk (hbox);have GW189:=zq.mk ((by rw [hg];exact(zv bw):w.heap.size≤gb189));have GE189:=zq.mk ((by rw [hg];exact(zv bw):w.heap.size≤gb189));replace HB:=zq.mk (zb bw hb);clear hb hbox hg;obtain ⟨hcz24_0,hcz24_1,hcz24_2,hfz24_0,hfz24_1,hfz24_2⟩:=zr BK189.out)|((with_reducible refine zs (f:=49) rfl ?_);refine qo (some 6) rfl rfl Tryd.func49 (by kernel_rfl) rfl #[.agg #[.int .i64 a0_0,.int .i64 a0_1,.string a0_2]] rfl gs ?_;(with_reducible refine(zw.calls k a0_0 a0_1 a0_2 t190 _ A2.out).mono ?_);rintro e w25 ⟨rfl,hb⟩;refine⟨_,rfl,?_⟩;replace BK189:=zq.mk (zf (g:=gb189) (o:=.cells #[.int .i64 a0_0,.int .i64 a0_1,.string a0_2] 30 (0,0)) (up BK189.out) hb);replace HB:=zq.mk (zb bw hb);(try clear hb);(try clear hb2);(try clear hk);(try clear hi)))
 go_ret2
 exact⟨by first|rfl|(simp [zk,zx] <;> rfl)|(simp [*,zk,zx] <;> rfl),bw⟩

/-! ### zqr: function 68 -/
def zqr.f (a0:Int):Option (Int × Int × ByteArray × Int):=if a0=0 then(some (1,0,(⟨#[]⟩:ByteArray),0)) else (if a0=2 then(some (1,1,(⟨#[]⟩:ByteArray),0)) else (if a0=1 then(some (0,0,(⟨#[]⟩:ByteArray),0)) else (some (0,0,(⟨#[]⟩:ByteArray),2))))
set_option maxHeartbeats 8000000 in
set_option maxRecDepth 100000 in
theorem zqr.calls (a0:Int) (r1:Int) (r2:Int) (r3:ByteArray) (r4:Int) (w:World) (h:zqr.f a0=some (r1,r2,r3,r4)) :
  Calls Tryd.prog 68 #[.int .i64 a0] w fun e w'=>e = .returned (.tuple #[.agg #[.int .i64 r1,.int .i64 r2,.string r3],.int .i64 r4])∧Below w.heap.size w w':=by
 have hu30:=Tryd.underlying30
 have HB:=zq.mk (Below.refl w.heap.size w)
 have H:(if a0=0 then(some (1,0,(⟨#[]⟩:ByteArray),0)) else (if a0=2 then(some (1,1,(⟨#[]⟩:ByteArray),0)) else (if a0=1 then(some (0,0,(⟨#[]⟩:ByteArray),0)) else (some (0,0,(⟨#[]⟩:ByteArray),2)))))=some (r1,r2,r3,r4):=h
 clear h
 by_cases c2:a0=0
 ·rw [if_pos c2] at H
  have c2b0:(a0 == 0)=true:=beq_iff_eq.mpr c2
  have c2b1:(a0 != 0)=false:=bne_eq_false_iff_eq.mpr c2
  clear c2
  simp only [Option.some.injEq,Prod.mk.injEq] at H
  obtain ⟨rfl,rfl,rfl,rfl⟩:=H
  go_enter Tryd.func68,Tryd.ntmps68
  go_wp2_with (first|((with_reducible refine ql (N:=2) rfl ?_);refine qh ?hg (N:=2) ?hd (cs:=#[.int .i64 0,.int .i64 0,.string (⟨#[]⟩:ByteArray)]) (t:=30) ?hr ?_;(case hd=>rfl);(case hg=>rfl);(case hr=>first|(go_simp;done)|(go_simp;rfl));intro gb191 hg w3 hbox hb;have BK191:=zq.mk (hbox);have GW191:=zq.mk ((by rw [hg];exact(zv bw):w.heap.size≤gb191));have GE191:=zq.mk ((by rw [hg];exact(zv bw):w.heap.size≤gb191));replace HB:=zq.mk (zb bw hb);clear hb hbox hg;obtain ⟨hcz4_0,hcz4_1,hcz4_2,hfz4_0,hfz4_1,hfz4_2⟩:=zr BK191.out))
  refine bodyPost_ret (zq8 rfl _ _ gb191 30 #[.int .i64 1,.int .i64 0,.string (⟨#[]⟩:ByteArray)] (0,0) _ rfl (by(with_reducible repeat(first|refine zn ?_ _|refine zt ?_|refine zy ?_ _));refine zl (cs:=#[.int .i64 1,.int .i64 0,.string (⟨#[]⟩:ByteArray)]) ?_ 2 _ rfl;(with_reducible repeat(first|refine zn ?_ _|refine zt ?_|refine zy ?_ _));refine zl (cs:=#[.int .i64 1,.int .i64 0,.string (⟨#[]⟩:ByteArray)]) ?_ 1 _ rfl;(with_reducible repeat(first|refine zn ?_ _|refine zt ?_|refine zy ?_ _));refine zl (cs:=#[.int .i64 0,.int .i64 0,.string (⟨#[]⟩:ByteArray)]) ?_ 0 _ rfl;(with_reducible repeat(first|refine zn ?_ _|refine zt ?_|refine zy ?_ _));exact BK191.out) Tryd.underlying30 rfl (by kernel_rfl)) rfl ?_
  exact⟨by first|rfl|(simp [zk,zx] <;> rfl)|(simp [*,zk,zx] <;> rfl),bw⟩
 rw [if_neg c2] at H
 have c2b0:(a0 == 0)=false:=beq_eq_false_iff_ne.mpr c2
 have c2b1:(a0 != 0)=true:=bne_iff_ne.mpr c2
 by_cases c5:a0=2
 ·rw [if_pos c5] at H
  have c5b0:(a0 == 2)=true:=beq_iff_eq.mpr c5
  have c5b1:(a0 != 2)=false:=bne_eq_false_iff_eq.mpr c5
  clear c5
  simp only [Option.some.injEq,Prod.mk.injEq] at H
  obtain ⟨rfl,rfl,rfl,rfl⟩:=H
  go_enter Tryd.func68,Tryd.ntmps68
  go_wp2_with (first|((with_reducible refine ql (N:=2) rfl ?_);refine qh ?hg (N:=2) ?hd (cs:=#[.int .i64 0,.int .i64 0,.string (⟨#[]⟩:ByteArray)]) (t:=30) ?hr ?_;(case hd=>rfl);(case hg=>rfl);(case hr=>first|(go_simp;done)|(go_simp;rfl));intro gb191 hg w6 hbox hb;have BK191:=zq.mk (hbox);have GW191:=zq.mk ((by rw [hg];exact(zv bw):w.heap.size≤gb191));have GE191:=zq.mk ((by rw [hg];exact(zv bw):w.heap.size≤gb191));replace HB:=zq.mk (zb bw hb);clear hb hbox hg;obtain ⟨hcz7_0,hcz7_1,hcz7_2,hfz7_0,hfz7_1,hfz7_2⟩:=zr BK191.out))
  refine bodyPost_ret (zq8 rfl _ _ gb191 30 #[.int .i64 1,.int .i64 1,.string (⟨#[]⟩:ByteArray)] (0,0) _ rfl (by(with_reducible repeat(first|refine zn ?_ _|refine zt ?_|refine zy ?_ _));refine zl (cs:=#[.int .i64 1,.int .i64 1,.string (⟨#[]⟩:ByteArray)]) ?_ 2 _ rfl;(with_reducible repeat(first|refine zn ?_ _|refine zt ?_|refine zy ?_ _));refine zl (cs:=#[.int .i64 1,.int .i64 0,.string (⟨#[]⟩:ByteArray)]) ?_ 1 _ rfl;(with_reducible repeat(first|refine zn ?_ _|refine zt ?_|refine zy ?_ _));refine zl (cs:=#[.int .i64 0,.int .i64 0,.string (⟨#[]⟩:ByteArray)]) ?_ 0 _ rfl;(with_reducible repeat(first|refine zn ?_ _|refine zt ?_|refine zy ?_ _));exact BK191.out) Tryd.underlying30 rfl (by kernel_rfl)) rfl ?_
  exact⟨by first|rfl|(simp [zk,zx] <;> rfl)|(simp [*,zk,zx] <;> rfl),bw⟩
 rw [if_neg c5] at H
 have c5b0:(a0 == 2)=false:=beq_eq_false_iff_ne.mpr c5
 have c5b1:(a0 != 2)=true:=bne_iff_ne.mpr c5
 by_cases c8:a0=1
 ·rw [if_pos c8] at H
  have c8b0:(a0 == 1)=true:=beq_iff_eq.mpr c8
  have c8b1:(a0 != 1)=false:=bne_eq_false_iff_eq.mpr c8
  clear c8
  simp only [Option.some.injEq,Prod.mk.injEq] at H
  obtain ⟨rfl,rfl,rfl,rfl⟩:=H
  go_enter Tryd.func68,Tryd.ntmps68
  go_wp2_with (first|((with_reducible refine ql (N:=2) rfl ?_);refine qh ?hg (N:=2) ?hd (cs:=#[.int .i64 0,.int .i64 0,.string (⟨#[]⟩:ByteArray)]) (t:=30) ?hr ?_;(case hd=>rfl);(case hg=>rfl);(case hr=>first|(go_simp;done)|(go_simp;rfl));intro gb191 hg w9 hbox hb;have BK191:=zq.mk (hbox);have GW191:=zq.mk ((by rw [hg];exact(zv bw):w.heap.size≤gb191));have GE191:=zq.mk ((by rw [hg];exact(zv bw):w.heap.size≤gb191));replace HB:=zq.mk (zb bw hb);clear hb hbox hg;obtain ⟨hcz10_0,hcz10_1,hcz10_2,hfz10_0,hfz10_1,hfz10_2⟩:=zr BK191.out))
  refine bodyPost_ret (zq8 rfl _ _ gb191 30 #[.int .i64 0,.int .i64 0,.string (⟨#[]⟩:ByteArray)] (0,0) _ rfl (by(with_reducible repeat(first|refine zn ?_ _|refine zt ?_|refine zy ?_ _));refine zl (cs:=#[.int .i64 0,.int .i64 0,.string (⟨#[]⟩:ByteArray)]) ?_ 2 _ rfl;(with_reducible repeat(first|refine zn ?_ _|refine zt ?_|refine zy ?_ _));refine zl (cs:=#[.int .i64 0,.int .i64 0,.string (⟨#[]⟩:ByteArray)]) ?_ 1 _ rfl;(with_reducible repeat(first|refine zn ?_ _|refine zt ?_|refine zy ?_ _));refine zl (cs:=#[.int .i64 0,.int .i64 0,.string (⟨#[]⟩:ByteArray)]) ?_ 0 _ rfl;(with_reducible repeat(first|refine zn ?_ _|refine zt ?_|refine zy ?_ _));exact BK191.out) Tryd.underlying30 rfl (by kernel_rfl)) rfl ?_
  exact⟨by first|rfl|(simp [zk,zx] <;> rfl)|(simp [*,zk,zx] <;> rfl),bw⟩
 rw [if_neg c8] at H
 have c8b0:(a0 == 1)=false:=beq_eq_false_iff_ne.mpr c8
 have c8b1:(a0 != 1)=true:=bne_iff_ne.mpr c8
 simp only [Option.some.injEq,Prod.mk.injEq] at H
 obtain ⟨rfl,rfl,rfl,rfl⟩:=H
 go_enter Tryd.func68,Tryd.ntmps68
 go_wp2_with (first|((with_reducible refine ql (N:=2) rfl ?_);refine qh ?hg (N:=2) ?hd (cs:=#[.int .i64 0,.int .i64 0,.string (⟨#[]⟩:ByteArray)]) (t:=30) ?hr ?_;(case hd=>rfl);(case hg=>rfl);(case hr=>first|(go_simp;done)|(go_simp;rfl));intro gb191 hg w11 hbox hb;have BK191:=zq.mk (hbox);have GW191:=zq.mk ((by rw [hg];exact(zv bw):w.heap.size≤gb191));have GE191:=zq.mk ((by rw [hg];exact(zv bw):w.heap.size≤gb191));replace HB:=zq.mk (zb bw hb);clear hb hbox hg;obtain ⟨hcz12_0,hcz12_1,hcz12_2,hfz12_0,hfz12_1,hfz12_2⟩:=zr BK191.out))
 refine bodyPost_ret (zq8 rfl _ _ gb191 30 #[.int .i64 0,.int .i64 0,.string (⟨#[]⟩:ByteArray)] (0,0) _ rfl (by(with_reducible repeat(first|refine zn ?_ _|refine zt ?_|refine zy ?_ _));refine zl (cs:=#[.int .i64 0,.int .i64 0,.string (⟨#[]⟩:ByteArray)]) ?_ 2 _ rfl;(with_reducible repeat(first|refine zn ?_ _|refine zt ?_|refine zy ?_ _));refine zl (cs:=#[.int .i64 0,.int .i64 0,.string (⟨#[]⟩:ByteArray)]) ?_ 1 _ rfl;(with_reducible repeat(first|refine zn ?_ _|refine zt ?_|refine zy ?_ _));refine zl (cs:=#[.int .i64 0,.int .i64 0,.string (⟨#[]⟩:ByteArray)]) ?_ 0 _ rfl;(with_reducible repeat(first|refine zn ?_ _|refine zt ?_|refine zy ?_ _));exact BK191.out) Tryd.underlying30 rfl (by kernel_rfl)) rfl ?_
 exact⟨by first|rfl|(simp [zk,zx] <;> rfl)|(simp [*,zk,zx] <;> rfl),bw⟩

/-! ### zqj: function 69 -/
def zqj.f (a0:Int) (a1:Int):Option (Int × Int × ByteArray × Int):=if a1=0 then((zqr.f a0).bind fun bt193=>(some (bt193.1,bt193.2.1,bt193.2.2.1,bt193.2.2.2))) else (some (0,0,(⟨#[]⟩:ByteArray),a1))
set_option maxHeartbeats 8000000 in
set_option maxRecDepth 100000 in
theorem zqj.calls (a0:Int) (a1:Int) (r1:Int) (r2:Int) (r3:ByteArray) (r4:Int) (w:World) (h:zqj.f a0 a1=some (r1,r2,r3,r4)) :
  Calls Tryd.prog 69 #[.int .i64 a0,.int .i64 a1] w fun e w'=>e = .returned (.tuple #[.agg #[.int .i64 r1,.int .i64 r2,.string r3],.int .i64 r4])∧Below w.heap.size w w':=by
 have hu30:=Tryd.underlying30
 have HB:=zq.mk (Below.refl w.heap.size w)
 have H:(if a1=0 then((zqr.f a0).bind fun bt193=>(some (bt193.1,bt193.2.1,bt193.2.2.1,bt193.2.2.2))) else (some (0,0,(⟨#[]⟩:ByteArray),a1)))=some (r1,r2,r3,r4):=h
 clear h
 by_cases c3:a1=0
 ·rw [if_pos c3] at H
  have c3b0:(a1 == 0)=true:=beq_iff_eq.mpr c3
  have c3b1:(a1 != 0)=false:=bne_eq_false_iff_eq.mpr c3
  clear c3
  replace H:=Option.bind_eq_some_iff.mp H
  obtain ⟨⟨t193,t194,t195,t196⟩,A40,H⟩:=H
  replace H:(some (t193,t194,t195,t196))=some (r1,r2,r3,r4):=H
  have A4:=zq.mk A40
  clear A40
  simp only [Option.some.injEq,Prod.mk.injEq] at H
  obtain ⟨rfl,rfl,rfl,rfl⟩:=H
  go_enter Tryd.func69,Tryd.ntmps69
  go_wp2_with (first|((with_reducible refine ql (N:=4) rfl ?_);refine qh ?hg (N:=4) ?hd (cs:=#[.int .i64 0,.int .i64 0,.string (⟨#[]⟩:ByteArray)]) (t:=30) ?hr ?_;(case hd=>rfl);(case hg=>rfl);(case hr=>first|(go_simp;done)|(go_simp;rfl));intro gb192 hg w5 hbox hb;have BK192:=zq.mk (hbox);have GW192:=zq.mk ((by rw [hg];exact(zv bw):w.heap.size≤gb192));have GE192:=zq.mk ((by rw [hg];exact(zv bw):w.heap.size≤gb192));replace HB:=zq.mk (zb bw hb);clear hb hbox hg)|((with_reducible refine zs (f:=68) rfl ?_);refine qo (some 11) rfl rfl Tryd.func68 (by kernel_rfl) rfl #[.int .i64 a0] rfl gs ?_;(with_reducible refine(zqr.calls a0 t193 t194 t195 t196 _ A4.out).mono ?_);rintro e w6 ⟨rfl,hb⟩;refine⟨_,rfl,?_⟩;replace BK192:=zq.mk (zf (g:=gb192) (o:=.cells #[.int .i64 0,.int .i64 0,.string (⟨#[]⟩:ByteArray)] 30 (0,0)) (up BK192.out) hb);replace HB:=zq.mk (zb bw hb);(try clear hb);(try clear hb2);(try clear hk);(try clear hi);obtain ⟨hcz7_0,hcz7_1,hcz7_2,hfz7_0,hfz7_1,hfz7_2⟩:=zr BK192.out))
  refine bodyPost_ret (zq8 rfl _ _ gb192 30 #[.int .i64 t193,.int .i64 t194,.string t195] (0,0) _ rfl (by(with_reducible repeat(first|refine zn ?_ _|refine zt ?_|refine zy ?_ _));refine zl (cs:=#[.int .i64 t193,.int .i64 t194,.string (⟨#[]⟩:ByteArray)]) ?_ 2 _ rfl;(with_reducible repeat(first|refine zn ?_ _|refine zt ?_|refine zy ?_ _));refine zl (cs:=#[.int .i64 t193,.int .i64 0,.string (⟨#[]⟩:ByteArray)]) ?_ 1 _ rfl;(with_reducible repeat(first|refine zn ?_ _|refine zt ?_|refine zy ?_ _));refine zl (cs:=#[.int .i64 0,.int .i64 0,.string (⟨#[]⟩:ByteArray)]) ?_ 0 _ rfl;(with_reducible repeat(first|refine zn ?_ _|refine zt ?_|refine zy ?_ _));exact BK192.out) Tryd.underlying30 rfl (by kernel_rfl)) rfl ?_
  exact⟨by first|rfl|(simp [zk,zx] <;> rfl)|(simp [*,zk,zx] <;> rfl),bw⟩
 rw [if_neg c3] at H
 have c3b0:(a1 == 0)=false:=beq_eq_false_iff_ne.mpr c3
 have c3b1:(a1 != 0)=true:=bne_iff_ne.mpr c3
 simp only [Option.some.injEq,Prod.mk.injEq] at H
 obtain ⟨rfl,rfl,rfl,rfl⟩:=H
 go_enter Tryd.func69,Tryd.ntmps69
 go_wp2_with (first|((with_reducible refine ql (N:=4) rfl ?_);refine qh ?hg (N:=4) ?hd (cs:=#[.int .i64 0,.int .i64 0,.string (⟨#[]⟩:ByteArray)]) (t:=30) ?hr ?_;(case hd=>rfl);(case hg=>rfl);(case hr=>first|(go_simp;done)|(go_simp;rfl));intro gb192 hg w8 hbox hb;have BK192:=zq.mk (hbox);have GW192:=zq.mk ((by rw [hg];exact(zv bw):w.heap.size≤gb192));have GE192:=zq.mk ((by rw [hg];exact(zv bw):w.heap.size≤gb192));replace HB:=zq.mk (zb bw hb);clear hb hbox hg;obtain ⟨hcz9_0,hcz9_1,hcz9_2,hfz9_0,hfz9_1,hfz9_2⟩:=zr BK192.out))
 refine bodyPost_ret (zq8 rfl _ _ gb192 30 #[.int .i64 0,.int .i64 0,.string (⟨#[]⟩:ByteArray)] (0,0) _ rfl (by(with_reducible repeat(first|refine zn ?_ _|refine zt ?_|refine zy ?_ _));refine zl (cs:=#[.int .i64 0,.int .i64 0,.string (⟨#[]⟩:ByteArray)]) ?_ 2 _ rfl;(with_reducible repeat(first|refine zn ?_ _|refine zt ?_|refine zy ?_ _));refine zl (cs:=#[.int .i64 0,.int .i64 0,.string (⟨#[]⟩:ByteArray)]) ?_ 1 _ rfl;(with_reducible repeat(first|refine zn ?_ _|refine zt ?_|refine zy ?_ _));refine zl (cs:=#[.int .i64 0,.int .i64 0,.string (⟨#[]⟩:ByteArray)]) ?_ 0 _ rfl;(with_reducible repeat(first|refine zn ?_ _|refine zt ?_|refine zy ?_ _));exact BK192.out) Tryd.underlying30 rfl (by kernel_rfl)) rfl ?_
 exact⟨by first|rfl|(simp [zk,zx] <;> rfl)|(simp [*,zk,zx] <;> rfl),bw⟩

-- NOT PRINTED: function 107 (commonholdref_counted)

/-! ### qt: function 70, by hand -/
-- HAND rounds=0 making=1
def qt.bad (l:List Int):Bool:=l.any fun t=>decide (t<0) || decide (t > 2)
def qt.f (l0:List Int):Option (Int × Int):=some (if qt.bad l0=true then(0,2) else if 0<l0.count 0 then(0,0) else if 0<l0.count 1 then(1,0) else (2,0))
def qt.cellsOf (n0 n1 n2:Nat):Array Value:=#[.int .i64 n0,.int .i64 n1,.int .i64 n2]
def qt.Told (l:List Int) (w:World) (e:Ending) (w':World):Prop:=
 (qt.bad l=false∧e = .returned (.tuple #[.agg #[.int .i64 (l.count 0:Nat),.int .i64 (l.count 1:Nat),.int .i64 (l.count 2:Nat)],.bool true])∧Below w.heap.size w w') ∨
 (qt.bad l=true ∧ ∃ n0 n1 n2:Int,e = .returned (.tuple #[.agg #[.int .i64 n0,.int .i64 n1,.int .i64 n2],.bool false])∧Below w.heap.size w w')
theorem qt.take_at (l:List Int) (i:Nat) (h:i<l.length):l.take (i+1)=l.take i ++ [rd l i]:=by
 rw [List.take_succ_eq_append_getElem h]
 have e:rd l (i:Int)=l[i]:=by simp [rd,List.getD_eq_getElem?_getD,h]
 rw [e]
theorem qt.bad_at (l:List Int) (i:Nat) (h:i<l.length) (hb:decide (rd l i<0)=true∨decide (rd l i > 2)=true):qt.bad l=true:=by
 have e:rd l (i:Int)=l[i]:=by simp [rd,List.getD_eq_getElem?_getD,h]
 rw [e] at hb
 simp only [qt.bad,List.any_eq_true]
 exact⟨l[i],List.getElem_mem h,by simpa using hb⟩
theorem qt.zxp (l:List Int) (i:Nat) (h:i<l.length) (h0:0≤rd l i) (h2:rd l i≤2) (hb:qt.bad (l.take i)=false):qt.bad (l.take (i+1))=false:=by
 rw [qt.take_at l i h]
 unfold qt.bad at *
 rw [List.any_append,hb]
 simp
 omega
theorem qt.counted (A0:Option Addr) (c0:Nat) (l0:List Int) (w:World) (hr0:Kd.C (Kd.int .i64) w A0 l0.length l0) (hm:l0.length≤9223372036854775807) :
  Calls Tryd.prog 107 #[.slice A0 l0.length c0] w (qt.Told l0 w):=by
 have HR0:=zq.mk hr0
 clear hr0
 go_enter Tryd.func107,Tryd.ntmps107
 go_wp2
 go_loopw [9] (fun i wr => ∃ k:Nat,k≤l0.length∧i = .int .i64 k∧Hid (qt.bad (l0.take k)=false) ∧ ∃ n0 n1 n2:Nat,Hid ((l0.take k).count 0=n0)∧Hid ((l0.take k).count 1=n1)∧Hid ((l0.take k).count 2=n2)∧n0≤k∧n1≤k∧n2≤k ∧
   wr=(w.alloc (.cells #[.int .i64 0,.int .i64 0,.int .i64 0] 121)).alloc (.cells #[.int .i64 n0,.int .i64 n1,.int .i64 n2] 121))
  (fun i _=>l0.length - (intOf i).toNat)
 case atStart=>exact⟨0,by omega,rfl,Lib.hid rfl,0,0,0,Lib.hid rfl,Lib.hid rfl,Lib.hid rfl,by omega,by omega,by omega,rfl⟩
 case round=>
  obtain ⟨k,hk,rfl,hb,n0,n1,n2,h0,h1,h2,b0,b1,b2,rfl⟩:=hrel
  by_cases hlt:k<l0.length
  ·obtain ⟨ad,e1,hc'⟩:=Kd.at_int HR0.out (k:Int) (by omega) (by omega)
   cases e1
   have hc:((w.alloc (.cells #[.int .i64 0,.int .i64 0,.int .i64 0] 121)).alloc (.cells #[.int .i64 n0,.int .i64 n1,.int .i64 n2] 121)).cell? (ad.add k)=some (.int .i64 (rd l0 (k:Int))):=
    zp (zm (zm (Below.refl _ _) _) _) (by simpa using hc')
   clear hc'
   by_cases t0:rd l0 (k:Int)<0
   ·have hbad:=Lib.hid (qt.bad_at l0 k hlt (.inl (decide_eq_true t0)))
    generalize rd l0 (k:Int)=t at *
    go_wp2
    refine bodyPost_ret (v:=.tuple #[.agg #[.int .i64 n0,.int .i64 n1,.int .i64 n2],.bool false]) (by simp [results,Tryd.results107,go_sem]) rfl (.inr ⟨hbad.out,_,_,_,rfl,zm (zm (Below.refl _ _) _) _⟩)
   by_cases t2:2<rd l0 (k:Int)
   ·have hbad:=Lib.hid (qt.bad_at l0 k hlt (.inr (decide_eq_true t2)))
    generalize rd l0 (k:Int)=t at *
    go_wp2
    refine bodyPost_ret (v:=.tuple #[.agg #[.int .i64 n0,.int .i64 n1,.int .i64 n2],.bool false]) (by simp [results,Tryd.results107,go_sem]) rfl (.inr ⟨hbad.out,_,_,_,rfl,zm (zm (Below.refl _ _) _) _⟩)
   rcases (show rd l0 (k:Int)=0∨rd l0 (k:Int)=1∨rd l0 (k:Int)=2 by omega) with t3|t3|t3
   ·have htv:rd l0 (k:Int)=0:=by omega
    have hk1:=qt.take_at l0 k hlt
    have hnb:=Lib.hid (qt.zxp l0 k hlt (by omega) (by omega) hb.out)
    rw [htv] at hk1 hc
    have g0:=Lib.hid (show(l0.take (k+1)).count 0=n0+1 by rw [hk1,List.count_append,h0.out];rfl)
    have g1:=Lib.hid (show(l0.take (k+1)).count 1=n1 by rw [hk1,List.count_append,h1.out];rfl)
    have g2:=Lib.hid (show(l0.take (k+1)).count 2=n2 by rw [hk1,List.count_append,h2.out];rfl)
    clear hk1 htv h0 h1 h2 hb t0 t2
    go_wp2
    go_roundw
    case rel=>exact⟨k+1,by omega,by go_num,hnb,_,_,_,g0,g1,g2,by omega,by omega,by omega,by simp⟩
    case measure=>simp [intOf];omega
   ·have htv:rd l0 (k:Int)=1:=by omega
    have hk1:=qt.take_at l0 k hlt
    have hnb:=Lib.hid (qt.zxp l0 k hlt (by omega) (by omega) hb.out)
    rw [htv] at hk1 hc
    have g0:=Lib.hid (show(l0.take (k+1)).count 0=n0 by rw [hk1,List.count_append,h0.out];rfl)
    have g1:=Lib.hid (show(l0.take (k+1)).count 1=n1+1 by rw [hk1,List.count_append,h1.out];rfl)
    have g2:=Lib.hid (show(l0.take (k+1)).count 2=n2 by rw [hk1,List.count_append,h2.out];rfl)
    clear hk1 htv h0 h1 h2 hb t0 t2
    go_wp2
    go_roundw
    case rel=>exact⟨k+1,by omega,by go_num,hnb,_,_,_,g0,g1,g2,by omega,by omega,by omega,by simp⟩
    case measure=>simp [intOf];omega
   have htv:rd l0 (k:Int)=2:=by omega
   have hk1:=qt.take_at l0 k hlt
   have hnb:=Lib.hid (qt.zxp l0 k hlt (by omega) (by omega) hb.out)
   rw [htv] at hk1 hc
   have g0:=Lib.hid (show(l0.take (k+1)).count 0=n0 by rw [hk1,List.count_append,h0.out];rfl)
   have g1:=Lib.hid (show(l0.take (k+1)).count 1=n1 by rw [hk1,List.count_append,h1.out];rfl)
   have g2:=Lib.hid (show(l0.take (k+1)).count 2=n2+1 by rw [hk1,List.count_append,h2.out];rfl)
   clear hk1 htv h0 h1 h2 hb t0 t2
   go_wp2
   go_roundw
   case rel=>exact⟨k+1,by omega,by go_num,hnb,_,_,_,g0,g1,g2,by omega,by omega,by omega,by simp⟩
   case measure=>simp [intOf];omega
  have hkl:k=l0.length:=by omega
  subst hkl
  rw [List.take_length] at hb h0 h1 h2
  have e0:=h0.out
  have e1:=h1.out
  have e2:=h2.out
  subst e0
  subst e1
  subst e2
  generalize hn0:l0.count 0=n0 at *
  generalize hn1:l0.count 1=n1 at *
  generalize hn2:l0.count 2=n2 at *
  have hn0:=Lib.hid hn0
  have hn1:=Lib.hid hn1
  have hn2:=Lib.hid hn2
  go_wp2
  refine bodyPost_ret (v:=.tuple #[.agg #[.int .i64 n0,.int .i64 n1,.int .i64 n2],.bool true]) (by simp [results,Tryd.results107,go_sem]) rfl (.inl ⟨hb.out,by rw [hn0.out,hn1.out,hn2.out],zm (zm (Below.refl _ _) _) _⟩)
theorem qt.calls (A0:Option Addr) (c0:Nat) (l0:List Int) (r1:Int) (r2:Int) (w:World) (hr0:Kd.C (Kd.int .i64) w A0 l0.length l0) (hc0:l0.length≤c0) (h:qt.f l0=some (r1,r2)) :
  Calls Tryd.prog 70 #[.slice A0 l0.length c0] w fun e w'=>e = .returned (.tuple #[.int .i64 r1,.int .i64 r2])∧Below w.heap.size w w':=by
 have HF:=Lib.hid (qt.counted A0 c0 l0 w hr0 hr0.2.1)
 have H:=Lib.hid (Option.some.inj h)
 clear h hr0
 generalize hn0:l0.count 0=n0 at *
 generalize hn1:l0.count 1=n1 at *
 generalize hn2:l0.count 2=n2 at *
 have hn0:=Lib.hid hn0
 have hn1:=Lib.hid hn1
 have hn2:=Lib.hid hn2
 go_enter Tryd.func70,Tryd.ntmps70
 go_wp2_with fail
 refine HF.out.mono ?_
 rintro e w1 (⟨hb,rfl,hB⟩|⟨hb,m0,m1,m2,rfl,hB⟩)
 ·have hb:=Lib.hid hb
  rw [hn0.out,hn1.out,hn2.out]
  by_cases p0:0<n0
  ·have q0:0<(n0:Int):=by omega
   go_wp2
   go_ret2
   have e:=H.out
   rw [hb.out,if_neg (by simp),if_pos p0] at e
   injection e with e1 e2
   subst e1;subst e2
   exact⟨rfl,zm hB _⟩
  have q0:¬ 0<(n0:Int):=by omega
  by_cases p1:0<n1
  ·have q1:0<(n1:Int):=by omega
   go_wp2
   go_ret2
   have e:=H.out
   rw [hb.out,if_neg (by simp),if_neg p0,if_pos p1] at e
   injection e with e1 e2
   subst e1;subst e2
   exact⟨rfl,zm hB _⟩
  have q1:¬ 0<(n1:Int):=by omega
  go_wp2
  go_ret2
  have e:=H.out
  rw [hb.out,if_neg (by simp),if_neg p0,if_neg p1] at e
  injection e with e1 e2
  subst e1;subst e2
  exact⟨rfl,zm hB _⟩
 have hb:=Lib.hid hb
 go_wp2
 go_ret2
 have e:=H.out
 rw [hb.out,if_pos rfl] at e
 injection e with e1 e2
 subst e1;subst e2
 exact⟨rfl,zm hB _⟩

/-! ### qr: function 71, by hand -/
-- HAND rounds=0 making=1
def qr.bad (l:List Int):Bool:=l.any fun t=>decide (t<0) || decide (t > 2)
def qr.f (l0:List Int):Option (Int × Int):=some (if qr.bad l0=true then(0,2) else if 0<l0.count 2 then(2,0) else if 0<l0.count 1 then(1,0) else (0,0))
def qr.cellsOf (n0 n1 n2:Nat):Array Value:=#[.int .i64 n0,.int .i64 n1,.int .i64 n2]
def qr.Told (l:List Int) (w:World) (e:Ending) (w':World):Prop:=
 (qr.bad l=false∧e = .returned (.tuple #[.agg #[.int .i64 (l.count 0:Nat),.int .i64 (l.count 1:Nat),.int .i64 (l.count 2:Nat)],.bool true])∧Below w.heap.size w w') ∨
 (qr.bad l=true ∧ ∃ n0 n1 n2:Int,e = .returned (.tuple #[.agg #[.int .i64 n0,.int .i64 n1,.int .i64 n2],.bool false])∧Below w.heap.size w w')
theorem qr.take_at (l:List Int) (i:Nat) (h:i<l.length):l.take (i+1)=l.take i ++ [rd l i]:=by
 rw [List.take_succ_eq_append_getElem h]
 have e:rd l (i:Int)=l[i]:=by simp [rd,List.getD_eq_getElem?_getD,h]
 rw [e]
theorem qr.bad_at (l:List Int) (i:Nat) (h:i<l.length) (hb:decide (rd l i<0)=true∨decide (rd l i > 2)=true):qr.bad l=true:=by
 have e:rd l (i:Int)=l[i]:=by simp [rd,List.getD_eq_getElem?_getD,h]
 rw [e] at hb
 simp only [qr.bad,List.any_eq_true]
 exact⟨l[i],List.getElem_mem h,by simpa using hb⟩
theorem qr.zxp (l:List Int) (i:Nat) (h:i<l.length) (h0:0≤rd l i) (h2:rd l i≤2) (hb:qr.bad (l.take i)=false):qr.bad (l.take (i+1))=false:=by
 rw [qr.take_at l i h]
 unfold qr.bad at *
 rw [List.any_append,hb]
 simp
 omega
theorem qr.counted (A0:Option Addr) (c0:Nat) (l0:List Int) (w:World) (hr0:Kd.C (Kd.int .i64) w A0 l0.length l0) (hm:l0.length≤9223372036854775807) :
  Calls Tryd.prog 107 #[.slice A0 l0.length c0] w (qr.Told l0 w):=by
 have HR0:=zq.mk hr0
 clear hr0
 go_enter Tryd.func107,Tryd.ntmps107
 go_wp2
 go_loopw [9] (fun i wr => ∃ k:Nat,k≤l0.length∧i = .int .i64 k∧Hid (qr.bad (l0.take k)=false) ∧ ∃ n0 n1 n2:Nat,Hid ((l0.take k).count 0=n0)∧Hid ((l0.take k).count 1=n1)∧Hid ((l0.take k).count 2=n2)∧n0≤k∧n1≤k∧n2≤k ∧
   wr=(w.alloc (.cells #[.int .i64 0,.int .i64 0,.int .i64 0] 121)).alloc (.cells #[.int .i64 n0,.int .i64 n1,.int .i64 n2] 121))
  (fun i _=>l0.length - (intOf i).toNat)
 case atStart=>exact⟨0,by omega,rfl,Lib.hid rfl,0,0,0,Lib.hid rfl,Lib.hid rfl,Lib.hid rfl,by omega,by omega,by omega,rfl⟩
 case round=>
  obtain ⟨k,hk,rfl,hb,n0,n1,n2,h0,h1,h2,b0,b1,b2,rfl⟩:=hrel
  by_cases hlt:k<l0.length
  ·obtain ⟨ad,e1,hc'⟩:=Kd.at_int HR0.out (k:Int) (by omega) (by omega)
   cases e1
   have hc:((w.alloc (.cells #[.int .i64 0,.int .i64 0,.int .i64 0] 121)).alloc (.cells #[.int .i64 n0,.int .i64 n1,.int .i64 n2] 121)).cell? (ad.add k)=some (.int .i64 (rd l0 (k:Int))):=
    zp (zm (zm (Below.refl _ _) _) _) (by simpa using hc')
   clear hc'
   by_cases t0:rd l0 (k:Int)<0
   ·have hbad:=Lib.hid (qr.bad_at l0 k hlt (.inl (decide_eq_true t0)))
    generalize rd l0 (k:Int)=t at *
    go_wp2
    refine bodyPost_ret (v:=.tuple #[.agg #[.int .i64 n0,.int .i64 n1,.int .i64 n2],.bool false]) (by simp [results,Tryd.results107,go_sem]) rfl (.inr ⟨hbad.out,_,_,_,rfl,zm (zm (Below.refl _ _) _) _⟩)
   by_cases t2:2<rd l0 (k:Int)
   ·have hbad:=Lib.hid (qr.bad_at l0 k hlt (.inr (decide_eq_true t2)))
    generalize rd l0 (k:Int)=t at *
    go_wp2
    refine bodyPost_ret (v:=.tuple #[.agg #[.int .i64 n0,.int .i64 n1,.int .i64 n2],.bool false]) (by simp [results,Tryd.results107,go_sem]) rfl (.inr ⟨hbad.out,_,_,_,rfl,zm (zm (Below.refl _ _) _) _⟩)
   rcases (show rd l0 (k:Int)=0∨rd l0 (k:Int)=1∨rd l0 (k:Int)=2 by omega) with t3|t3|t3
   ·have htv:rd l0 (k:Int)=0:=by omega
    have hk1:=qr.take_at l0 k hlt
    have hnb:=Lib.hid (qr.zxp l0 k hlt (by omega) (by omega) hb.out)
    rw [htv] at hk1 hc
    have g0:=Lib.hid (show(l0.take (k+1)).count 0=n0+1 by rw [hk1,List.count_append,h0.out];rfl)
    have g1:=Lib.hid (show(l0.take (k+1)).count 1=n1 by rw [hk1,List.count_append,h1.out];rfl)
    have g2:=Lib.hid (show(l0.take (k+1)).count 2=n2 by rw [hk1,List.count_append,h2.out];rfl)
    clear hk1 htv h0 h1 h2 hb t0 t2
    go_wp2
    go_roundw
    case rel=>exact⟨k+1,by omega,by go_num,hnb,_,_,_,g0,g1,g2,by omega,by omega,by omega,by simp⟩
    case measure=>simp [intOf];omega
   ·have htv:rd l0 (k:Int)=1:=by omega
    have hk1:=qr.take_at l0 k hlt
    have hnb:=Lib.hid (qr.zxp l0 k hlt (by omega) (by omega) hb.out)
    rw [htv] at hk1 hc
    have g0:=Lib.hid (show(l0.take (k+1)).count 0=n0 by rw [hk1,List.count_append,h0.out];rfl)
    have g1:=Lib.hid (show(l0.take (k+1)).count 1=n1+1 by rw [hk1,List.count_append,h1.out];rfl)
    have g2:=Lib.hid (show(l0.take (k+1)).count 2=n2 by rw [hk1,List.count_append,h2.out];rfl)
    clear hk1 htv h0 h1 h2 hb t0 t2
    go_wp2
    go_roundw
    case rel=>exact⟨k+1,by omega,by go_num,hnb,_,_,_,g0,g1,g2,by omega,by omega,by omega,by simp⟩
    case measure=>simp [intOf];omega
   have htv:rd l0 (k:Int)=2:=by omega
   have hk1:=qr.take_at l0 k hlt
   have hnb:=Lib.hid (qr.zxp l0 k hlt (by omega) (by omega) hb.out)
   rw [htv] at hk1 hc
   have g0:=Lib.hid (show(l0.take (k+1)).count 0=n0 by rw [hk1,List.count_append,h0.out];rfl)
   have g1:=Lib.hid (show(l0.take (k+1)).count 1=n1 by rw [hk1,List.count_append,h1.out];rfl)
   have g2:=Lib.hid (show(l0.take (k+1)).count 2=n2+1 by rw [hk1,List.count_append,h2.out];rfl)
   clear hk1 htv h0 h1 h2 hb t0 t2
   go_wp2
   go_roundw
   case rel=>exact⟨k+1,by omega,by go_num,hnb,_,_,_,g0,g1,g2,by omega,by omega,by omega,by simp⟩
   case measure=>simp [intOf];omega
  have hkl:k=l0.length:=by omega
  subst hkl
  rw [List.take_length] at hb h0 h1 h2
  have e0:=h0.out
  have e1:=h1.out
  have e2:=h2.out
  subst e0
  subst e1
  subst e2
  generalize hn0:l0.count 0=n0 at *
  generalize hn1:l0.count 1=n1 at *
  generalize hn2:l0.count 2=n2 at *
  have hn0:=Lib.hid hn0
  have hn1:=Lib.hid hn1
  have hn2:=Lib.hid hn2
  go_wp2
  refine bodyPost_ret (v:=.tuple #[.agg #[.int .i64 n0,.int .i64 n1,.int .i64 n2],.bool true]) (by simp [results,Tryd.results107,go_sem]) rfl (.inl ⟨hb.out,by rw [hn0.out,hn1.out,hn2.out],zm (zm (Below.refl _ _) _) _⟩)
theorem qr.calls (A0:Option Addr) (c0:Nat) (l0:List Int) (r1:Int) (r2:Int) (w:World) (hr0:Kd.C (Kd.int .i64) w A0 l0.length l0) (hc0:l0.length≤c0) (h:qr.f l0=some (r1,r2)) :
  Calls Tryd.prog 71 #[.slice A0 l0.length c0] w fun e w'=>e = .returned (.tuple #[.int .i64 r1,.int .i64 r2])∧Below w.heap.size w w':=by
 have HF:=Lib.hid (qr.counted A0 c0 l0 w hr0 hr0.2.1)
 have H:=Lib.hid (Option.some.inj h)
 clear h hr0
 generalize hn0:l0.count 0=n0 at *
 generalize hn1:l0.count 1=n1 at *
 generalize hn2:l0.count 2=n2 at *
 have hn0:=Lib.hid hn0
 have hn1:=Lib.hid hn1
 have hn2:=Lib.hid hn2
 go_enter Tryd.func71,Tryd.ntmps71
 go_wp2_with fail
 refine HF.out.mono ?_
 rintro e w1 (⟨hb,rfl,hB⟩|⟨hb,m0,m1,m2,rfl,hB⟩)
 ·have hb:=Lib.hid hb
  rw [hn0.out,hn1.out,hn2.out]
  by_cases p0:0<n2
  ·have q0:0<(n2:Int):=by omega
   go_wp2
   go_ret2
   have e:=H.out
   rw [hb.out,if_neg (by simp),if_pos p0] at e
   injection e with e1 e2
   subst e1;subst e2
   exact⟨rfl,zm hB _⟩
  have q0:¬ 0<(n2:Int):=by omega
  by_cases p1:0<n1
  ·have q1:0<(n1:Int):=by omega
   go_wp2
   go_ret2
   have e:=H.out
   rw [hb.out,if_neg (by simp),if_neg p0,if_pos p1] at e
   injection e with e1 e2
   subst e1;subst e2
   exact⟨rfl,zm hB _⟩
  have q1:¬ 0<(n1:Int):=by omega
  go_wp2
  go_ret2
  have e:=H.out
  rw [hb.out,if_neg (by simp),if_neg p0,if_neg p1] at e
  injection e with e1 e2
  subst e1;subst e2
  exact⟨rfl,zm hB _⟩
 have hb:=Lib.hid hb
 go_wp2
 go_ret2
 have e:=H.out
 rw [hb.out,if_pos rfl] at e
 injection e with e1 e2
 subst e1;subst e2
 exact⟨rfl,zm hB _⟩

/-! ### zq3: function 72 -/
def zq3.f (a0:Bool):Option (Int):=if a0=true then(some 1) else (some 0)
set_option maxHeartbeats 8000000 in
set_option maxRecDepth 100000 in
theorem zq3.calls (a0:Bool) (r:Int) (w:World) (h:zq3.f a0=some r) :
  Calls Tryd.prog 72 #[.bool a0] w fun e w'=>e = .returned (.int .i64 r)∧qx w w':=by
 have H:(if a0=true then(some 1) else (some 0))=some r:=h
 clear h
 by_cases c2:a0=true
 ·subst c2
  rw [if_pos rfl] at H
  obtain rfl:=Option.some.inj H
  go_enter Tryd.func72,Tryd.ntmps72
  go_wp2
  go_ret
  exact⟨by first|rfl|(simp;done)|(simp [*];done),by repeat(first|exact qx.refl _|apply qx.step)⟩
 replace c2:=Bool.eq_false_iff.mpr c2
 subst c2
 rw [if_neg (show ¬ (false=true) by decide)] at H
 obtain rfl:=Option.some.inj H
 go_enter Tryd.func72,Tryd.ntmps72
 go_wp2
 go_ret
 exact⟨by first|rfl|(simp;done)|(simp [*];done),by repeat(first|exact qx.refl _|apply qx.step)⟩

/-! ### zja: function 73 -/
def zja.f (a0:Int):Option (Int × Int):=if a0=0 then(some (2,0)) else (if a0=2 then(some (0,0)) else (if a0=1 then(some (1,0)) else (some (0,2))))
set_option maxHeartbeats 8000000 in
set_option maxRecDepth 100000 in
theorem zja.calls (a0:Int) (r1:Int) (r2:Int) (w:World) (h:zja.f a0=some (r1,r2)) :
  Calls Tryd.prog 73 #[.int .i64 a0] w fun e w'=>e = .returned (.tuple #[.int .i64 r1,.int .i64 r2])∧qx w w':=by
 have H:(if a0=0 then(some (2,0)) else (if a0=2 then(some (0,0)) else (if a0=1 then(some (1,0)) else (some (0,2)))))=some (r1,r2):=h
 clear h
 by_cases c2:a0=0
 ·rw [if_pos c2] at H
  have c2b0:(a0 == 0)=true:=beq_iff_eq.mpr c2
  have c2b1:(a0 != 0)=false:=bne_eq_false_iff_eq.mpr c2
  clear c2
  simp only [Option.some.injEq,Prod.mk.injEq] at H
  obtain ⟨rfl,rfl⟩:=H
  go_enter Tryd.func73,Tryd.ntmps73
  go_wp2
  go_ret2
  exact⟨by first|rfl|(simp;done)|(simp [*];done),by repeat(first|exact qx.refl _|apply qx.step)⟩
 rw [if_neg c2] at H
 have c2b0:(a0 == 0)=false:=beq_eq_false_iff_ne.mpr c2
 have c2b1:(a0 != 0)=true:=bne_iff_ne.mpr c2
 by_cases c3:a0=2
 ·rw [if_pos c3] at H
  have c3b0:(a0 == 2)=true:=beq_iff_eq.mpr c3
  have c3b1:(a0 != 2)=false:=bne_eq_false_iff_eq.mpr c3
  clear c3
  simp only [Option.some.injEq,Prod.mk.injEq] at H
  obtain ⟨rfl,rfl⟩:=H
  go_enter Tryd.func73,Tryd.ntmps73
  go_wp2
  go_ret2
  exact⟨by first|rfl|(simp;done)|(simp [*];done),by repeat(first|exact qx.refl _|apply qx.step)⟩
 rw [if_neg c3] at H
 have c3b0:(a0 == 2)=false:=beq_eq_false_iff_ne.mpr c3
 have c3b1:(a0 != 2)=true:=bne_iff_ne.mpr c3
 by_cases c4:a0=1
 ·rw [if_pos c4] at H
  have c4b0:(a0 == 1)=true:=beq_iff_eq.mpr c4
  have c4b1:(a0 != 1)=false:=bne_eq_false_iff_eq.mpr c4
  clear c4
  simp only [Option.some.injEq,Prod.mk.injEq] at H
  obtain ⟨rfl,rfl⟩:=H
  go_enter Tryd.func73,Tryd.ntmps73
  go_wp2
  go_ret2
  exact⟨by first|rfl|(simp;done)|(simp [*];done),by repeat(first|exact qx.refl _|apply qx.step)⟩
 rw [if_neg c4] at H
 have c4b0:(a0 == 1)=false:=beq_eq_false_iff_ne.mpr c4
 have c4b1:(a0 != 1)=true:=bne_iff_ne.mpr c4
 simp only [Option.some.injEq,Prod.mk.injEq] at H
 obtain ⟨rfl,rfl⟩:=H
 go_enter Tryd.func73,Tryd.ntmps73
 go_wp2
 go_ret2
 exact⟨by first|rfl|(simp;done)|(simp [*];done),by repeat(first|exact qx.refl _|apply qx.step)⟩

/-! ### qp: function 74 -/
def qp.l0:Nat→Bool→List (S30)→Int→Int→Option (Bool × Bool)
 | 0,_,_,_,_=>none
 | k+1,x5,x10,x11,x12=>if x12<x11 then(if 0≤x12 then(if x12<(x10.length:Int) then(if((zqh x10 x12).f0)=1 then(some (false,false)) else (if((zqh x10 x12).f0)=3 then(some (false,false)) else (if x5=true then(qp.l0 k true x10 x11 (wrap64 (x12+1))) else (qp.l0 k (((zqh x10 x12).f0) == 0) x10 x11 (wrap64 (x12+1)))))) else (none)) else (none)) else (some (true,x5))
def qp.f (k:Nat) (a0_0:Int) (a0_1:Int) (a0_2:ByteArray) (a1_0:Int) (a1_1:Int) (a1_2:ByteArray):Option (Bool × Bool):=(some (([(⟨a0_0,a0_1,a0_2⟩:S30),(⟨a1_0,a1_1,a1_2⟩:S30)]:List (S30)):List (S30))).bind fun y199=>(qp.l0 k false y199 (y199.length:Int) 0)
theorem qp.mono_l:∀ k,(∀ y0 y1 y2 y3,LeO (qp.l0 k y0 y1 y2 y3) (qp.l0 (k+1) y0 y1 y2 y3))
 | 0=>fun _ _ _ _ r h=>by simp [qp.l0] at h
 | k+1=>by
  have ih0:=qp.mono_l k
  intro y0 y1 y2 y3
  unfold qp.l0
  repeat' first
  | (with_reducible first|exact ih0 _ _ _ _|exact LeO.refl _|exact LeO.none _|refine LeO.ite ?_ ?_|refine LeO.bind ?_ (fun _=>?_))
  | exact ih0 _ _ _ _
  | exact LeO.none _
  | refine LeO.ite ?_ ?_
  | refine LeO.bind ?_ (fun _=>?_)
theorem qp.mono:∀ a0 a1 a2 a3 a4 a5 k,LeO (qp.f k a0 a1 a2 a3 a4 a5) (qp.f (k+1) a0 a1 a2 a3 a4 a5):=by
 intro a0 a1 a2 a3 a4 a5 k
 have ih0:=qp.mono_l k
 unfold qp.f
 repeat' first
   | (with_reducible first|exact ih0 _ _ _ _|exact LeO.refl _|exact LeO.none _|refine LeO.ite ?_ ?_|refine LeO.bind ?_ (fun _=>?_))
   | exact ih0 _ _ _ _
   | exact LeO.none _
   | refine LeO.ite ?_ ?_
   | refine LeO.bind ?_ (fun _=>?_)
set_option maxHeartbeats 8000000 in
set_option maxRecDepth 100000 in
theorem qp.calls (k:Nat) (a0_0:Int) (a0_1:Int) (a0_2:ByteArray) (a1_0:Int) (a1_1:Int) (a1_2:ByteArray) (r1:Bool) (r2:Bool) (w:World) (h:qp.f k a0_0 a0_1 a0_2 a1_0 a1_1 a1_2=some (r1,r2)) :
  Calls Tryd.prog 74 #[.agg #[.int .i64 a0_0,.int .i64 a0_1,.string a0_2],.agg #[.int .i64 a1_0,.int .i64 a1_1,.string a1_2]] w fun e w'=>e = .returned (.tuple #[.bool r1,.bool r2])∧Below w.heap.size w w':=by
 have hu30:=Tryd.underlying30
 have HB:=zq.mk (Below.refl w.heap.size w)
 have H:((some (([(⟨a0_0,a0_1,a0_2⟩:S30),(⟨a1_0,a1_1,a1_2⟩:S30)]:List (S30)):List (S30))).bind fun y199=>(qp.l0 k false y199 (y199.length:Int) 0))=some (r1,r2):=h
 clear h
 obtain ⟨y199,hy199⟩:∃ y_:List (S30),y_=(([(⟨a0_0,a0_1,a0_2⟩:S30),(⟨a1_0,a1_1,a1_2⟩:S30)]:List (S30))):=⟨_,rfl⟩
 replace H:(qp.l0 k false y199 (y199.length:Int) 0)=some (r1,r2):=by first|(rw [hy199];with_reducible exact H)|(have H2_:=(Option.bind_some _ _).symm.trans H;rw [hy199];with_reducible exact H2_)|(have H2_:=(Option.bind_some _ _).symm.trans H;with_reducible exact H2_)|with_reducible exact H|(rw [hy199];exact H)|exact H
 have Ny199:=zq.mk hy199
 clear hy199
 have H':=zq.mk H
 clear H
 go_enter Tryd.func74,Tryd.ntmps74
 go_wp2_with (first|((with_reducible refine ql (N:=2) rfl ?_);refine qh ?hg (N:=2) ?hd (cs:=#[.int .i64 a0_0,.int .i64 a0_1,.string a0_2]) (t:=30) ?hr ?_;(case hd=>rfl);(case hg=>rfl);(case hr=>first|(go_simp;done)|(go_simp;rfl));intro gb197 hg w3 hbox hb;have BK197:=zq.mk (hbox);have GW197:=zq.mk ((by rw [hg];exact(zv bw):w.heap.size≤gb197));have GE197:=zq.mk ((by rw [hg];exact(zv bw):w.heap.size≤gb197));replace HB:=zq.mk (zb bw hb);clear hb hbox hg)|((with_reducible refine ql (N:=3) rfl ?_);refine qh ?hg (N:=3) ?hd (cs:=#[.int .i64 a1_0,.int .i64 a1_1,.string a1_2]) (t:=30) ?hr ?_;(case hd=>rfl);(case hg=>rfl);(case hr=>first|(go_simp;done)|(go_simp;rfl));intro gb198 hg w4 hbox hb;have BK198:=zq.mk (hbox);have GW198:=zq.mk ((by rw [hg];exact(zv bw):w.heap.size≤gb198));have GE198:=zq.mk ((by rw [hg];exact(zv bw):w.heap.size≤gb198));replace HB:=zq.mk (zb bw hb);have NB197_198:=zq.mk ((by rw [hg];exact Nat.ne_of_lt (qf (g:=gb197) (o:=.cells #[.int .i64 a0_0,.int .i64 a0_1,.string a0_2] 30 (0,0)) (up BK197.out)):gb197≠gb198));have NB198_197:=zq.mk ((by rw [hg];exact Nat.ne_of_gt (qf (g:=gb197) (o:=.cells #[.int .i64 a0_0,.int .i64 a0_1,.string a0_2] 30 (0,0)) (up BK197.out)):gb198≠gb197));replace BK197:=zq.mk (zf (g:=gb197) (o:=.cells #[.int .i64 a0_0,.int .i64 a0_1,.string a0_2] 30 (0,0)) (up BK197.out) hb);clear hb hbox hg;have hnb5:=NB197_198.out;have hnc5:=NB198_197.out;obtain ⟨hcz6_0,hcz6_1,hcz6_2,hfz6_0,hfz6_1,hfz6_2⟩:=zr BK197.out;obtain ⟨hcz7_0,hcz7_1,hcz7_2,hfz7_0,hfz7_1,hfz7_2⟩:=zr BK198.out)|((with_reducible refine ql (N:=10) rfl ?_);refine Kd.R_lit k30 _ 30 ?hg (N:=10) ?hd (xs:=([(⟨a0_0,a0_1,a0_2⟩:S30),(⟨a1_0,a1_1,a1_2⟩:S30)]:List (S30))) (inner := [.int .i64 a0_0,.int .i64 a0_1,.string a0_2,.int .i64 a1_0,.int .i64 a1_1,.string a1_2]) (ok:=fun _=>True) (okp:=fun _=>True) ?hr ?hp (fun _ hk=>hk) trivial (Below.refl _ _) (Nat.le_refl _) (by simp) ?_;(case hd=>rfl);(case hg=>rfl);(case hr=>first|(go_simp;done)|(go_simp;rfl));(case hp=>exact(Reps.c3 (show Kd.M k30 _ _ _ (⟨a0_0,a0_1,a0_2⟩:S30) [.int .i64 a0_0,.int .i64 a0_1,.string a0_2] from (k30_mkM _ _ _ (⟨a0_0,a0_1,a0_2⟩:S30) )) (Reps.c3 (show Kd.M k30 _ _ _ (⟨a1_0,a1_1,a1_2⟩:S30) [.int .i64 a1_0,.int .i64 a1_1,.string a1_2] from (k30_mkM _ _ _ (⟨a1_0,a1_1,a1_2⟩:S30) )) (Reps.none _ _))));intro v200 w8 ho9 hb hg_ hnew_;clear hg_ hnew_;(first|rw [← Ny199.out] at ho9|(simp only [Int.reduceToNat] at ho9;rw [← Ny199.out] at ho9));have HO201:=zq.mk (Kd.zkp (Kd.R_newB (Kd.R_newB ho9 (g:=gb197) (o:=.cells #[.int .i64 a0_0,.int .i64 a0_1,.string a0_2] 30 (0,0)) (up BK197.out)) (g:=gb198) (o:=.cells #[.int .i64 a1_0,.int .i64 a1_1,.string a1_2] 30 (0,0)) (up BK198.out)) (zv bw));replace BK197:=zq.mk (zf (g:=gb197) (o:=.cells #[.int .i64 a0_0,.int .i64 a0_1,.string a0_2] 30 (0,0)) (up BK197.out) hb);replace BK198:=zq.mk (zf (g:=gb198) (o:=.cells #[.int .i64 a1_0,.int .i64 a1_1,.string a1_2] 30 (0,0)) (up BK198.out) hb);replace HB:=zq.mk (zb bw hb);clear hb ho9;obtain ⟨Ao10,co10,eo10⟩:=Kd.R_slice HO201.out;subst eo10))
 go_loopg [5,12] k (fun kq v5 v12 w' => ∃ (x5_1:Bool) (x12_1:Int),v5 = .bool x5_1∧v12 = .int .i64 x12_1∧zq (qp.l0 kq x5_1 y199 (y199.length:Int) x12_1=some (r1,r2))∧zq (kq≤k)∧zq (Kd.R k30 30 w' w.heap.size (fun k_=>k_≠gb197∧k_≠gb198) (.slice Ao10 y199.length co10) y199)∧zq (w'.heap[gb197]? = some (.cells #[.int .i64 a0_0,.int .i64 a0_1,.string a0_2] 30 (0,0)))∧zq (w'.heap[gb198]? = some (.cells #[.int .i64 a1_0,.int .i64 a1_1,.string a1_2] 30 (0,0)))∧zq (Below w.heap.size w w'))
 case atStart=>exact⟨(false),(0),vr,vr,H',⟨Nat.le_refl _⟩,⟨by(with_reducible repeat(first|apply Kd.R_alloc|apply Kd.R_drewN|apply Kd.R_drew));exact Kd.zxo HO201.out (fun _ hk=>⟨hk.1.2,hk.2⟩)⟩,⟨by(with_reducible repeat(first|refine zn ?_ _|refine zt ?_|refine zy ?_ _));exact BK197.out⟩,⟨by(with_reducible repeat(first|refine zn ?_ _|refine zt ?_|refine zy ?_ _));exact BK198.out⟩,⟨bw⟩⟩
 case round=>
  clear H'
  (try clear c3);(try clear hcz6_0);(try clear hcz6_1);(try clear hcz6_2);(try clear hcz7_0);(try clear hcz7_1);(try clear hcz7_2);(try clear hfz6_0);(try clear hfz6_1);(try clear hfz6_2);(try clear hfz7_0);(try clear hfz7_1);(try clear hfz7_2)
  (try clear HO_10);(try clear BK197);(try clear BK198)
  obtain ⟨x5_1,x12_1,rfl,rfl,HA,HK1,HO_10,BK197,BK198,HB⟩:=hrel
  cases gk with
  | zero=>exact absurd HA.out (by simp [qp.l0])
  | succ k1=>
   have H:=HA.out
   clear HA
   simp only [qp.l0] at H
   by_cases c11:x12_1<(y199.length:Int)
   ·rw [if_pos c11] at H
    have c11b0:=decide_eq_true c11
    clear c11
    by_cases c12:0≤x12_1
    ·rw [if_pos c12] at H
     have c12b0:=decide_eq_true c12
     clear c12
     by_cases c13:x12_1<(y199.length:Int)
     ·rw [if_pos c13] at H
      have c13b0:=decide_eq_true c13
      clear c13
      by_cases c14:((zqh y199 x12_1).f0)=1
      ·rw [if_pos c14] at H
       have c14b0:(((zqh y199 x12_1).f0) == 1)=true:=beq_iff_eq.mpr c14
       have c14b1:(((zqh y199 x12_1).f0) != 1)=false:=bne_eq_false_iff_eq.mpr c14
       clear c14
       simp only [Option.some.injEq,Prod.mk.injEq] at H
       obtain ⟨rfl,rfl⟩:=H
       have p202:0≤(x12_1:Int):=dt
       have q202:x12_1<(y199.length:Int):=dt
       obtain ⟨ad202,e202,hx202_0,hx202_1,hx202_2⟩:=zxn (Kd.zj5 HO_10.out).2.2 x12_1 p202 q202
       cases e202
       replace p202:=eq_true p202
       replace q202:=eq_true q202
       go_wp2_with (first|((with_reducible refine ql (N:=7) rfl ?_);refine qh ?hg (N:=7) ?hd (cs:=#[.int .i64 0,.int .i64 0,.string (⟨#[]⟩:ByteArray)]) (t:=30) ?hr ?_;(case hd=>rfl);(case hg=>rfl);(case hr=>first|(go_simp;done)|(go_simp;rfl));intro gb203 hg w15 hbox hb;replace HO_10:=zq.mk (Kd.zj4 (Kd.zke (Kd.ru HO_10.out) gb203 (Nat.le_of_eq hg.symm)) hb);have BK203:=zq.mk (hbox);have GW203:=zq.mk ((by rw [hg];exact(zv bw):w.heap.size≤gb203));have GE203:=zq.mk ((by rw [hg];exact(zv bw):w.heap.size≤gb203));replace HB:=zq.mk (zb bw hb);have NB197_203:=zq.mk ((by rw [hg];exact Nat.ne_of_lt (qf (g:=gb197) (o:=.cells #[.int .i64 a0_0,.int .i64 a0_1,.string a0_2] 30 (0,0)) (up BK197.out)):gb197≠gb203));have NB203_197:=zq.mk ((by rw [hg];exact Nat.ne_of_gt (qf (g:=gb197) (o:=.cells #[.int .i64 a0_0,.int .i64 a0_1,.string a0_2] 30 (0,0)) (up BK197.out)):gb203≠gb197));replace BK197:=zq.mk (zf (g:=gb197) (o:=.cells #[.int .i64 a0_0,.int .i64 a0_1,.string a0_2] 30 (0,0)) (up BK197.out) hb);have NB198_203:=zq.mk ((by rw [hg];exact Nat.ne_of_lt (qf (g:=gb198) (o:=.cells #[.int .i64 a1_0,.int .i64 a1_1,.string a1_2] 30 (0,0)) (up BK198.out)):gb198≠gb203));have NB203_198:=zq.mk ((by rw [hg];exact Nat.ne_of_gt (qf (g:=gb198) (o:=.cells #[.int .i64 a1_0,.int .i64 a1_1,.string a1_2] 30 (0,0)) (up BK198.out)):gb203≠gb198));replace BK198:=zq.mk (zf (g:=gb198) (o:=.cells #[.int .i64 a1_0,.int .i64 a1_1,.string a1_2] 30 (0,0)) (up BK198.out) hb);clear hb hbox hg;have hnb16:=NB203_197.out;have hnc16:=NB197_203.out;have hnb17:=NB203_198.out;have hnc17:=NB198_203.out;obtain ⟨hcz18_0,hcz18_1,hcz18_2,hfz18_0,hfz18_1,hfz18_2⟩:=zr BK203.out))
       go_ret2
       exact⟨by first|rfl|(simp [zk,zx] <;> rfl)|(simp [*,zk,zx] <;> rfl),bw⟩
      rw [if_neg c14] at H
      have c14b0:(((zqh y199 x12_1).f0) == 1)=false:=beq_eq_false_iff_ne.mpr c14
      have c14b1:(((zqh y199 x12_1).f0) != 1)=true:=bne_iff_ne.mpr c14
      by_cases c19:((zqh y199 x12_1).f0)=3
      ·rw [if_pos c19] at H
       have c19b0:(((zqh y199 x12_1).f0) == 3)=true:=beq_iff_eq.mpr c19
       have c19b1:(((zqh y199 x12_1).f0) != 3)=false:=bne_eq_false_iff_eq.mpr c19
       clear c19
       simp only [Option.some.injEq,Prod.mk.injEq] at H
       obtain ⟨rfl,rfl⟩:=H
       have p202:0≤(x12_1:Int):=dt
       have q202:x12_1<(y199.length:Int):=dt
       obtain ⟨ad202,e202,hx202_0,hx202_1,hx202_2⟩:=zxn (Kd.zj5 HO_10.out).2.2 x12_1 p202 q202
       cases e202
       replace p202:=eq_true p202
       replace q202:=eq_true q202
       go_wp2_with (first|((with_reducible refine ql (N:=7) rfl ?_);refine qh ?hg (N:=7) ?hd (cs:=#[.int .i64 0,.int .i64 0,.string (⟨#[]⟩:ByteArray)]) (t:=30) ?hr ?_;(case hd=>rfl);(case hg=>rfl);(case hr=>first|(go_simp;done)|(go_simp;rfl));intro gb203 hg w20 hbox hb;replace HO_10:=zq.mk (Kd.zj4 (Kd.zke (Kd.ru HO_10.out) gb203 (Nat.le_of_eq hg.symm)) hb);have BK203:=zq.mk (hbox);have GW203:=zq.mk ((by rw [hg];exact(zv bw):w.heap.size≤gb203));have GE203:=zq.mk ((by rw [hg];exact(zv bw):w.heap.size≤gb203));replace HB:=zq.mk (zb bw hb);have NB197_203:=zq.mk ((by rw [hg];exact Nat.ne_of_lt (qf (g:=gb197) (o:=.cells #[.int .i64 a0_0,.int .i64 a0_1,.string a0_2] 30 (0,0)) (up BK197.out)):gb197≠gb203));have NB203_197:=zq.mk ((by rw [hg];exact Nat.ne_of_gt (qf (g:=gb197) (o:=.cells #[.int .i64 a0_0,.int .i64 a0_1,.string a0_2] 30 (0,0)) (up BK197.out)):gb203≠gb197));replace BK197:=zq.mk (zf (g:=gb197) (o:=.cells #[.int .i64 a0_0,.int .i64 a0_1,.string a0_2] 30 (0,0)) (up BK197.out) hb);have NB198_203:=zq.mk ((by rw [hg];exact Nat.ne_of_lt (qf (g:=gb198) (o:=.cells #[.int .i64 a1_0,.int .i64 a1_1,.string a1_2] 30 (0,0)) (up BK198.out)):gb198≠gb203));have NB203_198:=zq.mk ((by rw [hg];exact Nat.ne_of_gt (qf (g:=gb198) (o:=.cells #[.int .i64 a1_0,.int .i64 a1_1,.string a1_2] 30 (0,0)) (up BK198.out)):gb203≠gb198));replace BK198:=zq.mk (zf (g:=gb198) (o:=.cells #[.int .i64 a1_0,.int .i64 a1_1,.string a1_2] 30 (0,0)) (up BK198.out) hb);clear hb hbox hg;have hnb21:=NB203_197.out;have hnc21:=NB197_203.out;have hnb22:=NB203_198.out;have hnc22:=NB198_203.out;obtain ⟨hcz23_0,hcz23_1,hcz23_2,hfz23_0,hfz23_1,hfz23_2⟩:=zr BK203.out))
       go_ret2
       exact⟨by first|rfl|(simp [zk,zx] <;> rfl)|(simp [*,zk,zx] <;> rfl),bw⟩
      rw [if_neg c19] at H
      have c19b0:(((zqh y199 x12_1).f0) == 3)=false:=beq_eq_false_iff_ne.mpr c19
      have c19b1:(((zqh y199 x12_1).f0) != 3)=true:=bne_iff_ne.mpr c19
      by_cases c24:x5_1=true
      ·subst c24
       rw [if_pos rfl] at H
       have H':=zq.mk H
       clear H
       have p202:0≤(x12_1:Int):=dt
       have q202:x12_1<(y199.length:Int):=dt
       obtain ⟨ad202,e202,hx202_0,hx202_1,hx202_2⟩:=zxn (Kd.zj5 HO_10.out).2.2 x12_1 p202 q202
       cases e202
       replace p202:=eq_true p202
       replace q202:=eq_true q202
       go_wp2_with (first|((with_reducible refine ql (N:=7) rfl ?_);refine qh ?hg (N:=7) ?hd (cs:=#[.int .i64 0,.int .i64 0,.string (⟨#[]⟩:ByteArray)]) (t:=30) ?hr ?_;(case hd=>rfl);(case hg=>rfl);(case hr=>first|(go_simp;done)|(go_simp;rfl));intro gb203 hg w25 hbox hb;replace HO_10:=zq.mk (Kd.zj4 (Kd.zke (Kd.ru HO_10.out) gb203 (Nat.le_of_eq hg.symm)) hb);have BK203:=zq.mk (hbox);have GW203:=zq.mk ((by rw [hg];exact(zv bw):w.heap.size≤gb203));have GE203:=zq.mk ((by rw [hg];exact(zv bw):w.heap.size≤gb203));replace HB:=zq.mk (zb bw hb);have NB197_203:=zq.mk ((by rw [hg];exact Nat.ne_of_lt (qf (g:=gb197) (o:=.cells #[.int .i64 a0_0,.int .i64 a0_1,.string a0_2] 30 (0,0)) (up BK197.out)):gb197≠gb203));have NB203_197:=zq.mk ((by rw [hg];exact Nat.ne_of_gt (qf (g:=gb197) (o:=.cells #[.int .i64 a0_0,.int .i64 a0_1,.string a0_2] 30 (0,0)) (up BK197.out)):gb203≠gb197));replace BK197:=zq.mk (zf (g:=gb197) (o:=.cells #[.int .i64 a0_0,.int .i64 a0_1,.string a0_2] 30 (0,0)) (up BK197.out) hb);have NB198_203:=zq.mk ((by rw [hg];exact Nat.ne_of_lt (qf (g:=gb198) (o:=.cells #[.int .i64 a1_0,.int .i64 a1_1,.string a1_2] 30 (0,0)) (up BK198.out)):gb198≠gb203));have NB203_198:=zq.mk ((by rw [hg];exact Nat.ne_of_gt (qf (g:=gb198) (o:=.cells #[.int .i64 a1_0,.int .i64 a1_1,.string a1_2] 30 (0,0)) (up BK198.out)):gb203≠gb198));replace BK198:=zq.mk (zf (g:=gb198) (o:=.cells #[.int .i64 a1_0,.int .i64 a1_1,.string a1_2] 30 (0,0)) (up BK198.out) hb);clear hb hbox hg;have hnb26:=NB203_197.out;have hnc26:=NB197_203.out;have hnb27:=NB203_198.out;have hnc27:=NB198_203.out;obtain ⟨hcz28_0,hcz28_1,hcz28_2,hfz28_0,hfz28_1,hfz28_2⟩:=zr BK203.out))
       go_roundg k1
       case measure=>have:=HK1.out;omega
       case rel=>exact⟨(true),(wrap64 (x12_1+1)),vr,vr,H',⟨by have:=HK1.out;omega⟩,⟨by(with_reducible repeat(first|apply Kd.R_alloc|apply Kd.R_drewN|apply Kd.R_drew));exact Kd.zxo (Kd.R_far (p:=⟨gb203,2,none⟩) (Kd.R_far (p:=⟨gb203,1,none⟩) (Kd.R_far (p:=⟨gb203,0,none⟩) (Kd.zxo HO_10.out (fun k_ hk=>(⟨hk,hk.2⟩:_∧k_≠gb203))) (fun _ hk=>hk.2) (.int .i64 ((zqh y199 x12_1).f0))) (fun _ hk=>hk.2) (.int .i64 ((zqh y199 x12_1).f1))) (fun _ hk=>hk.2) (.string ((zqh y199 x12_1).f2))) (fun _ hk=>⟨hk.1.1.1,hk.1.1.2⟩)⟩,⟨by(with_reducible repeat(first|refine zn ?_ _|refine zt ?_|refine zy ?_ _));refine zqv ?_ NB197_203.out _;(with_reducible repeat(first|refine zn ?_ _|refine zt ?_|refine zy ?_ _));refine zqv ?_ NB197_203.out _;(with_reducible repeat(first|refine zn ?_ _|refine zt ?_|refine zy ?_ _));refine zqv ?_ NB197_203.out _;(with_reducible repeat(first|refine zn ?_ _|refine zt ?_|refine zy ?_ _));exact BK197.out⟩,⟨by(with_reducible repeat(first|refine zn ?_ _|refine zt ?_|refine zy ?_ _));refine zqv ?_ NB198_203.out _;(with_reducible repeat(first|refine zn ?_ _|refine zt ?_|refine zy ?_ _));refine zqv ?_ NB198_203.out _;(with_reducible repeat(first|refine zn ?_ _|refine zt ?_|refine zy ?_ _));refine zqv ?_ NB198_203.out _;(with_reducible repeat(first|refine zn ?_ _|refine zt ?_|refine zy ?_ _));exact BK198.out⟩,⟨bw⟩⟩
      replace c24:=Bool.eq_false_iff.mpr c24
      subst c24
      rw [if_neg (show ¬ (false=true) by decide)] at H
      have H':=zq.mk H
      clear H
      have p202:0≤(x12_1:Int):=dt
      have q202:x12_1<(y199.length:Int):=dt
      obtain ⟨ad202,e202,hx202_0,hx202_1,hx202_2⟩:=zxn (Kd.zj5 HO_10.out).2.2 x12_1 p202 q202
      cases e202
      replace p202:=eq_true p202
      replace q202:=eq_true q202
      go_wp2_with (first|((with_reducible refine ql (N:=7) rfl ?_);refine qh ?hg (N:=7) ?hd (cs:=#[.int .i64 0,.int .i64 0,.string (⟨#[]⟩:ByteArray)]) (t:=30) ?hr ?_;(case hd=>rfl);(case hg=>rfl);(case hr=>first|(go_simp;done)|(go_simp;rfl));intro gb203 hg w29 hbox hb;replace HO_10:=zq.mk (Kd.zj4 (Kd.zke (Kd.ru HO_10.out) gb203 (Nat.le_of_eq hg.symm)) hb);have BK203:=zq.mk (hbox);have GW203:=zq.mk ((by rw [hg];exact(zv bw):w.heap.size≤gb203));have GE203:=zq.mk ((by rw [hg];exact(zv bw):w.heap.size≤gb203));replace HB:=zq.mk (zb bw hb);have NB197_203:=zq.mk ((by rw [hg];exact Nat.ne_of_lt (qf (g:=gb197) (o:=.cells #[.int .i64 a0_0,.int .i64 a0_1,.string a0_2] 30 (0,0)) (up BK197.out)):gb197≠gb203));have NB203_197:=zq.mk ((by rw [hg];exact Nat.ne_of_gt (qf (g:=gb197) (o:=.cells #[.int .i64 a0_0,.int .i64 a0_1,.string a0_2] 30 (0,0)) (up BK197.out)):gb203≠gb197));replace BK197:=zq.mk (zf (g:=gb197) (o:=.cells #[.int .i64 a0_0,.int .i64 a0_1,.string a0_2] 30 (0,0)) (up BK197.out) hb);have NB198_203:=zq.mk ((by rw [hg];exact Nat.ne_of_lt (qf (g:=gb198) (o:=.cells #[.int .i64 a1_0,.int .i64 a1_1,.string a1_2] 30 (0,0)) (up BK198.out)):gb198≠gb203));have NB203_198:=zq.mk ((by rw [hg];exact Nat.ne_of_gt (qf (g:=gb198) (o:=.cells #[.int .i64 a1_0,.int .i64 a1_1,.string a1_2] 30 (0,0)) (up BK198.out)):gb203≠gb198));replace BK198:=zq.mk (zf (g:=gb198) (o:=.cells #[.int .i64 a1_0,.int .i64 a1_1,.string a1_2] 30 (0,0)) (up BK198.out) hb);clear hb hbox hg;have hnb30:=NB203_197.out;have hnc30:=NB197_203.out;have hnb31:=NB203_198.out;have hnc31:=NB198_203.out;obtain ⟨hcz32_0,hcz32_1,hcz32_2,hfz32_0,hfz32_1,hfz32_2⟩:=zr BK203.out))
      go_roundg k1
      case measure=>have:=HK1.out;omega
      case rel=>exact⟨((((zqh y199 x12_1).f0) == 0)),(wrap64 (x12_1+1)),vr,vr,H',⟨by have:=HK1.out;omega⟩,⟨by(with_reducible repeat(first|apply Kd.R_alloc|apply Kd.R_drewN|apply Kd.R_drew));exact Kd.zxo (Kd.R_far (p:=⟨gb203,2,none⟩) (Kd.R_far (p:=⟨gb203,1,none⟩) (Kd.R_far (p:=⟨gb203,0,none⟩) (Kd.zxo HO_10.out (fun k_ hk=>(⟨hk,hk.2⟩:_∧k_≠gb203))) (fun _ hk=>hk.2) (.int .i64 ((zqh y199 x12_1).f0))) (fun _ hk=>hk.2) (.int .i64 ((zqh y199 x12_1).f1))) (fun _ hk=>hk.2) (.string ((zqh y199 x12_1).f2))) (fun _ hk=>⟨hk.1.1.1,hk.1.1.2⟩)⟩,⟨by(with_reducible repeat(first|refine zn ?_ _|refine zt ?_|refine zy ?_ _));refine zqv ?_ NB197_203.out _;(with_reducible repeat(first|refine zn ?_ _|refine zt ?_|refine zy ?_ _));refine zqv ?_ NB197_203.out _;(with_reducible repeat(first|refine zn ?_ _|refine zt ?_|refine zy ?_ _));refine zqv ?_ NB197_203.out _;(with_reducible repeat(first|refine zn ?_ _|refine zt ?_|refine zy ?_ _));exact BK197.out⟩,⟨by(with_reducible repeat(first|refine zn ?_ _|refine zt ?_|refine zy ?_ _));refine zqv ?_ NB198_203.out _;(with_reducible repeat(first|refine zn ?_ _|refine zt ?_|refine zy ?_ _));refine zqv ?_ NB198_203.out _;(with_reducible repeat(first|refine zn ?_ _|refine zt ?_|refine zy ?_ _));refine zqv ?_ NB198_203.out _;(with_reducible repeat(first|refine zn ?_ _|refine zt ?_|refine zy ?_ _));exact BK198.out⟩,⟨bw⟩⟩
     rw [if_neg c13] at H
     exact absurd H (by simp)
    rw [if_neg c12] at H
    exact absurd H (by simp)
   rw [if_neg c11] at H
   have c11b0:=decide_eq_false c11
   clear c11
   simp only [Option.some.injEq,Prod.mk.injEq] at H
   obtain ⟨rfl,rfl⟩:=H
   go_wp2
   go_ret2
   exact⟨by first|rfl|(simp [zk,zx] <;> rfl)|(simp [*,zk,zx] <;> rfl),bw⟩

/-! ### zqf: function 75 -/
def zqf.f (a0:Int) (a1:Int):Option (Int × Int × ByteArray × Int):=if a1=0 then(some (2,a0,(⟨#[]⟩:ByteArray),0)) else (some (0,0,(⟨#[]⟩:ByteArray),a1))
set_option maxHeartbeats 8000000 in
set_option maxRecDepth 100000 in
theorem zqf.calls (a0:Int) (a1:Int) (r1:Int) (r2:Int) (r3:ByteArray) (r4:Int) (w:World) (h:zqf.f a0 a1=some (r1,r2,r3,r4)) :
  Calls Tryd.prog 75 #[.int .i64 a0,.int .i64 a1] w fun e w'=>e = .returned (.tuple #[.agg #[.int .i64 r1,.int .i64 r2,.string r3],.int .i64 r4])∧Below w.heap.size w w':=by
 have hu30:=Tryd.underlying30
 have HB:=zq.mk (Below.refl w.heap.size w)
 have H:(if a1=0 then(some (2,a0,(⟨#[]⟩:ByteArray),0)) else (some (0,0,(⟨#[]⟩:ByteArray),a1)))=some (r1,r2,r3,r4):=h
 clear h
 by_cases c3:a1=0
 ·rw [if_pos c3] at H
  have c3b0:(a1 == 0)=true:=beq_iff_eq.mpr c3
  have c3b1:(a1 != 0)=false:=bne_eq_false_iff_eq.mpr c3
  clear c3
  simp only [Option.some.injEq,Prod.mk.injEq] at H
  obtain ⟨rfl,rfl,rfl,rfl⟩:=H
  go_enter Tryd.func75,Tryd.ntmps75
  go_wp2_with (first|((with_reducible refine ql (N:=4) rfl ?_);refine qh ?hg (N:=4) ?hd (cs:=#[.int .i64 0,.int .i64 0,.string (⟨#[]⟩:ByteArray)]) (t:=30) ?hr ?_;(case hd=>rfl);(case hg=>rfl);(case hr=>first|(go_simp;done)|(go_simp;rfl));intro gb204 hg w4 hbox hb;have BK204:=zq.mk (hbox);have GW204:=zq.mk ((by rw [hg];exact(zv bw):w.heap.size≤gb204));have GE204:=zq.mk ((by rw [hg];exact(zv bw):w.heap.size≤gb204));replace HB:=zq.mk (zb bw hb);clear hb hbox hg;obtain ⟨hcz5_0,hcz5_1,hcz5_2,hfz5_0,hfz5_1,hfz5_2⟩:=zr BK204.out))
  refine bodyPost_ret (zq8 rfl _ _ gb204 30 #[.int .i64 2,.int .i64 a0,.string (⟨#[]⟩:ByteArray)] (0,0) _ rfl (by(with_reducible repeat(first|refine zn ?_ _|refine zt ?_|refine zy ?_ _));refine zl (cs:=#[.int .i64 2,.int .i64 a0,.string (⟨#[]⟩:ByteArray)]) ?_ 2 _ rfl;(with_reducible repeat(first|refine zn ?_ _|refine zt ?_|refine zy ?_ _));refine zl (cs:=#[.int .i64 2,.int .i64 0,.string (⟨#[]⟩:ByteArray)]) ?_ 1 _ rfl;(with_reducible repeat(first|refine zn ?_ _|refine zt ?_|refine zy ?_ _));refine zl (cs:=#[.int .i64 0,.int .i64 0,.string (⟨#[]⟩:ByteArray)]) ?_ 0 _ rfl;(with_reducible repeat(first|refine zn ?_ _|refine zt ?_|refine zy ?_ _));exact BK204.out) Tryd.underlying30 rfl (by kernel_rfl)) rfl ?_
  exact⟨by first|rfl|(simp [zk,zx] <;> rfl)|(simp [*,zk,zx] <;> rfl),bw⟩
 rw [if_neg c3] at H
 have c3b0:(a1 == 0)=false:=beq_eq_false_iff_ne.mpr c3
 have c3b1:(a1 != 0)=true:=bne_iff_ne.mpr c3
 simp only [Option.some.injEq,Prod.mk.injEq] at H
 obtain ⟨rfl,rfl,rfl,rfl⟩:=H
 go_enter Tryd.func75,Tryd.ntmps75
 go_wp2_with (first|((with_reducible refine ql (N:=4) rfl ?_);refine qh ?hg (N:=4) ?hd (cs:=#[.int .i64 0,.int .i64 0,.string (⟨#[]⟩:ByteArray)]) (t:=30) ?hr ?_;(case hd=>rfl);(case hg=>rfl);(case hr=>first|(go_simp;done)|(go_simp;rfl));intro gb204 hg w6 hbox hb;have BK204:=zq.mk (hbox);have GW204:=zq.mk ((by rw [hg];exact(zv bw):w.heap.size≤gb204));have GE204:=zq.mk ((by rw [hg];exact(zv bw):w.heap.size≤gb204));replace HB:=zq.mk (zb bw hb);clear hb hbox hg;obtain ⟨hcz7_0,hcz7_1,hcz7_2,hfz7_0,hfz7_1,hfz7_2⟩:=zr BK204.out))
 refine bodyPost_ret (zq8 rfl _ _ gb204 30 #[.int .i64 0,.int .i64 0,.string (⟨#[]⟩:ByteArray)] (0,0) _ rfl (by(with_reducible repeat(first|refine zn ?_ _|refine zt ?_|refine zy ?_ _));refine zl (cs:=#[.int .i64 0,.int .i64 0,.string (⟨#[]⟩:ByteArray)]) ?_ 2 _ rfl;(with_reducible repeat(first|refine zn ?_ _|refine zt ?_|refine zy ?_ _));refine zl (cs:=#[.int .i64 0,.int .i64 0,.string (⟨#[]⟩:ByteArray)]) ?_ 1 _ rfl;(with_reducible repeat(first|refine zn ?_ _|refine zt ?_|refine zy ?_ _));refine zl (cs:=#[.int .i64 0,.int .i64 0,.string (⟨#[]⟩:ByteArray)]) ?_ 0 _ rfl;(with_reducible repeat(first|refine zn ?_ _|refine zt ?_|refine zy ?_ _));exact BK204.out) Tryd.underlying30 rfl (by kernel_rfl)) rfl ?_
 exact⟨by first|rfl|(simp [zk,zx] <;> rfl)|(simp [*,zk,zx] <;> rfl),bw⟩

end Go.Proofs.YtmfpaeajibeikaaDoor.PEvalHolds
