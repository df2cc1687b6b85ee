-- Written by wip/pp of this repo (over the kit's print, with additions of this session); Lean checks every line.
import Derived.Test.YtmfpaeajibeikaaDoorPEvalHoldsx17
namespace Go.Proofs.YtmfpaeajibeikaaDoor.PEvalHolds
open Go.RowKit Go.Proofs.YtmfpaeajibeikaaDoorW.PrintWords Go.Proofs.YtmfpaeajibeikaaDoorW.PrintLast Go.Proofs.YtmfpaeajibeikaaDoorW.PrintMore
attribute [local go_sem] zje zjc zjo zjn zq1 zq0 zjd zjb   -- for this text's walks alone
set_option linter.unusedVariables false
set_option linter.unusedSimpArgs false

/-! ### zqi: function 12 -/
def zqi.f (k:Nat) (a0_0:Int) (a0_1:Int) (a0_2:Int) (a0_3:ByteArray) (a0_4:ByteArray) (a0_5:ByteArray) (a0_6:Int) (l0_7:List (S33)) (l1:List (S30)):Option (Bool × Int):=(zqt.f a0_0 a0_1 a0_2 a0_3 a0_4 a0_5 a0_6 l0_7).bind fun t280=>(if t280=true then((qk.f k l1).bind fun t281=>((qk.f k l1).bind fun t282=>(some ((t281 == 0),t282)))) else ((zqk.f k a0_0 a0_1 a0_2 a0_3 a0_4 a0_5 a0_6 l0_7 (l1.length:Int)).bind fun t283=>(if t283=true then((qk.f k l1).bind fun t284=>(if t284=0 then((zqg.f k a0_0 a0_1 a0_2 a0_3 a0_4 a0_5 a0_6 l0_7).bind fun t285=>((qn.f k t285 l1).bind fun bt288=>(some (bt288.1,bt288.2)))) else (some (false,t284)))) else (some (false,4)))))
theorem zqi.mono:∀ a0 a1 a2 a3 a4 a5 a6 a7 a8 k,LeO (zqi.f k a0 a1 a2 a3 a4 a5 a6 a7 a8) (zqi.f (k+1) a0 a1 a2 a3 a4 a5 a6 a7 a8):=by
 intro a0 a1 a2 a3 a4 a5 a6 a7 a8 k
 unfold zqi.f
 repeat' first
   | (with_reducible first|exact zqk.mono _ _ _ _ _ _ _ _ _ _|exact zqg.mono _ _ _ _ _ _ _ _ _|exact qn.mono _ _ _|exact qk.mono _ _|exact LeO.refl _|exact LeO.none _|refine LeO.ite ?_ ?_|refine LeO.bind ?_ (fun _=>?_))
   | exact zqk.mono _ _ _ _ _ _ _ _ _ _
   | exact zqg.mono _ _ _ _ _ _ _ _ _
   | exact qn.mono _ _ _
   | exact qk.mono _ _
   | exact LeO.none _
   | refine LeO.ite ?_ ?_
   | refine LeO.bind ?_ (fun _=>?_)
set_option maxHeartbeats 8000000 in
set_option maxRecDepth 100000 in
theorem zqi.calls (k:Nat) (a0_0:Int) (a0_1:Int) (a0_2:Int) (a0_3:ByteArray) (a0_4:ByteArray) (a0_5:ByteArray) (a0_6:Int) (A0_7:Option Addr) (c0_7:Nat) (l0_7:List (S33)) (A1:Option Addr) (c1:Nat) (l1:List (S30)) (r1:Bool) (r2:Int) (w:World) (hr0_7:Kd.C k33 w A0_7 l0_7.length l0_7) (hc0_7:l0_7.length≤c0_7) (hr1:Kd.C k30 w A1 l1.length l1) (hc1:l1.length≤c1) (h:zqi.f k a0_0 a0_1 a0_2 a0_3 a0_4 a0_5 a0_6 l0_7 l1=some (r1,r2)) :
  Calls Tryd.prog 12 #[.agg #[.int .i64 a0_0,.int .i64 a0_1,.int .i64 a0_2,.string a0_3,.string a0_4,.string a0_5,.int .i64 a0_6,.slice A0_7 l0_7.length c0_7],.slice A1 l1.length c1] w fun e w'=>e = .returned (.tuple #[.bool r1,.int .i64 r2])∧Below w.heap.size w w':=by
 have hu33:=Tryd.underlying33
 have HR0_7:=zq.mk hr0_7
 have HC0_7:=zq.mk hc0_7
 clear hr0_7 hc0_7
 have HR1:=zq.mk hr1
 have HC1:=zq.mk hc1
 clear hr1 hc1
 have HB:=zq.mk (Below.refl w.heap.size w)
 have H:((zqt.f a0_0 a0_1 a0_2 a0_3 a0_4 a0_5 a0_6 l0_7).bind fun t280=>(if t280=true then((qk.f k l1).bind fun t281=>((qk.f k l1).bind fun t282=>(some ((t281 == 0),t282)))) else ((zqk.f k a0_0 a0_1 a0_2 a0_3 a0_4 a0_5 a0_6 l0_7 (l1.length:Int)).bind fun t283=>(if t283=true then((qk.f k l1).bind fun t284=>(if t284=0 then((zqg.f k a0_0 a0_1 a0_2 a0_3 a0_4 a0_5 a0_6 l0_7).bind fun t285=>((qn.f k t285 l1).bind fun bt288=>(some (bt288.1,bt288.2)))) else (some (false,t284)))) else (some (false,4))))))=some (r1,r2):=h
 clear h
 replace H:=Option.bind_eq_some_iff.mp H
 obtain ⟨t280,A30,H⟩:=H
 replace H:(if t280=true then((qk.f k l1).bind fun t281=>((qk.f k l1).bind fun t282=>(some ((t281 == 0),t282)))) else ((zqk.f k a0_0 a0_1 a0_2 a0_3 a0_4 a0_5 a0_6 l0_7 (l1.length:Int)).bind fun t283=>(if t283=true then((qk.f k l1).bind fun t284=>(if t284=0 then((zqg.f k a0_0 a0_1 a0_2 a0_3 a0_4 a0_5 a0_6 l0_7).bind fun t285=>((qn.f k t285 l1).bind fun bt288=>(some (bt288.1,bt288.2)))) else (some (false,t284)))) else (some (false,4)))))=some (r1,r2):=H
 have A3:=zq.mk A30
 clear A30
 by_cases c4:t280=true
 ·subst c4
  rw [if_pos rfl] at H
  replace H:=Option.bind_eq_some_iff.mp H
  obtain ⟨t281,A50,H⟩:=H
  replace H:((qk.f k l1).bind fun t282=>(some ((t281 == 0),t282)))=some (r1,r2):=H
  have A5:=zq.mk A50
  clear A50
  replace H:=Option.bind_eq_some_iff.mp H
  obtain ⟨t282,A60,H⟩:=H
  replace H:(some ((t281 == 0),t282))=some (r1,r2):=H
  have A6:=zq.mk A60
  clear A60
  simp only [Option.some.injEq,Prod.mk.injEq] at H
  obtain ⟨rfl,rfl⟩:=H
  go_enter Tryd.func12,Tryd.ntmps12
  go_wp2_with (first|((with_reducible refine ql (N:=2) rfl ?_);refine qh ?hg (N:=2) ?hd (cs:=#[.int .i64 a0_0,.int .i64 a0_1,.int .i64 a0_2,.string a0_3,.string a0_4,.string a0_5,.int .i64 a0_6,.slice A0_7 l0_7.length c0_7]) (t:=33) ?hr ?_;(case hd=>rfl);(case hg=>rfl);(case hr=>first|(go_simp;done)|(go_simp;rfl));intro gb279 hg w7 hbox hb;have BK279:=zq.mk (hbox);have GW279:=zq.mk ((by rw [hg];exact(zv bw):w.heap.size≤gb279));have GE279:=zq.mk ((by rw [hg];exact(zv bw):w.heap.size≤gb279));replace HB:=zq.mk (zb bw hb);clear hb hbox hg;obtain ⟨hcz8_0,hcz8_1,hcz8_2,hcz8_3,hcz8_4,hcz8_5,hcz8_6,hcz8_7,hfz8_0,hfz8_1,hfz8_2,hfz8_3,hfz8_4,hfz8_5,hfz8_6,hfz8_7⟩:=zql BK279.out)|((with_reducible refine zs (f:=32) rfl ?_);refine qo (some 8) rfl rfl Tryd.func32 (by kernel_rfl) rfl #[.agg #[.int .i64 a0_0,.int .i64 a0_1,.int .i64 a0_2,.string a0_3,.string a0_4,.string a0_5,.int .i64 a0_6,.slice A0_7 l0_7.length c0_7]] rfl gs ?_;(with_reducible refine(zqt.calls a0_0 a0_1 a0_2 a0_3 a0_4 a0_5 a0_6 _ _ l0_7 true _ ?side1 ?side2 A3.out).mono ?_);(case side1=>exact Kd.cu (Kd.zqe HR0_7.out HB.out));(case side2=>exact HC0_7.out);rintro e w9 ⟨rfl,hb⟩;refine⟨_,rfl,?_⟩;replace BK279:=zq.mk (zf (g:=gb279) (o:=.cells #[.int .i64 a0_0,.int .i64 a0_1,.int .i64 a0_2,.string a0_3,.string a0_4,.string a0_5,.int .i64 a0_6,.slice A0_7 l0_7.length c0_7] 33 (0,0)) (up BK279.out) hb);replace HB:=zq.mk (zb bw hb);(try clear hb);(try clear hb2);(try clear hk);(try clear hi))|((with_reducible refine zs (f:=33) rfl ?_);refine qo (some 10) rfl rfl Tryd.func33 (by kernel_rfl) rfl #[.slice A1 l1.length c1] rfl gs ?_;(with_reducible refine(qk.calls k _ _ l1 t281 _ ?side1 ?side2 A5.out).mono ?_);(case side1=>exact Kd.cu (Kd.zqe HR1.out HB.out));(case side2=>exact HC1.out);rintro e w10 ⟨rfl,hb⟩;refine⟨_,rfl,?_⟩;replace BK279:=zq.mk (zf (g:=gb279) (o:=.cells #[.int .i64 a0_0,.int .i64 a0_1,.int .i64 a0_2,.string a0_3,.string a0_4,.string a0_5,.int .i64 a0_6,.slice A0_7 l0_7.length c0_7] 33 (0,0)) (up BK279.out) hb);replace HB:=zq.mk (zb bw hb);(try clear hb);(try clear hb2);(try clear hk);(try clear hi))|((with_reducible refine zs (f:=33) rfl ?_);refine qo (some 13) rfl rfl Tryd.func33 (by kernel_rfl) rfl #[.slice A1 l1.length c1] rfl gs ?_;(with_reducible refine(qk.calls k _ _ l1 t282 _ ?side1 ?side2 A6.out).mono ?_);(case side1=>exact Kd.cu (Kd.zqe HR1.out HB.out));(case side2=>exact HC1.out);rintro e w11 ⟨rfl,hb⟩;refine⟨_,rfl,?_⟩;replace BK279:=zq.mk (zf (g:=gb279) (o:=.cells #[.int .i64 a0_0,.int .i64 a0_1,.int .i64 a0_2,.string a0_3,.string a0_4,.string a0_5,.int .i64 a0_6,.slice A0_7 l0_7.length c0_7] 33 (0,0)) (up BK279.out) hb);replace HB:=zq.mk (zb bw hb);(try clear hb);(try clear hb2);(try clear hk);(try clear hi)))
  go_ret2
  exact⟨by first|rfl|(simp [zk,zx] <;> rfl)|(simp [*,zk,zx] <;> rfl),bw⟩
 replace c4:=Bool.eq_false_iff.mpr c4
 subst c4
 rw [if_neg (show ¬ (false=true) by decide)] at H
 replace H:=Option.bind_eq_some_iff.mp H
 obtain ⟨t283,A120,H⟩:=H
 replace H:(if t283=true then((qk.f k l1).bind fun t284=>(if t284=0 then((zqg.f k a0_0 a0_1 a0_2 a0_3 a0_4 a0_5 a0_6 l0_7).bind fun t285=>((qn.f k t285 l1).bind fun bt288=>(some (bt288.1,bt288.2)))) else (some (false,t284)))) else (some (false,4)))=some (r1,r2):=H
 have A12:=zq.mk A120
 clear A120
 by_cases c13:t283=true
 ·subst c13
  rw [if_pos rfl] at H
  replace H:=Option.bind_eq_some_iff.mp H
  obtain ⟨t284,A140,H⟩:=H
  replace H:(if t284=0 then((zqg.f k a0_0 a0_1 a0_2 a0_3 a0_4 a0_5 a0_6 l0_7).bind fun t285=>((qn.f k t285 l1).bind fun bt288=>(some (bt288.1,bt288.2)))) else (some (false,t284)))=some (r1,r2):=H
  have A14:=zq.mk A140
  clear A140
  by_cases c15:t284=0
  ·rw [if_pos c15] at H
   have c15b0:(t284 == 0)=true:=beq_iff_eq.mpr c15
   have c15b1:(t284 != 0)=false:=bne_eq_false_iff_eq.mpr c15
   clear c15
   replace H:=Option.bind_eq_some_iff.mp H
   obtain ⟨t285,A160,H⟩:=H
   replace H:((qn.f k t285 l1).bind fun bt288=>(some (bt288.1,bt288.2)))=some (r1,r2):=H
   have A16:=zq.mk A160
   clear A160
   replace H:=Option.bind_eq_some_iff.mp H
   obtain ⟨⟨t288,t289⟩,A170,H⟩:=H
   replace H:(some (t288,t289))=some (r1,r2):=H
   have A17:=zq.mk A170
   clear A170
   simp only [Option.some.injEq,Prod.mk.injEq] at H
   obtain ⟨rfl,rfl⟩:=H
   go_enter Tryd.func12,Tryd.ntmps12
   go_wp2_with (first|((with_reducible refine ql (N:=2) rfl ?_);refine qh ?hg (N:=2) ?hd (cs:=#[.int .i64 a0_0,.int .i64 a0_1,.int .i64 a0_2,.string a0_3,.string a0_4,.string a0_5,.int .i64 a0_6,.slice A0_7 l0_7.length c0_7]) (t:=33) ?hr ?_;(case hd=>rfl);(case hg=>rfl);(case hr=>first|(go_simp;done)|(go_simp;rfl));intro gb279 hg w18 hbox hb;have BK279:=zq.mk (hbox);have GW279:=zq.mk ((by rw [hg];exact(zv bw):w.heap.size≤gb279));have GE279:=zq.mk ((by rw [hg];exact(zv bw):w.heap.size≤gb279));replace HB:=zq.mk (zb bw hb);clear hb hbox hg;obtain ⟨hcz19_0,hcz19_1,hcz19_2,hcz19_3,hcz19_4,hcz19_5,hcz19_6,hcz19_7,hfz19_0,hfz19_1,hfz19_2,hfz19_3,hfz19_4,hfz19_5,hfz19_6,hfz19_7⟩:=zql BK279.out)|((with_reducible refine zs (f:=32) rfl ?_);refine qo (some 8) rfl rfl Tryd.func32 (by kernel_rfl) rfl #[.agg #[.int .i64 a0_0,.int .i64 a0_1,.int .i64 a0_2,.string a0_3,.string a0_4,.string a0_5,.int .i64 a0_6,.slice A0_7 l0_7.length c0_7]] rfl gs ?_;(with_reducible refine(zqt.calls a0_0 a0_1 a0_2 a0_3 a0_4 a0_5 a0_6 _ _ l0_7 false _ ?side1 ?side2 A3.out).mono ?_);(case side1=>exact Kd.cu (Kd.zqe HR0_7.out HB.out));(case side2=>exact HC0_7.out);rintro e w20 ⟨rfl,hb⟩;refine⟨_,rfl,?_⟩;replace BK279:=zq.mk (zf (g:=gb279) (o:=.cells #[.int .i64 a0_0,.int .i64 a0_1,.int .i64 a0_2,.string a0_3,.string a0_4,.string a0_5,.int .i64 a0_6,.slice A0_7 l0_7.length c0_7] 33 (0,0)) (up BK279.out) hb);replace HB:=zq.mk (zb bw hb);(try clear hb);(try clear hb2);(try clear hk);(try clear hi);obtain ⟨hcz21_0,hcz21_1,hcz21_2,hcz21_3,hcz21_4,hcz21_5,hcz21_6,hcz21_7,hfz21_0,hfz21_1,hfz21_2,hfz21_3,hfz21_4,hfz21_5,hfz21_6,hfz21_7⟩:=zql BK279.out)|((with_reducible refine zs (f:=34) rfl ?_);refine qo (some 17) rfl rfl Tryd.func34 (by kernel_rfl) rfl #[.agg #[.int .i64 a0_0,.int .i64 a0_1,.int .i64 a0_2,.string a0_3,.string a0_4,.string a0_5,.int .i64 a0_6,.slice A0_7 l0_7.length c0_7],.int .i64 (l1.length:Int)] rfl gs ?_;(with_reducible refine(zqk.calls k a0_0 a0_1 a0_2 a0_3 a0_4 a0_5 a0_6 _ _ l0_7 (l1.length:Int) true _ ?side1 ?side2 A12.out).mono ?_);(case side1=>exact Kd.cu (Kd.zqe HR0_7.out HB.out));(case side2=>exact HC0_7.out);rintro e w22 ⟨rfl,hb⟩;refine⟨_,rfl,?_⟩;replace BK279:=zq.mk (zf (g:=gb279) (o:=.cells #[.int .i64 a0_0,.int .i64 a0_1,.int .i64 a0_2,.string a0_3,.string a0_4,.string a0_5,.int .i64 a0_6,.slice A0_7 l0_7.length c0_7] 33 (0,0)) (up BK279.out) hb);replace HB:=zq.mk (zb bw hb);(try clear hb);(try clear hb2);(try clear hk);(try clear hi))|((with_reducible refine zs (f:=33) rfl ?_);refine qo (some 20) rfl rfl Tryd.func33 (by kernel_rfl) rfl #[.slice A1 l1.length c1] rfl gs ?_;(with_reducible refine(qk.calls k _ _ l1 t284 _ ?side1 ?side2 A14.out).mono ?_);(case side1=>exact Kd.cu (Kd.zqe HR1.out HB.out));(case side2=>exact HC1.out);rintro e w23 ⟨rfl,hb⟩;refine⟨_,rfl,?_⟩;replace BK279:=zq.mk (zf (g:=gb279) (o:=.cells #[.int .i64 a0_0,.int .i64 a0_1,.int .i64 a0_2,.string a0_3,.string a0_4,.string a0_5,.int .i64 a0_6,.slice A0_7 l0_7.length c0_7] 33 (0,0)) (up BK279.out) hb);replace HB:=zq.mk (zb bw hb);(try clear hb);(try clear hb2);(try clear hk);(try clear hi);obtain ⟨hcz24_0,hcz24_1,hcz24_2,hcz24_3,hcz24_4,hcz24_5,hcz24_6,hcz24_7,hfz24_0,hfz24_1,hfz24_2,hfz24_3,hfz24_4,hfz24_5,hfz24_6,hfz24_7⟩:=zql BK279.out)|((with_reducible refine zs (f:=36) rfl ?_);refine qo (some 25) rfl rfl Tryd.func36 (by kernel_rfl) rfl #[.agg #[.int .i64 a0_0,.int .i64 a0_1,.int .i64 a0_2,.string a0_3,.string a0_4,.string a0_5,.int .i64 a0_6,.slice A0_7 l0_7.length c0_7]] rfl gs ?_;(with_reducible refine(zqg.calls k a0_0 a0_1 a0_2 a0_3 a0_4 a0_5 a0_6 (fun k_=>k_<w.heap.size) _ _ l0_7 t285 _ ?side1 A16.out).mono ?_);(case side1=>exact Kd.V_mk HC0_7.out (Kd.zkr (Kd.C_F k33_heap HR0_7.out) bw));rintro e w25 ⟨v286,rfl,ho0,hb⟩;refine⟨_,rfl,?_⟩;have HO287:=zq.mk (Kd.zkq (Kd.zxf (ok':=fun k_=>k_≠gb279) ho0 (fun k_ hk_=>Or.elim hk_ (fun hs_=>fun e_=>Nat.not_le.2 hs_ (by rw [e_];exact GW279.out)) (fun hn_=>(Kd.freshB (g:=gb279) (o:=.cells #[.int .i64 a0_0,.int .i64 a0_1,.int .i64 a0_2,.string a0_3,.string a0_4,.string a0_5,.int .i64 a0_6,.slice A0_7 l0_7.length c0_7] 33 (0,0)) (up BK279.out) k_ hn_)))) (zv bw));replace BK279:=zq.mk (zf (g:=gb279) (o:=.cells #[.int .i64 a0_0,.int .i64 a0_1,.int .i64 a0_2,.string a0_3,.string a0_4,.string a0_5,.int .i64 a0_6,.slice A0_7 l0_7.length c0_7] 33 (0,0)) (up BK279.out) hb);replace HB:=zq.mk (zb bw hb);(try clear hb);(try clear hb2);(try clear hk);(try clear hi);(try clear ho0);obtain ⟨Ao26,co26,eo26⟩:=Kd.N_slice HO287.out;subst eo26)|((with_reducible refine zs (f:=35) rfl ?_);refine qo (some 27) rfl rfl Tryd.func35 (by kernel_rfl) rfl #[.slice Ao26 t285.length co26,.slice A1 l1.length c1] rfl gs ?_;(with_reducible refine(qn.calls k _ _ t285 _ _ l1 t288 t289 _ ?side1 ?side2 ?side3 ?side4 A17.out).mono ?_);(case side1=>exact Kd.cu (Kd.N_reads' HO287.out).2.2);(case side2=>exact(Kd.N_reads' HO287.out).2.1);(case side3=>exact Kd.cu (Kd.zqe HR1.out HB.out));(case side4=>exact HC1.out);rintro e w27 ⟨rfl,hb⟩;refine⟨_,rfl,?_⟩;replace HO287:=zq.mk (Kd.zx8 (Kd.nu HO287.out) hb);replace BK279:=zq.mk (zf (g:=gb279) (o:=.cells #[.int .i64 a0_0,.int .i64 a0_1,.int .i64 a0_2,.string a0_3,.string a0_4,.string a0_5,.int .i64 a0_6,.slice A0_7 l0_7.length c0_7] 33 (0,0)) (up BK279.out) hb);replace HB:=zq.mk (zb bw hb);(try clear hb);(try clear hb2);(try clear hk);(try clear hi)))
   go_ret2
   exact⟨by first|rfl|(simp [zk,zx] <;> rfl)|(simp [*,zk,zx] <;> rfl),bw⟩
  rw [if_neg c15] at H
  have c15b0:(t284 == 0)=false:=beq_eq_false_iff_ne.mpr c15
  have c15b1:(t284 != 0)=true:=bne_iff_ne.mpr c15
  simp only [Option.some.injEq,Prod.mk.injEq] at H
  obtain ⟨rfl,rfl⟩:=H
  go_enter Tryd.func12,Tryd.ntmps12
  go_wp2_with (first|((with_reducible refine ql (N:=2) rfl ?_);refine qh ?hg (N:=2) ?hd (cs:=#[.int .i64 a0_0,.int .i64 a0_1,.int .i64 a0_2,.string a0_3,.string a0_4,.string a0_5,.int .i64 a0_6,.slice A0_7 l0_7.length c0_7]) (t:=33) ?hr ?_;(case hd=>rfl);(case hg=>rfl);(case hr=>first|(go_simp;done)|(go_simp;rfl));intro gb279 hg w28 hbox hb;have BK279:=zq.mk (hbox);have GW279:=zq.mk ((by rw [hg];exact(zv bw):w.heap.size≤gb279));have GE279:=zq.mk ((by rw [hg];exact(zv bw):w.heap.size≤gb279));replace HB:=zq.mk (zb bw hb);clear hb hbox hg;obtain ⟨hcz29_0,hcz29_1,hcz29_2,hcz29_3,hcz29_4,hcz29_5,hcz29_6,hcz29_7,hfz29_0,hfz29_1,hfz29_2,hfz29_3,hfz29_4,hfz29_5,hfz29_6,hfz29_7⟩:=zql BK279.out)|((with_reducible refine zs (f:=32) rfl ?_);refine qo (some 8) rfl rfl Tryd.func32 (by kernel_rfl) rfl #[.agg #[.int .i64 a0_0,.int .i64 a0_1,.int .i64 a0_2,.string a0_3,.string a0_4,.string a0_5,.int .i64 a0_6,.slice A0_7 l0_7.length c0_7]] rfl gs ?_;(with_reducible refine(zqt.calls a0_0 a0_1 a0_2 a0_3 a0_4 a0_5 a0_6 _ _ l0_7 false _ ?side1 ?side2 A3.out).mono ?_);(case side1=>exact Kd.cu (Kd.zqe HR0_7.out HB.out));(case side2=>exact HC0_7.out);rintro e w30 ⟨rfl,hb⟩;refine⟨_,rfl,?_⟩;replace BK279:=zq.mk (zf (g:=gb279) (o:=.cells #[.int .i64 a0_0,.int .i64 a0_1,.int .i64 a0_2,.string a0_3,.string a0_4,.string a0_5,.int .i64 a0_6,.slice A0_7 l0_7.length c0_7] 33 (0,0)) (up BK279.out) hb);replace HB:=zq.mk (zb bw hb);(try clear hb);(try clear hb2);(try clear hk);(try clear hi);obtain ⟨hcz31_0,hcz31_1,hcz31_2,hcz31_3,hcz31_4,hcz31_5,hcz31_6,hcz31_7,hfz31_0,hfz31_1,hfz31_2,hfz31_3,hfz31_4,hfz31_5,hfz31_6,hfz31_7⟩:=zql BK279.out)|((with_reducible refine zs (f:=34) rfl ?_);refine qo (some 17) rfl rfl Tryd.func34 (by kernel_rfl) rfl #[.agg #[.int .i64 a0_0,.int .i64 a0_1,.int .i64 a0_2,.string a0_3,.string a0_4,.string a0_5,.int .i64 a0_6,.slice A0_7 l0_7.length c0_7],.int .i64 (l1.length:Int)] rfl gs ?_;(with_reducible refine(zqk.calls k a0_0 a0_1 a0_2 a0_3 a0_4 a0_5 a0_6 _ _ l0_7 (l1.length:Int) true _ ?side1 ?side2 A12.out).mono ?_);(case side1=>exact Kd.cu (Kd.zqe HR0_7.out HB.out));(case side2=>exact HC0_7.out);rintro e w32 ⟨rfl,hb⟩;refine⟨_,rfl,?_⟩;replace BK279:=zq.mk (zf (g:=gb279) (o:=.cells #[.int .i64 a0_0,.int .i64 a0_1,.int .i64 a0_2,.string a0_3,.string a0_4,.string a0_5,.int .i64 a0_6,.slice A0_7 l0_7.length c0_7] 33 (0,0)) (up BK279.out) hb);replace HB:=zq.mk (zb bw hb);(try clear hb);(try clear hb2);(try clear hk);(try clear hi))|((with_reducible refine zs (f:=33) rfl ?_);refine qo (some 20) rfl rfl Tryd.func33 (by kernel_rfl) rfl #[.slice A1 l1.length c1] rfl gs ?_;(with_reducible refine(qk.calls k _ _ l1 t284 _ ?side1 ?side2 A14.out).mono ?_);(case side1=>exact Kd.cu (Kd.zqe HR1.out HB.out));(case side2=>exact HC1.out);rintro e w33 ⟨rfl,hb⟩;refine⟨_,rfl,?_⟩;replace BK279:=zq.mk (zf (g:=gb279) (o:=.cells #[.int .i64 a0_0,.int .i64 a0_1,.int .i64 a0_2,.string a0_3,.string a0_4,.string a0_5,.int .i64 a0_6,.slice A0_7 l0_7.length c0_7] 33 (0,0)) (up BK279.out) hb);replace HB:=zq.mk (zb bw hb);(try clear hb);(try clear hb2);(try clear hk);(try clear hi)))
  go_ret2
  exact⟨by first|rfl|(simp [zk,zx] <;> rfl)|(simp [*,zk,zx] <;> rfl),bw⟩
 replace c13:=Bool.eq_false_iff.mpr c13
 subst c13
 rw [if_neg (show ¬ (false=true) by decide)] at H
 simp only [Option.some.injEq,Prod.mk.injEq] at H
 obtain ⟨rfl,rfl⟩:=H
 go_enter Tryd.func12,Tryd.ntmps12
 go_wp2_with (first|((with_reducible refine ql (N:=2) rfl ?_);refine qh ?hg (N:=2) ?hd (cs:=#[.int .i64 a0_0,.int .i64 a0_1,.int .i64 a0_2,.string a0_3,.string a0_4,.string a0_5,.int .i64 a0_6,.slice A0_7 l0_7.length c0_7]) (t:=33) ?hr ?_;(case hd=>rfl);(case hg=>rfl);(case hr=>first|(go_simp;done)|(go_simp;rfl));intro gb279 hg w34 hbox hb;have BK279:=zq.mk (hbox);have GW279:=zq.mk ((by rw [hg];exact(zv bw):w.heap.size≤gb279));have GE279:=zq.mk ((by rw [hg];exact(zv bw):w.heap.size≤gb279));replace HB:=zq.mk (zb bw hb);clear hb hbox hg;obtain ⟨hcz35_0,hcz35_1,hcz35_2,hcz35_3,hcz35_4,hcz35_5,hcz35_6,hcz35_7,hfz35_0,hfz35_1,hfz35_2,hfz35_3,hfz35_4,hfz35_5,hfz35_6,hfz35_7⟩:=zql BK279.out)|((with_reducible refine zs (f:=32) rfl ?_);refine qo (some 8) rfl rfl Tryd.func32 (by kernel_rfl) rfl #[.agg #[.int .i64 a0_0,.int .i64 a0_1,.int .i64 a0_2,.string a0_3,.string a0_4,.string a0_5,.int .i64 a0_6,.slice A0_7 l0_7.length c0_7]] rfl gs ?_;(with_reducible refine(zqt.calls a0_0 a0_1 a0_2 a0_3 a0_4 a0_5 a0_6 _ _ l0_7 false _ ?side1 ?side2 A3.out).mono ?_);(case side1=>exact Kd.cu (Kd.zqe HR0_7.out HB.out));(case side2=>exact HC0_7.out);rintro e w36 ⟨rfl,hb⟩;refine⟨_,rfl,?_⟩;replace BK279:=zq.mk (zf (g:=gb279) (o:=.cells #[.int .i64 a0_0,.int .i64 a0_1,.int .i64 a0_2,.string a0_3,.string a0_4,.string a0_5,.int .i64 a0_6,.slice A0_7 l0_7.length c0_7] 33 (0,0)) (up BK279.out) hb);replace HB:=zq.mk (zb bw hb);(try clear hb);(try clear hb2);(try clear hk);(try clear hi);obtain ⟨hcz37_0,hcz37_1,hcz37_2,hcz37_3,hcz37_4,hcz37_5,hcz37_6,hcz37_7,hfz37_0,hfz37_1,hfz37_2,hfz37_3,hfz37_4,hfz37_5,hfz37_6,hfz37_7⟩:=zql BK279.out)|((with_reducible refine zs (f:=34) rfl ?_);refine qo (some 17) rfl rfl Tryd.func34 (by kernel_rfl) rfl #[.agg #[.int .i64 a0_0,.int .i64 a0_1,.int .i64 a0_2,.string a0_3,.string a0_4,.string a0_5,.int .i64 a0_6,.slice A0_7 l0_7.length c0_7],.int .i64 (l1.length:Int)] rfl gs ?_;(with_reducible refine(zqk.calls k a0_0 a0_1 a0_2 a0_3 a0_4 a0_5 a0_6 _ _ l0_7 (l1.length:Int) false _ ?side1 ?side2 A12.out).mono ?_);(case side1=>exact Kd.cu (Kd.zqe HR0_7.out HB.out));(case side2=>exact HC0_7.out);rintro e w38 ⟨rfl,hb⟩;refine⟨_,rfl,?_⟩;replace BK279:=zq.mk (zf (g:=gb279) (o:=.cells #[.int .i64 a0_0,.int .i64 a0_1,.int .i64 a0_2,.string a0_3,.string a0_4,.string a0_5,.int .i64 a0_6,.slice A0_7 l0_7.length c0_7] 33 (0,0)) (up BK279.out) hb);replace HB:=zq.mk (zb bw hb);(try clear hb);(try clear hb2);(try clear hk);(try clear hi)))
 go_ret2
 exact⟨by first|rfl|(simp [zk,zx] <;> rfl)|(simp [*,zk,zx] <;> rfl),bw⟩

/-! ### commonholdlaw_EvalHolds: function 4 -/
def commonholdlaw_EvalHolds.f (k:Nat) (a0_0:Int) (a0_1:Int) (a0_2:Int) (a0_3:ByteArray) (a0_4:ByteArray) (a0_5:ByteArray) (a0_6:Int) (l0_7:List (S33)) (l1:List (S30)):Option (Bool):=(zqu.f l1).bind fun t291=>((zi.f k a0_0 a0_1 a0_2 a0_3 a0_4 a0_5 a0_6 l0_7 t291).bind fun bt294=>((zqi.f k a0_0 a0_1 a0_2 a0_3 a0_4 a0_5 a0_6 l0_7 l1).bind fun bt296=>(if(bt294.1 == bt296.1)=true then(some (bt294.2 == bt296.2)) else (some false))))
theorem commonholdlaw_EvalHolds.mono:∀ a0 a1 a2 a3 a4 a5 a6 a7 a8 k,LeO (commonholdlaw_EvalHolds.f k a0 a1 a2 a3 a4 a5 a6 a7 a8) (commonholdlaw_EvalHolds.f (k+1) a0 a1 a2 a3 a4 a5 a6 a7 a8):=by
 intro a0 a1 a2 a3 a4 a5 a6 a7 a8 k
 unfold commonholdlaw_EvalHolds.f
 repeat' first
   | (with_reducible first|exact zqi.mono _ _ _ _ _ _ _ _ _ _|exact zi.mono _ _ _ _ _ _ _ _ _ _|exact LeO.refl _|exact LeO.none _|refine LeO.ite ?_ ?_|refine LeO.bind ?_ (fun _=>?_))
   | exact zqi.mono _ _ _ _ _ _ _ _ _ _
   | exact zi.mono _ _ _ _ _ _ _ _ _ _
   | exact LeO.none _
   | refine LeO.ite ?_ ?_
   | refine LeO.bind ?_ (fun _=>?_)
def commonholdlaw_EvalHolds.T1:Bool × List (List Nat × List Nat):=(true, [([], []),([], []),([1], [1]),([0,2,2], [0,2]),([3], [3]),([4], [4]),([4], [4]),([5,3,0,1,2,3,4,5], [5]),([6,7,0,1,2,3,4,5,6,7], [6])])
def commonholdlaw_EvalHolds.B1:List Nat := [0,0,2,7,15,31,31,63,255]
theorem commonholdlaw_EvalHolds.tab1:rtab .any (opsOf Tryd.f4 1)=commonholdlaw_EvalHolds.T1:=by kernel_rfl
theorem commonholdlaw_EvalHolds.bits1:zx1 commonholdlaw_EvalHolds.T1.2 commonholdlaw_EvalHolds.B1=true:=by kernel_rfl
set_option maxHeartbeats 8000000 in
set_option maxRecDepth 100000 in
theorem commonholdlaw_EvalHolds.calls (k:Nat) (a0_0:Int) (a0_1:Int) (a0_2:Int) (a0_3:ByteArray) (a0_4:ByteArray) (a0_5:ByteArray) (a0_6:Int) (A0_7:Option Addr) (c0_7:Nat) (l0_7:List (S33)) (A1:Option Addr) (c1:Nat) (l1:List (S30)) (r:Bool) (w:World) (hr0_7:Kd.C k33 w A0_7 l0_7.length l0_7) (hc0_7:l0_7.length≤c0_7) (hr1:Kd.C k30 w A1 l1.length l1) (hc1:l1.length≤c1) (hL:LD w) (h:commonholdlaw_EvalHolds.f k a0_0 a0_1 a0_2 a0_3 a0_4 a0_5 a0_6 l0_7 l1=some r) :
  Calls Tryd.prog 4 #[.agg #[.int .i64 a0_0,.int .i64 a0_1,.int .i64 a0_2,.string a0_3,.string a0_4,.string a0_5,.int .i64 a0_6,.slice A0_7 l0_7.length c0_7],.slice A1 l1.length c1] w fun e w'=>e = .returned (.bool r)∧Below w.heap.size w w':=by
 have hu33:=Tryd.underlying33
 have HLD:=zq.mk hL
 clear hL
 have HR0_7:=zq.mk hr0_7
 have HC0_7:=zq.mk hc0_7
 clear hr0_7 hc0_7
 have HR1:=zq.mk hr1
 have HC1:=zq.mk hc1
 clear hr1 hc1
 have HB:=zq.mk (Below.refl w.heap.size w)
 have H:((zqu.f l1).bind fun t291=>((zi.f k a0_0 a0_1 a0_2 a0_3 a0_4 a0_5 a0_6 l0_7 t291).bind fun bt294=>((zqi.f k a0_0 a0_1 a0_2 a0_3 a0_4 a0_5 a0_6 l0_7 l1).bind fun bt296=>(if(bt294.1 == bt296.1)=true then(some (bt294.2 == bt296.2)) else (some false)))))=some r:=h
 clear h
 replace H:=Option.bind_eq_some_iff.mp H
 obtain ⟨t291,A30,H⟩:=H
 replace H:((zi.f k a0_0 a0_1 a0_2 a0_3 a0_4 a0_5 a0_6 l0_7 t291).bind fun bt294=>((zqi.f k a0_0 a0_1 a0_2 a0_3 a0_4 a0_5 a0_6 l0_7 l1).bind fun bt296=>(if(bt294.1 == bt296.1)=true then(some (bt294.2 == bt296.2)) else (some false))))=some r:=H
 have A3:=zq.mk A30
 clear A30
 replace H:=Option.bind_eq_some_iff.mp H
 obtain ⟨⟨t294,t295⟩,A40,H⟩:=H
 replace H:((zqi.f k a0_0 a0_1 a0_2 a0_3 a0_4 a0_5 a0_6 l0_7 l1).bind fun bt296=>(if(t294 == bt296.1)=true then(some (t295 == bt296.2)) else (some false)))=some r:=H
 have A4:=zq.mk A40
 clear A40
 replace H:=Option.bind_eq_some_iff.mp H
 obtain ⟨⟨t296,t297⟩,A50,H⟩:=H
 replace H:(if(t294 == t296)=true then(some (t295 == t297)) else (some false))=some r:=H
 have A5:=zq.mk A50
 clear A50
 by_cases c6:(t294 == t296)=true
 ·rw [if_pos c6] at H
  have c6b0:(t294 == t296)=true:=c6
  (try(have c6b1:decide (t294=t296)=true:=by simpa using c6))
  (try(have c6b2:(t294 == t296)=true:=by simpa using c6))
  clear c6
  obtain rfl:=Option.some.inj H
  go_enter Tryd.func4,Tryd.ntmps4
  try go_wp2_with (first|((with_reducible refine ql (N:=2) rfl ?_);refine qh ?hg (N:=2) ?hd (cs:=#[.int .i64 a0_0,.int .i64 a0_1,.int .i64 a0_2,.string a0_3,.string a0_4,.string a0_5,.int .i64 a0_6,.slice A0_7 l0_7.length c0_7]) (t:=33) ?hr ?_;(case hd=>rfl);(case hg=>rfl);(case hr=>first|(go_simp;done)|(go_simp;rfl));intro gb290 hg w7 hbox hb;have BK290:=zq.mk (hbox);have GW290:=zq.mk ((by rw [hg];exact(zv bw):w.heap.size≤gb290));have GE290:=zq.mk ((by rw [hg];exact(zv bw):w.heap.size≤gb290));replace HB:=zq.mk (zb bw hb);clear hb hbox hg))
  have n0_:=zq.mk (zt BK290.out)
  have n1_:=zq.mk (qe HB.out)
  clear BK290
  clear HB
  have BK290:=n0_
  have HB:=n1_
  clear n0_ n1_
  refine start_ (n:=9) (S:=fun w'=>w'.cell? ⟨gb290,0,none⟩=some (.int .i64 a0_0)∧w'.cell? ⟨gb290,1,none⟩=some (.int .i64 a0_1)∧w'.cell? ⟨gb290,2,none⟩=some (.int .i64 a0_2)∧w'.cell? ⟨gb290,3,none⟩=some (.string a0_3)∧w'.cell? ⟨gb290,4,none⟩=some (.string a0_4)∧w'.cell? ⟨gb290,5,none⟩=some (.string a0_5)∧w'.cell? ⟨gb290,6,none⟩=some (.int .i64 a0_6)∧w'.cell? ⟨gb290,7,none⟩=some (.slice A0_7 l0_7.length c0_7)) (ds := []) #[false,false,false,false,false,false,false,false,false] (by kernel_rfl) rfl rfl ⟨(zo BK290.out 0).trans rfl,(zo BK290.out 1).trans rfl,(zo BK290.out 2).trans rfl,(zo BK290.out 3).trans rfl,(zo BK290.out 4).trans rfl,(zo BK290.out 5).trans rfl,(zo BK290.out 6).trans rfl,(zo BK290.out 7).trans rfl⟩ (fun hHeld=>?_);refine zkg commonholdlaw_EvalHolds.tab1 commonholdlaw_EvalHolds.bits1 (fun HT_ HW_=>?_)
  generalize w7.drew=w8 at BK290 HB hHeld ⊢
  refine zj9 (i:=1) (N:=some 11) (v:=?_) (a':=?_) #[false,true,false,false,false,false,false,false,false] rfl rfl (zjw HT_.out (by kernel_rfl)) (fun _ _ _ h=>h) (Or.inl ⟨by rfl,?_⟩) ?_ ?_
  rotate_left
  ·intro w'
   go_simp
   with_reducible rfl
  rotate_left
  ·simp only [Act.put,List.setIfInBounds_toArray,List.set_cons_zero,List.set_cons_succ,zqw,zqx]
   rfl
  refine take_ (i:=0) (N:=some 10) (v:=?_) (a':=?_) #[true,true,false,false,false,false,false,false,false] rfl rfl (zxk HT_.out HW_.out (by kernel_rfl)) (fun _ _ _ h=>h) (Or.inl ⟨by rfl,?_⟩) hHeld ?_ ?_
  rotate_left
  ·rintro w' ⟨s0,s1,s2,s3,s4,s5,s6,s7⟩
   go_simp
   with_reducible rfl
  rotate_left
  ·simp only [Act.put,List.setIfInBounds_toArray,List.set_cons_zero,List.set_cons_succ,zqw,zqx]
   rfl
  refine one_ (i:=2) (N:=some 12) #[true,true,true,false,false,false,false,false,false] rfl rfl (zkl HT_.out (by kernel_rfl)) (by decide) (fun K hK=>?_)
  refine goes_ Tryd.func11 (by kernel_rfl) rfl #[.slice A1 l1.length c1] (by rfl) rfl rfl gs ?_
  with_reducible refine(zqu.calls _ _ l1 t291 _ ?side1 ?side2 A3.out).mono ?_
  (case side1=>exact Kd.cu (Kd.zqe HR1.out HB.out))
  (case side2=>exact HC1.out)
  rintro e w9 ⟨v292,rfl,ho0,hb⟩
  refine⟨_,rfl,?_⟩
  have n0_:=zq.mk (Kd.zkp ho0 (zv bw))
  have n1_:=zq.mk (zf (g:=gb290) (o:=.cells #[.int .i64 a0_0,.int .i64 a0_1,.int .i64 a0_2,.string a0_3,.string a0_4,.string a0_5,.int .i64 a0_6,.slice A0_7 l0_7.length c0_7] 33 (0,0)) (up BK290.out) hb)
  have n2_:=zq.mk (zb bw hb)
  clear BK290
  clear HB
  have HO293:=n0_
  have BK290:=n1_
  have HB:=n2_
  clear n0_ n1_ n2_
  (try clear hb)
  (try clear hb2)
  (try clear hk)
  (try clear hi)
  (try clear ho0)
  obtain ⟨Ao10,co10,eo10⟩:=Kd.R_slice HO293.out
  (first|subst eo10|(injection eo10 with f1_ f2_ f3_;have f4_:=f1_.symm;have f5_:=f3_.symm;clear f1_ f2_ f3_;subst f4_;subst f5_))
  refine hK.out _ _ ⟨(zo BK290.out 0).trans rfl,(zo BK290.out 1).trans rfl,(zo BK290.out 2).trans rfl,(zo BK290.out 3).trans rfl,(zo BK290.out 4).trans rfl,(zo BK290.out 5).trans rfl,(zo BK290.out 6).trans rfl,(zo BK290.out 7).trans rfl⟩ (fun hHeld=>?_)
  clear hK K
  refine norm_ (a':=?_) ?_ ?_
  rotate_left
  ·show Act.put _ (some 12) _=_
   simp only [Act.put,List.setIfInBounds_toArray,List.set_cons_zero,List.set_cons_succ,zqw,zqx]
   rfl
  refine one_ (i:=3) (N:=some 13) #[true,true,true,true,false,false,false,false,false] rfl rfl (zkl HT_.out (by kernel_rfl)) (by decide) (fun K hK=>?_)
  refine goes_ Tryd.func10 (by kernel_rfl) rfl #[.agg #[.int .i64 a0_0,.int .i64 a0_1,.int .i64 a0_2,.string a0_3,.string a0_4,.string a0_5,.int .i64 a0_6,.slice A0_7 l0_7.length c0_7],.slice Ao10 t291.length co10] (by rfl) rfl rfl gs ?_
  with_reducible refine(zi.calls k a0_0 a0_1 a0_2 a0_3 a0_4 a0_5 a0_6 _ _ l0_7 _ _ t291 t294 t295 _ ?side1 ?side2 ?side3 ?side4 ?side5 A4.out).mono ?_
  (case side1=>exact Kd.cu (Kd.zqe HR0_7.out HB.out))
  (case side2=>exact HC0_7.out)
  (case side3=>exact Kd.cu (Kd.zj5 HO293.out).2.2)
  (case side4=>exact(Kd.zj5 HO293.out).2.1)
  (case side5=>exact LD.below HLD.out (by first|(with_reducible exact Below.refl _ _)|((repeat(first|(with_reducible exact Below.refl _ _)|(with_reducible apply zm)|(with_reducible apply qd)|(with_reducible apply qe)));done)|exact bw))
  rintro e w11 ⟨rfl,hb⟩
  refine⟨_,rfl,?_⟩
  have n0_:=zq.mk (Kd.zj4 (Kd.ru HO293.out) hb)
  have n1_:=zq.mk (zf (g:=gb290) (o:=.cells #[.int .i64 a0_0,.int .i64 a0_1,.int .i64 a0_2,.string a0_3,.string a0_4,.string a0_5,.int .i64 a0_6,.slice A0_7 l0_7.length c0_7] 33 (0,0)) (up BK290.out) hb)
  have n2_:=zq.mk (zb bw hb)
  clear HO293
  clear BK290
  clear HB
  have HO293:=n0_
  have BK290:=n1_
  have HB:=n2_
  clear n0_ n1_ n2_
  (try clear hb)
  (try clear hb2)
  (try clear hk)
  (try clear hi)
  refine hK.out _ _ ⟨(zo BK290.out 0).trans rfl,(zo BK290.out 1).trans rfl,(zo BK290.out 2).trans rfl,(zo BK290.out 3).trans rfl,(zo BK290.out 4).trans rfl,(zo BK290.out 5).trans rfl,(zo BK290.out 6).trans rfl,(zo BK290.out 7).trans rfl⟩ (fun hHeld=>?_)
  clear hK K
  refine norm_ (a':=?_) ?_ ?_
  rotate_left
  ·show Act.put _ (some 13) _=_
   simp only [Act.put,List.setIfInBounds_toArray,List.set_cons_zero,List.set_cons_succ,zqw,zqx]
   rfl
  refine zj9 (i:=4) (N:=some 9) (v:=?_) (a':=?_) #[true,true,true,true,true,false,false,false,false] rfl rfl (zjw HT_.out (by kernel_rfl)) (fun _ _ _ h=>h) (Or.inl ⟨by rfl,?_⟩) ?_ ?_
  rotate_left
  ·intro w'
   go_simp
   with_reducible rfl
  rotate_left
  ·simp only [Act.put,List.setIfInBounds_toArray,List.set_cons_zero,List.set_cons_succ,zqw,zqx]
   rfl
  refine zj9 (i:=5) (N:=some 14) (v:=?_) (a':=?_) #[true,true,true,true,true,true,false,false,false] rfl rfl (zjw HT_.out (by kernel_rfl)) (fun _ _ _ h=>h) (Or.inl ⟨by rfl,?_⟩) ?_ ?_
  rotate_left
  ·intro w'
   go_simp
   with_reducible rfl
  rotate_left
  ·simp only [Act.put,List.setIfInBounds_toArray,List.set_cons_zero,List.set_cons_succ,zqw,zqx]
   rfl
  refine zj9 (i:=6) (N:=some 15) (v:=?_) (a':=?_) #[true,true,true,true,true,true,true,false,false] rfl rfl (zjw HT_.out (by kernel_rfl)) (fun _ _ _ h=>h) (Or.inl ⟨by rfl,?_⟩) ?_ ?_
  rotate_left
  ·intro w'
   go_simp
   with_reducible rfl
  rotate_left
  ·simp only [Act.put,List.setIfInBounds_toArray,List.set_cons_zero,List.set_cons_succ,zqw,zqx]
   rfl
  refine zj9 (i:=7) (N:=some 5) (v:=?_) (a':=?_) #[true,true,true,true,true,true,true,true,false] rfl rfl (zjw HT_.out (by kernel_rfl)) (fun _ _ _ h=>h) (Or.inl ⟨by rfl,?_⟩) ?_ ?_
  rotate_left
  ·intro w'
   go_simp
   with_reducible rfl
  rotate_left
  ·simp only [Act.put,List.setIfInBounds_toArray,List.set_cons_zero,List.set_cons_succ,zqw,zqx]
   rfl
  refine zj9 (i:=8) (N:=some 6) (v:=?_) (a':=?_) #[true,true,true,true,true,true,true,true,true] rfl rfl (zjw HT_.out (by kernel_rfl)) (fun _ _ _ h=>h) (Or.inl ⟨by rfl,?_⟩) ?_ ?_
  rotate_left
  ·intro w'
   go_simp
   with_reducible rfl
  rotate_left
  ·simp only [Act.put,List.setIfInBounds_toArray,List.set_cons_zero,List.set_cons_succ,zqw,zqx]
   rfl
  refine done_ (done_of HT_.out (by kernel_rfl)) ?_
  obtain ⟨hcz12_0,hcz12_1,hcz12_2,hcz12_3,hcz12_4,hcz12_5,hcz12_6,hcz12_7,hfz12_0,hfz12_1,hfz12_2,hfz12_3,hfz12_4,hfz12_5,hfz12_6,hfz12_7⟩:=zql BK290.out
  try go_wp2_with (first|((with_reducible refine zs (f:=12) rfl ?_);refine qo (some 19) rfl rfl Tryd.func12 (by kernel_rfl) rfl #[.agg #[.int .i64 a0_0,.int .i64 a0_1,.int .i64 a0_2,.string a0_3,.string a0_4,.string a0_5,.int .i64 a0_6,.slice A0_7 l0_7.length c0_7],.slice A1 l1.length c1] rfl gs ?_;(with_reducible refine(zqi.calls k a0_0 a0_1 a0_2 a0_3 a0_4 a0_5 a0_6 _ _ l0_7 _ _ l1 t296 t297 _ ?side1 ?side2 ?side3 ?side4 A5.out).mono ?_);(case side1=>exact Kd.cu (Kd.zqe HR0_7.out HB.out));(case side2=>exact HC0_7.out);(case side3=>exact Kd.cu (Kd.zqe HR1.out HB.out));(case side4=>exact HC1.out);rintro e w13 ⟨rfl,hb⟩;refine⟨_,rfl,?_⟩;replace HO293:=zq.mk (Kd.zj4 (Kd.ru HO293.out) hb);replace BK290:=zq.mk (zf (g:=gb290) (o:=.cells #[.int .i64 a0_0,.int .i64 a0_1,.int .i64 a0_2,.string a0_3,.string a0_4,.string a0_5,.int .i64 a0_6,.slice A0_7 l0_7.length c0_7] 33 (0,0)) (up BK290.out) hb);replace HB:=zq.mk (zb bw hb);(try clear hb);(try clear hb2);(try clear hk);(try clear hi)))
  go_ret
  exact⟨by first|rfl|(simp [zk,zx] <;> rfl)|(simp [*,zk,zx] <;> rfl),bw⟩
 rw [if_neg c6] at H
 have c6b0:(t294 == t296)=false:=by simpa using c6
 (try(have c6b1:decide (t294=t296)=false:=by simpa using c6))
 (try(have c6b2:(t294 == t296)=false:=by simpa using c6))
 (try(have c6b3:¬ (t294=t296):=by simpa using c6))
 clear c6
 obtain rfl:=Option.some.inj H
 go_enter Tryd.func4,Tryd.ntmps4
 try go_wp2_with (first|((with_reducible refine ql (N:=2) rfl ?_);refine qh ?hg (N:=2) ?hd (cs:=#[.int .i64 a0_0,.int .i64 a0_1,.int .i64 a0_2,.string a0_3,.string a0_4,.string a0_5,.int .i64 a0_6,.slice A0_7 l0_7.length c0_7]) (t:=33) ?hr ?_;(case hd=>rfl);(case hg=>rfl);(case hr=>first|(go_simp;done)|(go_simp;rfl));intro gb290 hg w14 hbox hb;have BK290:=zq.mk (hbox);have GW290:=zq.mk ((by rw [hg];exact(zv bw):w.heap.size≤gb290));have GE290:=zq.mk ((by rw [hg];exact(zv bw):w.heap.size≤gb290));replace HB:=zq.mk (zb bw hb);clear hb hbox hg))
 have n0_:=zq.mk (zt BK290.out)
 have n1_:=zq.mk (qe HB.out)
 clear BK290
 clear HB
 have BK290:=n0_
 have HB:=n1_
 clear n0_ n1_
 refine start_ (n:=9) (S:=fun w'=>w'.cell? ⟨gb290,0,none⟩=some (.int .i64 a0_0)∧w'.cell? ⟨gb290,1,none⟩=some (.int .i64 a0_1)∧w'.cell? ⟨gb290,2,none⟩=some (.int .i64 a0_2)∧w'.cell? ⟨gb290,3,none⟩=some (.string a0_3)∧w'.cell? ⟨gb290,4,none⟩=some (.string a0_4)∧w'.cell? ⟨gb290,5,none⟩=some (.string a0_5)∧w'.cell? ⟨gb290,6,none⟩=some (.int .i64 a0_6)∧w'.cell? ⟨gb290,7,none⟩=some (.slice A0_7 l0_7.length c0_7)) (ds := []) #[false,false,false,false,false,false,false,false,false] (by kernel_rfl) rfl rfl ⟨(zo BK290.out 0).trans rfl,(zo BK290.out 1).trans rfl,(zo BK290.out 2).trans rfl,(zo BK290.out 3).trans rfl,(zo BK290.out 4).trans rfl,(zo BK290.out 5).trans rfl,(zo BK290.out 6).trans rfl,(zo BK290.out 7).trans rfl⟩ (fun hHeld=>?_);refine zkg commonholdlaw_EvalHolds.tab1 commonholdlaw_EvalHolds.bits1 (fun HT_ HW_=>?_)
 generalize w14.drew=w15 at BK290 HB hHeld ⊢
 refine zj9 (i:=1) (N:=some 11) (v:=?_) (a':=?_) #[false,true,false,false,false,false,false,false,false] rfl rfl (zjw HT_.out (by kernel_rfl)) (fun _ _ _ h=>h) (Or.inl ⟨by rfl,?_⟩) ?_ ?_
 rotate_left
 ·intro w'
  go_simp
  with_reducible rfl
 rotate_left
 ·simp only [Act.put,List.setIfInBounds_toArray,List.set_cons_zero,List.set_cons_succ,zqw,zqx]
  rfl
 refine take_ (i:=0) (N:=some 10) (v:=?_) (a':=?_) #[true,true,false,false,false,false,false,false,false] rfl rfl (zxk HT_.out HW_.out (by kernel_rfl)) (fun _ _ _ h=>h) (Or.inl ⟨by rfl,?_⟩) hHeld ?_ ?_
 rotate_left
 ·rintro w' ⟨s0,s1,s2,s3,s4,s5,s6,s7⟩
  go_simp
  with_reducible rfl
 rotate_left
 ·simp only [Act.put,List.setIfInBounds_toArray,List.set_cons_zero,List.set_cons_succ,zqw,zqx]
  rfl
 refine one_ (i:=2) (N:=some 12) #[true,true,true,false,false,false,false,false,false] rfl rfl (zkl HT_.out (by kernel_rfl)) (by decide) (fun K hK=>?_)
 refine goes_ Tryd.func11 (by kernel_rfl) rfl #[.slice A1 l1.length c1] (by rfl) rfl rfl gs ?_
 with_reducible refine(zqu.calls _ _ l1 t291 _ ?side1 ?side2 A3.out).mono ?_
 (case side1=>exact Kd.cu (Kd.zqe HR1.out HB.out))
 (case side2=>exact HC1.out)
 rintro e w16 ⟨v292,rfl,ho0,hb⟩
 refine⟨_,rfl,?_⟩
 have n0_:=zq.mk (Kd.zkp ho0 (zv bw))
 have n1_:=zq.mk (zf (g:=gb290) (o:=.cells #[.int .i64 a0_0,.int .i64 a0_1,.int .i64 a0_2,.string a0_3,.string a0_4,.string a0_5,.int .i64 a0_6,.slice A0_7 l0_7.length c0_7] 33 (0,0)) (up BK290.out) hb)
 have n2_:=zq.mk (zb bw hb)
 clear BK290
 clear HB
 have HO293:=n0_
 have BK290:=n1_
 have HB:=n2_
 clear n0_ n1_ n2_
 (try clear hb)
 (try clear hb2)
 (try clear hk)
 (try clear hi)
 (try clear ho0)
 obtain ⟨Ao17,co17,eo17⟩:=Kd.R_slice HO293.out
 (first|subst eo17|(injection eo17 with f1_ f2_ f3_;have f4_:=f1_.symm;have f5_:=f3_.symm;clear f1_ f2_ f3_;subst f4_;subst f5_))
 refine hK.out _ _ ⟨(zo BK290.out 0).trans rfl,(zo BK290.out 1).trans rfl,(zo BK290.out 2).trans rfl,(zo BK290.out 3).trans rfl,(zo BK290.out 4).trans rfl,(zo BK290.out 5).trans rfl,(zo BK290.out 6).trans rfl,(zo BK290.out 7).trans rfl⟩ (fun hHeld=>?_)
 clear hK K
 refine norm_ (a':=?_) ?_ ?_
 rotate_left
 ·show Act.put _ (some 12) _=_
  simp only [Act.put,List.setIfInBounds_toArray,List.set_cons_zero,List.set_cons_succ,zqw,zqx]
  rfl
 refine one_ (i:=3) (N:=some 13) #[true,true,true,true,false,false,false,false,false] rfl rfl (zkl HT_.out (by kernel_rfl)) (by decide) (fun K hK=>?_)
 refine goes_ Tryd.func10 (by kernel_rfl) rfl #[.agg #[.int .i64 a0_0,.int .i64 a0_1,.int .i64 a0_2,.string a0_3,.string a0_4,.string a0_5,.int .i64 a0_6,.slice A0_7 l0_7.length c0_7],.slice Ao17 t291.length co17] (by rfl) rfl rfl gs ?_
 with_reducible refine(zi.calls k a0_0 a0_1 a0_2 a0_3 a0_4 a0_5 a0_6 _ _ l0_7 _ _ t291 t294 t295 _ ?side1 ?side2 ?side3 ?side4 ?side5 A4.out).mono ?_
 (case side1=>exact Kd.cu (Kd.zqe HR0_7.out HB.out))
 (case side2=>exact HC0_7.out)
 (case side3=>exact Kd.cu (Kd.zj5 HO293.out).2.2)
 (case side4=>exact(Kd.zj5 HO293.out).2.1)
 (case side5=>exact LD.below HLD.out (by first|(with_reducible exact Below.refl _ _)|((repeat(first|(with_reducible exact Below.refl _ _)|(with_reducible apply zm)|(with_reducible apply qd)|(with_reducible apply qe)));done)|exact bw))
 rintro e w18 ⟨rfl,hb⟩
 refine⟨_,rfl,?_⟩
 have n0_:=zq.mk (Kd.zj4 (Kd.ru HO293.out) hb)
 have n1_:=zq.mk (zf (g:=gb290) (o:=.cells #[.int .i64 a0_0,.int .i64 a0_1,.int .i64 a0_2,.string a0_3,.string a0_4,.string a0_5,.int .i64 a0_6,.slice A0_7 l0_7.length c0_7] 33 (0,0)) (up BK290.out) hb)
 have n2_:=zq.mk (zb bw hb)
 clear HO293
 clear BK290
 clear HB
 have HO293:=n0_
 have BK290:=n1_
 have HB:=n2_
 clear n0_ n1_ n2_
 (try clear hb)
 (try clear hb2)
 (try clear hk)
 (try clear hi)
 refine hK.out _ _ ⟨(zo BK290.out 0).trans rfl,(zo BK290.out 1).trans rfl,(zo BK290.out 2).trans rfl,(zo BK290.out 3).trans rfl,(zo BK290.out 4).trans rfl,(zo BK290.out 5).trans rfl,(zo BK290.out 6).trans rfl,(zo BK290.out 7).trans rfl⟩ (fun hHeld=>?_)
 clear hK K
 refine norm_ (a':=?_) ?_ ?_
 rotate_left
 ·show Act.put _ (some 13) _=_
  simp only [Act.put,List.setIfInBounds_toArray,List.set_cons_zero,List.set_cons_succ,zqw,zqx]
  rfl
 refine zj9 (i:=4) (N:=some 9) (v:=?_) (a':=?_) #[true,true,true,true,true,false,false,false,false] rfl rfl (zjw HT_.out (by kernel_rfl)) (fun _ _ _ h=>h) (Or.inl ⟨by rfl,?_⟩) ?_ ?_
 rotate_left
 ·intro w'
  go_simp
  with_reducible rfl
 rotate_left
 ·simp only [Act.put,List.setIfInBounds_toArray,List.set_cons_zero,List.set_cons_succ,zqw,zqx]
  rfl
 refine zj9 (i:=5) (N:=some 14) (v:=?_) (a':=?_) #[true,true,true,true,true,true,false,false,false] rfl rfl (zjw HT_.out (by kernel_rfl)) (fun _ _ _ h=>h) (Or.inl ⟨by rfl,?_⟩) ?_ ?_
 rotate_left
 ·intro w'
  go_simp
  with_reducible rfl
 rotate_left
 ·simp only [Act.put,List.setIfInBounds_toArray,List.set_cons_zero,List.set_cons_succ,zqw,zqx]
  rfl
 refine zj9 (i:=6) (N:=some 15) (v:=?_) (a':=?_) #[true,true,true,true,true,true,true,false,false] rfl rfl (zjw HT_.out (by kernel_rfl)) (fun _ _ _ h=>h) (Or.inl ⟨by rfl,?_⟩) ?_ ?_
 rotate_left
 ·intro w'
  go_simp
  with_reducible rfl
 rotate_left
 ·simp only [Act.put,List.setIfInBounds_toArray,List.set_cons_zero,List.set_cons_succ,zqw,zqx]
  rfl
 refine zj9 (i:=7) (N:=some 5) (v:=?_) (a':=?_) #[true,true,true,true,true,true,true,true,false] rfl rfl (zjw HT_.out (by kernel_rfl)) (fun _ _ _ h=>h) (Or.inl ⟨by rfl,?_⟩) ?_ ?_
 rotate_left
 ·intro w'
  go_simp
  with_reducible rfl
 rotate_left
 ·simp only [Act.put,List.setIfInBounds_toArray,List.set_cons_zero,List.set_cons_succ,zqw,zqx]
  rfl
 refine zj9 (i:=8) (N:=some 6) (v:=?_) (a':=?_) #[true,true,true,true,true,true,true,true,true] rfl rfl (zjw HT_.out (by kernel_rfl)) (fun _ _ _ h=>h) (Or.inl ⟨by rfl,?_⟩) ?_ ?_
 rotate_left
 ·intro w'
  go_simp
  with_reducible rfl
 rotate_left
 ·simp only [Act.put,List.setIfInBounds_toArray,List.set_cons_zero,List.set_cons_succ,zqw,zqx]
  rfl
 refine done_ (done_of HT_.out (by kernel_rfl)) ?_
 obtain ⟨hcz19_0,hcz19_1,hcz19_2,hcz19_3,hcz19_4,hcz19_5,hcz19_6,hcz19_7,hfz19_0,hfz19_1,hfz19_2,hfz19_3,hfz19_4,hfz19_5,hfz19_6,hfz19_7⟩:=zql BK290.out
 try go_wp2_with (first|((with_reducible refine zs (f:=12) rfl ?_);refine qo (some 19) rfl rfl Tryd.func12 (by kernel_rfl) rfl #[.agg #[.int .i64 a0_0,.int .i64 a0_1,.int .i64 a0_2,.string a0_3,.string a0_4,.string a0_5,.int .i64 a0_6,.slice A0_7 l0_7.length c0_7],.slice A1 l1.length c1] rfl gs ?_;(with_reducible refine(zqi.calls k a0_0 a0_1 a0_2 a0_3 a0_4 a0_5 a0_6 _ _ l0_7 _ _ l1 t296 t297 _ ?side1 ?side2 ?side3 ?side4 A5.out).mono ?_);(case side1=>exact Kd.cu (Kd.zqe HR0_7.out HB.out));(case side2=>exact HC0_7.out);(case side3=>exact Kd.cu (Kd.zqe HR1.out HB.out));(case side4=>exact HC1.out);rintro e w20 ⟨rfl,hb⟩;refine⟨_,rfl,?_⟩;replace HO293:=zq.mk (Kd.zj4 (Kd.ru HO293.out) hb);replace BK290:=zq.mk (zf (g:=gb290) (o:=.cells #[.int .i64 a0_0,.int .i64 a0_1,.int .i64 a0_2,.string a0_3,.string a0_4,.string a0_5,.int .i64 a0_6,.slice A0_7 l0_7.length c0_7] 33 (0,0)) (up BK290.out) hb);replace HB:=zq.mk (zb bw hb);(try clear hb);(try clear hb2);(try clear hk);(try clear hi)))
 go_ret
 exact⟨by first|rfl|(simp [zk,zx] <;> rfl)|(simp [*,zk,zx] <;> rfl),bw⟩

def gd30 (x_:S30):Prop:=(fun n_:Int=>(Lit.int .i64 n_).wf=true) x_.f0∧(fun n_:Int=>(Lit.int .i64 n_).wf=true) x_.f1∧(fun s_:ByteArray=>s_.size≤9223372036854775807) x_.f2
def zd30 (x_:S30):Prop:=(fun _:Int=>True) x_.f0∧(fun _:Int=>True) x_.f1∧(fun s_:ByteArray=>s_.size≤140737488351232) x_.f2
def bd30 (x_:S30):Nat:=((fun _:Int=>1) x_.f0+((fun _:Int=>1) x_.f1+(fun s_:ByteArray=>s_.size+1) x_.f2))+1
inductive gd33:S33→Prop
 | mk (x_:S33):(fun n_:Int=>(Lit.int .i64 n_).wf=true) x_.f0→gd30 x_.f1→(fun s_:ByteArray=>s_.size≤9223372036854775807) x_.f2→(fun s_:ByteArray=>s_.size≤9223372036854775807) x_.f3→(fun n_:Int=>(Lit.int .i64 n_).wf=true) x_.f4→x_.f5.length≤9223372036854775807→(∀ y_ ∈ x_.f5,gd33 y_)→gd33 x_
inductive zd33:S33→Prop
 | mk (x_:S33):(fun _:Int=>True) x_.f0→zd30 x_.f1→(fun s_:ByteArray=>s_.size≤140737488351232) x_.f2→(fun s_:ByteArray=>s_.size≤140737488351232) x_.f3→(fun _:Int=>True) x_.f4→x_.f5.length * 104≤140737488351232→(∀ y_ ∈ x_.f5,zd33 y_)→zd33 x_
def bd33 (x_:S33):Nat:=((fun _:Int=>1) x_.f0+(bd30 x_.f1+((fun s_:ByteArray=>s_.size+1) x_.f2+((fun s_:ByteArray=>s_.size+1) x_.f3+((fun _:Int=>1) x_.f4+((x_.f5.attach.map fun y_=>bd33 y_.1).sum+1))))))+1
termination_by SizeOf.sizeOf x_
decreasing_by all_goals (have h_:=List.sizeOf_lt_of_mem y_.2;cases x_;simp at h_ ⊢;omega)
theorem bd33_eq (x_:S33):bd33 x_=((fun _:Int=>1) x_.f0+(bd30 x_.f1+((fun s_:ByteArray=>s_.size+1) x_.f2+((fun s_:ByteArray=>s_.size+1) x_.f3+((fun _:Int=>1) x_.f4+((x_.f5.map bd33).sum+1))))))+1:=by
 rw [bd33]
 simp
def commonholdlaw_EvalHolds.Pure:Prop := ∀ (a0:S33) (a1:List (S30)),gd33 a0→(fun xs_:List (S30)=>xs_.length≤9223372036854775807 ∧ ∀ x_ ∈ xs_,gd30 x_) a1→zd33 a0→(fun xs_:List (S30)=>xs_.length * 32≤140737488351232 ∧ ∀ x_ ∈ xs_,zd30 x_) a1 → ∃ k,commonholdlaw_EvalHolds.f k a0.f0 a0.f1.f0 a0.f1.f1 a0.f1.f2 a0.f2 a0.f3 a0.f4 a0.f5 a1=some true

end Go.Proofs.YtmfpaeajibeikaaDoor.PEvalHolds
