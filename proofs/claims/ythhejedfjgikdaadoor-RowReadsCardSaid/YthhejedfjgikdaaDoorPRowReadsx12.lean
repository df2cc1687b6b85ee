-- Written by wip/pp of this repo (over the kit's print, with additions of this session); Lean checks every line.
import Derived.Test.YthhejedfjgikdaaDoorPRowReadsx11
namespace Go.Proofs.YthhejedfjgikdaaDoor.PRowReads
open Go.RowKit Go.Proofs.YthhejedfjgikdaaDoorW.PrintWords Go.Proofs.YthhejedfjgikdaaDoorW.PrintLast Go.Proofs.YthhejedfjgikdaaDoorW.PrintMore
attribute [local go_sem] zjo zjm zjw zjv zja zq9 zjn zjl   -- for this text's walks alone
set_option linter.unusedVariables false
set_option linter.unusedSimpArgs false

/-! ### zxn: function 13 -/
def zxn.f (k:Nat) (l0:List (S61)) (a1:Int) (l2_0:List Int) (l2_1:List Int):Option ((List (S38)) × Int):=(zxb.f k l0 a1).bind fun bt249=>(if bt249.2.2.2.2=0 then((zjg.f k bt249.1 bt249.2.1 bt249.2.2.1 bt249.2.2.2.1 a1 l2_0 l2_1).bind fun bt261=>(some (bt261.1,bt261.2))) else (some (([]:List (S38)),bt249.2.2.2.2)))
theorem zxn.mono:∀ a0 a1 a2 a3 k,LeO (zxn.f k a0 a1 a2 a3) (zxn.f (k+1) a0 a1 a2 a3):=by
 intro a0 a1 a2 a3 k
 unfold zxn.f
 repeat' first
   | (with_reducible first|exact zjg.mono _ _ _ _ _ _ _ _|exact zxb.mono _ _ _|exact LeO.refl _|exact LeO.none _|refine LeO.ite ?_ ?_|refine LeO.bind ?_ (fun _=>?_))
   | exact zjg.mono _ _ _ _ _ _ _ _
   | exact zxb.mono _ _ _
   | exact LeO.none _
   | refine LeO.ite ?_ ?_
   | refine LeO.bind ?_ (fun _=>?_)
set_option maxHeartbeats 8000000 in
set_option maxRecDepth 100000 in
theorem zxn.calls (k:Nat) (A0:Option Addr) (c0:Nat) (l0:List (S61)) (a1:Int) (A2_0:Option Addr) (c2_0:Nat) (l2_0:List Int) (A2_1:Option Addr) (c2_1:Nat) (l2_1:List Int) (r1:List (S38)) (r2:Int) (w:World) (hr0:Kd.C k61 w A0 l0.length l0) (hc0:l0.length≤c0) (hr2_0:Kd.C (Kd.int .u8) w A2_0 l2_0.length l2_0) (hc2_0:l2_0.length≤c2_0) (hr2_1:Kd.C (Kd.int .u8) w A2_1 l2_1.length l2_1) (hc2_1:l2_1.length≤c2_1) (hL:LD w) (h:zxn.f k l0 a1 l2_0 l2_1=some (r1,r2)) :
  Calls Tryd.prog 13 #[.slice A0 l0.length c0,.int .i64 a1,.agg #[.slice A2_0 l2_0.length c2_0,.slice A2_1 l2_1.length c2_1]] w fun e w' => ∃ v0_:Value,e = .returned (.tuple #[v0_,.int .i64 r2])∧Kd.R k38 38 w' w.heap.size (fun _=>True) v0_ r1∧Below w.heap.size w w':=by
 have hu32:=Tryd.underlying32
 have hu61:=Tryd.underlying61
 have HLD:=zq.mk hL
 clear hL
 have HR0:=zq.mk hr0
 have HC0:=zq.mk hc0
 clear hr0 hc0
 have HR2_0:=zq.mk hr2_0
 have HC2_0:=zq.mk hc2_0
 clear hr2_0 hc2_0
 have HR2_1:=zq.mk hr2_1
 have HC2_1:=zq.mk hc2_1
 clear hr2_1 hc2_1
 have HB:=zq.mk (Below.refl w.heap.size w)
 have H:((zxb.f k l0 a1).bind fun bt249=>(if bt249.2.2.2.2=0 then((zjg.f k bt249.1 bt249.2.1 bt249.2.2.1 bt249.2.2.2.1 a1 l2_0 l2_1).bind fun bt261=>(some (bt261.1,bt261.2))) else (some (([]:List (S38)),bt249.2.2.2.2))))=some (r1,r2):=h
 clear h
 replace H:=Option.bind_eq_some_iff.mp H
 obtain ⟨⟨t249,t250,t253,t256,t259⟩,A40,H⟩:=H
 replace H:(if t259=0 then((zjg.f k t249 t250 t253 t256 a1 l2_0 l2_1).bind fun bt261=>(some (bt261.1,bt261.2))) else (some (([]:List (S38)),t259)))=some (r1,r2):=H
 have A4:=zq.mk A40
 clear A40
 by_cases c5:t259=0
 ·rw [if_pos c5] at H
  have c5b0:(t259 == 0)=true:=beq_iff_eq.mpr c5
  have c5b1:(t259 != 0)=false:=bne_eq_false_iff_eq.mpr c5
  clear c5
  replace H:=Option.bind_eq_some_iff.mp H
  obtain ⟨⟨t261,t264⟩,A60,H⟩:=H
  replace H:(some (t261,t264))=some (r1,r2):=H
  have A6:=zq.mk A60
  clear A60
  simp only [Option.some.injEq,Prod.mk.injEq] at H
  obtain ⟨rfl,rfl⟩:=H
  go_enter Tryd.func13,Tryd.ntmps13
  go_wp2_with (first|((with_reducible refine qr (N:=5) rfl ?_);refine qm ?hg (N:=5) ?hd (cs:=#[.slice A2_0 l2_0.length c2_0,.slice A2_1 l2_1.length c2_1]) (t:=32) ?hr ?_;(case hd=>rfl);(case hg=>rfl);(case hr=>first|(go_simp;done)|(go_simp;rfl));intro gb248 hg w7 hbox hb;have BK248:=zq.mk (hbox);have GW248:=zq.mk ((by rw [hg];exact(zw bw):w.heap.size≤gb248));have GE248:=zq.mk ((by rw [hg];exact(zw bw):w.heap.size≤gb248));replace HB:=zq.mk (zn bw hb);clear hb hbox hg)|((with_reducible refine qh (f:=28) rfl ?_);refine zqn (some 13) rfl rfl Tryd.func28 (by kernel_rfl) rfl #[.slice A0 l0.length c0,.int .i64 a1] rfl gs ?_;(with_reducible refine(zxb.calls k (fun k_=>k_<w.heap.size) _ _ l0 a1 t249 t250 t253 t256 t259 _ ?side1 ?side2 A4.out).mono ?_);(case side1=>exact Kd.V_mk HC0.out (Kd.zvp (Kd.C_F k61_heap HR0.out) bw));(case side2=>exact LD.below HLD.out (by first|(with_reducible exact Below.refl _ _)|((repeat(first|(with_reducible exact Below.refl _ _)|(with_reducible apply zl)|(with_reducible apply zr)|(with_reducible apply qx)));done)|exact bw));rintro e w8 ⟨v251,v254,v257,rfl,ho0,ho1,ho2,hb⟩;refine⟨_,rfl,?_⟩;have HO252:=zq.mk (Kd.zvo (Kd.zjy (ok':=fun k_=>k_≠gb248) ho0 (fun k_ hk_=>Or.elim hk_ (fun hs_=>fun e_=>Nat.not_le.2 hs_ (by rw [e_];exact GW248.out)) (fun hn_=>(Kd.zkg (g:=gb248) (o:=.cells #[.slice A2_0 l2_0.length c2_0,.slice A2_1 l2_1.length c2_1] 32 (0,0)) (up BK248.out) k_ hn_)))) (zw bw));have HO255:=zq.mk (Kd.zvo (Kd.zjy (ok':=fun k_=>k_≠gb248) ho1 (fun k_ hk_=>Or.elim hk_ (fun hs_=>fun e_=>Nat.not_le.2 hs_ (by rw [e_];exact GW248.out)) (fun hn_=>(Kd.zkg (g:=gb248) (o:=.cells #[.slice A2_0 l2_0.length c2_0,.slice A2_1 l2_1.length c2_1] 32 (0,0)) (up BK248.out) k_ hn_)))) (zw bw));have HO258:=zq.mk (Kd.zvo (Kd.zjy (ok':=fun k_=>k_≠gb248) ho2 (fun k_ hk_=>Or.elim hk_ (fun hs_=>fun e_=>Nat.not_le.2 hs_ (by rw [e_];exact GW248.out)) (fun hn_=>(Kd.zkg (g:=gb248) (o:=.cells #[.slice A2_0 l2_0.length c2_0,.slice A2_1 l2_1.length c2_1] 32 (0,0)) (up BK248.out) k_ hn_)))) (zw bw));replace BK248:=zq.mk (ze (g:=gb248) (o:=.cells #[.slice A2_0 l2_0.length c2_0,.slice A2_1 l2_1.length c2_1] 32 (0,0)) (up BK248.out) hb);replace HB:=zq.mk (zn bw hb);(try clear hb);(try clear hb2);(try clear hk);(try clear hi);(try clear ho0);(try clear ho1);(try clear ho2))|((with_reducible refine qr (N:=8) rfl ?_);refine qm ?hg (N:=8) ?hd (cs:=#[.string (⟨#[]⟩:ByteArray),.slice none 0 0,.slice none 0 0,.slice none 0 0]) (t:=61) ?hr ?_;(case hd=>rfl);(case hg=>rfl);(case hr=>first|(go_simp;done)|(go_simp;rfl));intro gb260 hg w9 hbox hb;replace HO252:=zq.mk (Kd.zjz (Kd.zj5 (Kd.vu HO252.out) gb260 (Nat.le_of_eq hg.symm)) hb);replace HO255:=zq.mk (Kd.zjz (Kd.zj5 (Kd.vu HO255.out) gb260 (Nat.le_of_eq hg.symm)) hb);replace HO258:=zq.mk (Kd.zjz (Kd.zj5 (Kd.vu HO258.out) gb260 (Nat.le_of_eq hg.symm)) hb);have BK260:=zq.mk (hbox);have GW260:=zq.mk ((by rw [hg];exact(zw bw):w.heap.size≤gb260));have GE260:=zq.mk ((by rw [hg];exact(zw bw):w.heap.size≤gb260));replace HB:=zq.mk (zn bw hb);have NB248_260:=zq.mk ((by rw [hg];exact Nat.ne_of_lt (zq3 (g:=gb248) (o:=.cells #[.slice A2_0 l2_0.length c2_0,.slice A2_1 l2_1.length c2_1] 32 (0,0)) (up BK248.out)):gb248≠gb260));have NB260_248:=zq.mk ((by rw [hg];exact Nat.ne_of_gt (zq3 (g:=gb248) (o:=.cells #[.slice A2_0 l2_0.length c2_0,.slice A2_1 l2_1.length c2_1] 32 (0,0)) (up BK248.out)):gb260≠gb248));replace BK248:=zq.mk (ze (g:=gb248) (o:=.cells #[.slice A2_0 l2_0.length c2_0,.slice A2_1 l2_1.length c2_1] 32 (0,0)) (up BK248.out) hb);clear hb hbox hg;have hnb10:=NB260_248.out;have hnc10:=NB248_260.out;obtain ⟨hcz11_0,hcz11_1,hcz11_2,hcz11_3,hfz11_0,hfz11_1,hfz11_2,hfz11_3⟩:=zqv BK260.out;obtain ⟨Ao12,co12,eo12⟩:=Kd.zvn HO252.out;subst eo12;obtain ⟨Ao13,co13,eo13⟩:=Kd.zvn HO255.out;subst eo13;obtain ⟨Ao14,co14,eo14⟩:=Kd.zvn HO258.out;subst eo14)|((with_reducible refine zvk (t:=61) (p:=8) rfl ?_);refine zk5 (t:=61) (p:=8) (v:=?vo_w15) (w1:=((((w9.setCell ⟨gb260,0,none⟩ (.string t249)).setCell ⟨gb260,1,none⟩ (.slice Ao12 t250.length co12)).setCell ⟨gb260,2,none⟩ (.slice Ao13 t253.length co13)).setCell ⟨gb260,3,none⟩ (.slice Ao14 t256.length co14))) ?hg ?ho ?hn ?hr ?_;(case ho=>rfl);(case hg=>rfl);(case hn=>rfl);(case hr=>first|(go_simp;done)|(go_simp;rfl));intro w15 hw;have n0_:zq (Kd.V k90 90 w15 w.heap.size (fun k_=>k_≠gb248∧k_≠gb260) (.slice Ao12 t250.length co12) t250):=⟨(by rw [hw];exact(Kd.vu (Kd.zjy (Kd.zx8 (p:=⟨gb260,3,none⟩) (Kd.zx8 (p:=⟨gb260,2,none⟩) (Kd.zx8 (p:=⟨gb260,1,none⟩) (Kd.zx8 (p:=⟨gb260,0,none⟩) (Kd.zjy HO252.out (fun k_ hk=>(⟨hk,hk.2⟩:_∧k_≠gb260))) (fun _ hk=>hk.2) (.string t249)) (fun _ hk=>hk.2) (.slice Ao12 t250.length co12)) (fun _ hk=>hk.2) (.slice Ao13 t253.length co13)) (fun _ hk=>hk.2) (.slice Ao14 t256.length co14)) (fun _ hk=>⟨hk.1.1,hk.1.2⟩))))⟩;have n1_:zq (Kd.V (Kd.int .i64) 3 w15 w.heap.size (fun k_=>k_≠gb248∧k_≠gb260) (.slice Ao13 t253.length co13) t253):=⟨(by rw [hw];exact(Kd.vu (Kd.zjy (Kd.zx8 (p:=⟨gb260,3,none⟩) (Kd.zx8 (p:=⟨gb260,2,none⟩) (Kd.zx8 (p:=⟨gb260,1,none⟩) (Kd.zx8 (p:=⟨gb260,0,none⟩) (Kd.zjy HO255.out (fun k_ hk=>(⟨hk,hk.2⟩:_∧k_≠gb260))) (fun _ hk=>hk.2) (.string t249)) (fun _ hk=>hk.2) (.slice Ao12 t250.length co12)) (fun _ hk=>hk.2) (.slice Ao13 t253.length co13)) (fun _ hk=>hk.2) (.slice Ao14 t256.length co14)) (fun _ hk=>⟨hk.1.1,hk.1.2⟩))))⟩;have n2_:zq (Kd.V k96 96 w15 w.heap.size (fun k_=>k_≠gb248∧k_≠gb260) (.slice Ao14 t256.length co14) t256):=⟨(by rw [hw];exact(Kd.vu (Kd.zjy (Kd.zx8 (p:=⟨gb260,3,none⟩) (Kd.zx8 (p:=⟨gb260,2,none⟩) (Kd.zx8 (p:=⟨gb260,1,none⟩) (Kd.zx8 (p:=⟨gb260,0,none⟩) (Kd.zjy HO258.out (fun k_ hk=>(⟨hk,hk.2⟩:_∧k_≠gb260))) (fun _ hk=>hk.2) (.string t249)) (fun _ hk=>hk.2) (.slice Ao12 t250.length co12)) (fun _ hk=>hk.2) (.slice Ao13 t253.length co13)) (fun _ hk=>hk.2) (.slice Ao14 t256.length co14)) (fun _ hk=>⟨hk.1.1,hk.1.2⟩))))⟩;have n3_:zq (w15.heap[gb248]? = some (.cells #[.slice A2_0 l2_0.length c2_0,.slice A2_1 l2_1.length c2_1] 32 (0,0))):=⟨(by rw [hw];exact(by(with_reducible repeat(first|refine zz ?_ _|refine zk ?_|refine zj ?_ _));refine zqf ?_ NB248_260.out _;(with_reducible repeat(first|refine zz ?_ _|refine zk ?_|refine zj ?_ _));refine zqf ?_ NB248_260.out _;(with_reducible repeat(first|refine zz ?_ _|refine zk ?_|refine zj ?_ _));refine zqf ?_ NB248_260.out _;(with_reducible repeat(first|refine zz ?_ _|refine zk ?_|refine zj ?_ _));refine zqf ?_ NB248_260.out _;(with_reducible repeat(first|refine zz ?_ _|refine zk ?_|refine zj ?_ _));exact BK248.out))⟩;have n4_:zq (w15.heap[gb260]? = some (.cells #[.string t249,.slice Ao12 t250.length co12,.slice Ao13 t253.length co13,.slice Ao14 t256.length co14] 61 (0,0))):=⟨(by rw [hw];exact(by(with_reducible repeat(first|refine zz ?_ _|refine zk ?_|refine zj ?_ _));refine qw (cs:=#[.string t249,.slice Ao12 t250.length co12,.slice Ao13 t253.length co13,.slice none 0 0]) ?_ 3 _ rfl;(with_reducible repeat(first|refine zz ?_ _|refine zk ?_|refine zj ?_ _));refine qw (cs:=#[.string t249,.slice Ao12 t250.length co12,.slice none 0 0,.slice none 0 0]) ?_ 2 _ rfl;(with_reducible repeat(first|refine zz ?_ _|refine zk ?_|refine zj ?_ _));refine qw (cs:=#[.string t249,.slice none 0 0,.slice none 0 0,.slice none 0 0]) ?_ 1 _ rfl;(with_reducible repeat(first|refine zz ?_ _|refine zk ?_|refine zj ?_ _));refine qw (cs:=#[.string (⟨#[]⟩:ByteArray),.slice none 0 0,.slice none 0 0,.slice none 0 0]) ?_ 0 _ rfl;(with_reducible repeat(first|refine zz ?_ _|refine zk ?_|refine zj ?_ _));exact BK260.out))⟩;have n5_:zq (Below w.heap.size w w15):=⟨(by rw [hw];exact bw)⟩;clear hw HO252 HO255 HO258 BK248 BK260 HB;have HO252:=n0_;have HO255:=n1_;have HO258:=n2_;have BK248:=n3_;have BK260:=n4_;have HB:=n5_;clear n0_ n1_ n2_ n3_ n4_ n5_;obtain ⟨hcz16_0,hcz16_1,hcz16_2,hcz16_3,hfz16_0,hfz16_1,hfz16_2,hfz16_3⟩:=zqv BK260.out;obtain ⟨hcz17_0,hcz17_1,hfz17_0,hfz17_1⟩:=zji BK248.out)|((with_reducible refine qh (f:=35) rfl ?_);refine zqn (some 22) rfl rfl Tryd.func35 (by kernel_rfl) rfl #[.agg #[.string t249,.slice Ao12 t250.length co12,.slice Ao13 t253.length co13,.slice Ao14 t256.length co14],.int .i64 a1,.agg #[.slice A2_0 l2_0.length c2_0,.slice A2_1 l2_1.length c2_1]] rfl gs ?_;(with_reducible refine(zjg.calls k t249 _ _ t250 (fun k_=>(k_≠gb248∧k_≠gb260)) _ _ t253 _ _ t256 a1 _ _ l2_0 _ _ l2_1 t261 t264 _ ?side1 ?side2 ?side3 ?side4 ?side5 ?side6 ?side7 ?side8 ?side9 ?side10 A6.out).mono ?_);(case side1=>exact Kd.cu (Kd.zjt HO252.out).2.2);(case side2=>exact(Kd.zjt HO252.out).2.1);(case side3=>exact HO255.out);(case side4=>exact Kd.cu (Kd.zjt HO258.out).2.2);(case side5=>exact(Kd.zjt HO258.out).2.1);(case side6=>exact Kd.cu (Kd.qu HR2_0.out HB.out));(case side7=>exact HC2_0.out);(case side8=>exact Kd.cu (Kd.qu HR2_1.out HB.out));(case side9=>exact HC2_1.out);(case side10=>exact LD.below HLD.out (by first|(with_reducible exact Below.refl _ _)|((repeat(first|(with_reducible exact Below.refl _ _)|(with_reducible apply zl)|(with_reducible apply zr)|(with_reducible apply qx)));done)|exact bw));rintro e w18 ⟨v262,rfl,ho0,hb⟩;refine⟨_,rfl,?_⟩;replace HO252:=zq.mk (Kd.zx9 (Kd.vu HO252.out) (Kd.zxh ho0) hb);replace HO255:=zq.mk (Kd.zx9 (Kd.vu HO255.out) (Kd.zxh ho0) hb);replace HO258:=zq.mk (Kd.zx9 (Kd.vu HO258.out) (Kd.zxh ho0) hb);have HO263:=zq.mk (Kd.zjs (Kd.zqy (ok':=fun k_=>True) ho0 (fun _ hk_=>trivial)) (zw bw));replace BK248:=zq.mk (ze (g:=gb248) (o:=.cells #[.slice A2_0 l2_0.length c2_0,.slice A2_1 l2_1.length c2_1] 32 (0,0)) (up BK248.out) hb);replace BK260:=zq.mk (ze (g:=gb260) (o:=.cells #[.string t249,.slice Ao12 t250.length co12,.slice Ao13 t253.length co13,.slice Ao14 t256.length co14] 61 (0,0)) (up BK260.out) hb);replace HB:=zq.mk (zn bw hb);(try clear hb);(try clear hb2);(try clear hk);(try clear hi);(try clear ho0)))
  go_ret2
  exact⟨_,by first|rfl|(simp [zg,zy] <;> rfl)|(simp [*,zg,zy] <;> rfl),by(with_reducible repeat(first|apply Kd.zq5|apply Kd.zq7|apply Kd.zjf));exact HO263.out,bw⟩
 rw [if_neg c5] at H
 have c5b0:(t259 == 0)=false:=beq_eq_false_iff_ne.mpr c5
 have c5b1:(t259 != 0)=true:=bne_iff_ne.mpr c5
 simp only [Option.some.injEq,Prod.mk.injEq] at H
 obtain ⟨rfl,rfl⟩:=H
 go_enter Tryd.func13,Tryd.ntmps13
 go_wp2_with (first|((with_reducible refine qr (N:=5) rfl ?_);refine qm ?hg (N:=5) ?hd (cs:=#[.slice A2_0 l2_0.length c2_0,.slice A2_1 l2_1.length c2_1]) (t:=32) ?hr ?_;(case hd=>rfl);(case hg=>rfl);(case hr=>first|(go_simp;done)|(go_simp;rfl));intro gb248 hg w19 hbox hb;have BK248:=zq.mk (hbox);have GW248:=zq.mk ((by rw [hg];exact(zw bw):w.heap.size≤gb248));have GE248:=zq.mk ((by rw [hg];exact(zw bw):w.heap.size≤gb248));replace HB:=zq.mk (zn bw hb);clear hb hbox hg)|((with_reducible refine qh (f:=28) rfl ?_);refine zqn (some 13) rfl rfl Tryd.func28 (by kernel_rfl) rfl #[.slice A0 l0.length c0,.int .i64 a1] rfl gs ?_;(with_reducible refine(zxb.calls k (fun k_=>k_<w.heap.size) _ _ l0 a1 t249 t250 t253 t256 t259 _ ?side1 ?side2 A4.out).mono ?_);(case side1=>exact Kd.V_mk HC0.out (Kd.zvp (Kd.C_F k61_heap HR0.out) bw));(case side2=>exact LD.below HLD.out (by first|(with_reducible exact Below.refl _ _)|((repeat(first|(with_reducible exact Below.refl _ _)|(with_reducible apply zl)|(with_reducible apply zr)|(with_reducible apply qx)));done)|exact bw));rintro e w20 ⟨v251,v254,v257,rfl,ho0,ho1,ho2,hb⟩;refine⟨_,rfl,?_⟩;have HO252:=zq.mk (Kd.zvo (Kd.zjy (ok':=fun k_=>k_≠gb248) ho0 (fun k_ hk_=>Or.elim hk_ (fun hs_=>fun e_=>Nat.not_le.2 hs_ (by rw [e_];exact GW248.out)) (fun hn_=>(Kd.zkg (g:=gb248) (o:=.cells #[.slice A2_0 l2_0.length c2_0,.slice A2_1 l2_1.length c2_1] 32 (0,0)) (up BK248.out) k_ hn_)))) (zw bw));have HO255:=zq.mk (Kd.zvo (Kd.zjy (ok':=fun k_=>k_≠gb248) ho1 (fun k_ hk_=>Or.elim hk_ (fun hs_=>fun e_=>Nat.not_le.2 hs_ (by rw [e_];exact GW248.out)) (fun hn_=>(Kd.zkg (g:=gb248) (o:=.cells #[.slice A2_0 l2_0.length c2_0,.slice A2_1 l2_1.length c2_1] 32 (0,0)) (up BK248.out) k_ hn_)))) (zw bw));have HO258:=zq.mk (Kd.zvo (Kd.zjy (ok':=fun k_=>k_≠gb248) ho2 (fun k_ hk_=>Or.elim hk_ (fun hs_=>fun e_=>Nat.not_le.2 hs_ (by rw [e_];exact GW248.out)) (fun hn_=>(Kd.zkg (g:=gb248) (o:=.cells #[.slice A2_0 l2_0.length c2_0,.slice A2_1 l2_1.length c2_1] 32 (0,0)) (up BK248.out) k_ hn_)))) (zw bw));replace BK248:=zq.mk (ze (g:=gb248) (o:=.cells #[.slice A2_0 l2_0.length c2_0,.slice A2_1 l2_1.length c2_1] 32 (0,0)) (up BK248.out) hb);replace HB:=zq.mk (zn bw hb);(try clear hb);(try clear hb2);(try clear hk);(try clear hi);(try clear ho0);(try clear ho1);(try clear ho2))|((with_reducible refine qr (N:=8) rfl ?_);refine qm ?hg (N:=8) ?hd (cs:=#[.string (⟨#[]⟩:ByteArray),.slice none 0 0,.slice none 0 0,.slice none 0 0]) (t:=61) ?hr ?_;(case hd=>rfl);(case hg=>rfl);(case hr=>first|(go_simp;done)|(go_simp;rfl));intro gb260 hg w21 hbox hb;replace HO252:=zq.mk (Kd.zjz (Kd.zj5 (Kd.vu HO252.out) gb260 (Nat.le_of_eq hg.symm)) hb);replace HO255:=zq.mk (Kd.zjz (Kd.zj5 (Kd.vu HO255.out) gb260 (Nat.le_of_eq hg.symm)) hb);replace HO258:=zq.mk (Kd.zjz (Kd.zj5 (Kd.vu HO258.out) gb260 (Nat.le_of_eq hg.symm)) hb);have BK260:=zq.mk (hbox);have GW260:=zq.mk ((by rw [hg];exact(zw bw):w.heap.size≤gb260));have GE260:=zq.mk ((by rw [hg];exact(zw bw):w.heap.size≤gb260));replace HB:=zq.mk (zn bw hb);have NB248_260:=zq.mk ((by rw [hg];exact Nat.ne_of_lt (zq3 (g:=gb248) (o:=.cells #[.slice A2_0 l2_0.length c2_0,.slice A2_1 l2_1.length c2_1] 32 (0,0)) (up BK248.out)):gb248≠gb260));have NB260_248:=zq.mk ((by rw [hg];exact Nat.ne_of_gt (zq3 (g:=gb248) (o:=.cells #[.slice A2_0 l2_0.length c2_0,.slice A2_1 l2_1.length c2_1] 32 (0,0)) (up BK248.out)):gb260≠gb248));replace BK248:=zq.mk (ze (g:=gb248) (o:=.cells #[.slice A2_0 l2_0.length c2_0,.slice A2_1 l2_1.length c2_1] 32 (0,0)) (up BK248.out) hb);clear hb hbox hg;have hnb22:=NB260_248.out;have hnc22:=NB248_260.out;obtain ⟨hcz23_0,hcz23_1,hcz23_2,hcz23_3,hfz23_0,hfz23_1,hfz23_2,hfz23_3⟩:=zqv BK260.out;obtain ⟨Ao24,co24,eo24⟩:=Kd.zvn HO252.out;subst eo24;obtain ⟨Ao25,co25,eo25⟩:=Kd.zvn HO255.out;subst eo25;obtain ⟨Ao26,co26,eo26⟩:=Kd.zvn HO258.out;subst eo26))
 go_ret2
 exact⟨_,by first|rfl|(simp [zg,zy] <;> rfl)|(simp [*,zg,zy] <;> rfl),by first|exact Kd.zxf _ _ _ _ _|exact Kd.zx4 _ _ _ _ _|exact Kd.zxl _ _ _ _ _|exact Kd.zx3 _ _ _ _ _|exact Kd.zx2 _ _ _ _ _,bw⟩

/-! ### zb: function 124 -/
mutual
def zb.j2:Nat→ByteArray→Int→Int→Option (Int)
 | 0,_,_,_=>none
 | k+1,x0,x4,x5=>if x4=0 then(zb.j3 k x0 x4 x5 true) else (zb.j3 k x0 x4 x5 (decide ((x0.size:Int)<x4)))
def zb.j3:Nat→ByteArray→Int→Int→Bool→Option (Int)
 | 0,_,_,_,_=>none
 | k+1,x0,x4,x5,x46=>if x46=true then(some 0) else (zb.l0 k x0 x4 x5 1)
def zb.l0:Nat→ByteArray→Int→Int→Int→Option (Int)
 | 0,_,_,_,_=>none
 | k+1,x0,x4,x5,x6=>if x6<x4 then(if 0≤x6 then(if x6<(x0.size:Int) then(if(bt x0 x6)<128 then(some 0) else (if(bt x0 x6) > 191 then(some 0) else (zb.l0 k x0 x4 (wrap64 ((wrap64 (x5 * 64))+(wrap64 (Go.bits .and .u8 (bt x0 x6) 63)))) (wrap64 (x6+1))))) else (none)) else (none)) else (if x4=3 then(if x5<2048 then(some 0) else (if x5 ≥ 55296 then(if x5≤57343 then(some 0) else (if x4=4 then(if x5<65536 then(some 0) else (if x5 > 1114111 then(some 0) else (some x4))) else (some x4))) else (if x4=4 then(if x5<65536 then(some 0) else (if x5 > 1114111 then(some 0) else (some x4))) else (some x4)))) else (if x4=4 then(if x5<65536 then(some 0) else (if x5 > 1114111 then(some 0) else (some x4))) else (some x4)))
def zb.j0:Nat→ByteArray→Int→Int→Int→Bool→Option (Int)
 | 0,_,_,_,_,_=>none
 | k+1,x0,x3,x4,x5,x20=>if x20=true then(zb.j2 k x0 2 (Go.bits .and .i64 x3 31)) else (if x3 ≥ 224 then(zb.j1 k x0 x3 x4 x5 (decide (x3<240))) else (zb.j1 k x0 x3 x4 x5 false))
def zb.j1:Nat→ByteArray→Int→Int→Int→Bool→Option (Int)
 | 0,_,_,_,_,_=>none
 | k+1,x0,x3,x4,x5,x28=>if x28=true then(zb.j2 k x0 3 (Go.bits .and .i64 x3 15)) else (if x3 ≥ 240 then(if x3<245 then(zb.j2 k x0 4 (Go.bits .and .i64 x3 7)) else (zb.j2 k x0 x4 x5)) else (zb.j2 k x0 x4 x5))
end
def zb.f (k:Nat) (a0:ByteArray):Option (Int):=if(a0.size:Int)=0 then(some 0) else (if 0<(a0.size:Int) then(if(wrap64 (bt a0 0))<128 then(some 1) else (if(wrap64 (bt a0 0)) ≥ 194 then(zb.j0 k a0 (wrap64 (bt a0 0)) 0 0 (decide ((wrap64 (bt a0 0))<224))) else (zb.j0 k a0 (wrap64 (bt a0 0)) 0 0 false))) else (none))
theorem zb.mono_l:∀ k,(∀ y0 y1 y2,LeO (zb.j2 k y0 y1 y2) (zb.j2 (k+1) y0 y1 y2))∧(∀ y0 y1 y2 y3,LeO (zb.j3 k y0 y1 y2 y3) (zb.j3 (k+1) y0 y1 y2 y3))∧(∀ y0 y1 y2 y3,LeO (zb.l0 k y0 y1 y2 y3) (zb.l0 (k+1) y0 y1 y2 y3))∧(∀ y0 y1 y2 y3 y4,LeO (zb.j0 k y0 y1 y2 y3 y4) (zb.j0 (k+1) y0 y1 y2 y3 y4))∧(∀ y0 y1 y2 y3 y4,LeO (zb.j1 k y0 y1 y2 y3 y4) (zb.j1 (k+1) y0 y1 y2 y3 y4))
 | 0=>⟨fun _ _ _ r h=>by simp [zb.j2] at h,fun _ _ _ _ r h=>by simp [zb.j3] at h,fun _ _ _ _ r h=>by simp [zb.l0] at h,fun _ _ _ _ _ r h=>by simp [zb.j0] at h,fun _ _ _ _ _ r h=>by simp [zb.j1] at h⟩
 | k+1=>by
  obtain ⟨ih0,ih1,ih2,ih3,ih4⟩:=zb.mono_l k
  refine⟨?_,?_,?_,?_,?_⟩
  ·intro y0 y1 y2
   unfold zb.j2
   repeat' first
   | (with_reducible first|exact ih0 _ _ _|exact ih1 _ _ _ _|exact ih2 _ _ _ _|exact ih3 _ _ _ _ _|exact ih4 _ _ _ _ _|exact LeO.refl _|exact LeO.none _|refine LeO.ite ?_ ?_|refine LeO.bind ?_ (fun _=>?_))
   | exact ih0 _ _ _
   | exact ih1 _ _ _ _
   | exact ih2 _ _ _ _
   | exact ih3 _ _ _ _ _
   | exact ih4 _ _ _ _ _
   | exact LeO.none _
   | refine LeO.ite ?_ ?_
   | refine LeO.bind ?_ (fun _=>?_)
  ·intro y0 y1 y2 y3
   unfold zb.j3
   repeat' first
   | (with_reducible first|exact ih0 _ _ _|exact ih1 _ _ _ _|exact ih2 _ _ _ _|exact ih3 _ _ _ _ _|exact ih4 _ _ _ _ _|exact LeO.refl _|exact LeO.none _|refine LeO.ite ?_ ?_|refine LeO.bind ?_ (fun _=>?_))
   | exact ih0 _ _ _
   | exact ih1 _ _ _ _
   | exact ih2 _ _ _ _
   | exact ih3 _ _ _ _ _
   | exact ih4 _ _ _ _ _
   | exact LeO.none _
   | refine LeO.ite ?_ ?_
   | refine LeO.bind ?_ (fun _=>?_)
  ·intro y0 y1 y2 y3
   unfold zb.l0
   repeat' first
   | (with_reducible first|exact ih0 _ _ _|exact ih1 _ _ _ _|exact ih2 _ _ _ _|exact ih3 _ _ _ _ _|exact ih4 _ _ _ _ _|exact LeO.refl _|exact LeO.none _|refine LeO.ite ?_ ?_|refine LeO.bind ?_ (fun _=>?_))
   | exact ih0 _ _ _
   | exact ih1 _ _ _ _
   | exact ih2 _ _ _ _
   | exact ih3 _ _ _ _ _
   | exact ih4 _ _ _ _ _
   | exact LeO.none _
   | refine LeO.ite ?_ ?_
   | refine LeO.bind ?_ (fun _=>?_)
  ·intro y0 y1 y2 y3 y4
   unfold zb.j0
   repeat' first
   | (with_reducible first|exact ih0 _ _ _|exact ih1 _ _ _ _|exact ih2 _ _ _ _|exact ih3 _ _ _ _ _|exact ih4 _ _ _ _ _|exact LeO.refl _|exact LeO.none _|refine LeO.ite ?_ ?_|refine LeO.bind ?_ (fun _=>?_))
   | exact ih0 _ _ _
   | exact ih1 _ _ _ _
   | exact ih2 _ _ _ _
   | exact ih3 _ _ _ _ _
   | exact ih4 _ _ _ _ _
   | exact LeO.none _
   | refine LeO.ite ?_ ?_
   | refine LeO.bind ?_ (fun _=>?_)
  intro y0 y1 y2 y3 y4
  unfold zb.j1
  repeat' first
  | (with_reducible first|exact ih0 _ _ _|exact ih1 _ _ _ _|exact ih2 _ _ _ _|exact ih3 _ _ _ _ _|exact ih4 _ _ _ _ _|exact LeO.refl _|exact LeO.none _|refine LeO.ite ?_ ?_|refine LeO.bind ?_ (fun _=>?_))
  | exact ih0 _ _ _
  | exact ih1 _ _ _ _
  | exact ih2 _ _ _ _
  | exact ih3 _ _ _ _ _
  | exact ih4 _ _ _ _ _
  | exact LeO.none _
  | refine LeO.ite ?_ ?_
  | refine LeO.bind ?_ (fun _=>?_)
theorem zb.mono:∀ a0 k,LeO (zb.f k a0) (zb.f (k+1) a0):=by
 intro a0 k
 obtain ⟨ih0,ih1,ih2,ih3,ih4⟩:=zb.mono_l k
 unfold zb.f
 repeat' first
   | (with_reducible first|exact ih0 _ _ _|exact ih1 _ _ _ _|exact ih2 _ _ _ _|exact ih3 _ _ _ _ _|exact ih4 _ _ _ _ _|exact LeO.refl _|exact LeO.none _|refine LeO.ite ?_ ?_|refine LeO.bind ?_ (fun _=>?_))
   | exact ih0 _ _ _
   | exact ih1 _ _ _ _
   | exact ih2 _ _ _ _
   | exact ih3 _ _ _ _ _
   | exact ih4 _ _ _ _ _
   | exact LeO.none _
   | refine LeO.ite ?_ ?_
   | refine LeO.bind ?_ (fun _=>?_)
set_option maxHeartbeats 8000000 in
set_option maxRecDepth 100000 in
theorem zb.calls (k:Nat) (a0:ByteArray) (r:Int) (w:World) (h:zb.f k a0=some r) :
  Calls Tryd.prog 124 #[.string a0] w fun e w'=>e = .returned (.int .i64 r)∧za w w':=by
 have H:(if(a0.size:Int)=0 then(some 0) else (if 0<(a0.size:Int) then(if(wrap64 (bt a0 0))<128 then(some 1) else (if(wrap64 (bt a0 0)) ≥ 194 then(zb.j0 k a0 (wrap64 (bt a0 0)) 0 0 (decide ((wrap64 (bt a0 0))<224))) else (zb.j0 k a0 (wrap64 (bt a0 0)) 0 0 false))) else (none)))=some r:=h
 clear h
 by_cases c2:(a0.size:Int)=0
 ·rw [if_pos c2] at H
  have c2b0:((a0.size:Int) == 0)=true:=beq_iff_eq.mpr c2
  have c2b1:((a0.size:Int) != 0)=false:=bne_eq_false_iff_eq.mpr c2
  clear c2
  obtain rfl:=Option.some.inj H
  go_enter Tryd.func124,Tryd.ntmps124
  go_wp2
  go_ret
  exact⟨by first|rfl|(simp;done)|(simp [*];done),by repeat(first|exact za.refl _|apply za.step)⟩
 rw [if_neg c2] at H
 have c2b0:((a0.size:Int) == 0)=false:=beq_eq_false_iff_ne.mpr c2
 have c2b1:((a0.size:Int) != 0)=true:=bne_iff_ne.mpr c2
 by_cases c3:0<(a0.size:Int)
 ·rw [if_pos c3] at H
  have c3b0:=decide_eq_true c3
  have c3b1:decide (0<a0.size)=true:=decide_eq_true (by omega)
  clear c3
  have HC5:=zq.mk H
  clear H
  have p4:0≤(0:Int):=(by omega)
  have q4:0<a0.size:=(by have:(0:Int)<(a0.size:Int):=dt;omega)
  have hx4:∀ h:0<a0.size,((a0[0]'h).toNat:Int)=bt a0 0:=zxj a0 0
  clear p4
  have qi4:(0<(a0.size:Int))=True:=eq_true (dt)
  replace q4:=eq_true q4
  go_enter Tryd.func124,Tryd.ntmps124
  go_upto_if 14 with (fail)
  go_cut [4,5] (fun v4 v5 wc => ∃ (kq:Nat) (x4_4:Int) (x5_4:Int),v4 = .int .i64 x4_4∧v5 = .int .i64 x5_4∧zq (zb.j2 kq a0 x4_4 x5_4=some r)∧zq (kq≤k)∧za w wc)
  case first=>
   have H:=HC5.out
   clear HC5
   by_cases c6:(wrap64 (bt a0 0))<128
   ·rw [if_pos c6] at H
    have c6b0:=decide_eq_true c6
    clear c6
    (first|rw [c6b0]|(simp only [zqp,zqq];rw [c6b0])|skip)
    obtain rfl:=Option.some.inj H
    go_wp2
    go_ret
    exact⟨by first|rfl|(simp;done)|(simp [*];done),by repeat(first|exact za.refl _|apply za.step)⟩
   rw [if_neg c6] at H
   have c6b0:=decide_eq_false c6
   clear c6
   (first|rw [c6b0]|(simp only [zqp,zqq];rw [c6b0])|skip)
   have HC7:=zq.mk H
   clear H
   go_upto_region 8 with (fail)
   go_cut [20] (fun v20 wc => ∃ (kq:Nat) (x20_6:Bool),v20 = .bool x20_6∧zq (zb.j0 kq a0 (wrap64 (bt a0 0)) 0 0 x20_6=some r)∧zq (kq≤k)∧za w wc)
   case first=>
    have H:=HC7.out
    clear HC7
    by_cases c8:(wrap64 (bt a0 0)) ≥ 194
    ·rw [if_pos c8] at H
     have c8b0:=decide_eq_true c8
     clear c8
     (first|rw [c8b0]|(simp only [zqp,zqq];rw [c8b0])|skip)
     have H':=zq.mk H
     clear H
     go_wp2
     go_meet
     case rel=>exact⟨_,(decide ((wrap64 (bt a0 0))<224)),vr,H',⟨by first|omega|exact Nat.le_refl _⟩,by repeat(first|exact za.refl _|apply za.step)⟩
    rw [if_neg c8] at H
    have c8b0:=decide_eq_false c8
    clear c8
    (first|rw [c8b0]|(simp only [zqp,zqq];rw [c8b0])|skip)
    have H':=zq.mk H
    clear H
    go_wp2
    go_meet
    case rel=>exact⟨_,(false),vr,H',⟨by first|omega|exact Nat.le_refl _⟩,by repeat(first|exact za.refl _|apply za.step)⟩
   case rest=>
    clear HC7
    (try clear c2);(try clear c2b0);(try clear c2b1);(try clear c3);(try clear c3b0);(try clear c3b1);(try clear p4);(try clear q4);(try clear hx4);(try clear qi4);(try clear c6);(try clear c6b0)
    obtain ⟨kq,x20_6,rfl,HA,HJ6,⟨mc6,rfl⟩⟩:=hcut
    cases kq with
    | zero=>exact absurd HA.out (by simp [zb.j0])
    | succ kj6=>
     have H:=HA.out
     clear HA
     simp only [zb.j0] at H
     by_cases c9:x20_6=true
     ·subst c9
      rw [if_pos rfl] at H
      have H':=zq.mk H
      clear H
      go_wp2
      go_meet
      case rel=>exact⟨_,(2),(Go.bits .and .i64 (wrap64 (bt a0 0)) 31),vr,vr,H',⟨by have:=HJ6.out;first|omega|exact Nat.le_refl _⟩,by repeat(first|exact za.refl _|apply za.step)⟩
     replace c9:=Bool.eq_false_iff.mpr c9
     subst c9
     rw [if_neg (show ¬ (false=true) by decide)] at H
     have HC10:=zq.mk H
     clear H
     go_upto_region 11 with (fail)
     go_cut [28] (fun v28 wc => ∃ (kq:Nat) (x28_9:Bool),v28 = .bool x28_9∧zq (zb.j1 kq a0 (wrap64 (bt a0 0)) 0 0 x28_9=some r)∧zq (kq≤kj6)∧za w wc)
     case first=>
      have H:=HC10.out
      clear HC10
      by_cases c11:(wrap64 (bt a0 0)) ≥ 224
      ·rw [if_pos c11] at H
       have c11b0:=decide_eq_true c11
       clear c11
       (first|rw [c11b0]|(simp only [zqp,zqq];rw [c11b0])|skip)
       have H':=zq.mk H
       clear H
       go_wp2
       go_meet
       case rel=>exact⟨_,(decide ((wrap64 (bt a0 0))<240)),vr,H',⟨by have:=HJ6.out;first|omega|exact Nat.le_refl _⟩,by repeat(first|exact za.refl _|apply za.step)⟩
      rw [if_neg c11] at H
      have c11b0:=decide_eq_false c11
      clear c11
      (first|rw [c11b0]|(simp only [zqp,zqq];rw [c11b0])|skip)
      have H':=zq.mk H
      clear H
      go_wp2
      go_meet
      case rel=>exact⟨_,(false),vr,H',⟨by have:=HJ6.out;first|omega|exact Nat.le_refl _⟩,by repeat(first|exact za.refl _|apply za.step)⟩
     case rest=>
      clear HC10
      (try clear c2);(try clear c2b0);(try clear c2b1);(try clear c3);(try clear c3b0);(try clear c3b1);(try clear p4);(try clear q4);(try clear hx4);(try clear qi4);(try clear c6);(try clear c6b0);(try clear c9)
      obtain ⟨kq,x28_9,rfl,HA,HJ9,⟨mc9,rfl⟩⟩:=hcut
      cases kq with
      | zero=>exact absurd HA.out (by simp [zb.j1])
      | succ kj9=>
       have H:=HA.out
       clear HA
       simp only [zb.j1] at H
       by_cases c12:x28_9=true
       ·subst c12
        rw [if_pos rfl] at H
        have H':=zq.mk H
        clear H
        go_wp2
        go_meet
        case rel=>exact⟨_,(3),(Go.bits .and .i64 (wrap64 (bt a0 0)) 15),vr,vr,H',⟨by have:=HJ6.out;have:=HJ9.out;first|omega|exact Nat.le_refl _⟩,by repeat(first|exact za.refl _|apply za.step)⟩
       replace c12:=Bool.eq_false_iff.mpr c12
       subst c12
       rw [if_neg (show ¬ (false=true) by decide)] at H
       by_cases c13:(wrap64 (bt a0 0)) ≥ 240
       ·rw [if_pos c13] at H
        have c13b0:=decide_eq_true c13
        clear c13
        by_cases c14:(wrap64 (bt a0 0))<245
        ·rw [if_pos c14] at H
         have c14b0:=decide_eq_true c14
         clear c14
         have H':=zq.mk H
         clear H
         go_wp2
         go_meet
         case rel=>exact⟨_,(4),(Go.bits .and .i64 (wrap64 (bt a0 0)) 7),vr,vr,H',⟨by have:=HJ6.out;have:=HJ9.out;first|omega|exact Nat.le_refl _⟩,by repeat(first|exact za.refl _|apply za.step)⟩
        rw [if_neg c14] at H
        have c14b0:=decide_eq_false c14
        clear c14
        have H':=zq.mk H
        clear H
        go_wp2
        go_meet
        case rel=>exact⟨_,(0),(0),vr,vr,H',⟨by have:=HJ6.out;have:=HJ9.out;first|omega|exact Nat.le_refl _⟩,by repeat(first|exact za.refl _|apply za.step)⟩
       rw [if_neg c13] at H
       have c13b0:=decide_eq_false c13
       clear c13
       have H':=zq.mk H
       clear H
       go_wp2
       go_meet
       case rel=>exact⟨_,(0),(0),vr,vr,H',⟨by have:=HJ6.out;have:=HJ9.out;first|omega|exact Nat.le_refl _⟩,by repeat(first|exact za.refl _|apply za.step)⟩
  case rest=>
   clear HC5
   (try clear c2);(try clear c2b0);(try clear c2b1);(try clear c3);(try clear c3b0);(try clear c3b1);(try clear p4);(try clear q4);(try clear hx4);(try clear qi4)
   obtain ⟨kq,x4_4,x5_4,rfl,rfl,HA,HJ4,⟨mc4,rfl⟩⟩:=hcut
   cases kq with
   | zero=>exact absurd HA.out (by simp [zb.j2])
   | succ kj4=>
    have H:=HA.out
    clear HA
    simp only [zb.j2] at H
    have HC15:=zq.mk H
    clear H
    go_upto_region 17 with (fail)
    go_cut [46] (fun v46 wc => ∃ (kq:Nat) (x46_14:Bool),v46 = .bool x46_14∧zq (zb.j3 kq a0 x4_4 x5_4 x46_14=some r)∧zq (kq≤kj4)∧za w wc)
    case first=>
     have H:=HC15.out
     clear HC15
     by_cases c16:x4_4=0
     ·rw [if_pos c16] at H
      have c16b0:(x4_4 == 0)=true:=beq_iff_eq.mpr c16
      have c16b1:(x4_4 != 0)=false:=bne_eq_false_iff_eq.mpr c16
      clear c16
      (first|rw [c16b0]|(simp only [zqp,zqq];rw [c16b0])|skip)
      have H':=zq.mk H
      clear H
      go_wp2
      go_meet
      case rel=>exact⟨_,(true),vr,H',⟨by have:=HJ4.out;first|omega|exact Nat.le_refl _⟩,by repeat(first|exact za.refl _|apply za.step)⟩
     rw [if_neg c16] at H
     have c16b0:(x4_4 == 0)=false:=beq_eq_false_iff_ne.mpr c16
     have c16b1:(x4_4 != 0)=true:=bne_iff_ne.mpr c16
     (first|rw [c16b0]|(simp only [zqp,zqq];rw [c16b0])|skip)
     have H':=zq.mk H
     clear H
     go_wp2
     go_meet
     case rel=>exact⟨_,(decide ((a0.size:Int)<x4_4)),vr,H',⟨by have:=HJ4.out;first|omega|exact Nat.le_refl _⟩,by repeat(first|exact za.refl _|apply za.step)⟩
    case rest=>
     clear HC15
     (try clear c2);(try clear c2b0);(try clear c2b1);(try clear c3);(try clear c3b0);(try clear c3b1);(try clear p4);(try clear q4);(try clear hx4);(try clear qi4)
     obtain ⟨kq,x46_14,rfl,HA,HJ14,⟨mc14,rfl⟩⟩:=hcut
     cases kq with
     | zero=>exact absurd HA.out (by simp [zb.j3])
     | succ kj14=>
      have H:=HA.out
      clear HA
      simp only [zb.j3] at H
      by_cases c17:x46_14=true
      ·subst c17
       rw [if_pos rfl] at H
       obtain rfl:=Option.some.inj H
       go_wp2
       go_ret
       exact⟨by first|rfl|(simp;done)|(simp [*];done),by repeat(first|exact za.refl _|apply za.step)⟩
      replace c17:=Bool.eq_false_iff.mpr c17
      subst c17
      rw [if_neg (show ¬ (false=true) by decide)] at H
      have H':=zq.mk H
      clear H
      go_wp2
      go_loopg [5,6] kj14 (fun kq v5 v6 w' => ∃ (x5_3:Int) (x6_3:Int),v5 = .int .i64 x5_3∧v6 = .int .i64 x6_3∧zq (zb.l0 kq a0 x4_4 x5_3 x6_3=some r)∧zq (kq≤kj14)∧za w w')
      case atStart=>exact⟨(x5_4),(1),vr,vr,H',⟨Nat.le_refl _⟩,by repeat(first|exact za.refl _|apply za.step)⟩
      case round=>
       clear H'
       (try clear c2);(try clear c2b0);(try clear c2b1);(try clear c3);(try clear c3b0);(try clear c3b1);(try clear p4);(try clear q4);(try clear hx4);(try clear qi4);(try clear c17)
       obtain ⟨x5_3,x6_3,rfl,rfl,HA,HK3,⟨m3,rfl⟩⟩:=hrel
       cases gk with
       | zero=>exact absurd HA.out (by simp [zb.l0])
       | succ k3=>
        have H:=HA.out
        clear HA
        simp only [zb.l0] at H
        by_cases c18:x6_3<x4_4
        ·rw [if_pos c18] at H
         have c18b0:=decide_eq_true c18
         clear c18
         by_cases c19:0≤x6_3
         ·rw [if_pos c19] at H
          have c19b0:=decide_eq_true c19
          clear c19
          by_cases c20:x6_3<(a0.size:Int)
          ·rw [if_pos c20] at H
           have c20b0:=decide_eq_true c20
           clear c20
           by_cases c22:(bt a0 x6_3)<128
           ·rw [if_pos c22] at H
            have c22b0:=decide_eq_true c22
            clear c22
            obtain rfl:=Option.some.inj H
            have p21:0≤(x6_3:Int):=dt
            have q21:x6_3<(a0.size:Int):=dt
            have hx21:=zxj a0 x6_3
            replace p21:=eq_true p21
            replace q21:=eq_true q21
            go_wp2
            go_ret
            exact⟨by first|rfl|(simp;done)|(simp [*];done),by repeat(first|exact za.refl _|apply za.step)⟩
           rw [if_neg c22] at H
           have c22b0:=decide_eq_false c22
           clear c22
           by_cases c24:(bt a0 x6_3) > 191
           ·rw [if_pos c24] at H
            have c24b0:=decide_eq_true c24
            clear c24
            obtain rfl:=Option.some.inj H
            have p21:0≤(x6_3:Int):=dt
            have q21:x6_3<(a0.size:Int):=dt
            have hx21:=zxj a0 x6_3
            replace p21:=eq_true p21
            replace q21:=eq_true q21
            have p23:0≤(x6_3:Int):=dt
            have q23:x6_3<(a0.size:Int):=dt
            have hx23:=zxj a0 x6_3
            replace p23:=eq_true p23
            replace q23:=eq_true q23
            go_wp2
            go_ret
            exact⟨by first|rfl|(simp;done)|(simp [*];done),by repeat(first|exact za.refl _|apply za.step)⟩
           rw [if_neg c24] at H
           have c24b0:=decide_eq_false c24
           clear c24
           have H':=zq.mk H
           clear H
           have p21:0≤(x6_3:Int):=dt
           have q21:x6_3<(a0.size:Int):=dt
           have hx21:=zxj a0 x6_3
           replace p21:=eq_true p21
           replace q21:=eq_true q21
           have p23:0≤(x6_3:Int):=dt
           have q23:x6_3<(a0.size:Int):=dt
           have hx23:=zxj a0 x6_3
           replace p23:=eq_true p23
           replace q23:=eq_true q23
           have p25:0≤(x6_3:Int):=dt
           have q25:x6_3<(a0.size:Int):=dt
           have hx25:=zxj a0 x6_3
           replace p25:=eq_true p25
           replace q25:=eq_true q25
           go_wp2
           go_roundg k3
           case measure=>have:=HJ4.out;have:=HJ14.out;have:=HK3.out;omega
           case rel=>exact⟨(wrap64 ((wrap64 (x5_3 * 64))+(wrap64 (Go.bits .and .u8 (bt a0 x6_3) 63)))),(wrap64 (x6_3+1)),vr,vr,H',⟨by have:=HJ4.out;have:=HJ14.out;have:=HK3.out;omega⟩,by repeat(first|exact za.refl _|apply za.step)⟩
          rw [if_neg c20] at H
          exact absurd H (by simp)
         rw [if_neg c19] at H
         exact absurd H (by simp)
        rw [if_neg c18] at H
        have c18b0:=decide_eq_false c18
        clear c18
        by_cases c26:x4_4=3
        ·rw [if_pos c26] at H
         have c26b0:(x4_4 == 3)=true:=beq_iff_eq.mpr c26
         have c26b1:(x4_4 != 3)=false:=bne_eq_false_iff_eq.mpr c26
         clear c26
         by_cases c27:x5_3<2048
         ·rw [if_pos c27] at H
          have c27b0:=decide_eq_true c27
          clear c27
          obtain rfl:=Option.some.inj H
          go_wp2
          go_ret
          exact⟨by first|rfl|(simp;done)|(simp [*];done),by repeat(first|exact za.refl _|apply za.step)⟩
         rw [if_neg c27] at H
         have c27b0:=decide_eq_false c27
         clear c27
         by_cases c28:x5_3 ≥ 55296
         ·rw [if_pos c28] at H
          have c28b0:=decide_eq_true c28
          clear c28
          by_cases c29:x5_3≤57343
          ·rw [if_pos c29] at H
           have c29b0:=decide_eq_true c29
           clear c29
           obtain rfl:=Option.some.inj H
           go_wp2
           go_ret
           exact⟨by first|rfl|(simp;done)|(simp [*];done),by repeat(first|exact za.refl _|apply za.step)⟩
          rw [if_neg c29] at H
          have c29b0:=decide_eq_false c29
          clear c29
          by_cases c30:x4_4=4
          ·rw [if_pos c30] at H
           have c30b0:(x4_4 == 4)=true:=beq_iff_eq.mpr c30
           have c30b1:(x4_4 != 4)=false:=bne_eq_false_iff_eq.mpr c30
           clear c30
           by_cases c31:x5_3<65536
           ·rw [if_pos c31] at H
            have c31b0:=decide_eq_true c31
            clear c31
            obtain rfl:=Option.some.inj H
            go_wp2
            go_ret
            exact⟨by first|rfl|(simp;done)|(simp [*];done),by repeat(first|exact za.refl _|apply za.step)⟩
           rw [if_neg c31] at H
           have c31b0:=decide_eq_false c31
           clear c31
           by_cases c32:x5_3 > 1114111
           ·rw [if_pos c32] at H
            have c32b0:=decide_eq_true c32
            clear c32
            obtain rfl:=Option.some.inj H
            go_wp2
            go_ret
            exact⟨by first|rfl|(simp;done)|(simp [*];done),by repeat(first|exact za.refl _|apply za.step)⟩
           rw [if_neg c32] at H
           have c32b0:=decide_eq_false c32
           clear c32
           obtain rfl:=Option.some.inj H
           go_wp2
           go_ret
           exact⟨by first|rfl|(simp;done)|(simp [*];done),by repeat(first|exact za.refl _|apply za.step)⟩
          rw [if_neg c30] at H
          have c30b0:(x4_4 == 4)=false:=beq_eq_false_iff_ne.mpr c30
          have c30b1:(x4_4 != 4)=true:=bne_iff_ne.mpr c30
          obtain rfl:=Option.some.inj H
          go_wp2
          go_ret
          exact⟨by first|rfl|(simp;done)|(simp [*];done),by repeat(first|exact za.refl _|apply za.step)⟩
         rw [if_neg c28] at H
         have c28b0:=decide_eq_false c28
         clear c28
         by_cases c33:x4_4=4
         ·rw [if_pos c33] at H
          have c33b0:(x4_4 == 4)=true:=beq_iff_eq.mpr c33
          have c33b1:(x4_4 != 4)=false:=bne_eq_false_iff_eq.mpr c33
          clear c33
          by_cases c34:x5_3<65536
          ·rw [if_pos c34] at H
           have c34b0:=decide_eq_true c34
           clear c34
           obtain rfl:=Option.some.inj H
           go_wp2
           go_ret
           exact⟨by first|rfl|(simp;done)|(simp [*];done),by repeat(first|exact za.refl _|apply za.step)⟩
          rw [if_neg c34] at H
          have c34b0:=decide_eq_false c34
          clear c34
          by_cases c35:x5_3 > 1114111
          ·rw [if_pos c35] at H
           have c35b0:=decide_eq_true c35
           clear c35
           obtain rfl:=Option.some.inj H
           go_wp2
           go_ret
           exact⟨by first|rfl|(simp;done)|(simp [*];done),by repeat(first|exact za.refl _|apply za.step)⟩
          rw [if_neg c35] at H
          have c35b0:=decide_eq_false c35
          clear c35
          obtain rfl:=Option.some.inj H
          go_wp2
          go_ret
          exact⟨by first|rfl|(simp;done)|(simp [*];done),by repeat(first|exact za.refl _|apply za.step)⟩
         rw [if_neg c33] at H
         have c33b0:(x4_4 == 4)=false:=beq_eq_false_iff_ne.mpr c33
         have c33b1:(x4_4 != 4)=true:=bne_iff_ne.mpr c33
         obtain rfl:=Option.some.inj H
         go_wp2
         go_ret
         exact⟨by first|rfl|(simp;done)|(simp [*];done),by repeat(first|exact za.refl _|apply za.step)⟩
        rw [if_neg c26] at H
        have c26b0:(x4_4 == 3)=false:=beq_eq_false_iff_ne.mpr c26
        have c26b1:(x4_4 != 3)=true:=bne_iff_ne.mpr c26
        by_cases c36:x4_4=4
        ·rw [if_pos c36] at H
         have c36b0:(x4_4 == 4)=true:=beq_iff_eq.mpr c36
         have c36b1:(x4_4 != 4)=false:=bne_eq_false_iff_eq.mpr c36
         clear c36
         by_cases c37:x5_3<65536
         ·rw [if_pos c37] at H
          have c37b0:=decide_eq_true c37
          clear c37
          obtain rfl:=Option.some.inj H
          go_wp2
          go_ret
          exact⟨by first|rfl|(simp;done)|(simp [*];done),by repeat(first|exact za.refl _|apply za.step)⟩
         rw [if_neg c37] at H
         have c37b0:=decide_eq_false c37
         clear c37
         by_cases c38:x5_3 > 1114111
         ·rw [if_pos c38] at H
          have c38b0:=decide_eq_true c38
          clear c38
          obtain rfl:=Option.some.inj H
          go_wp2
          go_ret
          exact⟨by first|rfl|(simp;done)|(simp [*];done),by repeat(first|exact za.refl _|apply za.step)⟩
         rw [if_neg c38] at H
         have c38b0:=decide_eq_false c38
         clear c38
         obtain rfl:=Option.some.inj H
         go_wp2
         go_ret
         exact⟨by first|rfl|(simp;done)|(simp [*];done),by repeat(first|exact za.refl _|apply za.step)⟩
        rw [if_neg c36] at H
        have c36b0:(x4_4 == 4)=false:=beq_eq_false_iff_ne.mpr c36
        have c36b1:(x4_4 != 4)=true:=bne_iff_ne.mpr c36
        obtain rfl:=Option.some.inj H
        go_wp2
        go_ret
        exact⟨by first|rfl|(simp;done)|(simp [*];done),by repeat(first|exact za.refl _|apply za.step)⟩
 rw [if_neg c3] at H
 exact absurd H (by simp)

end Go.Proofs.YthhejedfjgikdaaDoor.PRowReads
