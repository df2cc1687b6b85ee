-- Written by wip/pp of this repo (over the kit's print, with additions of this session); Lean checks every line.
import Derived.Test.YtmfpaeajibeikaaDoorPEvalHoldsx0
namespace Go.Proofs.YtmfpaeajibeikaaDoor.PEvalHolds
open Go.RowKit Go.Proofs.YtmfpaeajibeikaaDoorW.PrintWords Go.Proofs.YtmfpaeajibeikaaDoorW.PrintLast Go.Proofs.YtmfpaeajibeikaaDoorW.PrintMore
attribute [local go_sem] zje zjc zjo zjn zq1 zq0 zjd zjb   -- for this text's walks alone
set_option linter.unusedVariables false
set_option linter.unusedSimpArgs false

/-! ### zqu: function 11 -/
def zqu.f (l0:List (S30)):Option ((List (S30))):=if([]:List (S30)).length+l0.length<4398046511104 then(some (([]:List (S30)) ++ l0)) else (none)
set_option maxHeartbeats 8000000 in
set_option maxRecDepth 100000 in
theorem zqu.calls (A0:Option Addr) (c0:Nat) (l0:List (S30)) (r:List (S30)) (w:World) (hr0:Kd.C k30 w A0 l0.length l0) (hc0:l0.length≤c0) (h:zqu.f l0=some r) :
  Calls Tryd.prog 11 #[.slice A0 l0.length c0] w fun e w' => ∃ v0_:Value,e = .returned (v0_)∧Kd.R k30 30 w' w.heap.size (fun _=>True) v0_ r∧Below w.heap.size w w':=by
 have HR0:=zq.mk hr0
 have HC0:=zq.mk hc0
 clear hr0 hc0
 have HB:=zq.mk (Below.refl w.heap.size w)
 have H:(if([]:List (S30)).length+l0.length<4398046511104 then(some (([]:List (S30)) ++ l0)) else (none))=some r:=h
 clear h
 by_cases c2:([]:List (S30)).length+l0.length<4398046511104
 ·rw [if_pos c2] at H
  have LMc2:=zq.mk c2
  clear c2
  obtain ⟨y159,hy159⟩:∃ y_:List (S30),y_=(([]:List (S30)) ++ l0):=⟨_,rfl⟩
  replace H:(some y159)=some r:=by first|(rw [hy159];with_reducible exact H)|(have H2_:=(Option.bind_some _ _).symm.trans H;rw [hy159];with_reducible exact H2_)|(have H2_:=(Option.bind_some _ _).symm.trans H;with_reducible exact H2_)|with_reducible exact H|(rw [hy159];exact H)|exact H
  have Ny159:=zq.mk hy159
  clear hy159
  obtain rfl:=Option.some.inj H
  go_enter Tryd.func11,Tryd.ntmps11
  go_wp2_with (first|((with_reducible refine gate_builtin (b:=.append) (xs:=#[.const (.slice none 0 0),.tmp 3]) rfl ?_);at_builtin;refine Kd.R_append_rows k30 (w0:=w) w.heap.size rfl (.const (.slice none 0 0)) (.tmp 3) 34 30 (.agg #[(.int .i64 0),(.int .i64 0),(.string ⟨#[]⟩)]) 32 rfl Tryd.underlying34 info30 rfl (by decide) (by omega) (.slice none 0 0) ([]:List (S30)) l0 _ _ _ (fun _=>True) (fun _=>False) rfl rfl ?aO ?aR (fun _ _ h=>h) (fun _ h=>h.elim) ?aF ?aB ?aS ?aL ?_;(case aR=>exact Kd.cu HR0.out);(case aB=>exact bw);(case aF=>exact(fun _ _=>trivial));(case aO=>exact((Kd.R_nil _ _ _ _ (fun _=>True))));(case aS=>exact(zv bw));(case aL=>have:=LMc2.out;omega);intro v160 w3 ho hb hg hat;rw [← Ny159.out] at ho;replace HB:=zq.mk (hb);have HO161:=zq.mk (ho);clear ho hb hg hat))
  go_ret
  exact⟨_,by first|rfl|(simp [zk,zx] <;> rfl)|(simp [*,zk,zx] <;> rfl),by(with_reducible repeat(first|apply Kd.R_alloc|apply Kd.R_drewN|apply Kd.R_drew));exact HO161.out,bw⟩
 rw [if_neg c2] at H
 exact absurd H (by simp)

/-! ### zqb: function 48 -/
def zqb.f (a0_0:Int) (a0_1:Int) (a0_2:ByteArray):Option (Bool):=if a0_0=0 then(if a0_1=0 then(some (a0_2.toList == ([]:List UInt8))) else (some false)) else (some false)
set_option maxHeartbeats 8000000 in
set_option maxRecDepth 100000 in
theorem zqb.calls (a0_0:Int) (a0_1:Int) (a0_2:ByteArray) (r:Bool) (w:World) (h:zqb.f a0_0 a0_1 a0_2=some r) :
  Calls Tryd.prog 48 #[.agg #[.int .i64 a0_0,.int .i64 a0_1,.string a0_2]] w fun e w'=>e = .returned (.bool r)∧Below w.heap.size w w':=by
 have hu30:=Tryd.underlying30
 have HB:=zq.mk (Below.refl w.heap.size w)
 have H:(if a0_0=0 then(if a0_1=0 then(some (a0_2.toList == ([]:List UInt8))) else (some false)) else (some false))=some r:=h
 clear h
 by_cases c2:a0_0=0
 ·rw [if_pos c2] at H
  have c2b0:(a0_0 == 0)=true:=beq_iff_eq.mpr c2
  have c2b1:(a0_0 != 0)=false:=bne_eq_false_iff_eq.mpr c2
  clear c2
  by_cases c3:a0_1=0
  ·rw [if_pos c3] at H
   have c3b0:(a0_1 == 0)=true:=beq_iff_eq.mpr c3
   have c3b1:(a0_1 != 0)=false:=bne_eq_false_iff_eq.mpr c3
   clear c3
   obtain rfl:=Option.some.inj H
   go_enter Tryd.func48,Tryd.ntmps48
   go_wp2_with (first|((with_reducible refine ql (N:=1) rfl ?_);refine qh ?hg (N:=1) ?hd (cs:=#[.int .i64 a0_0,.int .i64 a0_1,.string a0_2]) (t:=30) ?hr ?_;(case hd=>rfl);(case hg=>rfl);(case hr=>first|(go_simp;done)|(go_simp;rfl));intro gb162 hg w4 hbox hb;have BK162:=zq.mk (hbox);have GW162:=zq.mk ((by rw [hg];exact(zv bw):w.heap.size≤gb162));have GE162:=zq.mk ((by rw [hg];exact(zv bw):w.heap.size≤gb162));replace HB:=zq.mk (zb bw hb);clear hb hbox hg;obtain ⟨hcz5_0,hcz5_1,hcz5_2,hfz5_0,hfz5_1,hfz5_2⟩:=zr BK162.out))
   go_ret
   exact⟨by first|rfl|(simp [zk,zx] <;> rfl)|(simp [*,zk,zx] <;> rfl),bw⟩
  rw [if_neg c3] at H
  have c3b0:(a0_1 == 0)=false:=beq_eq_false_iff_ne.mpr c3
  have c3b1:(a0_1 != 0)=true:=bne_iff_ne.mpr c3
  obtain rfl:=Option.some.inj H
  go_enter Tryd.func48,Tryd.ntmps48
  go_wp2_with (first|((with_reducible refine ql (N:=1) rfl ?_);refine qh ?hg (N:=1) ?hd (cs:=#[.int .i64 a0_0,.int .i64 a0_1,.string a0_2]) (t:=30) ?hr ?_;(case hd=>rfl);(case hg=>rfl);(case hr=>first|(go_simp;done)|(go_simp;rfl));intro gb162 hg w6 hbox hb;have BK162:=zq.mk (hbox);have GW162:=zq.mk ((by rw [hg];exact(zv bw):w.heap.size≤gb162));have GE162:=zq.mk ((by rw [hg];exact(zv bw):w.heap.size≤gb162));replace HB:=zq.mk (zb bw hb);clear hb hbox hg;obtain ⟨hcz7_0,hcz7_1,hcz7_2,hfz7_0,hfz7_1,hfz7_2⟩:=zr BK162.out))
  go_ret
  exact⟨by first|rfl|(simp [zk,zx] <;> rfl)|(simp [*,zk,zx] <;> rfl),bw⟩
 rw [if_neg c2] at H
 have c2b0:(a0_0 == 0)=false:=beq_eq_false_iff_ne.mpr c2
 have c2b1:(a0_0 != 0)=true:=bne_iff_ne.mpr c2
 obtain rfl:=Option.some.inj H
 go_enter Tryd.func48,Tryd.ntmps48
 go_wp2_with (first|((with_reducible refine ql (N:=1) rfl ?_);refine qh ?hg (N:=1) ?hd (cs:=#[.int .i64 a0_0,.int .i64 a0_1,.string a0_2]) (t:=30) ?hr ?_;(case hd=>rfl);(case hg=>rfl);(case hr=>first|(go_simp;done)|(go_simp;rfl));intro gb162 hg w8 hbox hb;have BK162:=zq.mk (hbox);have GW162:=zq.mk ((by rw [hg];exact(zv bw):w.heap.size≤gb162));have GE162:=zq.mk ((by rw [hg];exact(zv bw):w.heap.size≤gb162));replace HB:=zq.mk (zb bw hb);clear hb hbox hg;obtain ⟨hcz9_0,hcz9_1,hcz9_2,hfz9_0,hfz9_1,hfz9_2⟩:=zr BK162.out))
 go_ret
 exact⟨by first|rfl|(simp [zk,zx] <;> rfl)|(simp [*,zk,zx] <;> rfl),bw⟩

/-! ### zqt: function 32 -/
def zqt.f (a0_0:Int) (a0_1:Int) (a0_2:Int) (a0_3:ByteArray) (a0_4:ByteArray) (a0_5:ByteArray) (a0_6:Int) (l0_7:List (S33)):Option (Bool):=if a0_0=0 then((zqb.f a0_1 a0_2 a0_3).bind fun t164=>(if t164=true then(if a0_4.toList=([]:List UInt8) then(if a0_5.toList=([]:List UInt8) then(if a0_6=0 then(some ((l0_7.length:Int) == 0)) else (some false)) else (some false)) else (some false)) else (some false))) else (some false)
set_option maxHeartbeats 8000000 in
set_option maxRecDepth 100000 in
theorem zqt.calls (a0_0:Int) (a0_1:Int) (a0_2:Int) (a0_3:ByteArray) (a0_4:ByteArray) (a0_5:ByteArray) (a0_6:Int) (A0_7:Option Addr) (c0_7:Nat) (l0_7:List (S33)) (r:Bool) (w:World) (hr0_7:Kd.C k33 w A0_7 l0_7.length l0_7) (hc0_7:l0_7.length≤c0_7) (h:zqt.f a0_0 a0_1 a0_2 a0_3 a0_4 a0_5 a0_6 l0_7=some r) :
  Calls Tryd.prog 32 #[.agg #[.int .i64 a0_0,.int .i64 a0_1,.int .i64 a0_2,.string a0_3,.string a0_4,.string a0_5,.int .i64 a0_6,.slice A0_7 l0_7.length c0_7]] w fun e w'=>e = .returned (.bool r)∧Below w.heap.size w w':=by
 have hu33:=Tryd.underlying33
 have hu30:=Tryd.underlying30
 have HR0_7:=zq.mk hr0_7
 have HC0_7:=zq.mk hc0_7
 clear hr0_7 hc0_7
 have HB:=zq.mk (Below.refl w.heap.size w)
 have H:(if a0_0=0 then((zqb.f a0_1 a0_2 a0_3).bind fun t164=>(if t164=true then(if a0_4.toList=([]:List UInt8) then(if a0_5.toList=([]:List UInt8) then(if a0_6=0 then(some ((l0_7.length:Int) == 0)) else (some false)) else (some false)) else (some false)) else (some false))) else (some false))=some r:=h
 clear h
 by_cases c2:a0_0=0
 ·rw [if_pos c2] at H
  have c2b0:(a0_0 == 0)=true:=beq_iff_eq.mpr c2
  have c2b1:(a0_0 != 0)=false:=bne_eq_false_iff_eq.mpr c2
  clear c2
  replace H:=Option.bind_eq_some_iff.mp H
  obtain ⟨t164,A30,H⟩:=H
  replace H:(if t164=true then(if a0_4.toList=([]:List UInt8) then(if a0_5.toList=([]:List UInt8) then(if a0_6=0 then(some ((l0_7.length:Int) == 0)) else (some false)) else (some false)) else (some false)) else (some false))=some r:=H
  have A3:=zq.mk A30
  clear A30
  by_cases c4:t164=true
  ·subst c4
   rw [if_pos rfl] at H
   by_cases c5:a0_4.toList=([]:List UInt8)
   ·rw [if_pos c5] at H
    have c5b0:(a0_4.toList == ([]:List UInt8))=true:=beq_iff_eq.mpr c5
    have c5b1:(a0_4.toList != ([]:List UInt8))=false:=bne_eq_false_iff_eq.mpr c5
    clear c5
    by_cases c6:a0_5.toList=([]:List UInt8)
    ·rw [if_pos c6] at H
     have c6b0:(a0_5.toList == ([]:List UInt8))=true:=beq_iff_eq.mpr c6
     have c6b1:(a0_5.toList != ([]:List UInt8))=false:=bne_eq_false_iff_eq.mpr c6
     clear c6
     by_cases c7:a0_6=0
     ·rw [if_pos c7] at H
      have c7b0:(a0_6 == 0)=true:=beq_iff_eq.mpr c7
      have c7b1:(a0_6 != 0)=false:=bne_eq_false_iff_eq.mpr c7
      clear c7
      obtain rfl:=Option.some.inj H
      go_enter Tryd.func32,Tryd.ntmps32
      go_wp2_with (first|((with_reducible refine ql (N:=1) rfl ?_);(try(refine zjy (by rfl) ?_;dsimp only));refine qh ?hg (N:=1) ?hd (cs:=#[.int .i64 a0_0,.int .i64 a0_1,.int .i64 a0_2,.string a0_3,.string a0_4,.string a0_5,.int .i64 a0_6,.slice A0_7 l0_7.length c0_7]) (t:=33) ?hr ?_;(case hd=>rfl);(case hg=>rfl);(case hr=>first|(go_simp;done)|(go_simp;rfl));intro gb163 hg w8 hbox hb;have BK163:=zq.mk (hbox);have GW163:=zq.mk ((by rw [hg];exact(zv bw):w.heap.size≤gb163));have GE163:=zq.mk ((by rw [hg];exact(zv bw):w.heap.size≤gb163));replace HB:=zq.mk (zb bw hb);clear hb hbox hg;obtain ⟨hcz9_0,hcz9_1,hcz9_2,hcz9_3,hcz9_4,hcz9_5,hcz9_6,hcz9_7,hfz9_0,hfz9_1,hfz9_2,hfz9_3,hfz9_4,hfz9_5,hfz9_6,hfz9_7⟩:=zql BK163.out)|(go_at_call 48;(with_reducible refine(zqb.calls a0_1 a0_2 a0_3 true _ A3.out).mono ?_);rintro e w10 ⟨rfl,hb⟩;replace BK163:=zq.mk (zf (g:=gb163) (o:=.cells #[.int .i64 a0_0,.int .i64 a0_1,.int .i64 a0_2,.string a0_3,.string a0_4,.string a0_5,.int .i64 a0_6,.slice A0_7 l0_7.length c0_7] 33 (0,0)) (up BK163.out) hb);replace HB:=zq.mk (zb bw hb);(try clear hb);(try clear hb2);(try clear hk);(try clear hi);obtain ⟨hcz11_0,hcz11_1,hcz11_2,hcz11_3,hcz11_4,hcz11_5,hcz11_6,hcz11_7,hfz11_0,hfz11_1,hfz11_2,hfz11_3,hfz11_4,hfz11_5,hfz11_6,hfz11_7⟩:=zql BK163.out))
      go_ret
      exact⟨by first|rfl|(simp [zk,zx] <;> rfl)|(simp [*,zk,zx] <;> rfl),bw⟩
     rw [if_neg c7] at H
     have c7b0:(a0_6 == 0)=false:=beq_eq_false_iff_ne.mpr c7
     have c7b1:(a0_6 != 0)=true:=bne_iff_ne.mpr c7
     obtain rfl:=Option.some.inj H
     go_enter Tryd.func32,Tryd.ntmps32
     go_wp2_with (first|((with_reducible refine ql (N:=1) rfl ?_);(try(refine zjy (by rfl) ?_;dsimp only));refine qh ?hg (N:=1) ?hd (cs:=#[.int .i64 a0_0,.int .i64 a0_1,.int .i64 a0_2,.string a0_3,.string a0_4,.string a0_5,.int .i64 a0_6,.slice A0_7 l0_7.length c0_7]) (t:=33) ?hr ?_;(case hd=>rfl);(case hg=>rfl);(case hr=>first|(go_simp;done)|(go_simp;rfl));intro gb163 hg w12 hbox hb;have BK163:=zq.mk (hbox);have GW163:=zq.mk ((by rw [hg];exact(zv bw):w.heap.size≤gb163));have GE163:=zq.mk ((by rw [hg];exact(zv bw):w.heap.size≤gb163));replace HB:=zq.mk (zb bw hb);clear hb hbox hg;obtain ⟨hcz13_0,hcz13_1,hcz13_2,hcz13_3,hcz13_4,hcz13_5,hcz13_6,hcz13_7,hfz13_0,hfz13_1,hfz13_2,hfz13_3,hfz13_4,hfz13_5,hfz13_6,hfz13_7⟩:=zql BK163.out)|(go_at_call 48;(with_reducible refine(zqb.calls a0_1 a0_2 a0_3 true _ A3.out).mono ?_);rintro e w14 ⟨rfl,hb⟩;replace BK163:=zq.mk (zf (g:=gb163) (o:=.cells #[.int .i64 a0_0,.int .i64 a0_1,.int .i64 a0_2,.string a0_3,.string a0_4,.string a0_5,.int .i64 a0_6,.slice A0_7 l0_7.length c0_7] 33 (0,0)) (up BK163.out) hb);replace HB:=zq.mk (zb bw hb);(try clear hb);(try clear hb2);(try clear hk);(try clear hi);obtain ⟨hcz15_0,hcz15_1,hcz15_2,hcz15_3,hcz15_4,hcz15_5,hcz15_6,hcz15_7,hfz15_0,hfz15_1,hfz15_2,hfz15_3,hfz15_4,hfz15_5,hfz15_6,hfz15_7⟩:=zql BK163.out))
     go_ret
     exact⟨by first|rfl|(simp [zk,zx] <;> rfl)|(simp [*,zk,zx] <;> rfl),bw⟩
    rw [if_neg c6] at H
    have c6b0:(a0_5.toList == ([]:List UInt8))=false:=beq_eq_false_iff_ne.mpr c6
    have c6b1:(a0_5.toList != ([]:List UInt8))=true:=bne_iff_ne.mpr c6
    obtain rfl:=Option.some.inj H
    go_enter Tryd.func32,Tryd.ntmps32
    go_wp2_with (first|((with_reducible refine ql (N:=1) rfl ?_);(try(refine zjy (by rfl) ?_;dsimp only));refine qh ?hg (N:=1) ?hd (cs:=#[.int .i64 a0_0,.int .i64 a0_1,.int .i64 a0_2,.string a0_3,.string a0_4,.string a0_5,.int .i64 a0_6,.slice A0_7 l0_7.length c0_7]) (t:=33) ?hr ?_;(case hd=>rfl);(case hg=>rfl);(case hr=>first|(go_simp;done)|(go_simp;rfl));intro gb163 hg w16 hbox hb;have BK163:=zq.mk (hbox);have GW163:=zq.mk ((by rw [hg];exact(zv bw):w.heap.size≤gb163));have GE163:=zq.mk ((by rw [hg];exact(zv bw):w.heap.size≤gb163));replace HB:=zq.mk (zb bw hb);clear hb hbox hg;obtain ⟨hcz17_0,hcz17_1,hcz17_2,hcz17_3,hcz17_4,hcz17_5,hcz17_6,hcz17_7,hfz17_0,hfz17_1,hfz17_2,hfz17_3,hfz17_4,hfz17_5,hfz17_6,hfz17_7⟩:=zql BK163.out)|(go_at_call 48;(with_reducible refine(zqb.calls a0_1 a0_2 a0_3 true _ A3.out).mono ?_);rintro e w18 ⟨rfl,hb⟩;replace BK163:=zq.mk (zf (g:=gb163) (o:=.cells #[.int .i64 a0_0,.int .i64 a0_1,.int .i64 a0_2,.string a0_3,.string a0_4,.string a0_5,.int .i64 a0_6,.slice A0_7 l0_7.length c0_7] 33 (0,0)) (up BK163.out) hb);replace HB:=zq.mk (zb bw hb);(try clear hb);(try clear hb2);(try clear hk);(try clear hi);obtain ⟨hcz19_0,hcz19_1,hcz19_2,hcz19_3,hcz19_4,hcz19_5,hcz19_6,hcz19_7,hfz19_0,hfz19_1,hfz19_2,hfz19_3,hfz19_4,hfz19_5,hfz19_6,hfz19_7⟩:=zql BK163.out))
    go_ret
    exact⟨by first|rfl|(simp [zk,zx] <;> rfl)|(simp [*,zk,zx] <;> rfl),bw⟩
   rw [if_neg c5] at H
   have c5b0:(a0_4.toList == ([]:List UInt8))=false:=beq_eq_false_iff_ne.mpr c5
   have c5b1:(a0_4.toList != ([]:List UInt8))=true:=bne_iff_ne.mpr c5
   obtain rfl:=Option.some.inj H
   go_enter Tryd.func32,Tryd.ntmps32
   go_wp2_with (first|((with_reducible refine ql (N:=1) rfl ?_);(try(refine zjy (by rfl) ?_;dsimp only));refine qh ?hg (N:=1) ?hd (cs:=#[.int .i64 a0_0,.int .i64 a0_1,.int .i64 a0_2,.string a0_3,.string a0_4,.string a0_5,.int .i64 a0_6,.slice A0_7 l0_7.length c0_7]) (t:=33) ?hr ?_;(case hd=>rfl);(case hg=>rfl);(case hr=>first|(go_simp;done)|(go_simp;rfl));intro gb163 hg w20 hbox hb;have BK163:=zq.mk (hbox);have GW163:=zq.mk ((by rw [hg];exact(zv bw):w.heap.size≤gb163));have GE163:=zq.mk ((by rw [hg];exact(zv bw):w.heap.size≤gb163));replace HB:=zq.mk (zb bw hb);clear hb hbox hg;obtain ⟨hcz21_0,hcz21_1,hcz21_2,hcz21_3,hcz21_4,hcz21_5,hcz21_6,hcz21_7,hfz21_0,hfz21_1,hfz21_2,hfz21_3,hfz21_4,hfz21_5,hfz21_6,hfz21_7⟩:=zql BK163.out)|(go_at_call 48;(with_reducible refine(zqb.calls a0_1 a0_2 a0_3 true _ A3.out).mono ?_);rintro e w22 ⟨rfl,hb⟩;replace BK163:=zq.mk (zf (g:=gb163) (o:=.cells #[.int .i64 a0_0,.int .i64 a0_1,.int .i64 a0_2,.string a0_3,.string a0_4,.string a0_5,.int .i64 a0_6,.slice A0_7 l0_7.length c0_7] 33 (0,0)) (up BK163.out) hb);replace HB:=zq.mk (zb bw hb);(try clear hb);(try clear hb2);(try clear hk);(try clear hi);obtain ⟨hcz23_0,hcz23_1,hcz23_2,hcz23_3,hcz23_4,hcz23_5,hcz23_6,hcz23_7,hfz23_0,hfz23_1,hfz23_2,hfz23_3,hfz23_4,hfz23_5,hfz23_6,hfz23_7⟩:=zql BK163.out))
   go_ret
   exact⟨by first|rfl|(simp [zk,zx] <;> rfl)|(simp [*,zk,zx] <;> rfl),bw⟩
  replace c4:=Bool.eq_false_iff.mpr c4
  subst c4
  rw [if_neg (show ¬ (false=true) by decide)] at H
  obtain rfl:=Option.some.inj H
  go_enter Tryd.func32,Tryd.ntmps32
  go_wp2_with (first|((with_reducible refine ql (N:=1) rfl ?_);(try(refine zjy (by rfl) ?_;dsimp only));refine qh ?hg (N:=1) ?hd (cs:=#[.int .i64 a0_0,.int .i64 a0_1,.int .i64 a0_2,.string a0_3,.string a0_4,.string a0_5,.int .i64 a0_6,.slice A0_7 l0_7.length c0_7]) (t:=33) ?hr ?_;(case hd=>rfl);(case hg=>rfl);(case hr=>first|(go_simp;done)|(go_simp;rfl));intro gb163 hg w24 hbox hb;have BK163:=zq.mk (hbox);have GW163:=zq.mk ((by rw [hg];exact(zv bw):w.heap.size≤gb163));have GE163:=zq.mk ((by rw [hg];exact(zv bw):w.heap.size≤gb163));replace HB:=zq.mk (zb bw hb);clear hb hbox hg;obtain ⟨hcz25_0,hcz25_1,hcz25_2,hcz25_3,hcz25_4,hcz25_5,hcz25_6,hcz25_7,hfz25_0,hfz25_1,hfz25_2,hfz25_3,hfz25_4,hfz25_5,hfz25_6,hfz25_7⟩:=zql BK163.out)|(go_at_call 48;(with_reducible refine(zqb.calls a0_1 a0_2 a0_3 false _ A3.out).mono ?_);rintro e w26 ⟨rfl,hb⟩;replace BK163:=zq.mk (zf (g:=gb163) (o:=.cells #[.int .i64 a0_0,.int .i64 a0_1,.int .i64 a0_2,.string a0_3,.string a0_4,.string a0_5,.int .i64 a0_6,.slice A0_7 l0_7.length c0_7] 33 (0,0)) (up BK163.out) hb);replace HB:=zq.mk (zb bw hb);(try clear hb);(try clear hb2);(try clear hk);(try clear hi)))
  go_ret
  exact⟨by first|rfl|(simp [zk,zx] <;> rfl)|(simp [*,zk,zx] <;> rfl),bw⟩
 rw [if_neg c2] at H
 have c2b0:(a0_0 == 0)=false:=beq_eq_false_iff_ne.mpr c2
 have c2b1:(a0_0 != 0)=true:=bne_iff_ne.mpr c2
 obtain rfl:=Option.some.inj H
 go_enter Tryd.func32,Tryd.ntmps32
 go_wp2_with (first|((with_reducible refine ql (N:=1) rfl ?_);(try(refine zjy (by rfl) ?_;dsimp only));refine qh ?hg (N:=1) ?hd (cs:=#[.int .i64 a0_0,.int .i64 a0_1,.int .i64 a0_2,.string a0_3,.string a0_4,.string a0_5,.int .i64 a0_6,.slice A0_7 l0_7.length c0_7]) (t:=33) ?hr ?_;(case hd=>rfl);(case hg=>rfl);(case hr=>first|(go_simp;done)|(go_simp;rfl));intro gb163 hg w27 hbox hb;have BK163:=zq.mk (hbox);have GW163:=zq.mk ((by rw [hg];exact(zv bw):w.heap.size≤gb163));have GE163:=zq.mk ((by rw [hg];exact(zv bw):w.heap.size≤gb163));replace HB:=zq.mk (zb bw hb);clear hb hbox hg;obtain ⟨hcz28_0,hcz28_1,hcz28_2,hcz28_3,hcz28_4,hcz28_5,hcz28_6,hcz28_7,hfz28_0,hfz28_1,hfz28_2,hfz28_3,hfz28_4,hfz28_5,hfz28_6,hfz28_7⟩:=zql BK163.out))
 go_ret
 exact⟨by first|rfl|(simp [zk,zx] <;> rfl)|(simp [*,zk,zx] <;> rfl),bw⟩

end Go.Proofs.YtmfpaeajibeikaaDoor.PEvalHolds
