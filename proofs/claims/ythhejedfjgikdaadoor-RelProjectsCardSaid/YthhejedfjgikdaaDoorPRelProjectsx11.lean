-- Written by wip/pp of this repo (over the kit's print, with additions of this session); Lean checks every line.
import Derived.Test.YthhejedfjgikdaaDoorPRelProjectsx7
import Derived.Test.YthhejedfjgikdaaDoorPRelProjectsx10
namespace Go.Proofs.YthhejedfjgikdaaDoor.PRelProjects
open Go.RowKit Go.Proofs.YthhejedfjgikdaaDoorW.PrintWords Go.Proofs.YthhejedfjgikdaaDoorW.PrintLast Go.Proofs.YthhejedfjgikdaaDoorW.PrintMore
attribute [local go_sem] zjh zjf zjq zjp zq4 zq3 zjg zje   -- for this text's walks alone
set_option linter.unusedVariables false
set_option linter.unusedSimpArgs false

/-! ### zql: function 41 -/
def zql.f (k:Nat) (a0_0:Int) (a0_1:Int) (a0_2:Int) (a0_3:ByteArray) (a0_4:ByteArray) (a0_5:ByteArray) (a0_6:Int) (l0_7:List (S41)) (a1:Int):Option (Bool):=(qr.f k a0_0 a0_1 a0_2 a0_3 a0_4 a0_5 a0_6 l0_7 14).bind fun t204=>(if t204≤12 then((zd.f k a0_0 a0_1 a0_2 a0_3 a0_4 a0_5 a0_6 l0_7 a1).bind fun t205=>(some t205)) else (some false))
theorem zql.mono:∀ a0 a1 a2 a3 a4 a5 a6 a7 a8 k,LeO (zql.f k a0 a1 a2 a3 a4 a5 a6 a7 a8) (zql.f (k+1) a0 a1 a2 a3 a4 a5 a6 a7 a8):=by
 intro a0 a1 a2 a3 a4 a5 a6 a7 a8 k
 unfold zql.f
 repeat' first
   | (with_reducible first|exact zd.mono _ _ _ _ _ _ _ _ _ _|exact qr.mono _ _ _ _ _ _ _ _ _ _|exact LeO.refl _|exact LeO.none _|refine LeO.ite ?_ ?_|refine LeO.bind ?_ (fun _=>?_))
   | exact zd.mono _ _ _ _ _ _ _ _ _ _
   | exact qr.mono _ _ _ _ _ _ _ _ _ _
   | exact LeO.none _
   | refine LeO.ite ?_ ?_
   | refine LeO.bind ?_ (fun _=>?_)
set_option maxHeartbeats 8000000 in
set_option maxRecDepth 100000 in
theorem zql.calls (k:Nat) (a0_0:Int) (a0_1:Int) (a0_2:Int) (a0_3:ByteArray) (a0_4:ByteArray) (a0_5:ByteArray) (a0_6:Int) (A0_7:Option Addr) (c0_7:Nat) (l0_7:List (S41)) (a1:Int) (r:Bool) (w:World) (hr0_7:Kd.C k41 w A0_7 l0_7.length l0_7) (hc0_7:l0_7.length≤c0_7) (h:zql.f k a0_0 a0_1 a0_2 a0_3 a0_4 a0_5 a0_6 l0_7 a1=some r) :
  Calls Tryd.prog 41 #[.agg #[.int .i64 a0_0,.int .i64 a0_1,.int .i64 a0_2,.string a0_3,.string a0_4,.string a0_5,.int .i64 a0_6,.slice A0_7 l0_7.length c0_7],.int .i64 a1] w fun e w'=>e = .returned (.bool r)∧Below w.heap.size w w':=by
 have hu41:=Tryd.underlying41
 have HR0_7:=zq.mk hr0_7
 have HC0_7:=zq.mk hc0_7
 clear hr0_7 hc0_7
 have HB:=zq.mk (Below.refl w.heap.size w)
 have H:((qr.f k a0_0 a0_1 a0_2 a0_3 a0_4 a0_5 a0_6 l0_7 14).bind fun t204=>(if t204≤12 then((zd.f k a0_0 a0_1 a0_2 a0_3 a0_4 a0_5 a0_6 l0_7 a1).bind fun t205=>(some t205)) else (some false)))=some r:=h
 clear h
 replace H:=Option.bind_eq_some_iff.mp H
 obtain ⟨t204,A30,H⟩:=H
 replace H:(if t204≤12 then((zd.f k a0_0 a0_1 a0_2 a0_3 a0_4 a0_5 a0_6 l0_7 a1).bind fun t205=>(some t205)) else (some false))=some r:=H
 have A3:=zq.mk A30
 clear A30
 by_cases c4:t204≤12
 ·rw [if_pos c4] at H
  have c4b0:=decide_eq_true c4
  clear c4
  replace H:=Option.bind_eq_some_iff.mp H
  obtain ⟨t205,A50,H⟩:=H
  replace H:(some t205)=some r:=H
  have A5:=zq.mk A50
  clear A50
  obtain rfl:=Option.some.inj H
  go_enter Tryd.func41,Tryd.ntmps41
  go_wp2_with (first|((with_reducible refine qo (N:=2) rfl ?_);refine qd ?hg (N:=2) ?hd (cs:=#[.int .i64 a0_0,.int .i64 a0_1,.int .i64 a0_2,.string a0_3,.string a0_4,.string a0_5,.int .i64 a0_6,.slice A0_7 l0_7.length c0_7]) (t:=41) ?hr ?_;(case hd=>rfl);(case hg=>rfl);(case hr=>first|(go_simp;done)|(go_simp;rfl));intro gb203 hg w6 hbox hb;have BK203:=zq.mk (hbox);have GW203:=zq.mk ((by rw [hg];exact(zy bw):w.heap.size≤gb203));have GE203:=zq.mk ((by rw [hg];exact(zy bw):w.heap.size≤gb203));replace HB:=zq.mk (zt bw hb);clear hb hbox hg;obtain ⟨hcz7_0,hcz7_1,hcz7_2,hcz7_3,hcz7_4,hcz7_5,hcz7_6,hcz7_7,hfz7_0,hfz7_1,hfz7_2,hfz7_3,hfz7_4,hfz7_5,hfz7_6,hfz7_7⟩:=zqv BK203.out)|((with_reducible refine zl (f:=70) rfl ?_);refine qu (some 6) rfl rfl Tryd.func70 (by kernel_rfl) rfl #[.agg #[.int .i64 a0_0,.int .i64 a0_1,.int .i64 a0_2,.string a0_3,.string a0_4,.string a0_5,.int .i64 a0_6,.slice A0_7 l0_7.length c0_7],.int .i64 14] rfl gs ?_;(with_reducible refine(qr.calls k a0_0 a0_1 a0_2 a0_3 a0_4 a0_5 a0_6 _ _ l0_7 14 t204 _ ?side1 ?side2 A3.out).mono ?_);(case side1=>exact Kd.cu (Kd.zqj HR0_7.out HB.out));(case side2=>exact HC0_7.out);rintro e w8 ⟨rfl,hb⟩;refine⟨_,rfl,?_⟩;replace BK203:=zq.mk (za (g:=gb203) (o:=.cells #[.int .i64 a0_0,.int .i64 a0_1,.int .i64 a0_2,.string a0_3,.string a0_4,.string a0_5,.int .i64 a0_6,.slice A0_7 l0_7.length c0_7] 41 (0,0)) (up BK203.out) hb);replace HB:=zq.mk (zt bw hb);(try clear hb);(try clear hb2);(try clear hk);(try clear hi);obtain ⟨hcz9_0,hcz9_1,hcz9_2,hcz9_3,hcz9_4,hcz9_5,hcz9_6,hcz9_7,hfz9_0,hfz9_1,hfz9_2,hfz9_3,hfz9_4,hfz9_5,hfz9_6,hfz9_7⟩:=zqv BK203.out)|(go_at_call 71;(with_reducible refine(zd.calls k a0_0 a0_1 a0_2 a0_3 a0_4 a0_5 a0_6 _ _ l0_7 a1 t205 _ ?side1 ?side2 A5.out).mono ?_);(case side1=>exact Kd.cu (Kd.zqj HR0_7.out HB.out));(case side2=>exact HC0_7.out);rintro e w10 ⟨rfl,hb⟩;replace BK203:=zq.mk (za (g:=gb203) (o:=.cells #[.int .i64 a0_0,.int .i64 a0_1,.int .i64 a0_2,.string a0_3,.string a0_4,.string a0_5,.int .i64 a0_6,.slice A0_7 l0_7.length c0_7] 41 (0,0)) (up BK203.out) hb);replace HB:=zq.mk (zt bw hb);(try clear hb);(try clear hb2);(try clear hk);(try clear hi)))
  go_ret
  exact⟨by first|rfl|(simp [zx,zj] <;> rfl)|(simp [*,zx,zj] <;> rfl),bw⟩
 rw [if_neg c4] at H
 have c4b0:=decide_eq_false c4
 clear c4
 obtain rfl:=Option.some.inj H
 go_enter Tryd.func41,Tryd.ntmps41
 go_wp2_with (first|((with_reducible refine qo (N:=2) rfl ?_);refine qd ?hg (N:=2) ?hd (cs:=#[.int .i64 a0_0,.int .i64 a0_1,.int .i64 a0_2,.string a0_3,.string a0_4,.string a0_5,.int .i64 a0_6,.slice A0_7 l0_7.length c0_7]) (t:=41) ?hr ?_;(case hd=>rfl);(case hg=>rfl);(case hr=>first|(go_simp;done)|(go_simp;rfl));intro gb203 hg w11 hbox hb;have BK203:=zq.mk (hbox);have GW203:=zq.mk ((by rw [hg];exact(zy bw):w.heap.size≤gb203));have GE203:=zq.mk ((by rw [hg];exact(zy bw):w.heap.size≤gb203));replace HB:=zq.mk (zt bw hb);clear hb hbox hg;obtain ⟨hcz12_0,hcz12_1,hcz12_2,hcz12_3,hcz12_4,hcz12_5,hcz12_6,hcz12_7,hfz12_0,hfz12_1,hfz12_2,hfz12_3,hfz12_4,hfz12_5,hfz12_6,hfz12_7⟩:=zqv BK203.out)|((with_reducible refine zl (f:=70) rfl ?_);refine qu (some 6) rfl rfl Tryd.func70 (by kernel_rfl) rfl #[.agg #[.int .i64 a0_0,.int .i64 a0_1,.int .i64 a0_2,.string a0_3,.string a0_4,.string a0_5,.int .i64 a0_6,.slice A0_7 l0_7.length c0_7],.int .i64 14] rfl gs ?_;(with_reducible refine(qr.calls k a0_0 a0_1 a0_2 a0_3 a0_4 a0_5 a0_6 _ _ l0_7 14 t204 _ ?side1 ?side2 A3.out).mono ?_);(case side1=>exact Kd.cu (Kd.zqj HR0_7.out HB.out));(case side2=>exact HC0_7.out);rintro e w13 ⟨rfl,hb⟩;refine⟨_,rfl,?_⟩;replace BK203:=zq.mk (za (g:=gb203) (o:=.cells #[.int .i64 a0_0,.int .i64 a0_1,.int .i64 a0_2,.string a0_3,.string a0_4,.string a0_5,.int .i64 a0_6,.slice A0_7 l0_7.length c0_7] 41 (0,0)) (up BK203.out) hb);replace HB:=zq.mk (zt bw hb);(try clear hb);(try clear hb2);(try clear hk);(try clear hi)))
 go_ret
 exact⟨by first|rfl|(simp [zx,zj] <;> rfl)|(simp [*,zx,zj] <;> rfl),bw⟩

/-! ### qk: function 42 -/
def qk.l0:Nat→List (S38)→Int→Int→Option (Int)
 | 0,_,_,_=>none
 | k+1,x6,x7,x8=>if x8<x7 then(if 0≤x8 then(if x8<(x6.length:Int) then((zw.f k ((qe x6 x8).f0) ((qe x6 x8).f1) ((qe x6 x8).f2)).bind fun t208=>(if t208=0 then(qk.l0 k x6 x7 (wrap64 (x8+1))) else (some t208))) else (none)) else (none)) else (some 0)
def qk.f (k:Nat) (l0:List (S38)):Option (Int):=qk.l0 k l0 (l0.length:Int) 0
theorem qk.mono_l:∀ k,(∀ y0 y1 y2,LeO (qk.l0 k y0 y1 y2) (qk.l0 (k+1) y0 y1 y2))
 | 0=>fun _ _ _ r h=>by simp [qk.l0] at h
 | k+1=>by
  have ih0:=qk.mono_l k
  intro y0 y1 y2
  unfold qk.l0
  repeat' first
  | (with_reducible first|exact ih0 _ _ _|exact zw.mono _ _ _ _|exact LeO.refl _|exact LeO.none _|refine LeO.ite ?_ ?_|refine LeO.bind ?_ (fun _=>?_))
  | exact ih0 _ _ _
  | exact zw.mono _ _ _ _
  | exact LeO.none _
  | refine LeO.ite ?_ ?_
  | refine LeO.bind ?_ (fun _=>?_)
theorem qk.mono:∀ a0 k,LeO (qk.f k a0) (qk.f (k+1) a0):=by
 intro a0 k
 have ih0:=qk.mono_l k
 unfold qk.f
 repeat' first
   | (with_reducible first|exact ih0 _ _ _|exact zw.mono _ _ _ _|exact LeO.refl _|exact LeO.none _|refine LeO.ite ?_ ?_|refine LeO.bind ?_ (fun _=>?_))
   | exact ih0 _ _ _
   | exact zw.mono _ _ _ _
   | exact LeO.none _
   | refine LeO.ite ?_ ?_
   | refine LeO.bind ?_ (fun _=>?_)
set_option maxHeartbeats 8000000 in
set_option maxRecDepth 100000 in
theorem qk.calls (k:Nat) (A0:Option Addr) (c0:Nat) (l0:List (S38)) (r:Int) (w:World) (hr0:Kd.C k38 w A0 l0.length l0) (hc0:l0.length≤c0) (h:qk.f k l0=some r) :
  Calls Tryd.prog 42 #[.slice A0 l0.length c0] w fun e w'=>e = .returned (.int .i64 r)∧Below w.heap.size w w':=by
 have hu38:=Tryd.underlying38
 have HR0:=zq.mk hr0
 have HC0:=zq.mk hc0
 clear hr0 hc0
 have HB:=zq.mk (Below.refl w.heap.size w)
 have H:(qk.l0 k l0 (l0.length:Int) 0)=some r:=h
 clear h
 have H':=zq.mk H
 clear H
 go_enter Tryd.func42,Tryd.ntmps42
 go_wp2
 go_loopg [8] k (fun kq v8 w' => ∃ (x8_1:Int),v8 = .int .i64 x8_1∧zq (qk.l0 kq l0 (l0.length:Int) x8_1=some r)∧zq (kq≤k)∧zq (Below w.heap.size w w'))
 case atStart=>exact⟨(0),vr,H',⟨Nat.le_refl _⟩,⟨bw⟩⟩
 case round=>
  clear H'
  obtain ⟨x8_1,rfl,HA,HK1,HB⟩:=hrel
  cases gk with
  | zero=>exact absurd HA.out (by simp [qk.l0])
  | succ k1=>
   have H:=HA.out
   clear HA
   simp only [qk.l0] at H
   by_cases c2:x8_1<(l0.length:Int)
   ·rw [if_pos c2] at H
    have c2b0:=decide_eq_true c2
    clear c2
    by_cases c3:0≤x8_1
    ·rw [if_pos c3] at H
     have c3b0:=decide_eq_true c3
     clear c3
     by_cases c4:x8_1<(l0.length:Int)
     ·rw [if_pos c4] at H
      have c4b0:=decide_eq_true c4
      clear c4
      replace H:=Option.bind_eq_some_iff.mp H
      obtain ⟨t208,A50,H⟩:=H
      replace H:(if t208=0 then(qk.l0 k1 l0 (l0.length:Int) (wrap64 (x8_1+1))) else (some t208))=some r:=H
      have A5:=zq.mk A50
      clear A50
      by_cases c6:t208=0
      ·rw [if_pos c6] at H
       have c6b0:(t208 == 0)=true:=beq_iff_eq.mpr c6
       have c6b1:(t208 != 0)=false:=bne_eq_false_iff_eq.mpr c6
       clear c6
       have H':=zq.mk H
       clear H
       have p206:0≤(x8_1:Int):=dt
       have q206:x8_1<(l0.length:Int):=dt
       obtain ⟨ad206,e206,hx206_0,hx206_1,hx206_2⟩:=zj6 HR0.out x8_1 p206 q206
       cases e206
       replace hx206_0:=(HB.out.cell (World.block_lt_of_cell? w _ hx206_0)).trans hx206_0
       replace hx206_1:=(HB.out.cell (World.block_lt_of_cell? w _ hx206_1)).trans hx206_1
       replace hx206_2:=(HB.out.cell (World.block_lt_of_cell? w _ hx206_2)).trans hx206_2
       replace p206:=eq_true p206
       replace q206:=eq_true q206
       go_wp2_with (first|((with_reducible refine qo (N:=4) rfl ?_);refine qd ?hg (N:=4) ?hd (cs:=#[.int .i64 0,.int .i64 0,.string (⟨#[]⟩:ByteArray)]) (t:=38) ?hr ?_;(case hd=>rfl);(case hg=>rfl);(case hr=>first|(go_simp;done)|(go_simp;rfl));intro gb207 hg w7 hbox hb;have BK207:=zq.mk (hbox);have GW207:=zq.mk ((by rw [hg];exact(zy bw):w.heap.size≤gb207));have GE207:=zq.mk ((by rw [hg];exact(zy bw):w.heap.size≤gb207));replace HB:=zq.mk (zt bw hb);clear hb hbox hg;obtain ⟨hcz8_0,hcz8_1,hcz8_2,hfz8_0,hfz8_1,hfz8_2⟩:=zb BK207.out)|((with_reducible refine zl (f:=61) rfl ?_);refine qu (some 13) rfl rfl Tryd.func61 (by kernel_rfl) rfl #[.agg #[.int .i64 ((qe l0 x8_1).f0),.int .i64 ((qe l0 x8_1).f1),.string ((qe l0 x8_1).f2)]] rfl gs ?_;(with_reducible refine(zw.calls k1 ((qe l0 x8_1).f0) ((qe l0 x8_1).f1) ((qe l0 x8_1).f2) t208 _ A5.out).mono ?_);rintro e w9 ⟨rfl,hb⟩;refine⟨_,rfl,?_⟩;replace BK207:=zq.mk (za (g:=gb207) (o:=.cells #[.int .i64 ((qe l0 x8_1).f0),.int .i64 ((qe l0 x8_1).f1),.string ((qe l0 x8_1).f2)] 38 (0,0)) (by(with_reducible repeat(first|refine zh ?_ _|refine zc ?_|refine zv ?_ _));refine zr (cs:=#[.int .i64 ((qe l0 x8_1).f0),.int .i64 ((qe l0 x8_1).f1),.string (⟨#[]⟩:ByteArray)]) ?_ 2 _ rfl;(with_reducible repeat(first|refine zh ?_ _|refine zc ?_|refine zv ?_ _));refine zr (cs:=#[.int .i64 ((qe l0 x8_1).f0),.int .i64 0,.string (⟨#[]⟩:ByteArray)]) ?_ 1 _ rfl;(with_reducible repeat(first|refine zh ?_ _|refine zc ?_|refine zv ?_ _));refine zr (cs:=#[.int .i64 0,.int .i64 0,.string (⟨#[]⟩:ByteArray)]) ?_ 0 _ rfl;(with_reducible repeat(first|refine zh ?_ _|refine zc ?_|refine zv ?_ _));exact BK207.out) hb);replace HB:=zq.mk (zt bw hb);(try clear hb);(try clear hb2);(try clear hk);(try clear hi)))
       go_roundg k1
       case measure=>have:=HK1.out;omega
       case rel=>exact⟨(wrap64 (x8_1+1)),vr,H',⟨by have:=HK1.out;omega⟩,⟨bw⟩⟩
      rw [if_neg c6] at H
      have c6b0:(t208 == 0)=false:=beq_eq_false_iff_ne.mpr c6
      have c6b1:(t208 != 0)=true:=bne_iff_ne.mpr c6
      obtain rfl:=Option.some.inj H
      have p206:0≤(x8_1:Int):=dt
      have q206:x8_1<(l0.length:Int):=dt
      obtain ⟨ad206,e206,hx206_0,hx206_1,hx206_2⟩:=zj6 HR0.out x8_1 p206 q206
      cases e206
      replace hx206_0:=(HB.out.cell (World.block_lt_of_cell? w _ hx206_0)).trans hx206_0
      replace hx206_1:=(HB.out.cell (World.block_lt_of_cell? w _ hx206_1)).trans hx206_1
      replace hx206_2:=(HB.out.cell (World.block_lt_of_cell? w _ hx206_2)).trans hx206_2
      replace p206:=eq_true p206
      replace q206:=eq_true q206
      go_wp2_with (first|((with_reducible refine qo (N:=4) rfl ?_);refine qd ?hg (N:=4) ?hd (cs:=#[.int .i64 0,.int .i64 0,.string (⟨#[]⟩:ByteArray)]) (t:=38) ?hr ?_;(case hd=>rfl);(case hg=>rfl);(case hr=>first|(go_simp;done)|(go_simp;rfl));intro gb207 hg w10 hbox hb;have BK207:=zq.mk (hbox);have GW207:=zq.mk ((by rw [hg];exact(zy bw):w.heap.size≤gb207));have GE207:=zq.mk ((by rw [hg];exact(zy bw):w.heap.size≤gb207));replace HB:=zq.mk (zt bw hb);clear hb hbox hg;obtain ⟨hcz11_0,hcz11_1,hcz11_2,hfz11_0,hfz11_1,hfz11_2⟩:=zb BK207.out)|((with_reducible refine zl (f:=61) rfl ?_);refine qu (some 13) rfl rfl Tryd.func61 (by kernel_rfl) rfl #[.agg #[.int .i64 ((qe l0 x8_1).f0),.int .i64 ((qe l0 x8_1).f1),.string ((qe l0 x8_1).f2)]] rfl gs ?_;(with_reducible refine(zw.calls k1 ((qe l0 x8_1).f0) ((qe l0 x8_1).f1) ((qe l0 x8_1).f2) t208 _ A5.out).mono ?_);rintro e w12 ⟨rfl,hb⟩;refine⟨_,rfl,?_⟩;replace BK207:=zq.mk (za (g:=gb207) (o:=.cells #[.int .i64 ((qe l0 x8_1).f0),.int .i64 ((qe l0 x8_1).f1),.string ((qe l0 x8_1).f2)] 38 (0,0)) (by(with_reducible repeat(first|refine zh ?_ _|refine zc ?_|refine zv ?_ _));refine zr (cs:=#[.int .i64 ((qe l0 x8_1).f0),.int .i64 ((qe l0 x8_1).f1),.string (⟨#[]⟩:ByteArray)]) ?_ 2 _ rfl;(with_reducible repeat(first|refine zh ?_ _|refine zc ?_|refine zv ?_ _));refine zr (cs:=#[.int .i64 ((qe l0 x8_1).f0),.int .i64 0,.string (⟨#[]⟩:ByteArray)]) ?_ 1 _ rfl;(with_reducible repeat(first|refine zh ?_ _|refine zc ?_|refine zv ?_ _));refine zr (cs:=#[.int .i64 0,.int .i64 0,.string (⟨#[]⟩:ByteArray)]) ?_ 0 _ rfl;(with_reducible repeat(first|refine zh ?_ _|refine zc ?_|refine zv ?_ _));exact BK207.out) hb);replace HB:=zq.mk (zt bw hb);(try clear hb);(try clear hb2);(try clear hk);(try clear hi)))
      go_ret
      exact⟨by first|rfl|(simp [zx,zj] <;> rfl)|(simp [*,zx,zj] <;> rfl),bw⟩
     rw [if_neg c4] at H
     exact absurd H (by simp)
    rw [if_neg c3] at H
    exact absurd H (by simp)
   rw [if_neg c2] at H
   have c2b0:=decide_eq_false c2
   clear c2
   obtain rfl:=Option.some.inj H
   go_wp2
   go_ret
   exact⟨by first|rfl|(simp [zx,zj] <;> rfl)|(simp [*,zx,zj] <;> rfl),bw⟩

/-! ### qt: function 72 -/
def qt.f (k:Nat) (a0_0:Int) (a0_1:Int) (a0_2:ByteArray):Option (Int × Int):=(zw.f k a0_0 a0_1 a0_2).bind fun t210=>(if t210=0 then(if a0_0=0 then(some (1,0)) else (if a0_0=1 then(if a0_1=1 then(some (2,0)) else (some (0,0))) else (some (0,12)))) else (some (0,t210)))
theorem qt.mono:∀ a0 a1 a2 k,LeO (qt.f k a0 a1 a2) (qt.f (k+1) a0 a1 a2):=by
 intro a0 a1 a2 k
 unfold qt.f
 repeat' first
   | (with_reducible first|exact zw.mono _ _ _ _|exact LeO.refl _|exact LeO.none _|refine LeO.ite ?_ ?_|refine LeO.bind ?_ (fun _=>?_))
   | exact zw.mono _ _ _ _
   | exact LeO.none _
   | refine LeO.ite ?_ ?_
   | refine LeO.bind ?_ (fun _=>?_)
set_option maxHeartbeats 8000000 in
set_option maxRecDepth 100000 in
theorem qt.calls (k:Nat) (a0_0:Int) (a0_1:Int) (a0_2:ByteArray) (r1:Int) (r2:Int) (w:World) (h:qt.f k a0_0 a0_1 a0_2=some (r1,r2)) :
  Calls Tryd.prog 72 #[.agg #[.int .i64 a0_0,.int .i64 a0_1,.string a0_2]] w fun e w'=>e = .returned (.tuple #[.int .i64 r1,.int .i64 r2])∧Below w.heap.size w w':=by
 have hu38:=Tryd.underlying38
 have HB:=zq.mk (Below.refl w.heap.size w)
 have H:((zw.f k a0_0 a0_1 a0_2).bind fun t210=>(if t210=0 then(if a0_0=0 then(some (1,0)) else (if a0_0=1 then(if a0_1=1 then(some (2,0)) else (some (0,0))) else (some (0,12)))) else (some (0,t210))))=some (r1,r2):=h
 clear h
 replace H:=Option.bind_eq_some_iff.mp H
 obtain ⟨t210,A20,H⟩:=H
 replace H:(if t210=0 then(if a0_0=0 then(some (1,0)) else (if a0_0=1 then(if a0_1=1 then(some (2,0)) else (some (0,0))) else (some (0,12)))) else (some (0,t210)))=some (r1,r2):=H
 have A2:=zq.mk A20
 clear A20
 by_cases c3:t210=0
 ·rw [if_pos c3] at H
  have c3b0:(t210 == 0)=true:=beq_iff_eq.mpr c3
  have c3b1:(t210 != 0)=false:=bne_eq_false_iff_eq.mpr c3
  clear c3
  by_cases c4:a0_0=0
  ·rw [if_pos c4] at H
   have c4b0:(a0_0 == 0)=true:=beq_iff_eq.mpr c4
   have c4b1:(a0_0 != 0)=false:=bne_eq_false_iff_eq.mpr c4
   clear c4
   simp only [Option.some.injEq,Prod.mk.injEq] at H
   obtain ⟨rfl,rfl⟩:=H
   go_enter Tryd.func72,Tryd.ntmps72
   go_wp2_with (first|((with_reducible refine qo (N:=1) rfl ?_);refine qd ?hg (N:=1) ?hd (cs:=#[.int .i64 a0_0,.int .i64 a0_1,.string a0_2]) (t:=38) ?hr ?_;(case hd=>rfl);(case hg=>rfl);(case hr=>first|(go_simp;done)|(go_simp;rfl));intro gb209 hg w5 hbox hb;have BK209:=zq.mk (hbox);have GW209:=zq.mk ((by rw [hg];exact(zy bw):w.heap.size≤gb209));have GE209:=zq.mk ((by rw [hg];exact(zy bw):w.heap.size≤gb209));replace HB:=zq.mk (zt bw hb);clear hb hbox hg;obtain ⟨hcz6_0,hcz6_1,hcz6_2,hfz6_0,hfz6_1,hfz6_2⟩:=zb BK209.out)|((with_reducible refine zl (f:=61) rfl ?_);refine qu (some 6) rfl rfl Tryd.func61 (by kernel_rfl) rfl #[.agg #[.int .i64 a0_0,.int .i64 a0_1,.string a0_2]] rfl gs ?_;(with_reducible refine(zw.calls k a0_0 a0_1 a0_2 t210 _ A2.out).mono ?_);rintro e w7 ⟨rfl,hb⟩;refine⟨_,rfl,?_⟩;replace BK209:=zq.mk (za (g:=gb209) (o:=.cells #[.int .i64 a0_0,.int .i64 a0_1,.string a0_2] 38 (0,0)) (up BK209.out) hb);replace HB:=zq.mk (zt bw hb);(try clear hb);(try clear hb2);(try clear hk);(try clear hi);obtain ⟨hcz8_0,hcz8_1,hcz8_2,hfz8_0,hfz8_1,hfz8_2⟩:=zb BK209.out))
   go_ret2
   exact⟨by first|rfl|(simp [zx,zj] <;> rfl)|(simp [*,zx,zj] <;> rfl),bw⟩
  rw [if_neg c4] at H
  have c4b0:(a0_0 == 0)=false:=beq_eq_false_iff_ne.mpr c4
  have c4b1:(a0_0 != 0)=true:=bne_iff_ne.mpr c4
  by_cases c9:a0_0=1
  ·rw [if_pos c9] at H
   have c9b0:(a0_0 == 1)=true:=beq_iff_eq.mpr c9
   have c9b1:(a0_0 != 1)=false:=bne_eq_false_iff_eq.mpr c9
   clear c9
   by_cases c10:a0_1=1
   ·rw [if_pos c10] at H
    have c10b0:(a0_1 == 1)=true:=beq_iff_eq.mpr c10
    have c10b1:(a0_1 != 1)=false:=bne_eq_false_iff_eq.mpr c10
    clear c10
    simp only [Option.some.injEq,Prod.mk.injEq] at H
    obtain ⟨rfl,rfl⟩:=H
    go_enter Tryd.func72,Tryd.ntmps72
    go_wp2_with (first|((with_reducible refine qo (N:=1) rfl ?_);refine qd ?hg (N:=1) ?hd (cs:=#[.int .i64 a0_0,.int .i64 a0_1,.string a0_2]) (t:=38) ?hr ?_;(case hd=>rfl);(case hg=>rfl);(case hr=>first|(go_simp;done)|(go_simp;rfl));intro gb209 hg w11 hbox hb;have BK209:=zq.mk (hbox);have GW209:=zq.mk ((by rw [hg];exact(zy bw):w.heap.size≤gb209));have GE209:=zq.mk ((by rw [hg];exact(zy bw):w.heap.size≤gb209));replace HB:=zq.mk (zt bw hb);clear hb hbox hg;obtain ⟨hcz12_0,hcz12_1,hcz12_2,hfz12_0,hfz12_1,hfz12_2⟩:=zb BK209.out)|((with_reducible refine zl (f:=61) rfl ?_);refine qu (some 6) rfl rfl Tryd.func61 (by kernel_rfl) rfl #[.agg #[.int .i64 a0_0,.int .i64 a0_1,.string a0_2]] rfl gs ?_;(with_reducible refine(zw.calls k a0_0 a0_1 a0_2 t210 _ A2.out).mono ?_);rintro e w13 ⟨rfl,hb⟩;refine⟨_,rfl,?_⟩;replace BK209:=zq.mk (za (g:=gb209) (o:=.cells #[.int .i64 a0_0,.int .i64 a0_1,.string a0_2] 38 (0,0)) (up BK209.out) hb);replace HB:=zq.mk (zt bw hb);(try clear hb);(try clear hb2);(try clear hk);(try clear hi);obtain ⟨hcz14_0,hcz14_1,hcz14_2,hfz14_0,hfz14_1,hfz14_2⟩:=zb BK209.out))
    go_ret2
    exact⟨by first|rfl|(simp [zx,zj] <;> rfl)|(simp [*,zx,zj] <;> rfl),bw⟩
   rw [if_neg c10] at H
   have c10b0:(a0_1 == 1)=false:=beq_eq_false_iff_ne.mpr c10
   have c10b1:(a0_1 != 1)=true:=bne_iff_ne.mpr c10
   simp only [Option.some.injEq,Prod.mk.injEq] at H
   obtain ⟨rfl,rfl⟩:=H
   go_enter Tryd.func72,Tryd.ntmps72
   go_wp2_with (first|((with_reducible refine qo (N:=1) rfl ?_);refine qd ?hg (N:=1) ?hd (cs:=#[.int .i64 a0_0,.int .i64 a0_1,.string a0_2]) (t:=38) ?hr ?_;(case hd=>rfl);(case hg=>rfl);(case hr=>first|(go_simp;done)|(go_simp;rfl));intro gb209 hg w15 hbox hb;have BK209:=zq.mk (hbox);have GW209:=zq.mk ((by rw [hg];exact(zy bw):w.heap.size≤gb209));have GE209:=zq.mk ((by rw [hg];exact(zy bw):w.heap.size≤gb209));replace HB:=zq.mk (zt bw hb);clear hb hbox hg;obtain ⟨hcz16_0,hcz16_1,hcz16_2,hfz16_0,hfz16_1,hfz16_2⟩:=zb BK209.out)|((with_reducible refine zl (f:=61) rfl ?_);refine qu (some 6) rfl rfl Tryd.func61 (by kernel_rfl) rfl #[.agg #[.int .i64 a0_0,.int .i64 a0_1,.string a0_2]] rfl gs ?_;(with_reducible refine(zw.calls k a0_0 a0_1 a0_2 t210 _ A2.out).mono ?_);rintro e w17 ⟨rfl,hb⟩;refine⟨_,rfl,?_⟩;replace BK209:=zq.mk (za (g:=gb209) (o:=.cells #[.int .i64 a0_0,.int .i64 a0_1,.string a0_2] 38 (0,0)) (up BK209.out) hb);replace HB:=zq.mk (zt bw hb);(try clear hb);(try clear hb2);(try clear hk);(try clear hi);obtain ⟨hcz18_0,hcz18_1,hcz18_2,hfz18_0,hfz18_1,hfz18_2⟩:=zb BK209.out))
   go_ret2
   exact⟨by first|rfl|(simp [zx,zj] <;> rfl)|(simp [*,zx,zj] <;> rfl),bw⟩
  rw [if_neg c9] at H
  have c9b0:(a0_0 == 1)=false:=beq_eq_false_iff_ne.mpr c9
  have c9b1:(a0_0 != 1)=true:=bne_iff_ne.mpr c9
  simp only [Option.some.injEq,Prod.mk.injEq] at H
  obtain ⟨rfl,rfl⟩:=H
  go_enter Tryd.func72,Tryd.ntmps72
  go_wp2_with (first|((with_reducible refine qo (N:=1) rfl ?_);refine qd ?hg (N:=1) ?hd (cs:=#[.int .i64 a0_0,.int .i64 a0_1,.string a0_2]) (t:=38) ?hr ?_;(case hd=>rfl);(case hg=>rfl);(case hr=>first|(go_simp;done)|(go_simp;rfl));intro gb209 hg w19 hbox hb;have BK209:=zq.mk (hbox);have GW209:=zq.mk ((by rw [hg];exact(zy bw):w.heap.size≤gb209));have GE209:=zq.mk ((by rw [hg];exact(zy bw):w.heap.size≤gb209));replace HB:=zq.mk (zt bw hb);clear hb hbox hg;obtain ⟨hcz20_0,hcz20_1,hcz20_2,hfz20_0,hfz20_1,hfz20_2⟩:=zb BK209.out)|((with_reducible refine zl (f:=61) rfl ?_);refine qu (some 6) rfl rfl Tryd.func61 (by kernel_rfl) rfl #[.agg #[.int .i64 a0_0,.int .i64 a0_1,.string a0_2]] rfl gs ?_;(with_reducible refine(zw.calls k a0_0 a0_1 a0_2 t210 _ A2.out).mono ?_);rintro e w21 ⟨rfl,hb⟩;refine⟨_,rfl,?_⟩;replace BK209:=zq.mk (za (g:=gb209) (o:=.cells #[.int .i64 a0_0,.int .i64 a0_1,.string a0_2] 38 (0,0)) (up BK209.out) hb);replace HB:=zq.mk (zt bw hb);(try clear hb);(try clear hb2);(try clear hk);(try clear hi);obtain ⟨hcz22_0,hcz22_1,hcz22_2,hfz22_0,hfz22_1,hfz22_2⟩:=zb BK209.out))
  go_ret2
  exact⟨by first|rfl|(simp [zx,zj] <;> rfl)|(simp [*,zx,zj] <;> rfl),bw⟩
 rw [if_neg c3] at H
 have c3b0:(t210 == 0)=false:=beq_eq_false_iff_ne.mpr c3
 have c3b1:(t210 != 0)=true:=bne_iff_ne.mpr c3
 simp only [Option.some.injEq,Prod.mk.injEq] at H
 obtain ⟨rfl,rfl⟩:=H
 go_enter Tryd.func72,Tryd.ntmps72
 go_wp2_with (first|((with_reducible refine qo (N:=1) rfl ?_);refine qd ?hg (N:=1) ?hd (cs:=#[.int .i64 a0_0,.int .i64 a0_1,.string a0_2]) (t:=38) ?hr ?_;(case hd=>rfl);(case hg=>rfl);(case hr=>first|(go_simp;done)|(go_simp;rfl));intro gb209 hg w23 hbox hb;have BK209:=zq.mk (hbox);have GW209:=zq.mk ((by rw [hg];exact(zy bw):w.heap.size≤gb209));have GE209:=zq.mk ((by rw [hg];exact(zy bw):w.heap.size≤gb209));replace HB:=zq.mk (zt bw hb);clear hb hbox hg;obtain ⟨hcz24_0,hcz24_1,hcz24_2,hfz24_0,hfz24_1,hfz24_2⟩:=zb BK209.out)|((with_reducible refine zl (f:=61) rfl ?_);refine qu (some 6) rfl rfl Tryd.func61 (by kernel_rfl) rfl #[.agg #[.int .i64 a0_0,.int .i64 a0_1,.string a0_2]] rfl gs ?_;(with_reducible refine(zw.calls k a0_0 a0_1 a0_2 t210 _ A2.out).mono ?_);rintro e w25 ⟨rfl,hb⟩;refine⟨_,rfl,?_⟩;replace BK209:=zq.mk (za (g:=gb209) (o:=.cells #[.int .i64 a0_0,.int .i64 a0_1,.string a0_2] 38 (0,0)) (up BK209.out) hb);replace HB:=zq.mk (zt bw hb);(try clear hb);(try clear hb2);(try clear hk);(try clear hi)))
 go_ret2
 exact⟨by first|rfl|(simp [zx,zj] <;> rfl)|(simp [*,zx,zj] <;> rfl),bw⟩

/-! ### zqs: function 73 -/
def zqs.f (a0:Int):Option (Int × Int × ByteArray × Int):=if a0=0 then(some (1,0,(⟨#[]⟩:ByteArray),0)) else (if a0=2 then(some (1,1,(⟨#[]⟩:ByteArray),0)) else (if a0=1 then(some (0,0,(⟨#[]⟩:ByteArray),0)) else (some (0,0,(⟨#[]⟩:ByteArray),2))))
set_option maxHeartbeats 8000000 in
set_option maxRecDepth 100000 in
theorem zqs.calls (a0:Int) (r1:Int) (r2:Int) (r3:ByteArray) (r4:Int) (w:World) (h:zqs.f a0=some (r1,r2,r3,r4)) :
  Calls Tryd.prog 73 #[.int .i64 a0] w fun e w'=>e = .returned (.tuple #[.agg #[.int .i64 r1,.int .i64 r2,.string r3],.int .i64 r4])∧Below w.heap.size w w':=by
 have hu38:=Tryd.underlying38
 have HB:=zq.mk (Below.refl w.heap.size w)
 have H:(if a0=0 then(some (1,0,(⟨#[]⟩:ByteArray),0)) else (if a0=2 then(some (1,1,(⟨#[]⟩:ByteArray),0)) else (if a0=1 then(some (0,0,(⟨#[]⟩:ByteArray),0)) else (some (0,0,(⟨#[]⟩:ByteArray),2)))))=some (r1,r2,r3,r4):=h
 clear h
 by_cases c2:a0=0
 ·rw [if_pos c2] at H
  have c2b0:(a0 == 0)=true:=beq_iff_eq.mpr c2
  have c2b1:(a0 != 0)=false:=bne_eq_false_iff_eq.mpr c2
  clear c2
  simp only [Option.some.injEq,Prod.mk.injEq] at H
  obtain ⟨rfl,rfl,rfl,rfl⟩:=H
  go_enter Tryd.func73,Tryd.ntmps73
  go_wp2_with (first|((with_reducible refine qo (N:=2) rfl ?_);refine qd ?hg (N:=2) ?hd (cs:=#[.int .i64 0,.int .i64 0,.string (⟨#[]⟩:ByteArray)]) (t:=38) ?hr ?_;(case hd=>rfl);(case hg=>rfl);(case hr=>first|(go_simp;done)|(go_simp;rfl));intro gb211 hg w3 hbox hb;have BK211:=zq.mk (hbox);have GW211:=zq.mk ((by rw [hg];exact(zy bw):w.heap.size≤gb211));have GE211:=zq.mk ((by rw [hg];exact(zy bw):w.heap.size≤gb211));replace HB:=zq.mk (zt bw hb);clear hb hbox hg;obtain ⟨hcz4_0,hcz4_1,hcz4_2,hfz4_0,hfz4_1,hfz4_2⟩:=zb BK211.out))
  refine bodyPost_ret (zqx rfl _ _ gb211 38 #[.int .i64 1,.int .i64 0,.string (⟨#[]⟩:ByteArray)] (0,0) _ rfl (by(with_reducible repeat(first|refine zh ?_ _|refine zc ?_|refine zv ?_ _));refine zr (cs:=#[.int .i64 1,.int .i64 0,.string (⟨#[]⟩:ByteArray)]) ?_ 2 _ rfl;(with_reducible repeat(first|refine zh ?_ _|refine zc ?_|refine zv ?_ _));refine zr (cs:=#[.int .i64 1,.int .i64 0,.string (⟨#[]⟩:ByteArray)]) ?_ 1 _ rfl;(with_reducible repeat(first|refine zh ?_ _|refine zc ?_|refine zv ?_ _));refine zr (cs:=#[.int .i64 0,.int .i64 0,.string (⟨#[]⟩:ByteArray)]) ?_ 0 _ rfl;(with_reducible repeat(first|refine zh ?_ _|refine zc ?_|refine zv ?_ _));exact BK211.out) Tryd.underlying38 rfl (by kernel_rfl)) rfl ?_
  exact⟨by first|rfl|(simp [zx,zj] <;> rfl)|(simp [*,zx,zj] <;> rfl),bw⟩
 rw [if_neg c2] at H
 have c2b0:(a0 == 0)=false:=beq_eq_false_iff_ne.mpr c2
 have c2b1:(a0 != 0)=true:=bne_iff_ne.mpr c2
 by_cases c5:a0=2
 ·rw [if_pos c5] at H
  have c5b0:(a0 == 2)=true:=beq_iff_eq.mpr c5
  have c5b1:(a0 != 2)=false:=bne_eq_false_iff_eq.mpr c5
  clear c5
  simp only [Option.some.injEq,Prod.mk.injEq] at H
  obtain ⟨rfl,rfl,rfl,rfl⟩:=H
  go_enter Tryd.func73,Tryd.ntmps73
  go_wp2_with (first|((with_reducible refine qo (N:=2) rfl ?_);refine qd ?hg (N:=2) ?hd (cs:=#[.int .i64 0,.int .i64 0,.string (⟨#[]⟩:ByteArray)]) (t:=38) ?hr ?_;(case hd=>rfl);(case hg=>rfl);(case hr=>first|(go_simp;done)|(go_simp;rfl));intro gb211 hg w6 hbox hb;have BK211:=zq.mk (hbox);have GW211:=zq.mk ((by rw [hg];exact(zy bw):w.heap.size≤gb211));have GE211:=zq.mk ((by rw [hg];exact(zy bw):w.heap.size≤gb211));replace HB:=zq.mk (zt bw hb);clear hb hbox hg;obtain ⟨hcz7_0,hcz7_1,hcz7_2,hfz7_0,hfz7_1,hfz7_2⟩:=zb BK211.out))
  refine bodyPost_ret (zqx rfl _ _ gb211 38 #[.int .i64 1,.int .i64 1,.string (⟨#[]⟩:ByteArray)] (0,0) _ rfl (by(with_reducible repeat(first|refine zh ?_ _|refine zc ?_|refine zv ?_ _));refine zr (cs:=#[.int .i64 1,.int .i64 1,.string (⟨#[]⟩:ByteArray)]) ?_ 2 _ rfl;(with_reducible repeat(first|refine zh ?_ _|refine zc ?_|refine zv ?_ _));refine zr (cs:=#[.int .i64 1,.int .i64 0,.string (⟨#[]⟩:ByteArray)]) ?_ 1 _ rfl;(with_reducible repeat(first|refine zh ?_ _|refine zc ?_|refine zv ?_ _));refine zr (cs:=#[.int .i64 0,.int .i64 0,.string (⟨#[]⟩:ByteArray)]) ?_ 0 _ rfl;(with_reducible repeat(first|refine zh ?_ _|refine zc ?_|refine zv ?_ _));exact BK211.out) Tryd.underlying38 rfl (by kernel_rfl)) rfl ?_
  exact⟨by first|rfl|(simp [zx,zj] <;> rfl)|(simp [*,zx,zj] <;> rfl),bw⟩
 rw [if_neg c5] at H
 have c5b0:(a0 == 2)=false:=beq_eq_false_iff_ne.mpr c5
 have c5b1:(a0 != 2)=true:=bne_iff_ne.mpr c5
 by_cases c8:a0=1
 ·rw [if_pos c8] at H
  have c8b0:(a0 == 1)=true:=beq_iff_eq.mpr c8
  have c8b1:(a0 != 1)=false:=bne_eq_false_iff_eq.mpr c8
  clear c8
  simp only [Option.some.injEq,Prod.mk.injEq] at H
  obtain ⟨rfl,rfl,rfl,rfl⟩:=H
  go_enter Tryd.func73,Tryd.ntmps73
  go_wp2_with (first|((with_reducible refine qo (N:=2) rfl ?_);refine qd ?hg (N:=2) ?hd (cs:=#[.int .i64 0,.int .i64 0,.string (⟨#[]⟩:ByteArray)]) (t:=38) ?hr ?_;(case hd=>rfl);(case hg=>rfl);(case hr=>first|(go_simp;done)|(go_simp;rfl));intro gb211 hg w9 hbox hb;have BK211:=zq.mk (hbox);have GW211:=zq.mk ((by rw [hg];exact(zy bw):w.heap.size≤gb211));have GE211:=zq.mk ((by rw [hg];exact(zy bw):w.heap.size≤gb211));replace HB:=zq.mk (zt bw hb);clear hb hbox hg;obtain ⟨hcz10_0,hcz10_1,hcz10_2,hfz10_0,hfz10_1,hfz10_2⟩:=zb BK211.out))
  refine bodyPost_ret (zqx rfl _ _ gb211 38 #[.int .i64 0,.int .i64 0,.string (⟨#[]⟩:ByteArray)] (0,0) _ rfl (by(with_reducible repeat(first|refine zh ?_ _|refine zc ?_|refine zv ?_ _));refine zr (cs:=#[.int .i64 0,.int .i64 0,.string (⟨#[]⟩:ByteArray)]) ?_ 2 _ rfl;(with_reducible repeat(first|refine zh ?_ _|refine zc ?_|refine zv ?_ _));refine zr (cs:=#[.int .i64 0,.int .i64 0,.string (⟨#[]⟩:ByteArray)]) ?_ 1 _ rfl;(with_reducible repeat(first|refine zh ?_ _|refine zc ?_|refine zv ?_ _));refine zr (cs:=#[.int .i64 0,.int .i64 0,.string (⟨#[]⟩:ByteArray)]) ?_ 0 _ rfl;(with_reducible repeat(first|refine zh ?_ _|refine zc ?_|refine zv ?_ _));exact BK211.out) Tryd.underlying38 rfl (by kernel_rfl)) rfl ?_
  exact⟨by first|rfl|(simp [zx,zj] <;> rfl)|(simp [*,zx,zj] <;> rfl),bw⟩
 rw [if_neg c8] at H
 have c8b0:(a0 == 1)=false:=beq_eq_false_iff_ne.mpr c8
 have c8b1:(a0 != 1)=true:=bne_iff_ne.mpr c8
 simp only [Option.some.injEq,Prod.mk.injEq] at H
 obtain ⟨rfl,rfl,rfl,rfl⟩:=H
 go_enter Tryd.func73,Tryd.ntmps73
 go_wp2_with (first|((with_reducible refine qo (N:=2) rfl ?_);refine qd ?hg (N:=2) ?hd (cs:=#[.int .i64 0,.int .i64 0,.string (⟨#[]⟩:ByteArray)]) (t:=38) ?hr ?_;(case hd=>rfl);(case hg=>rfl);(case hr=>first|(go_simp;done)|(go_simp;rfl));intro gb211 hg w11 hbox hb;have BK211:=zq.mk (hbox);have GW211:=zq.mk ((by rw [hg];exact(zy bw):w.heap.size≤gb211));have GE211:=zq.mk ((by rw [hg];exact(zy bw):w.heap.size≤gb211));replace HB:=zq.mk (zt bw hb);clear hb hbox hg;obtain ⟨hcz12_0,hcz12_1,hcz12_2,hfz12_0,hfz12_1,hfz12_2⟩:=zb BK211.out))
 refine bodyPost_ret (zqx rfl _ _ gb211 38 #[.int .i64 0,.int .i64 0,.string (⟨#[]⟩:ByteArray)] (0,0) _ rfl (by(with_reducible repeat(first|refine zh ?_ _|refine zc ?_|refine zv ?_ _));refine zr (cs:=#[.int .i64 0,.int .i64 0,.string (⟨#[]⟩:ByteArray)]) ?_ 2 _ rfl;(with_reducible repeat(first|refine zh ?_ _|refine zc ?_|refine zv ?_ _));refine zr (cs:=#[.int .i64 0,.int .i64 0,.string (⟨#[]⟩:ByteArray)]) ?_ 1 _ rfl;(with_reducible repeat(first|refine zh ?_ _|refine zc ?_|refine zv ?_ _));refine zr (cs:=#[.int .i64 0,.int .i64 0,.string (⟨#[]⟩:ByteArray)]) ?_ 0 _ rfl;(with_reducible repeat(first|refine zh ?_ _|refine zc ?_|refine zv ?_ _));exact BK211.out) Tryd.underlying38 rfl (by kernel_rfl)) rfl ?_
 exact⟨by first|rfl|(simp [zx,zj] <;> rfl)|(simp [*,zx,zj] <;> rfl),bw⟩

/-! ### zqi: function 74 -/
def zqi.f (a0:Int) (a1:Int):Option (Int × Int × ByteArray × Int):=if a1=0 then((zqs.f a0).bind fun bt213=>(some (bt213.1,bt213.2.1,bt213.2.2.1,bt213.2.2.2))) else (some (0,0,(⟨#[]⟩:ByteArray),a1))
set_option maxHeartbeats 8000000 in
set_option maxRecDepth 100000 in
theorem zqi.calls (a0:Int) (a1:Int) (r1:Int) (r2:Int) (r3:ByteArray) (r4:Int) (w:World) (h:zqi.f a0 a1=some (r1,r2,r3,r4)) :
  Calls Tryd.prog 74 #[.int .i64 a0,.int .i64 a1] w fun e w'=>e = .returned (.tuple #[.agg #[.int .i64 r1,.int .i64 r2,.string r3],.int .i64 r4])∧Below w.heap.size w w':=by
 have hu38:=Tryd.underlying38
 have HB:=zq.mk (Below.refl w.heap.size w)
 have H:(if a1=0 then((zqs.f a0).bind fun bt213=>(some (bt213.1,bt213.2.1,bt213.2.2.1,bt213.2.2.2))) else (some (0,0,(⟨#[]⟩:ByteArray),a1)))=some (r1,r2,r3,r4):=h
 clear h
 by_cases c3:a1=0
 ·rw [if_pos c3] at H
  have c3b0:(a1 == 0)=true:=beq_iff_eq.mpr c3
  have c3b1:(a1 != 0)=false:=bne_eq_false_iff_eq.mpr c3
  clear c3
  replace H:=Option.bind_eq_some_iff.mp H
  obtain ⟨⟨t213,t214,t215,t216⟩,A40,H⟩:=H
  replace H:(some (t213,t214,t215,t216))=some (r1,r2,r3,r4):=H
  have A4:=zq.mk A40
  clear A40
  simp only [Option.some.injEq,Prod.mk.injEq] at H
  obtain ⟨rfl,rfl,rfl,rfl⟩:=H
  go_enter Tryd.func74,Tryd.ntmps74
  go_wp2_with (first|((with_reducible refine qo (N:=4) rfl ?_);refine qd ?hg (N:=4) ?hd (cs:=#[.int .i64 0,.int .i64 0,.string (⟨#[]⟩:ByteArray)]) (t:=38) ?hr ?_;(case hd=>rfl);(case hg=>rfl);(case hr=>first|(go_simp;done)|(go_simp;rfl));intro gb212 hg w5 hbox hb;have BK212:=zq.mk (hbox);have GW212:=zq.mk ((by rw [hg];exact(zy bw):w.heap.size≤gb212));have GE212:=zq.mk ((by rw [hg];exact(zy bw):w.heap.size≤gb212));replace HB:=zq.mk (zt bw hb);clear hb hbox hg)|((with_reducible refine zl (f:=73) rfl ?_);refine qu (some 11) rfl rfl Tryd.func73 (by kernel_rfl) rfl #[.int .i64 a0] rfl gs ?_;(with_reducible refine(zqs.calls a0 t213 t214 t215 t216 _ A4.out).mono ?_);rintro e w6 ⟨rfl,hb⟩;refine⟨_,rfl,?_⟩;replace BK212:=zq.mk (za (g:=gb212) (o:=.cells #[.int .i64 0,.int .i64 0,.string (⟨#[]⟩:ByteArray)] 38 (0,0)) (up BK212.out) hb);replace HB:=zq.mk (zt bw hb);(try clear hb);(try clear hb2);(try clear hk);(try clear hi);obtain ⟨hcz7_0,hcz7_1,hcz7_2,hfz7_0,hfz7_1,hfz7_2⟩:=zb BK212.out))
  refine bodyPost_ret (zqx rfl _ _ gb212 38 #[.int .i64 t213,.int .i64 t214,.string t215] (0,0) _ rfl (by(with_reducible repeat(first|refine zh ?_ _|refine zc ?_|refine zv ?_ _));refine zr (cs:=#[.int .i64 t213,.int .i64 t214,.string (⟨#[]⟩:ByteArray)]) ?_ 2 _ rfl;(with_reducible repeat(first|refine zh ?_ _|refine zc ?_|refine zv ?_ _));refine zr (cs:=#[.int .i64 t213,.int .i64 0,.string (⟨#[]⟩:ByteArray)]) ?_ 1 _ rfl;(with_reducible repeat(first|refine zh ?_ _|refine zc ?_|refine zv ?_ _));refine zr (cs:=#[.int .i64 0,.int .i64 0,.string (⟨#[]⟩:ByteArray)]) ?_ 0 _ rfl;(with_reducible repeat(first|refine zh ?_ _|refine zc ?_|refine zv ?_ _));exact BK212.out) Tryd.underlying38 rfl (by kernel_rfl)) rfl ?_
  exact⟨by first|rfl|(simp [zx,zj] <;> rfl)|(simp [*,zx,zj] <;> rfl),bw⟩
 rw [if_neg c3] at H
 have c3b0:(a1 == 0)=false:=beq_eq_false_iff_ne.mpr c3
 have c3b1:(a1 != 0)=true:=bne_iff_ne.mpr c3
 simp only [Option.some.injEq,Prod.mk.injEq] at H
 obtain ⟨rfl,rfl,rfl,rfl⟩:=H
 go_enter Tryd.func74,Tryd.ntmps74
 go_wp2_with (first|((with_reducible refine qo (N:=4) rfl ?_);refine qd ?hg (N:=4) ?hd (cs:=#[.int .i64 0,.int .i64 0,.string (⟨#[]⟩:ByteArray)]) (t:=38) ?hr ?_;(case hd=>rfl);(case hg=>rfl);(case hr=>first|(go_simp;done)|(go_simp;rfl));intro gb212 hg w8 hbox hb;have BK212:=zq.mk (hbox);have GW212:=zq.mk ((by rw [hg];exact(zy bw):w.heap.size≤gb212));have GE212:=zq.mk ((by rw [hg];exact(zy bw):w.heap.size≤gb212));replace HB:=zq.mk (zt bw hb);clear hb hbox hg;obtain ⟨hcz9_0,hcz9_1,hcz9_2,hfz9_0,hfz9_1,hfz9_2⟩:=zb BK212.out))
 refine bodyPost_ret (zqx rfl _ _ gb212 38 #[.int .i64 0,.int .i64 0,.string (⟨#[]⟩:ByteArray)] (0,0) _ rfl (by(with_reducible repeat(first|refine zh ?_ _|refine zc ?_|refine zv ?_ _));refine zr (cs:=#[.int .i64 0,.int .i64 0,.string (⟨#[]⟩:ByteArray)]) ?_ 2 _ rfl;(with_reducible repeat(first|refine zh ?_ _|refine zc ?_|refine zv ?_ _));refine zr (cs:=#[.int .i64 0,.int .i64 0,.string (⟨#[]⟩:ByteArray)]) ?_ 1 _ rfl;(with_reducible repeat(first|refine zh ?_ _|refine zc ?_|refine zv ?_ _));refine zr (cs:=#[.int .i64 0,.int .i64 0,.string (⟨#[]⟩:ByteArray)]) ?_ 0 _ rfl;(with_reducible repeat(first|refine zh ?_ _|refine zc ?_|refine zv ?_ _));exact BK212.out) Tryd.underlying38 rfl (by kernel_rfl)) rfl ?_
 exact⟨by first|rfl|(simp [zx,zj] <;> rfl)|(simp [*,zx,zj] <;> rfl),bw⟩

-- NOT PRINTED: function 108 (commonholdref_counted)

/-! ### qs: function 75, by hand -/
-- HAND rounds=0 making=1
def qs.bad (l:List Int):Bool:=l.any fun t=>decide (t<0) || decide (t > 2)
def qs.f (l0:List Int):Option (Int × Int):=some (if qs.bad l0=true then(0,2) else if 0<l0.count 0 then(0,0) else if 0<l0.count 1 then(1,0) else (2,0))
def qs.cellsOf (n0 n1 n2:Nat):Array Value:=#[.int .i64 n0,.int .i64 n1,.int .i64 n2]
def qs.Told (l:List Int) (w:World) (e:Ending) (w':World):Prop:=
 (qs.bad l=false∧e = .returned (.tuple #[.agg #[.int .i64 (l.count 0:Nat),.int .i64 (l.count 1:Nat),.int .i64 (l.count 2:Nat)],.bool true])∧Below w.heap.size w w') ∨
 (qs.bad l=true ∧ ∃ n0 n1 n2:Int,e = .returned (.tuple #[.agg #[.int .i64 n0,.int .i64 n1,.int .i64 n2],.bool false])∧Below w.heap.size w w')
theorem qs.take_at (l:List Int) (i:Nat) (h:i<l.length):l.take (i+1)=l.take i ++ [rd l i]:=by
 rw [List.take_succ_eq_append_getElem h]
 have e:rd l (i:Int)=l[i]:=by simp [rd,List.getD_eq_getElem?_getD,h]
 rw [e]
theorem qs.bad_at (l:List Int) (i:Nat) (h:i<l.length) (hb:decide (rd l i<0)=true∨decide (rd l i > 2)=true):qs.bad l=true:=by
 have e:rd l (i:Int)=l[i]:=by simp [rd,List.getD_eq_getElem?_getD,h]
 rw [e] at hb
 simp only [qs.bad,List.any_eq_true]
 exact⟨l[i],List.getElem_mem h,by simpa using hb⟩
theorem qs.zxn (l:List Int) (i:Nat) (h:i<l.length) (h0:0≤rd l i) (h2:rd l i≤2) (hb:qs.bad (l.take i)=false):qs.bad (l.take (i+1))=false:=by
 rw [qs.take_at l i h]
 unfold qs.bad at *
 rw [List.any_append,hb]
 simp
 omega
theorem qs.counted (A0:Option Addr) (c0:Nat) (l0:List Int) (w:World) (hr0:Kd.C (Kd.int .i64) w A0 l0.length l0) (hm:l0.length≤9223372036854775807) :
  Calls Tryd.prog 108 #[.slice A0 l0.length c0] w (qs.Told l0 w):=by
 have HR0:=zq.mk hr0
 clear hr0
 go_enter Tryd.func108,Tryd.ntmps108
 go_wp2
 go_loopw [9] (fun i wr => ∃ k:Nat,k≤l0.length∧i = .int .i64 k∧Hid (qs.bad (l0.take k)=false) ∧ ∃ n0 n1 n2:Nat,Hid ((l0.take k).count 0=n0)∧Hid ((l0.take k).count 1=n1)∧Hid ((l0.take k).count 2=n2)∧n0≤k∧n1≤k∧n2≤k ∧
   wr=(w.alloc (.cells #[.int .i64 0,.int .i64 0,.int .i64 0] 138)).alloc (.cells #[.int .i64 n0,.int .i64 n1,.int .i64 n2] 138))
  (fun i _=>l0.length - (intOf i).toNat)
 case atStart=>exact⟨0,by omega,rfl,Lib.hid rfl,0,0,0,Lib.hid rfl,Lib.hid rfl,Lib.hid rfl,by omega,by omega,by omega,rfl⟩
 case round=>
  obtain ⟨k,hk,rfl,hb,n0,n1,n2,h0,h1,h2,b0,b1,b2,rfl⟩:=hrel
  by_cases hlt:k<l0.length
  ·obtain ⟨ad,e1,hc'⟩:=Kd.at_int HR0.out (k:Int) (by omega) (by omega)
   cases e1
   have hc:((w.alloc (.cells #[.int .i64 0,.int .i64 0,.int .i64 0] 138)).alloc (.cells #[.int .i64 n0,.int .i64 n1,.int .i64 n2] 138)).cell? (ad.add k)=some (.int .i64 (rd l0 (k:Int))):=
    qq (zp (zp (Below.refl _ _) _) _) (by simpa using hc')
   clear hc'
   by_cases t0:rd l0 (k:Int)<0
   ·have hbad:=Lib.hid (qs.bad_at l0 k hlt (.inl (decide_eq_true t0)))
    generalize rd l0 (k:Int)=t at *
    go_wp2
    refine bodyPost_ret (v:=.tuple #[.agg #[.int .i64 n0,.int .i64 n1,.int .i64 n2],.bool false]) (by simp [results,Tryd.results108,go_sem]) rfl (.inr ⟨hbad.out,_,_,_,rfl,zp (zp (Below.refl _ _) _) _⟩)
   by_cases t2:2<rd l0 (k:Int)
   ·have hbad:=Lib.hid (qs.bad_at l0 k hlt (.inr (decide_eq_true t2)))
    generalize rd l0 (k:Int)=t at *
    go_wp2
    refine bodyPost_ret (v:=.tuple #[.agg #[.int .i64 n0,.int .i64 n1,.int .i64 n2],.bool false]) (by simp [results,Tryd.results108,go_sem]) rfl (.inr ⟨hbad.out,_,_,_,rfl,zp (zp (Below.refl _ _) _) _⟩)
   rcases (show rd l0 (k:Int)=0∨rd l0 (k:Int)=1∨rd l0 (k:Int)=2 by omega) with t3|t3|t3
   ·have htv:rd l0 (k:Int)=0:=by omega
    have hk1:=qs.take_at l0 k hlt
    have hnb:=Lib.hid (qs.zxn l0 k hlt (by omega) (by omega) hb.out)
    rw [htv] at hk1 hc
    have g0:=Lib.hid (show(l0.take (k+1)).count 0=n0+1 by rw [hk1,List.count_append,h0.out];rfl)
    have g1:=Lib.hid (show(l0.take (k+1)).count 1=n1 by rw [hk1,List.count_append,h1.out];rfl)
    have g2:=Lib.hid (show(l0.take (k+1)).count 2=n2 by rw [hk1,List.count_append,h2.out];rfl)
    clear hk1 htv h0 h1 h2 hb t0 t2
    go_wp2
    go_roundw
    case rel=>exact⟨k+1,by omega,by go_num,hnb,_,_,_,g0,g1,g2,by omega,by omega,by omega,by simp⟩
    case measure=>simp [intOf];omega
   ·have htv:rd l0 (k:Int)=1:=by omega
    have hk1:=qs.take_at l0 k hlt
    have hnb:=Lib.hid (qs.zxn l0 k hlt (by omega) (by omega) hb.out)
    rw [htv] at hk1 hc
    have g0:=Lib.hid (show(l0.take (k+1)).count 0=n0 by rw [hk1,List.count_append,h0.out];rfl)
    have g1:=Lib.hid (show(l0.take (k+1)).count 1=n1+1 by rw [hk1,List.count_append,h1.out];rfl)
    have g2:=Lib.hid (show(l0.take (k+1)).count 2=n2 by rw [hk1,List.count_append,h2.out];rfl)
    clear hk1 htv h0 h1 h2 hb t0 t2
    go_wp2
    go_roundw
    case rel=>exact⟨k+1,by omega,by go_num,hnb,_,_,_,g0,g1,g2,by omega,by omega,by omega,by simp⟩
    case measure=>simp [intOf];omega
   have htv:rd l0 (k:Int)=2:=by omega
   have hk1:=qs.take_at l0 k hlt
   have hnb:=Lib.hid (qs.zxn l0 k hlt (by omega) (by omega) hb.out)
   rw [htv] at hk1 hc
   have g0:=Lib.hid (show(l0.take (k+1)).count 0=n0 by rw [hk1,List.count_append,h0.out];rfl)
   have g1:=Lib.hid (show(l0.take (k+1)).count 1=n1 by rw [hk1,List.count_append,h1.out];rfl)
   have g2:=Lib.hid (show(l0.take (k+1)).count 2=n2+1 by rw [hk1,List.count_append,h2.out];rfl)
   clear hk1 htv h0 h1 h2 hb t0 t2
   go_wp2
   go_roundw
   case rel=>exact⟨k+1,by omega,by go_num,hnb,_,_,_,g0,g1,g2,by omega,by omega,by omega,by simp⟩
   case measure=>simp [intOf];omega
  have hkl:k=l0.length:=by omega
  subst hkl
  rw [List.take_length] at hb h0 h1 h2
  have e0:=h0.out
  have e1:=h1.out
  have e2:=h2.out
  subst e0
  subst e1
  subst e2
  generalize hn0:l0.count 0=n0 at *
  generalize hn1:l0.count 1=n1 at *
  generalize hn2:l0.count 2=n2 at *
  have hn0:=Lib.hid hn0
  have hn1:=Lib.hid hn1
  have hn2:=Lib.hid hn2
  go_wp2
  refine bodyPost_ret (v:=.tuple #[.agg #[.int .i64 n0,.int .i64 n1,.int .i64 n2],.bool true]) (by simp [results,Tryd.results108,go_sem]) rfl (.inl ⟨hb.out,by rw [hn0.out,hn1.out,hn2.out],zp (zp (Below.refl _ _) _) _⟩)
theorem qs.calls (A0:Option Addr) (c0:Nat) (l0:List Int) (r1:Int) (r2:Int) (w:World) (hr0:Kd.C (Kd.int .i64) w A0 l0.length l0) (hc0:l0.length≤c0) (h:qs.f l0=some (r1,r2)) :
  Calls Tryd.prog 75 #[.slice A0 l0.length c0] w fun e w'=>e = .returned (.tuple #[.int .i64 r1,.int .i64 r2])∧Below w.heap.size w w':=by
 have HF:=Lib.hid (qs.counted A0 c0 l0 w hr0 hr0.2.1)
 have H:=Lib.hid (Option.some.inj h)
 clear h hr0
 generalize hn0:l0.count 0=n0 at *
 generalize hn1:l0.count 1=n1 at *
 generalize hn2:l0.count 2=n2 at *
 have hn0:=Lib.hid hn0
 have hn1:=Lib.hid hn1
 have hn2:=Lib.hid hn2
 go_enter Tryd.func75,Tryd.ntmps75
 go_wp2_with fail
 refine HF.out.mono ?_
 rintro e w1 (⟨hb,rfl,hB⟩|⟨hb,m0,m1,m2,rfl,hB⟩)
 ·have hb:=Lib.hid hb
  rw [hn0.out,hn1.out,hn2.out]
  by_cases p0:0<n0
  ·have q0:0<(n0:Int):=by omega
   go_wp2
   go_ret2
   have e:=H.out
   rw [hb.out,if_neg (by simp),if_pos p0] at e
   injection e with e1 e2
   subst e1;subst e2
   exact⟨rfl,zp hB _⟩
  have q0:¬ 0<(n0:Int):=by omega
  by_cases p1:0<n1
  ·have q1:0<(n1:Int):=by omega
   go_wp2
   go_ret2
   have e:=H.out
   rw [hb.out,if_neg (by simp),if_neg p0,if_pos p1] at e
   injection e with e1 e2
   subst e1;subst e2
   exact⟨rfl,zp hB _⟩
  have q1:¬ 0<(n1:Int):=by omega
  go_wp2
  go_ret2
  have e:=H.out
  rw [hb.out,if_neg (by simp),if_neg p0,if_neg p1] at e
  injection e with e1 e2
  subst e1;subst e2
  exact⟨rfl,zp hB _⟩
 have hb:=Lib.hid hb
 go_wp2
 go_ret2
 have e:=H.out
 rw [hb.out,if_pos rfl] at e
 injection e with e1 e2
 subst e1;subst e2
 exact⟨rfl,zp hB _⟩

/-! ### ql: function 76, by hand -/
-- HAND rounds=0 making=1
def ql.bad (l:List Int):Bool:=l.any fun t=>decide (t<0) || decide (t > 2)
def ql.f (l0:List Int):Option (Int × Int):=some (if ql.bad l0=true then(0,2) else if 0<l0.count 2 then(2,0) else if 0<l0.count 1 then(1,0) else (0,0))
def ql.cellsOf (n0 n1 n2:Nat):Array Value:=#[.int .i64 n0,.int .i64 n1,.int .i64 n2]
def ql.Told (l:List Int) (w:World) (e:Ending) (w':World):Prop:=
 (ql.bad l=false∧e = .returned (.tuple #[.agg #[.int .i64 (l.count 0:Nat),.int .i64 (l.count 1:Nat),.int .i64 (l.count 2:Nat)],.bool true])∧Below w.heap.size w w') ∨
 (ql.bad l=true ∧ ∃ n0 n1 n2:Int,e = .returned (.tuple #[.agg #[.int .i64 n0,.int .i64 n1,.int .i64 n2],.bool false])∧Below w.heap.size w w')
theorem ql.take_at (l:List Int) (i:Nat) (h:i<l.length):l.take (i+1)=l.take i ++ [rd l i]:=by
 rw [List.take_succ_eq_append_getElem h]
 have e:rd l (i:Int)=l[i]:=by simp [rd,List.getD_eq_getElem?_getD,h]
 rw [e]
theorem ql.bad_at (l:List Int) (i:Nat) (h:i<l.length) (hb:decide (rd l i<0)=true∨decide (rd l i > 2)=true):ql.bad l=true:=by
 have e:rd l (i:Int)=l[i]:=by simp [rd,List.getD_eq_getElem?_getD,h]
 rw [e] at hb
 simp only [ql.bad,List.any_eq_true]
 exact⟨l[i],List.getElem_mem h,by simpa using hb⟩
theorem ql.zxn (l:List Int) (i:Nat) (h:i<l.length) (h0:0≤rd l i) (h2:rd l i≤2) (hb:ql.bad (l.take i)=false):ql.bad (l.take (i+1))=false:=by
 rw [ql.take_at l i h]
 unfold ql.bad at *
 rw [List.any_append,hb]
 simp
 omega
theorem ql.counted (A0:Option Addr) (c0:Nat) (l0:List Int) (w:World) (hr0:Kd.C (Kd.int .i64) w A0 l0.length l0) (hm:l0.length≤9223372036854775807) :
  Calls Tryd.prog 108 #[.slice A0 l0.length c0] w (ql.Told l0 w):=by
 have HR0:=zq.mk hr0
 clear hr0
 go_enter Tryd.func108,Tryd.ntmps108
 go_wp2
 go_loopw [9] (fun i wr => ∃ k:Nat,k≤l0.length∧i = .int .i64 k∧Hid (ql.bad (l0.take k)=false) ∧ ∃ n0 n1 n2:Nat,Hid ((l0.take k).count 0=n0)∧Hid ((l0.take k).count 1=n1)∧Hid ((l0.take k).count 2=n2)∧n0≤k∧n1≤k∧n2≤k ∧
   wr=(w.alloc (.cells #[.int .i64 0,.int .i64 0,.int .i64 0] 138)).alloc (.cells #[.int .i64 n0,.int .i64 n1,.int .i64 n2] 138))
  (fun i _=>l0.length - (intOf i).toNat)
 case atStart=>exact⟨0,by omega,rfl,Lib.hid rfl,0,0,0,Lib.hid rfl,Lib.hid rfl,Lib.hid rfl,by omega,by omega,by omega,rfl⟩
 case round=>
  obtain ⟨k,hk,rfl,hb,n0,n1,n2,h0,h1,h2,b0,b1,b2,rfl⟩:=hrel
  by_cases hlt:k<l0.length
  ·obtain ⟨ad,e1,hc'⟩:=Kd.at_int HR0.out (k:Int) (by omega) (by omega)
   cases e1
   have hc:((w.alloc (.cells #[.int .i64 0,.int .i64 0,.int .i64 0] 138)).alloc (.cells #[.int .i64 n0,.int .i64 n1,.int .i64 n2] 138)).cell? (ad.add k)=some (.int .i64 (rd l0 (k:Int))):=
    qq (zp (zp (Below.refl _ _) _) _) (by simpa using hc')
   clear hc'
   by_cases t0:rd l0 (k:Int)<0
   ·have hbad:=Lib.hid (ql.bad_at l0 k hlt (.inl (decide_eq_true t0)))
    generalize rd l0 (k:Int)=t at *
    go_wp2
    refine bodyPost_ret (v:=.tuple #[.agg #[.int .i64 n0,.int .i64 n1,.int .i64 n2],.bool false]) (by simp [results,Tryd.results108,go_sem]) rfl (.inr ⟨hbad.out,_,_,_,rfl,zp (zp (Below.refl _ _) _) _⟩)
   by_cases t2:2<rd l0 (k:Int)
   ·have hbad:=Lib.hid (ql.bad_at l0 k hlt (.inr (decide_eq_true t2)))
    generalize rd l0 (k:Int)=t at *
    go_wp2
    refine bodyPost_ret (v:=.tuple #[.agg #[.int .i64 n0,.int .i64 n1,.int .i64 n2],.bool false]) (by simp [results,Tryd.results108,go_sem]) rfl (.inr ⟨hbad.out,_,_,_,rfl,zp (zp (Below.refl _ _) _) _⟩)
   rcases (show rd l0 (k:Int)=0∨rd l0 (k:Int)=1∨rd l0 (k:Int)=2 by omega) with t3|t3|t3
   ·have htv:rd l0 (k:Int)=0:=by omega
    have hk1:=ql.take_at l0 k hlt
    have hnb:=Lib.hid (ql.zxn l0 k hlt (by omega) (by omega) hb.out)
    rw [htv] at hk1 hc
    have g0:=Lib.hid (show(l0.take (k+1)).count 0=n0+1 by rw [hk1,List.count_append,h0.out];rfl)
    have g1:=Lib.hid (show(l0.take (k+1)).count 1=n1 by rw [hk1,List.count_append,h1.out];rfl)
    have g2:=Lib.hid (show(l0.take (k+1)).count 2=n2 by rw [hk1,List.count_append,h2.out];rfl)
    clear hk1 htv h0 h1 h2 hb t0 t2
    go_wp2
    go_roundw
    case rel=>exact⟨k+1,by omega,by go_num,hnb,_,_,_,g0,g1,g2,by omega,by omega,by omega,by simp⟩
    case measure=>simp [intOf];omega
   ·have htv:rd l0 (k:Int)=1:=by omega
    have hk1:=ql.take_at l0 k hlt
    have hnb:=Lib.hid (ql.zxn l0 k hlt (by omega) (by omega) hb.out)
    rw [htv] at hk1 hc
    have g0:=Lib.hid (show(l0.take (k+1)).count 0=n0 by rw [hk1,List.count_append,h0.out];rfl)
    have g1:=Lib.hid (show(l0.take (k+1)).count 1=n1+1 by rw [hk1,List.count_append,h1.out];rfl)
    have g2:=Lib.hid (show(l0.take (k+1)).count 2=n2 by rw [hk1,List.count_append,h2.out];rfl)
    clear hk1 htv h0 h1 h2 hb t0 t2
    go_wp2
    go_roundw
    case rel=>exact⟨k+1,by omega,by go_num,hnb,_,_,_,g0,g1,g2,by omega,by omega,by omega,by simp⟩
    case measure=>simp [intOf];omega
   have htv:rd l0 (k:Int)=2:=by omega
   have hk1:=ql.take_at l0 k hlt
   have hnb:=Lib.hid (ql.zxn l0 k hlt (by omega) (by omega) hb.out)
   rw [htv] at hk1 hc
   have g0:=Lib.hid (show(l0.take (k+1)).count 0=n0 by rw [hk1,List.count_append,h0.out];rfl)
   have g1:=Lib.hid (show(l0.take (k+1)).count 1=n1 by rw [hk1,List.count_append,h1.out];rfl)
   have g2:=Lib.hid (show(l0.take (k+1)).count 2=n2+1 by rw [hk1,List.count_append,h2.out];rfl)
   clear hk1 htv h0 h1 h2 hb t0 t2
   go_wp2
   go_roundw
   case rel=>exact⟨k+1,by omega,by go_num,hnb,_,_,_,g0,g1,g2,by omega,by omega,by omega,by simp⟩
   case measure=>simp [intOf];omega
  have hkl:k=l0.length:=by omega
  subst hkl
  rw [List.take_length] at hb h0 h1 h2
  have e0:=h0.out
  have e1:=h1.out
  have e2:=h2.out
  subst e0
  subst e1
  subst e2
  generalize hn0:l0.count 0=n0 at *
  generalize hn1:l0.count 1=n1 at *
  generalize hn2:l0.count 2=n2 at *
  have hn0:=Lib.hid hn0
  have hn1:=Lib.hid hn1
  have hn2:=Lib.hid hn2
  go_wp2
  refine bodyPost_ret (v:=.tuple #[.agg #[.int .i64 n0,.int .i64 n1,.int .i64 n2],.bool true]) (by simp [results,Tryd.results108,go_sem]) rfl (.inl ⟨hb.out,by rw [hn0.out,hn1.out,hn2.out],zp (zp (Below.refl _ _) _) _⟩)
theorem ql.calls (A0:Option Addr) (c0:Nat) (l0:List Int) (r1:Int) (r2:Int) (w:World) (hr0:Kd.C (Kd.int .i64) w A0 l0.length l0) (hc0:l0.length≤c0) (h:ql.f l0=some (r1,r2)) :
  Calls Tryd.prog 76 #[.slice A0 l0.length c0] w fun e w'=>e = .returned (.tuple #[.int .i64 r1,.int .i64 r2])∧Below w.heap.size w w':=by
 have HF:=Lib.hid (ql.counted A0 c0 l0 w hr0 hr0.2.1)
 have H:=Lib.hid (Option.some.inj h)
 clear h hr0
 generalize hn0:l0.count 0=n0 at *
 generalize hn1:l0.count 1=n1 at *
 generalize hn2:l0.count 2=n2 at *
 have hn0:=Lib.hid hn0
 have hn1:=Lib.hid hn1
 have hn2:=Lib.hid hn2
 go_enter Tryd.func76,Tryd.ntmps76
 go_wp2_with fail
 refine HF.out.mono ?_
 rintro e w1 (⟨hb,rfl,hB⟩|⟨hb,m0,m1,m2,rfl,hB⟩)
 ·have hb:=Lib.hid hb
  rw [hn0.out,hn1.out,hn2.out]
  by_cases p0:0<n2
  ·have q0:0<(n2:Int):=by omega
   go_wp2
   go_ret2
   have e:=H.out
   rw [hb.out,if_neg (by simp),if_pos p0] at e
   injection e with e1 e2
   subst e1;subst e2
   exact⟨rfl,zp hB _⟩
  have q0:¬ 0<(n2:Int):=by omega
  by_cases p1:0<n1
  ·have q1:0<(n1:Int):=by omega
   go_wp2
   go_ret2
   have e:=H.out
   rw [hb.out,if_neg (by simp),if_neg p0,if_pos p1] at e
   injection e with e1 e2
   subst e1;subst e2
   exact⟨rfl,zp hB _⟩
  have q1:¬ 0<(n1:Int):=by omega
  go_wp2
  go_ret2
  have e:=H.out
  rw [hb.out,if_neg (by simp),if_neg p0,if_neg p1] at e
  injection e with e1 e2
  subst e1;subst e2
  exact⟨rfl,zp hB _⟩
 have hb:=Lib.hid hb
 go_wp2
 go_ret2
 have e:=H.out
 rw [hb.out,if_pos rfl] at e
 injection e with e1 e2
 subst e1;subst e2
 exact⟨rfl,zp hB _⟩

/-! ### zq1: function 77 -/
def zq1.f (a0:Bool):Option (Int):=if a0=true then(some 1) else (some 0)
set_option maxHeartbeats 8000000 in
set_option maxRecDepth 100000 in
theorem zq1.calls (a0:Bool) (r:Int) (w:World) (h:zq1.f a0=some r) :
  Calls Tryd.prog 77 #[.bool a0] w fun e w'=>e = .returned (.int .i64 r)∧zu w w':=by
 have H:(if a0=true then(some 1) else (some 0))=some r:=h
 clear h
 by_cases c2:a0=true
 ·subst c2
  rw [if_pos rfl] at H
  obtain rfl:=Option.some.inj H
  go_enter Tryd.func77,Tryd.ntmps77
  go_wp2
  go_ret
  exact⟨by first|rfl|(simp;done)|(simp [*];done),by repeat(first|exact zu.refl _|apply zu.step)⟩
 replace c2:=Bool.eq_false_iff.mpr c2
 subst c2
 rw [if_neg (show ¬ (false=true) by decide)] at H
 obtain rfl:=Option.some.inj H
 go_enter Tryd.func77,Tryd.ntmps77
 go_wp2
 go_ret
 exact⟨by first|rfl|(simp;done)|(simp [*];done),by repeat(first|exact zu.refl _|apply zu.step)⟩

/-! ### zq8: function 78 -/
def zq8.f (a0:Int):Option (Int × Int):=if a0=0 then(some (2,0)) else (if a0=2 then(some (0,0)) else (if a0=1 then(some (1,0)) else (some (0,2))))
set_option maxHeartbeats 8000000 in
set_option maxRecDepth 100000 in
theorem zq8.calls (a0:Int) (r1:Int) (r2:Int) (w:World) (h:zq8.f a0=some (r1,r2)) :
  Calls Tryd.prog 78 #[.int .i64 a0] w fun e w'=>e = .returned (.tuple #[.int .i64 r1,.int .i64 r2])∧zu w w':=by
 have H:(if a0=0 then(some (2,0)) else (if a0=2 then(some (0,0)) else (if a0=1 then(some (1,0)) else (some (0,2)))))=some (r1,r2):=h
 clear h
 by_cases c2:a0=0
 ·rw [if_pos c2] at H
  have c2b0:(a0 == 0)=true:=beq_iff_eq.mpr c2
  have c2b1:(a0 != 0)=false:=bne_eq_false_iff_eq.mpr c2
  clear c2
  simp only [Option.some.injEq,Prod.mk.injEq] at H
  obtain ⟨rfl,rfl⟩:=H
  go_enter Tryd.func78,Tryd.ntmps78
  go_wp2
  go_ret2
  exact⟨by first|rfl|(simp;done)|(simp [*];done),by repeat(first|exact zu.refl _|apply zu.step)⟩
 rw [if_neg c2] at H
 have c2b0:(a0 == 0)=false:=beq_eq_false_iff_ne.mpr c2
 have c2b1:(a0 != 0)=true:=bne_iff_ne.mpr c2
 by_cases c3:a0=2
 ·rw [if_pos c3] at H
  have c3b0:(a0 == 2)=true:=beq_iff_eq.mpr c3
  have c3b1:(a0 != 2)=false:=bne_eq_false_iff_eq.mpr c3
  clear c3
  simp only [Option.some.injEq,Prod.mk.injEq] at H
  obtain ⟨rfl,rfl⟩:=H
  go_enter Tryd.func78,Tryd.ntmps78
  go_wp2
  go_ret2
  exact⟨by first|rfl|(simp;done)|(simp [*];done),by repeat(first|exact zu.refl _|apply zu.step)⟩
 rw [if_neg c3] at H
 have c3b0:(a0 == 2)=false:=beq_eq_false_iff_ne.mpr c3
 have c3b1:(a0 != 2)=true:=bne_iff_ne.mpr c3
 by_cases c4:a0=1
 ·rw [if_pos c4] at H
  have c4b0:(a0 == 1)=true:=beq_iff_eq.mpr c4
  have c4b1:(a0 != 1)=false:=bne_eq_false_iff_eq.mpr c4
  clear c4
  simp only [Option.some.injEq,Prod.mk.injEq] at H
  obtain ⟨rfl,rfl⟩:=H
  go_enter Tryd.func78,Tryd.ntmps78
  go_wp2
  go_ret2
  exact⟨by first|rfl|(simp;done)|(simp [*];done),by repeat(first|exact zu.refl _|apply zu.step)⟩
 rw [if_neg c4] at H
 have c4b0:(a0 == 1)=false:=beq_eq_false_iff_ne.mpr c4
 have c4b1:(a0 != 1)=true:=bne_iff_ne.mpr c4
 simp only [Option.some.injEq,Prod.mk.injEq] at H
 obtain ⟨rfl,rfl⟩:=H
 go_enter Tryd.func78,Tryd.ntmps78
 go_wp2
 go_ret2
 exact⟨by first|rfl|(simp;done)|(simp [*];done),by repeat(first|exact zu.refl _|apply zu.step)⟩

end Go.Proofs.YthhejedfjgikdaaDoor.PRelProjects
