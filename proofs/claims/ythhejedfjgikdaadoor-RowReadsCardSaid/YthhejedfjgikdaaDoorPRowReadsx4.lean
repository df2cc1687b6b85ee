-- Written by wip/pp of this repo (over the kit's print, with additions of this session); Lean checks every line.
import Derived.Test.YthhejedfjgikdaaDoorPRowReadsx3
namespace Go.Proofs.YthhejedfjgikdaaDoor.PRowReads
open Go.RowKit Go.Proofs.YthhejedfjgikdaaDoorW.PrintWords Go.Proofs.YthhejedfjgikdaaDoorW.PrintLast Go.Proofs.YthhejedfjgikdaaDoorW.PrintMore
attribute [local go_sem] zjo zjm zjw zjv zja zq9 zjn zjl   -- for this text's walks alone
set_option linter.unusedVariables false
set_option linter.unusedSimpArgs false

/-! ### zqa: function 114 -/
def zqa.l0:Nat→List Int→Int→List Int→Int→Int→Option (Bool)
 | 0,_,_,_,_,_=>none
 | k+1,x0,x1,x7,x8,x9=>if x9<x8 then(if 0≤x9 then(if x9<(x7.length:Int) then(if(rd x7 x9)<0 then(some false) else (if(rd x7 x9) ≥ x1 then(some false) else (zqa.l0 k x0 x1 x7 x8 (wrap64 (x9+1))))) else (none)) else (none)) else (if(x0.length:Int) > 0 then(if(x0.length:Int)≤3 then((zqg.f x0).bind fun t123=>(some t123)) else (some false)) else (some false))
def zqa.f (k:Nat) (l0:List Int) (a1:Int):Option (Bool):=zqa.l0 k l0 a1 l0 (l0.length:Int) 0
theorem zqa.mono_l:∀ k,(∀ y0 y1 y2 y3 y4,LeO (zqa.l0 k y0 y1 y2 y3 y4) (zqa.l0 (k+1) y0 y1 y2 y3 y4))
 | 0=>fun _ _ _ _ _ r h=>by simp [zqa.l0] at h
 | k+1=>by
  have ih0:=zqa.mono_l k
  intro y0 y1 y2 y3 y4
  unfold zqa.l0
  repeat' first
  | (with_reducible first|exact ih0 _ _ _ _ _|exact LeO.refl _|exact LeO.none _|refine LeO.ite ?_ ?_|refine LeO.bind ?_ (fun _=>?_))
  | exact ih0 _ _ _ _ _
  | exact LeO.none _
  | refine LeO.ite ?_ ?_
  | refine LeO.bind ?_ (fun _=>?_)
theorem zqa.mono:∀ a0 a1 k,LeO (zqa.f k a0 a1) (zqa.f (k+1) a0 a1):=by
 intro a0 a1 k
 have ih0:=zqa.mono_l k
 unfold zqa.f
 repeat' first
   | (with_reducible first|exact ih0 _ _ _ _ _|exact LeO.refl _|exact LeO.none _|refine LeO.ite ?_ ?_|refine LeO.bind ?_ (fun _=>?_))
   | exact ih0 _ _ _ _ _
   | exact LeO.none _
   | refine LeO.ite ?_ ?_
   | refine LeO.bind ?_ (fun _=>?_)
set_option maxHeartbeats 8000000 in
set_option maxRecDepth 100000 in
theorem zqa.calls (k:Nat) (A0:Option Addr) (c0:Nat) (l0:List Int) (a1:Int) (r:Bool) (w:World) (hr0:Kd.C (Kd.int .i64) w A0 l0.length l0) (hc0:l0.length≤c0) (h:zqa.f k l0 a1=some r) :
  Calls Tryd.prog 114 #[.slice A0 l0.length c0,.int .i64 a1] w fun e w'=>e = .returned (.bool r)∧Below w.heap.size w w':=by
 have HR0:=zq.mk hr0
 have HC0:=zq.mk hc0
 clear hr0 hc0
 have HB:=zq.mk (Below.refl w.heap.size w)
 have H:(zqa.l0 k l0 a1 l0 (l0.length:Int) 0)=some r:=h
 clear h
 have H':=zq.mk H
 clear H
 go_enter Tryd.func114,Tryd.ntmps114
 go_wp2
 go_loopg [9] k (fun kq v9 w' => ∃ (x9_1:Int),v9 = .int .i64 x9_1∧zq (zqa.l0 kq l0 a1 l0 (l0.length:Int) x9_1=some r)∧zq (kq≤k)∧zq (Below w.heap.size w w'))
 case atStart=>exact⟨(0),vr,H',⟨Nat.le_refl _⟩,⟨bw⟩⟩
 case round=>
  clear H'
  obtain ⟨x9_1,rfl,HA,HK1,HB⟩:=hrel
  cases gk with
  | zero=>exact absurd HA.out (by simp [zqa.l0])
  | succ k1=>
   have H:=HA.out
   clear HA
   simp only [zqa.l0] at H
   by_cases c3:x9_1<(l0.length:Int)
   ·rw [if_pos c3] at H
    have c3b0:=decide_eq_true c3
    clear c3
    by_cases c4:0≤x9_1
    ·rw [if_pos c4] at H
     have c4b0:=decide_eq_true c4
     clear c4
     by_cases c5:x9_1<(l0.length:Int)
     ·rw [if_pos c5] at H
      have c5b0:=decide_eq_true c5
      clear c5
      by_cases c6:(rd l0 x9_1)<0
      ·rw [if_pos c6] at H
       have c6b0:=decide_eq_true c6
       clear c6
       obtain rfl:=Option.some.inj H
       have p122:0≤(x9_1:Int):=dt
       have q122:x9_1<(l0.length:Int):=dt
       obtain ⟨ad122,e122,hx122_0⟩:=Kd.zjb HR0.out x9_1 p122 q122
       cases e122
       replace hx122_0:=(HB.out.cell (World.block_lt_of_cell? w _ hx122_0)).trans hx122_0
       replace p122:=eq_true p122
       replace q122:=eq_true q122
       go_wp2
       go_ret
       exact⟨by first|rfl|(simp [zg,zy] <;> rfl)|(simp [*,zg,zy] <;> rfl),bw⟩
      rw [if_neg c6] at H
      have c6b0:=decide_eq_false c6
      clear c6
      by_cases c7:(rd l0 x9_1) ≥ a1
      ·rw [if_pos c7] at H
       have c7b0:=decide_eq_true c7
       clear c7
       obtain rfl:=Option.some.inj H
       have p122:0≤(x9_1:Int):=dt
       have q122:x9_1<(l0.length:Int):=dt
       obtain ⟨ad122,e122,hx122_0⟩:=Kd.zjb HR0.out x9_1 p122 q122
       cases e122
       replace hx122_0:=(HB.out.cell (World.block_lt_of_cell? w _ hx122_0)).trans hx122_0
       replace p122:=eq_true p122
       replace q122:=eq_true q122
       go_wp2
       go_ret
       exact⟨by first|rfl|(simp [zg,zy] <;> rfl)|(simp [*,zg,zy] <;> rfl),bw⟩
      rw [if_neg c7] at H
      have c7b0:=decide_eq_false c7
      clear c7
      have H':=zq.mk H
      clear H
      have p122:0≤(x9_1:Int):=dt
      have q122:x9_1<(l0.length:Int):=dt
      obtain ⟨ad122,e122,hx122_0⟩:=Kd.zjb HR0.out x9_1 p122 q122
      cases e122
      replace hx122_0:=(HB.out.cell (World.block_lt_of_cell? w _ hx122_0)).trans hx122_0
      replace p122:=eq_true p122
      replace q122:=eq_true q122
      go_wp2
      go_roundg k1
      case measure=>have:=HK1.out;omega
      case rel=>exact⟨(wrap64 (x9_1+1)),vr,H',⟨by have:=HK1.out;omega⟩,⟨bw⟩⟩
     rw [if_neg c5] at H
     exact absurd H (by simp)
    rw [if_neg c4] at H
    exact absurd H (by simp)
   rw [if_neg c3] at H
   have c3b0:=decide_eq_false c3
   clear c3
   by_cases c8:(l0.length:Int) > 0
   ·rw [if_pos c8] at H
    have c8b0:=decide_eq_true c8
    have c8b1:decide (0<l0.length)=true:=decide_eq_true (by omega)
    clear c8
    by_cases c9:(l0.length:Int)≤3
    ·rw [if_pos c9] at H
     have c9b0:=decide_eq_true c9
     have c9b1:decide (l0.length≤3)=true:=decide_eq_true (by omega)
     clear c9
     replace H:=Option.bind_eq_some_iff.mp H
     obtain ⟨t123,A100,H⟩:=H
     replace H:(some t123)=some r:=H
     have A10:=zq.mk A100
     clear A100
     obtain rfl:=Option.some.inj H
     go_wp2_with (first|(go_at_call 146;(with_reducible refine(zqg.calls _ _ l0 t123 _ ?side1 ?side2 A10.out).mono ?_);(case side1=>exact Kd.cu (Kd.qu HR0.out HB.out));(case side2=>exact HC0.out);rintro e w11 ⟨rfl,hb⟩;replace HB:=zq.mk (zn bw hb);(try clear hb);(try clear hb2);(try clear hk);(try clear hi)))
     go_ret
     exact⟨by first|rfl|(simp [zg,zy] <;> rfl)|(simp [*,zg,zy] <;> rfl),bw⟩
    rw [if_neg c9] at H
    have c9b0:=decide_eq_false c9
    have c9b1:decide (l0.length≤3)=false:=decide_eq_false (by omega)
    clear c9
    obtain rfl:=Option.some.inj H
    go_wp2
    go_ret
    exact⟨by first|rfl|(simp [zg,zy] <;> rfl)|(simp [*,zg,zy] <;> rfl),bw⟩
   rw [if_neg c8] at H
   have c8b0:=decide_eq_false c8
   have c8b1:decide (0<l0.length)=false:=decide_eq_false (by omega)
   clear c8
   obtain rfl:=Option.some.inj H
   go_wp2
   go_ret
   exact⟨by first|rfl|(simp [zg,zy] <;> rfl)|(simp [*,zg,zy] <;> rfl),bw⟩

/-! ### zj1: function 115, by hand -/
-- HAND rounds=0 making=1 func=1 imports=Derived.Test.YthhejedfjgikdaaDoorOpen
-- INFO 9
def zj1.f (l0:List S90):Option (List ByteArray):=if l0.length * 16≤140737488351232 then some (l0.map (·.f0)) else none
theorem zj1.at_ {w:World} {A:Option Addr} {l:List S90} (h:Kd.C k90 w A l.length l) (h0:0<l.length):∃ b o,A=some ⟨b,o,none⟩ ∧ ∀ (i:Nat) (hi:i<l.length),w.cell? ⟨b,o+i * 3,none⟩=some (.string l[i].f0)∧w.cell? ⟨b,o+i * 3+1,none⟩=some (.int .i64 l[i].f1)∧w.cell? ⟨b,o+i * 3+2,none⟩=some (.bool l[i].f2):=by
 obtain ⟨ad,rfl,g0,_⟩:=zx1 h 0 (by omega) (by omega)
 have hs:ad.spot=none:=by
  cases hsp:ad.spot with
  | none=>rfl
  | some s=>
   exfalso
   rw [show ad.add ((0:Int).toNat * 3)=ad from by simp [Addr.add]] at g0
   unfold World.cell? at g0
   split at g0
   ·rw [hsp] at g0
    simp at g0
   cases g0
 obtain ⟨b,o,sp⟩:=ad
 dsimp only at hs
 subst hs
 refine⟨b,o,rfl,fun i hi=>?_⟩
 obtain ⟨ad,e,g0,g1,g2⟩:=zx1 h (i:Int) (by omega) (by omega)
 cases e
 have ee:qg l (i:Int)=l[i]:=by simp [qg,List.getD_eq_getElem?_getD,hi]
 have ha:(⟨b,o,none⟩:Addr).add ((i:Int).toNat * 3)=⟨b,o+i * 3,none⟩:=by rw [Int.toNat_natCast];unfold Addr.add;split <;> simp_all
 rw [ee] at g0 g1 g2
 rw [ha] at g0 g1 g2
 exact⟨g0,g1,g2⟩
theorem zj1.of_ (x:S90) (w:World):Calls Tryd.prog 116 #[.agg #[.string x.f0,.int .i64 x.f1,.bool x.f2]] w fun e w'=>e = .returned (.string x.f0)∧Below w.heap.size w w':=by
 go_enter Tryd.func116,Tryd.ntmps116
 go_wp2
 go_ret
 exact⟨rfl,zl (Below.refl _ _) _⟩
theorem zj1.set_ {α:Type} (f:α→ByteArray) (l:List α) (j:Nat) (h:j<l.length):((l.take j).map f ++ List.replicate (l.length - j) ByteArray.empty).set j (f l[j])=(l.take (j+1)).map f ++ List.replicate (l.length - (j+1)) ByteArray.empty:=by
 rw [List.take_succ_eq_append_getElem h,List.map_append,List.append_assoc]
 rw [List.set_append_right _ _ (by simp;omega)]
 simp only [List.length_map,List.length_take,show min j l.length=j by omega,Nat.sub_self]
 obtain ⟨m,hm⟩:∃ m,l.length - j=m+1:=⟨l.length - j - 1,by omega⟩
 rw [hm,show l.length - (j+1)=m by omega,List.replicate_succ]
 rfl
set_option maxRecDepth 100000 in
set_option maxHeartbeats 4000000 in
theorem zj1.calls (A0:Option Addr) (c0:Nat) (l0:List S90) (r:List ByteArray) (w:World) (hr0:Kd.C k90 w A0 l0.length l0) (hc0:l0.length≤c0) (h:zj1.f l0=some r) :
  Calls Tryd.prog 115 #[.slice A0 l0.length c0,.func (.func 116) #[] #[]] w fun e w' => ∃ v0_:Value,e = .returned (v0_)∧Kd.R Kd.string 9 w' w.heap.size (fun _=>True) v0_ r∧Below w.heap.size w w':=by
 unfold zj1.f at h
 split at h
 rotate_left
 ·cases h
 rename_i hb
 obtain rfl:=Option.some.inj h
 have HR:=zq.mk hr0
 clear h hr0
 have hm:l0.length≤9223372036854775807:=by omega
 go_enter Tryd.func115,Tryd.ntmps115
 go_wp2_with (refine Kd.R_make Kd.string (w0:=w) w.heap.size 9 rfl rfl 118 (.tmp 9) (.tmp 9) rfl (l0.length:Int) rfl rfl Tryd.underlying118 (.string ByteArray.empty) 16 info9 rfl (by decide) (by decide) ByteArray.empty (ok:=fun _=>True) (okp:=fun _=>True) rfl (fun _ h=>h) trivial (by omega) (by omega) (Below.refl _ _) (Nat.le_refl _) ?_;intro v1 w1 ho1 hb1 hg1 hown1;have HO1:=zq.mk ho1;have HB1:=zq.mk hb1;clear ho1 hb1 hg1 hown1)
 rw [Int.toNat_natCast] at HO1
 go_loopw [13] (fun i wr => ∃ j:Nat,j≤l0.length∧i = .int .i64 j∧zq (Kd.R Kd.string 9 wr w.heap.size (fun _=>True) v1 ((l0.take j).map (·.f0) ++ List.replicate (l0.length - j) ByteArray.empty))∧zq (Below w.heap.size w wr)) (fun i _=>l0.length - (intOf i).toNat)
 case atStart=>exact⟨0,Nat.zero_le _,rfl,⟨by simpa using HO1.out⟩,HB1⟩
 case round=>
  clear HO1 HB1
  obtain ⟨j,hj,rfl,HO,HB⟩:=hrel
  by_cases hlt:j<l0.length
  ·obtain ⟨g,cap,hv,hbg,hgl,cells,hcell⟩:=Kd.R_form HO.out (by simp;omega)
   rw [show((l0.take j).map (·.f0) ++ List.replicate (l0.length - j) ByteArray.empty).length=l0.length by simp;omega] at hv
   subst hv
   obtain ⟨hce,hfr⟩:=Kd.R_celln ByteArray.empty HO.out (j:Int) (by omega) (by omega)
   simp only [Int.toNat_natCast] at hce hfr
   have HCE:=zq.mk hce
   have HFR:=zq.mk hfr
   obtain ⟨b,o,rfl,hcs⟩:=zj1.at_ (Kd.qu HR.out HB.out) (by omega)
   obtain ⟨p0,p1,p2⟩:=hcs j hlt
   have HSET:=zq.mk (zj1.set_ (·.f0) l0 j hlt)
   clear hce hfr hcell hcs
   generalize l0[j]=x at *
   go_wp2_with (go_at_call 116;refine(zj1.of_ x _).mono ?_;rintro e2 w2 ⟨rfl,hb2⟩;have HB2:zq (Below wr.heap.size wr w2):=⟨(zl (Below.refl wr.heap.size wr) _).trans (hb2.mono (zl (Below.refl wr.heap.size wr) _).size)⟩;clear hb2;have hce2:=zqw HB2.out HCE.out;have hfr2:=(HB2.out.frozen (p:=⟨g,j,none⟩) hgl).trans HFR.out)
   go_roundw
   case rel=>exact⟨j+1,by omega,by go_num,⟨by have h3:=Kd.R_putn (Kd.zq4 HO.out HB2.out) (j:Int) x.f0;rw [Int.toNat_natCast,HSET.out] at h3;exact h3⟩,⟨(HB.out.trans (HB2.out.mono HB.out.size)).setCell hbg _⟩⟩
   case measure=>simp [intOf];omega
  obtain rfl:j=l0.length:=by omega
  go_wp2
  go_ret
  exact⟨_,rfl,by simpa using HO.out,HB.out⟩

/-! ### zxv: function 116 -/
def zxv.f (a0_0:ByteArray) (a0_1:Int) (a0_2:Bool):Option (ByteArray):=some a0_0
set_option maxHeartbeats 8000000 in
set_option maxRecDepth 100000 in
theorem zxv.calls (a0_0:ByteArray) (a0_1:Int) (a0_2:Bool) (r:ByteArray) (w:World) (h:zxv.f a0_0 a0_1 a0_2=some r) :
  Calls Tryd.prog 116 #[.agg #[.string a0_0,.int .i64 a0_1,.bool a0_2]] w fun e w'=>e = .returned (.string r)∧Below w.heap.size w w':=by
 have hu90:=Tryd.underlying90
 have HB:=zq.mk (Below.refl w.heap.size w)
 have H:(some a0_0)=some r:=h
 clear h
 obtain rfl:=Option.some.inj H
 go_enter Tryd.func116,Tryd.ntmps116
 go_wp2_with (first|((with_reducible refine qr (N:=1) rfl ?_);refine qm ?hg (N:=1) ?hd (cs:=#[.string a0_0,.int .i64 a0_1,.bool a0_2]) (t:=90) ?hr ?_;(case hd=>rfl);(case hg=>rfl);(case hr=>first|(go_simp;done)|(go_simp;rfl));intro gb124 hg w2 hbox hb;have BK124:=zq.mk (hbox);have GW124:=zq.mk ((by rw [hg];exact(zw bw):w.heap.size≤gb124));have GE124:=zq.mk ((by rw [hg];exact(zw bw):w.heap.size≤gb124));replace HB:=zq.mk (zn bw hb);clear hb hbox hg;obtain ⟨hcz3_0,hcz3_1,hcz3_2,hfz3_0,hfz3_1,hfz3_2⟩:=qd BK124.out))
 go_ret
 exact⟨by first|rfl|(simp [zg,zy] <;> rfl)|(simp [*,zg,zy] <;> rfl),bw⟩

/-! ### zj9: function 117, by hand -/
-- HAND rounds=0 making=1 func=1 imports=Derived.Test.YthhejedfjgikdaaDoorOpen
-- INFO 9
def zj9.f (l0:List S96):Option (List ByteArray):=if l0.length * 16≤140737488351232 then some (l0.map (·.f0)) else none
theorem zj9.at_ {w:World} {A:Option Addr} {l:List S96} (h:Kd.C k96 w A l.length l) (h0:0<l.length):∃ b o,A=some ⟨b,o,none⟩ ∧ ∀ (i:Nat) (hi:i<l.length),∃ A1 c1,w.cell? ⟨b,o+i * 2,none⟩=some (.string l[i].f0)∧w.cell? ⟨b,o+i * 2+1,none⟩=some (.slice A1 l[i].f1.length c1)∧l[i].f1.length≤c1∧Kd.C (Kd.int .i64) w A1 l[i].f1.length l[i].f1:=by
 obtain ⟨ad,A1,c1,rfl,g0,_⟩:=zvt h 0 (by omega) (by omega)
 have hs:ad.spot=none:=by
  cases hsp:ad.spot with
  | none=>rfl
  | some s=>
   exfalso
   rw [show ad.add ((0:Int).toNat * 2)=ad from by simp [Addr.add]] at g0
   unfold World.cell? at g0
   split at g0
   ·rw [hsp] at g0
    simp at g0
   cases g0
 obtain ⟨b,o,sp⟩:=ad
 dsimp only at hs
 subst hs
 refine⟨b,o,rfl,fun i hi=>?_⟩
 obtain ⟨ad,A1,c1,e,g0,g1,l1,r1⟩:=zvt h (i:Int) (by omega) (by omega)
 cases e
 have ee:zqi l (i:Int)=l[i]:=by simp [zqi,List.getD_eq_getElem?_getD,hi]
 have ha:(⟨b,o,none⟩:Addr).add ((i:Int).toNat * 2)=⟨b,o+i * 2,none⟩:=by rw [Int.toNat_natCast];unfold Addr.add;split <;> simp_all
 rw [ee] at g0 g1 l1 r1
 rw [ha] at g0 g1
 exact⟨A1,c1,g0,g1,l1,r1⟩
theorem zj9.of_ (A1:Option Addr) (c1:Nat) (x:S96) (w:World):Calls Tryd.prog 118 #[.agg #[.string x.f0,.slice A1 x.f1.length c1]] w fun e w'=>e = .returned (.string x.f0)∧Below w.heap.size w w':=by
 go_enter Tryd.func118,Tryd.ntmps118
 go_wp2
 go_ret
 exact⟨rfl,zl (Below.refl _ _) _⟩
theorem zj9.set_ {α:Type} (f:α→ByteArray) (l:List α) (j:Nat) (h:j<l.length):((l.take j).map f ++ List.replicate (l.length - j) ByteArray.empty).set j (f l[j])=(l.take (j+1)).map f ++ List.replicate (l.length - (j+1)) ByteArray.empty:=by
 rw [List.take_succ_eq_append_getElem h,List.map_append,List.append_assoc]
 rw [List.set_append_right _ _ (by simp;omega)]
 simp only [List.length_map,List.length_take,show min j l.length=j by omega,Nat.sub_self]
 obtain ⟨m,hm⟩:∃ m,l.length - j=m+1:=⟨l.length - j - 1,by omega⟩
 rw [hm,show l.length - (j+1)=m by omega,List.replicate_succ]
 rfl
set_option maxRecDepth 100000 in
set_option maxHeartbeats 4000000 in
theorem zj9.calls (A0:Option Addr) (c0:Nat) (l0:List S96) (r:List ByteArray) (w:World) (hr0:Kd.C k96 w A0 l0.length l0) (hc0:l0.length≤c0) (h:zj9.f l0=some r) :
  Calls Tryd.prog 117 #[.slice A0 l0.length c0,.func (.func 118) #[] #[]] w fun e w' => ∃ v0_:Value,e = .returned (v0_)∧Kd.R Kd.string 9 w' w.heap.size (fun _=>True) v0_ r∧Below w.heap.size w w':=by
 unfold zj9.f at h
 split at h
 rotate_left
 ·cases h
 rename_i hb
 obtain rfl:=Option.some.inj h
 have HR:=zq.mk hr0
 clear h hr0
 have hm:l0.length≤9223372036854775807:=by omega
 go_enter Tryd.func117,Tryd.ntmps117
 go_wp2_with (refine Kd.R_make Kd.string (w0:=w) w.heap.size 9 rfl rfl 118 (.tmp 9) (.tmp 9) rfl (l0.length:Int) rfl rfl Tryd.underlying118 (.string ByteArray.empty) 16 info9 rfl (by decide) (by decide) ByteArray.empty (ok:=fun _=>True) (okp:=fun _=>True) rfl (fun _ h=>h) trivial (by omega) (by omega) (Below.refl _ _) (Nat.le_refl _) ?_;intro v1 w1 ho1 hb1 hg1 hown1;have HO1:=zq.mk ho1;have HB1:=zq.mk hb1;clear ho1 hb1 hg1 hown1)
 rw [Int.toNat_natCast] at HO1
 go_loopw [13] (fun i wr => ∃ j:Nat,j≤l0.length∧i = .int .i64 j∧zq (Kd.R Kd.string 9 wr w.heap.size (fun _=>True) v1 ((l0.take j).map (·.f0) ++ List.replicate (l0.length - j) ByteArray.empty))∧zq (Below w.heap.size w wr)) (fun i _=>l0.length - (intOf i).toNat)
 case atStart=>exact⟨0,Nat.zero_le _,rfl,⟨by simpa using HO1.out⟩,HB1⟩
 case round=>
  clear HO1 HB1
  obtain ⟨j,hj,rfl,HO,HB⟩:=hrel
  by_cases hlt:j<l0.length
  ·obtain ⟨g,cap,hv,hbg,hgl,cells,hcell⟩:=Kd.R_form HO.out (by simp;omega)
   rw [show((l0.take j).map (·.f0) ++ List.replicate (l0.length - j) ByteArray.empty).length=l0.length by simp;omega] at hv
   subst hv
   obtain ⟨hce,hfr⟩:=Kd.R_celln ByteArray.empty HO.out (j:Int) (by omega) (by omega)
   simp only [Int.toNat_natCast] at hce hfr
   have HCE:=zq.mk hce
   have HFR:=zq.mk hfr
   obtain ⟨b,o,rfl,hcs⟩:=zj9.at_ (Kd.qu HR.out HB.out) (by omega)
   obtain ⟨A1,c1,p0,p1,l1,r1⟩:=hcs j hlt
   have HSET:=zq.mk (zj9.set_ (·.f0) l0 j hlt)
   clear hce hfr hcell hcs
   generalize l0[j]=x at *
   go_wp2_with (go_at_call 118;refine(zj9.of_ A1 c1 x _).mono ?_;rintro e2 w2 ⟨rfl,hb2⟩;have HB2:zq (Below wr.heap.size wr w2):=⟨(zl (Below.refl wr.heap.size wr) _).trans (hb2.mono (zl (Below.refl wr.heap.size wr) _).size)⟩;clear hb2;have hce2:=zqw HB2.out HCE.out;have hfr2:=(HB2.out.frozen (p:=⟨g,j,none⟩) hgl).trans HFR.out)
   go_roundw
   case rel=>exact⟨j+1,by omega,by go_num,⟨by have h3:=Kd.R_putn (Kd.zq4 HO.out HB2.out) (j:Int) x.f0;rw [Int.toNat_natCast,HSET.out] at h3;exact h3⟩,⟨(HB.out.trans (HB2.out.mono HB.out.size)).setCell hbg _⟩⟩
   case measure=>simp [intOf];omega
  obtain rfl:j=l0.length:=by omega
  go_wp2
  go_ret
  exact⟨_,rfl,by simpa using HO.out,HB.out⟩

/-! ### zx0: function 118 -/
def zx0.f (a0_0:ByteArray) (l0_1:List Int):Option (ByteArray):=some a0_0
set_option maxHeartbeats 8000000 in
set_option maxRecDepth 100000 in
theorem zx0.calls (a0_0:ByteArray) (A0_1:Option Addr) (c0_1:Nat) (l0_1:List Int) (r:ByteArray) (w:World) (hr0_1:Kd.C (Kd.int .i64) w A0_1 l0_1.length l0_1) (hc0_1:l0_1.length≤c0_1) (h:zx0.f a0_0 l0_1=some r) :
  Calls Tryd.prog 118 #[.agg #[.string a0_0,.slice A0_1 l0_1.length c0_1]] w fun e w'=>e = .returned (.string r)∧Below w.heap.size w w':=by
 have hu96:=Tryd.underlying96
 have HR0_1:=zq.mk hr0_1
 have HC0_1:=zq.mk hc0_1
 clear hr0_1 hc0_1
 have HB:=zq.mk (Below.refl w.heap.size w)
 have H:(some a0_0)=some r:=h
 clear h
 obtain rfl:=Option.some.inj H
 go_enter Tryd.func118,Tryd.ntmps118
 go_wp2_with (first|((with_reducible refine qr (N:=1) rfl ?_);refine qm ?hg (N:=1) ?hd (cs:=#[.string a0_0,.slice A0_1 l0_1.length c0_1]) (t:=96) ?hr ?_;(case hd=>rfl);(case hg=>rfl);(case hr=>first|(go_simp;done)|(go_simp;rfl));intro gb125 hg w2 hbox hb;have BK125:=zq.mk (hbox);have GW125:=zq.mk ((by rw [hg];exact(zw bw):w.heap.size≤gb125));have GE125:=zq.mk ((by rw [hg];exact(zw bw):w.heap.size≤gb125));replace HB:=zq.mk (zn bw hb);clear hb hbox hg;obtain ⟨hcz3_0,hcz3_1,hfz3_0,hfz3_1⟩:=zji BK125.out))
 go_ret
 exact⟨by first|rfl|(simp [zg,zy] <;> rfl)|(simp [*,zg,zy] <;> rfl),bw⟩

end Go.Proofs.YthhejedfjgikdaaDoor.PRowReads
