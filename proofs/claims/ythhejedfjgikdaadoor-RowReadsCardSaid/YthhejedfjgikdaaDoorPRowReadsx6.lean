-- Written by wip/pp of this repo (over the kit's print, with additions of this session); Lean checks every line.
import Derived.Test.YthhejedfjgikdaaDoorPRowReadsx1
import Derived.Test.YthhejedfjgikdaaDoorPRowReadsx5
namespace Go.Proofs.YthhejedfjgikdaaDoor.PRowReads
open Go.RowKit Go.Proofs.YthhejedfjgikdaaDoorW.PrintWords Go.Proofs.YthhejedfjgikdaaDoorW.PrintLast Go.Proofs.YthhejedfjgikdaaDoorW.PrintMore
attribute [local go_sem] zjo zjm zjw zjv zja zq9 zjn zjl   -- for this text's walks alone
set_option linter.unusedVariables false
set_option linter.unusedSimpArgs false

attribute [local go_sem high] eqA38
/-! ### zxe: function 94, by hand -/
-- HAND rounds=0 making=1 func=1 imports=Derived.Test.YthhejedfjgikdaaDoorOpen
-- INFO 9
def zxe.f (l0:List S61):Option (List ByteArray):=if l0.length * 16≤140737488351232 then some (l0.map (·.f0)) else none
theorem zxe.at_ {w:World} {A:Option Addr} {l:List S61} (h:Kd.C k61 w A l.length l) (h0:0<l.length):∃ b o,A=some ⟨b,o,none⟩ ∧ ∀ (i:Nat) (hi:i<l.length),∃ A1 c1,∃ A2 c2,∃ A3 c3,w.cell? ⟨b,o+i * 4,none⟩=some (.string l[i].f0)∧w.cell? ⟨b,o+i * 4+1,none⟩=some (.slice A1 l[i].f1.length c1)∧w.cell? ⟨b,o+i * 4+2,none⟩=some (.slice A2 l[i].f2.length c2)∧w.cell? ⟨b,o+i * 4+3,none⟩=some (.slice A3 l[i].f3.length c3)∧l[i].f1.length≤c1∧Kd.C k90 w A1 l[i].f1.length l[i].f1∧l[i].f2.length≤c2∧Kd.C (Kd.int .i64) w A2 l[i].f2.length l[i].f2∧l[i].f3.length≤c3∧Kd.C k96 w A3 l[i].f3.length l[i].f3:=by
 obtain ⟨ad,A1,c1,A2,c2,A3,c3,rfl,g0,_⟩:=zkj h 0 (by omega) (by omega)
 have hs:ad.spot=none:=by
  cases hsp:ad.spot with
  | none=>rfl
  | some s=>
   exfalso
   rw [show ad.add ((0:Int).toNat * 4)=ad from by simp [Addr.add]] at g0
   unfold World.cell? at g0
   split at g0
   ·rw [hsp] at g0
    simp at g0
   cases g0
 obtain ⟨b,o,sp⟩:=ad
 dsimp only at hs
 subst hs
 refine⟨b,o,rfl,fun i hi=>?_⟩
 obtain ⟨ad,A1,c1,A2,c2,A3,c3,e,g0,g1,g2,g3,l1,r1,l2,r2,l3,r3⟩:=zkj h (i:Int) (by omega) (by omega)
 cases e
 have ee:zt l (i:Int)=l[i]:=by simp [zt,List.getD_eq_getElem?_getD,hi]
 have ha:(⟨b,o,none⟩:Addr).add ((i:Int).toNat * 4)=⟨b,o+i * 4,none⟩:=by rw [Int.toNat_natCast];unfold Addr.add;split <;> simp_all
 rw [ee] at g0 g1 g2 g3 l1 r1 l2 r2 l3 r3
 rw [ha] at g0 g1 g2 g3
 exact⟨A1,c1,A2,c2,A3,c3,g0,g1,g2,g3,l1,r1,l2,r2,l3,r3⟩
theorem zxe.of_ (A1:Option Addr) (c1:Nat) (A2:Option Addr) (c2:Nat) (A3:Option Addr) (c3:Nat) (x:S61) (w:World):Calls Tryd.prog 95 #[.agg #[.string x.f0,.slice A1 x.f1.length c1,.slice A2 x.f2.length c2,.slice A3 x.f3.length c3]] w fun e w'=>e = .returned (.string x.f0)∧Below w.heap.size w w':=by
 go_enter Tryd.func95,Tryd.ntmps95
 go_wp2
 go_ret
 exact⟨rfl,zl (Below.refl _ _) _⟩
theorem zxe.set_ {α:Type} (f:α→ByteArray) (l:List α) (j:Nat) (h:j<l.length):((l.take j).map f ++ List.replicate (l.length - j) ByteArray.empty).set j (f l[j])=(l.take (j+1)).map f ++ List.replicate (l.length - (j+1)) ByteArray.empty:=by
 rw [List.take_succ_eq_append_getElem h,List.map_append,List.append_assoc]
 rw [List.set_append_right _ _ (by simp;omega)]
 simp only [List.length_map,List.length_take,show min j l.length=j by omega,Nat.sub_self]
 obtain ⟨m,hm⟩:∃ m,l.length - j=m+1:=⟨l.length - j - 1,by omega⟩
 rw [hm,show l.length - (j+1)=m by omega,List.replicate_succ]
 rfl
set_option maxRecDepth 100000 in
set_option maxHeartbeats 4000000 in
theorem zxe.calls (A0:Option Addr) (c0:Nat) (l0:List S61) (r:List ByteArray) (w:World) (hr0:Kd.C k61 w A0 l0.length l0) (hc0:l0.length≤c0) (h:zxe.f l0=some r) :
  Calls Tryd.prog 94 #[.slice A0 l0.length c0,.func (.func 95) #[] #[]] w fun e w' => ∃ v0_:Value,e = .returned (v0_)∧Kd.R Kd.string 9 w' w.heap.size (fun _=>True) v0_ r∧Below w.heap.size w w':=by
 unfold zxe.f at h
 split at h
 rotate_left
 ·cases h
 rename_i hb
 obtain rfl:=Option.some.inj h
 have HR:=zq.mk hr0
 clear h hr0
 have hm:l0.length≤9223372036854775807:=by omega
 go_enter Tryd.func94,Tryd.ntmps94
 go_wp2_with (refine Kd.R_make Kd.string (w0:=w) w.heap.size 9 rfl rfl 118 (.tmp 9) (.tmp 9) rfl (l0.length:Int) rfl rfl Tryd.underlying118 (.string ByteArray.empty) 16 info9 rfl (by decide) (by decide) ByteArray.empty (ok:=fun _=>True) (okp:=fun _=>True) rfl (fun _ h=>h) trivial (by omega) (by omega) (Below.refl _ _) (Nat.le_refl _) ?_;intro v1 w1 ho1 hb1 hg1 hown1;have HO1:=zq.mk ho1;have HB1:=zq.mk hb1;clear ho1 hb1 hg1 hown1)
 rw [Int.toNat_natCast] at HO1
 go_loopw [13] (fun i wr => ∃ j:Nat,j≤l0.length∧i = .int .i64 j∧zq (Kd.R Kd.string 9 wr w.heap.size (fun _=>True) v1 ((l0.take j).map (·.f0) ++ List.replicate (l0.length - j) ByteArray.empty))∧zq (Below w.heap.size w wr)) (fun i _=>l0.length - (intOf i).toNat)
 case atStart=>exact⟨0,Nat.zero_le _,rfl,⟨by simpa using HO1.out⟩,HB1⟩
 case round=>
  clear HO1 HB1
  obtain ⟨j,hj,rfl,HO,HB⟩:=hrel
  by_cases hlt:j<l0.length
  ·obtain ⟨g,cap,hv,hbg,hgl,cells,hcell⟩:=Kd.R_form HO.out (by simp;omega)
   rw [show((l0.take j).map (·.f0) ++ List.replicate (l0.length - j) ByteArray.empty).length=l0.length by simp;omega] at hv
   subst hv
   obtain ⟨hce,hfr⟩:=Kd.R_celln ByteArray.empty HO.out (j:Int) (by omega) (by omega)
   simp only [Int.toNat_natCast] at hce hfr
   have HCE:=zq.mk hce
   have HFR:=zq.mk hfr
   obtain ⟨b,o,rfl,hcs⟩:=zxe.at_ (Kd.qu HR.out HB.out) (by omega)
   obtain ⟨A1,c1,A2,c2,A3,c3,p0,p1,p2,p3,l1,r1,l2,r2,l3,r3⟩:=hcs j hlt
   have HSET:=zq.mk (zxe.set_ (·.f0) l0 j hlt)
   clear hce hfr hcell hcs
   generalize l0[j]=x at *
   go_wp2_with (go_at_call 95;refine(zxe.of_ A1 c1 A2 c2 A3 c3 x _).mono ?_;rintro e2 w2 ⟨rfl,hb2⟩;have HB2:zq (Below wr.heap.size wr w2):=⟨(zl (Below.refl wr.heap.size wr) _).trans (hb2.mono (zl (Below.refl wr.heap.size wr) _).size)⟩;clear hb2;have hce2:=zqw HB2.out HCE.out;have hfr2:=(HB2.out.frozen (p:=⟨g,j,none⟩) hgl).trans HFR.out)
   go_roundw
   case rel=>exact⟨j+1,by omega,by go_num,⟨by have h3:=Kd.R_putn (Kd.zq4 HO.out HB2.out) (j:Int) x.f0;rw [Int.toNat_natCast,HSET.out] at h3;exact h3⟩,⟨(HB.out.trans (HB2.out.mono HB.out.size)).setCell hbg _⟩⟩
   case measure=>simp [intOf];omega
  obtain rfl:j=l0.length:=by omega
  go_wp2
  go_ret
  exact⟨_,rfl,by simpa using HO.out,HB.out⟩

/-! ### zxz: function 95 -/
def zxz.f (a0_0:ByteArray) (l0_1:List (S90)) (l0_2:List Int) (l0_3:List (S96)):Option (ByteArray):=some a0_0
set_option maxHeartbeats 8000000 in
set_option maxRecDepth 100000 in
theorem zxz.calls (a0_0:ByteArray) (A0_1:Option Addr) (c0_1:Nat) (l0_1:List (S90)) (A0_2:Option Addr) (c0_2:Nat) (l0_2:List Int) (A0_3:Option Addr) (c0_3:Nat) (l0_3:List (S96)) (r:ByteArray) (w:World) (hr0_1:Kd.C k90 w A0_1 l0_1.length l0_1) (hc0_1:l0_1.length≤c0_1) (hr0_2:Kd.C (Kd.int .i64) w A0_2 l0_2.length l0_2) (hc0_2:l0_2.length≤c0_2) (hr0_3:Kd.C k96 w A0_3 l0_3.length l0_3) (hc0_3:l0_3.length≤c0_3) (h:zxz.f a0_0 l0_1 l0_2 l0_3=some r) :
  Calls Tryd.prog 95 #[.agg #[.string a0_0,.slice A0_1 l0_1.length c0_1,.slice A0_2 l0_2.length c0_2,.slice A0_3 l0_3.length c0_3]] w fun e w'=>e = .returned (.string r)∧Below w.heap.size w w':=by
 have hu61:=Tryd.underlying61
 have HR0_1:=zq.mk hr0_1
 have HC0_1:=zq.mk hc0_1
 clear hr0_1 hc0_1
 have HR0_2:=zq.mk hr0_2
 have HC0_2:=zq.mk hc0_2
 clear hr0_2 hc0_2
 have HR0_3:=zq.mk hr0_3
 have HC0_3:=zq.mk hc0_3
 clear hr0_3 hc0_3
 have HB:=zq.mk (Below.refl w.heap.size w)
 have H:(some a0_0)=some r:=h
 clear h
 obtain rfl:=Option.some.inj H
 go_enter Tryd.func95,Tryd.ntmps95
 go_wp2_with (first|((with_reducible refine qr (N:=1) rfl ?_);refine qm ?hg (N:=1) ?hd (cs:=#[.string a0_0,.slice A0_1 l0_1.length c0_1,.slice A0_2 l0_2.length c0_2,.slice A0_3 l0_3.length c0_3]) (t:=61) ?hr ?_;(case hd=>rfl);(case hg=>rfl);(case hr=>first|(go_simp;done)|(go_simp;rfl));intro gb143 hg w2 hbox hb;have BK143:=zq.mk (hbox);have GW143:=zq.mk ((by rw [hg];exact(zw bw):w.heap.size≤gb143));have GE143:=zq.mk ((by rw [hg];exact(zw bw):w.heap.size≤gb143));replace HB:=zq.mk (zn bw hb);clear hb hbox hg;obtain ⟨hcz3_0,hcz3_1,hcz3_2,hcz3_3,hfz3_0,hfz3_1,hfz3_2,hfz3_3⟩:=zqv BK143.out))
 go_ret
 exact⟨by first|rfl|(simp [zg,zy] <;> rfl)|(simp [*,zg,zy] <;> rfl),bw⟩

/-! ### zqo: function 56 -/
def zqo.l0:Nat→List (S61)→List (S61)→Int→Int→Option (Bool)
 | 0,_,_,_,_=>none
 | k+1,x0,x8,x9,x10=>if x10<x9 then(if 0≤x10 then(if x10<(x8.length:Int) then((qc.f k ((zt x8 x10).f0) ((zt x8 x10).f1) ((zt x8 x10).f2) ((zt x8 x10).f3)).bind fun t146=>(if t146=true then(zqo.l0 k x0 x8 x9 (wrap64 (x10+1))) else (some false))) else (none)) else (none)) else ((zxe.f x0).bind fun t147=>((qo.f k t147).bind fun t150=>(some t150)))
def zqo.f (k:Nat) (l0:List (S61)):Option (Bool):=if(l0.length:Int) > 4 then(some false) else (zqo.l0 k l0 l0 (l0.length:Int) 0)
theorem zqo.mono_l:∀ k,(∀ y0 y1 y2 y3,LeO (zqo.l0 k y0 y1 y2 y3) (zqo.l0 (k+1) y0 y1 y2 y3))
 | 0=>fun _ _ _ _ r h=>by simp [zqo.l0] at h
 | k+1=>by
  have ih0:=zqo.mono_l k
  intro y0 y1 y2 y3
  unfold zqo.l0
  repeat' first
  | (with_reducible first|exact ih0 _ _ _ _|exact qc.mono _ _ _ _ _|exact qo.mono _ _|exact LeO.refl _|exact LeO.none _|refine LeO.ite ?_ ?_|refine LeO.bind ?_ (fun _=>?_))
  | exact ih0 _ _ _ _
  | exact qc.mono _ _ _ _ _
  | exact qo.mono _ _
  | exact LeO.none _
  | refine LeO.ite ?_ ?_
  | refine LeO.bind ?_ (fun _=>?_)
theorem zqo.mono:∀ a0 k,LeO (zqo.f k a0) (zqo.f (k+1) a0):=by
 intro a0 k
 have ih0:=zqo.mono_l k
 unfold zqo.f
 repeat' first
   | (with_reducible first|exact ih0 _ _ _ _|exact qc.mono _ _ _ _ _|exact qo.mono _ _|exact LeO.refl _|exact LeO.none _|refine LeO.ite ?_ ?_|refine LeO.bind ?_ (fun _=>?_))
   | exact ih0 _ _ _ _
   | exact qc.mono _ _ _ _ _
   | exact qo.mono _ _
   | exact LeO.none _
   | refine LeO.ite ?_ ?_
   | refine LeO.bind ?_ (fun _=>?_)
set_option maxHeartbeats 8000000 in
set_option maxRecDepth 100000 in
theorem zqo.calls (k:Nat) (A0:Option Addr) (c0:Nat) (l0:List (S61)) (r:Bool) (w:World) (hr0:Kd.C k61 w A0 l0.length l0) (hc0:l0.length≤c0) (hL:LD w) (h:zqo.f k l0=some r) :
  Calls Tryd.prog 56 #[.slice A0 l0.length c0] w fun e w'=>e = .returned (.bool r)∧Below w.heap.size w w':=by
 have hu61:=Tryd.underlying61
 have HLD:=zq.mk hL
 clear hL
 have HR0:=zq.mk hr0
 have HC0:=zq.mk hc0
 clear hr0 hc0
 have HB:=zq.mk (Below.refl w.heap.size w)
 have H:(if(l0.length:Int) > 4 then(some false) else (zqo.l0 k l0 l0 (l0.length:Int) 0))=some r:=h
 clear h
 by_cases c2:(l0.length:Int) > 4
 ·rw [if_pos c2] at H
  have c2b0:=decide_eq_true c2
  have c2b1:decide (4<l0.length)=true:=decide_eq_true (by omega)
  clear c2
  obtain rfl:=Option.some.inj H
  go_enter Tryd.func56,Tryd.ntmps56
  go_wp2
  go_ret
  exact⟨by first|rfl|(simp [zg,zy] <;> rfl)|(simp [*,zg,zy] <;> rfl),bw⟩
 rw [if_neg c2] at H
 have c2b0:=decide_eq_false c2
 have c2b1:decide (4<l0.length)=false:=decide_eq_false (by omega)
 clear c2
 have H':=zq.mk H
 clear H
 go_enter Tryd.func56,Tryd.ntmps56
 go_wp2
 go_loopg [10] k (fun kq v10 w' => ∃ (x10_1:Int),v10 = .int .i64 x10_1∧zq (zqo.l0 kq l0 l0 (l0.length:Int) x10_1=some r)∧zq (kq≤k)∧zq (Below w.heap.size w w'))
 case atStart=>exact⟨(0),vr,H',⟨Nat.le_refl _⟩,⟨bw⟩⟩
 case round=>
  clear H'
  (try clear c2);(try clear c2b0);(try clear c2b1)
  obtain ⟨x10_1,rfl,HA,HK1,HB⟩:=hrel
  cases gk with
  | zero=>exact absurd HA.out (by simp [zqo.l0])
  | succ k1=>
   have H:=HA.out
   clear HA
   simp only [zqo.l0] at H
   by_cases c3:x10_1<(l0.length:Int)
   ·rw [if_pos c3] at H
    have c3b0:=decide_eq_true c3
    clear c3
    by_cases c4:0≤x10_1
    ·rw [if_pos c4] at H
     have c4b0:=decide_eq_true c4
     clear c4
     by_cases c5:x10_1<(l0.length:Int)
     ·rw [if_pos c5] at H
      have c5b0:=decide_eq_true c5
      clear c5
      replace H:=Option.bind_eq_some_iff.mp H
      obtain ⟨t146,A60,H⟩:=H
      replace H:(if t146=true then(zqo.l0 k1 l0 l0 (l0.length:Int) (wrap64 (x10_1+1))) else (some false))=some r:=H
      have A6:=zq.mk A60
      clear A60
      by_cases c7:t146=true
      ·subst c7
       rw [if_pos rfl] at H
       have H':=zq.mk H
       clear H
       have p144:0≤(x10_1:Int):=dt
       have q144:x10_1<(l0.length:Int):=dt
       obtain ⟨ad144,A144_1,c144_1,A144_2,c144_2,A144_3,c144_3,e144,hx144_0,hx144_1,hx144_2,hx144_3,hl144_1,hi144_1,hl144_2,hi144_2,hl144_3,hi144_3⟩:=zkj HR0.out x10_1 p144 q144
       cases e144
       replace hx144_0:=(HB.out.cell (World.block_lt_of_cell? w _ hx144_0)).trans hx144_0
       replace hx144_1:=(HB.out.cell (World.block_lt_of_cell? w _ hx144_1)).trans hx144_1
       replace hx144_2:=(HB.out.cell (World.block_lt_of_cell? w _ hx144_2)).trans hx144_2
       replace hx144_3:=(HB.out.cell (World.block_lt_of_cell? w _ hx144_3)).trans hx144_3
       have HR144_1:=zq.mk hi144_1
       have HC144_1:=zq.mk hl144_1
       clear hi144_1 hl144_1
       have HR144_2:=zq.mk hi144_2
       have HC144_2:=zq.mk hl144_2
       clear hi144_2 hl144_2
       have HR144_3:=zq.mk hi144_3
       have HC144_3:=zq.mk hl144_3
       clear hi144_3 hl144_3
       replace p144:=eq_true p144
       replace q144:=eq_true q144
       go_wp2_with (first|((with_reducible refine qr (N:=4) rfl ?_);refine qm ?hg (N:=4) ?hd (cs:=#[.string (⟨#[]⟩:ByteArray),.slice none 0 0,.slice none 0 0,.slice none 0 0]) (t:=61) ?hr ?_;(case hd=>rfl);(case hg=>rfl);(case hr=>first|(go_simp;done)|(go_simp;rfl));intro gb145 hg w8 hbox hb;have BK145:=zq.mk (hbox);have GW145:=zq.mk ((by rw [hg];exact(zw bw):w.heap.size≤gb145));have GE145:=zq.mk ((by rw [hg];exact(zw bw):w.heap.size≤gb145));replace HB:=zq.mk (zn bw hb);clear hb hbox hg;obtain ⟨hcz9_0,hcz9_1,hcz9_2,hcz9_3,hfz9_0,hfz9_1,hfz9_2,hfz9_3⟩:=zqv BK145.out)|((with_reducible refine qh (f:=92) rfl ?_);refine zqn (some 15) rfl rfl Tryd.func92 (by kernel_rfl) rfl #[.agg #[.string ((zt l0 x10_1).f0),.slice A144_1 ((zt l0 x10_1).f1).length c144_1,.slice A144_2 ((zt l0 x10_1).f2).length c144_2,.slice A144_3 ((zt l0 x10_1).f3).length c144_3]] rfl gs ?_;(with_reducible refine(qc.calls k1 ((zt l0 x10_1).f0) _ _ ((zt l0 x10_1).f1) _ _ ((zt l0 x10_1).f2) _ _ ((zt l0 x10_1).f3) true _ ?side1 ?side2 ?side3 ?side4 ?side5 ?side6 ?side7 A6.out).mono ?_);(case side1=>exact Kd.qu HR144_1.out bw);(case side2=>exact HC144_1.out);(case side3=>exact Kd.qu HR144_2.out bw);(case side4=>exact HC144_2.out);(case side5=>exact Kd.qu HR144_3.out bw);(case side6=>exact HC144_3.out);(case side7=>exact LD.below HLD.out (by first|(with_reducible exact Below.refl _ _)|((repeat(first|(with_reducible exact Below.refl _ _)|(with_reducible apply zl)|(with_reducible apply zr)|(with_reducible apply qx)));done)|exact bw));rintro e w10 ⟨rfl,hb⟩;refine⟨_,rfl,?_⟩;replace BK145:=zq.mk (ze (g:=gb145) (o:=.cells #[.string ((zt l0 x10_1).f0),.slice A144_1 ((zt l0 x10_1).f1).length c144_1,.slice A144_2 ((zt l0 x10_1).f2).length c144_2,.slice A144_3 ((zt l0 x10_1).f3).length c144_3] 61 (0,0)) (by(with_reducible repeat(first|refine zz ?_ _|refine zk ?_|refine zj ?_ _));refine qw (cs:=#[.string ((zt l0 x10_1).f0),.slice A144_1 ((zt l0 x10_1).f1).length c144_1,.slice A144_2 ((zt l0 x10_1).f2).length c144_2,.slice none 0 0]) ?_ 3 _ rfl;(with_reducible repeat(first|refine zz ?_ _|refine zk ?_|refine zj ?_ _));refine qw (cs:=#[.string ((zt l0 x10_1).f0),.slice A144_1 ((zt l0 x10_1).f1).length c144_1,.slice none 0 0,.slice none 0 0]) ?_ 2 _ rfl;(with_reducible repeat(first|refine zz ?_ _|refine zk ?_|refine zj ?_ _));refine qw (cs:=#[.string ((zt l0 x10_1).f0),.slice none 0 0,.slice none 0 0,.slice none 0 0]) ?_ 1 _ rfl;(with_reducible repeat(first|refine zz ?_ _|refine zk ?_|refine zj ?_ _));refine qw (cs:=#[.string (⟨#[]⟩:ByteArray),.slice none 0 0,.slice none 0 0,.slice none 0 0]) ?_ 0 _ rfl;(with_reducible repeat(first|refine zz ?_ _|refine zk ?_|refine zj ?_ _));exact BK145.out) hb);replace HB:=zq.mk (zn bw hb);(try clear hb);(try clear hb2);(try clear hk);(try clear hi)))
       go_roundg k1
       case measure=>have:=HK1.out;omega
       case rel=>exact⟨(wrap64 (x10_1+1)),vr,H',⟨by have:=HK1.out;omega⟩,⟨bw⟩⟩
      replace c7:=Bool.eq_false_iff.mpr c7
      subst c7
      rw [if_neg (show ¬ (false=true) by decide)] at H
      obtain rfl:=Option.some.inj H
      have p144:0≤(x10_1:Int):=dt
      have q144:x10_1<(l0.length:Int):=dt
      obtain ⟨ad144,A144_1,c144_1,A144_2,c144_2,A144_3,c144_3,e144,hx144_0,hx144_1,hx144_2,hx144_3,hl144_1,hi144_1,hl144_2,hi144_2,hl144_3,hi144_3⟩:=zkj HR0.out x10_1 p144 q144
      cases e144
      replace hx144_0:=(HB.out.cell (World.block_lt_of_cell? w _ hx144_0)).trans hx144_0
      replace hx144_1:=(HB.out.cell (World.block_lt_of_cell? w _ hx144_1)).trans hx144_1
      replace hx144_2:=(HB.out.cell (World.block_lt_of_cell? w _ hx144_2)).trans hx144_2
      replace hx144_3:=(HB.out.cell (World.block_lt_of_cell? w _ hx144_3)).trans hx144_3
      have HR144_1:=zq.mk hi144_1
      have HC144_1:=zq.mk hl144_1
      clear hi144_1 hl144_1
      have HR144_2:=zq.mk hi144_2
      have HC144_2:=zq.mk hl144_2
      clear hi144_2 hl144_2
      have HR144_3:=zq.mk hi144_3
      have HC144_3:=zq.mk hl144_3
      clear hi144_3 hl144_3
      replace p144:=eq_true p144
      replace q144:=eq_true q144
      go_wp2_with (first|((with_reducible refine qr (N:=4) rfl ?_);refine qm ?hg (N:=4) ?hd (cs:=#[.string (⟨#[]⟩:ByteArray),.slice none 0 0,.slice none 0 0,.slice none 0 0]) (t:=61) ?hr ?_;(case hd=>rfl);(case hg=>rfl);(case hr=>first|(go_simp;done)|(go_simp;rfl));intro gb145 hg w11 hbox hb;have BK145:=zq.mk (hbox);have GW145:=zq.mk ((by rw [hg];exact(zw bw):w.heap.size≤gb145));have GE145:=zq.mk ((by rw [hg];exact(zw bw):w.heap.size≤gb145));replace HB:=zq.mk (zn bw hb);clear hb hbox hg;obtain ⟨hcz12_0,hcz12_1,hcz12_2,hcz12_3,hfz12_0,hfz12_1,hfz12_2,hfz12_3⟩:=zqv BK145.out)|((with_reducible refine qh (f:=92) rfl ?_);refine zqn (some 15) rfl rfl Tryd.func92 (by kernel_rfl) rfl #[.agg #[.string ((zt l0 x10_1).f0),.slice A144_1 ((zt l0 x10_1).f1).length c144_1,.slice A144_2 ((zt l0 x10_1).f2).length c144_2,.slice A144_3 ((zt l0 x10_1).f3).length c144_3]] rfl gs ?_;(with_reducible refine(qc.calls k1 ((zt l0 x10_1).f0) _ _ ((zt l0 x10_1).f1) _ _ ((zt l0 x10_1).f2) _ _ ((zt l0 x10_1).f3) false _ ?side1 ?side2 ?side3 ?side4 ?side5 ?side6 ?side7 A6.out).mono ?_);(case side1=>exact Kd.qu HR144_1.out bw);(case side2=>exact HC144_1.out);(case side3=>exact Kd.qu HR144_2.out bw);(case side4=>exact HC144_2.out);(case side5=>exact Kd.qu HR144_3.out bw);(case side6=>exact HC144_3.out);(case side7=>exact LD.below HLD.out (by first|(with_reducible exact Below.refl _ _)|((repeat(first|(with_reducible exact Below.refl _ _)|(with_reducible apply zl)|(with_reducible apply zr)|(with_reducible apply qx)));done)|exact bw));rintro e w13 ⟨rfl,hb⟩;refine⟨_,rfl,?_⟩;replace BK145:=zq.mk (ze (g:=gb145) (o:=.cells #[.string ((zt l0 x10_1).f0),.slice A144_1 ((zt l0 x10_1).f1).length c144_1,.slice A144_2 ((zt l0 x10_1).f2).length c144_2,.slice A144_3 ((zt l0 x10_1).f3).length c144_3] 61 (0,0)) (by(with_reducible repeat(first|refine zz ?_ _|refine zk ?_|refine zj ?_ _));refine qw (cs:=#[.string ((zt l0 x10_1).f0),.slice A144_1 ((zt l0 x10_1).f1).length c144_1,.slice A144_2 ((zt l0 x10_1).f2).length c144_2,.slice none 0 0]) ?_ 3 _ rfl;(with_reducible repeat(first|refine zz ?_ _|refine zk ?_|refine zj ?_ _));refine qw (cs:=#[.string ((zt l0 x10_1).f0),.slice A144_1 ((zt l0 x10_1).f1).length c144_1,.slice none 0 0,.slice none 0 0]) ?_ 2 _ rfl;(with_reducible repeat(first|refine zz ?_ _|refine zk ?_|refine zj ?_ _));refine qw (cs:=#[.string ((zt l0 x10_1).f0),.slice none 0 0,.slice none 0 0,.slice none 0 0]) ?_ 1 _ rfl;(with_reducible repeat(first|refine zz ?_ _|refine zk ?_|refine zj ?_ _));refine qw (cs:=#[.string (⟨#[]⟩:ByteArray),.slice none 0 0,.slice none 0 0,.slice none 0 0]) ?_ 0 _ rfl;(with_reducible repeat(first|refine zz ?_ _|refine zk ?_|refine zj ?_ _));exact BK145.out) hb);replace HB:=zq.mk (zn bw hb);(try clear hb);(try clear hb2);(try clear hk);(try clear hi)))
      go_ret
      exact⟨by first|rfl|(simp [zg,zy] <;> rfl)|(simp [*,zg,zy] <;> rfl),bw⟩
     rw [if_neg c5] at H
     exact absurd H (by simp)
    rw [if_neg c4] at H
    exact absurd H (by simp)
   rw [if_neg c3] at H
   have c3b0:=decide_eq_false c3
   clear c3
   replace H:=Option.bind_eq_some_iff.mp H
   obtain ⟨t147,A140,H⟩:=H
   replace H:((qo.f k1 t147).bind fun t150=>(some t150))=some r:=H
   have A14:=zq.mk A140
   clear A140
   replace H:=Option.bind_eq_some_iff.mp H
   obtain ⟨t150,A150,H⟩:=H
   replace H:(some t150)=some r:=H
   have A15:=zq.mk A150
   clear A150
   obtain rfl:=Option.some.inj H
   go_wp2_with (first|((with_reducible refine qh (f:=94) rfl ?_);refine zqn (some 19) rfl rfl Tryd.func94 (by kernel_rfl) rfl #[.slice A0 l0.length c0,.func (.func 95) #[] #[]] rfl gs ?_;(with_reducible refine(zxe.calls _ _ l0 t147 _ ?side1 ?side2 A14.out).mono ?_);(case side1=>exact Kd.cu (Kd.qu HR0.out HB.out));(case side2=>exact HC0.out);rintro e w16 ⟨v148,rfl,ho0,hb⟩;refine⟨_,rfl,?_⟩;have HO149:=zq.mk (Kd.zjs ho0 (zw bw));replace HB:=zq.mk (zn bw hb);(try clear hb);(try clear hb2);(try clear hk);(try clear hi);(try clear ho0);obtain ⟨Ao17,co17,eo17⟩:=Kd.zje HO149.out;subst eo17)|((with_reducible refine qh (f:=93) rfl ?_);refine zqn (some 20) rfl rfl Tryd.func93 (by kernel_rfl) rfl #[.slice Ao17 t147.length co17] rfl gs ?_;(with_reducible refine(qo.calls k1 _ _ t147 t150 _ ?side1 ?side2 ?side3 A15.out).mono ?_);(case side1=>exact Kd.cu (Kd.zqk HO149.out).2.2);(case side2=>exact(Kd.zqk HO149.out).2.1);(case side3=>exact LD.below HLD.out (by first|(with_reducible exact Below.refl _ _)|((repeat(first|(with_reducible exact Below.refl _ _)|(with_reducible apply zl)|(with_reducible apply zr)|(with_reducible apply qx)));done)|exact bw));rintro e w18 ⟨rfl,hb⟩;refine⟨_,rfl,?_⟩;replace HO149:=zq.mk (Kd.zq4 (Kd.ru HO149.out) hb);replace HB:=zq.mk (zn bw hb);(try clear hb);(try clear hb2);(try clear hk);(try clear hi)))
   go_ret
   exact⟨by first|rfl|(simp [zg,zy] <;> rfl)|(simp [*,zg,zy] <;> rfl),bw⟩

/-! ### zxb: function 28 -/
def zxb.f (k:Nat) (l0:List (S61)) (a1:Int):Option (ByteArray × (List (S90)) × List Int × (List (S96)) × Int):=(zqo.f k l0).bind fun t152=>(if t152=true then(if a1<0 then(some ((⟨#[]⟩:ByteArray),([]:List (S90)),([]:List Int),([]:List (S96)),2)) else (if a1 ≥ (l0.length:Int) then(some ((⟨#[]⟩:ByteArray),([]:List (S90)),([]:List Int),([]:List (S96)),2)) else (if 0≤a1 then(if a1<(l0.length:Int) then(some ((zt l0 a1).f0,(zt l0 a1).f1,(zt l0 a1).f2,(zt l0 a1).f3,0)) else (none)) else (none)))) else (some ((⟨#[]⟩:ByteArray),([]:List (S90)),([]:List Int),([]:List (S96)),4)))
theorem zxb.mono:∀ a0 a1 k,LeO (zxb.f k a0 a1) (zxb.f (k+1) a0 a1):=by
 intro a0 a1 k
 unfold zxb.f
 repeat' first
   | (with_reducible first|exact zqo.mono _ _|exact LeO.refl _|exact LeO.none _|refine LeO.ite ?_ ?_|refine LeO.bind ?_ (fun _=>?_))
   | exact zqo.mono _ _
   | exact LeO.none _
   | refine LeO.ite ?_ ?_
   | refine LeO.bind ?_ (fun _=>?_)
set_option maxHeartbeats 8000000 in
set_option maxRecDepth 100000 in
theorem zxb.calls (k:Nat) (P0_:Nat→Prop) (A0:Option Addr) (c0:Nat) (l0:List (S61)) (a1:Int) (r1:ByteArray) (r2:List (S90)) (r3:List Int) (r4:List (S96)) (r5:Int) (w:World) (hs0:Kd.V k61 61 w w.heap.size (fun k_=>P0_ k_) (.slice A0 l0.length c0) l0) (hL:LD w) (h:zxb.f k l0 a1=some (r1,r2,r3,r4,r5)) :
  Calls Tryd.prog 28 #[.slice A0 l0.length c0,.int .i64 a1] w fun e w' => ∃ v1_ v2_ v3_:Value,e = .returned (.tuple #[.agg #[.string r1,v1_,v2_,v3_],.int .i64 r5])∧Kd.V k90 90 w' w.heap.size (fun k_=>(P0_ k_∨w.heap.size≤k_)) v1_ r2∧Kd.V (Kd.int .i64) 3 w' w.heap.size (fun k_=>(P0_ k_∨w.heap.size≤k_)) v2_ r3∧Kd.V k96 96 w' w.heap.size (fun k_=>(P0_ k_∨w.heap.size≤k_)) v3_ r4∧Below w.heap.size w w':=by
 have hu61:=Tryd.underlying61
 have HLD:=zq.mk hL
 clear hL
 have HO0:=zq.mk (show Kd.V k61 61 w w.heap.size (fun k_=>(P0_ k_∨w.heap.size≤k_)) (.slice A0 l0.length c0) l0 from Kd.zjy hs0 (fun k_ hk=>.inl hk))
 have HB:=zq.mk (Below.refl w.heap.size w)
 have H:((zqo.f k l0).bind fun t152=>(if t152=true then(if a1<0 then(some ((⟨#[]⟩:ByteArray),([]:List (S90)),([]:List Int),([]:List (S96)),2)) else (if a1 ≥ (l0.length:Int) then(some ((⟨#[]⟩:ByteArray),([]:List (S90)),([]:List Int),([]:List (S96)),2)) else (if 0≤a1 then(if a1<(l0.length:Int) then(some ((zt l0 a1).f0,(zt l0 a1).f1,(zt l0 a1).f2,(zt l0 a1).f3,0)) else (none)) else (none)))) else (some ((⟨#[]⟩:ByteArray),([]:List (S90)),([]:List Int),([]:List (S96)),4))))=some (r1,r2,r3,r4,r5):=h
 clear h
 replace H:=Option.bind_eq_some_iff.mp H
 obtain ⟨t152,A30,H⟩:=H
 replace H:(if t152=true then(if a1<0 then(some ((⟨#[]⟩:ByteArray),([]:List (S90)),([]:List Int),([]:List (S96)),2)) else (if a1 ≥ (l0.length:Int) then(some ((⟨#[]⟩:ByteArray),([]:List (S90)),([]:List Int),([]:List (S96)),2)) else (if 0≤a1 then(if a1<(l0.length:Int) then(some ((zt l0 a1).f0,(zt l0 a1).f1,(zt l0 a1).f2,(zt l0 a1).f3,0)) else (none)) else (none)))) else (some ((⟨#[]⟩:ByteArray),([]:List (S90)),([]:List Int),([]:List (S96)),4)))=some (r1,r2,r3,r4,r5):=H
 have A3:=zq.mk A30
 clear A30
 by_cases c4:t152=true
 ·subst c4
  rw [if_pos rfl] at H
  by_cases c5:a1<0
  ·rw [if_pos c5] at H
   have c5b0:=decide_eq_true c5
   clear c5
   simp only [Option.some.injEq,Prod.mk.injEq] at H
   obtain ⟨rfl,rfl,rfl,rfl,rfl⟩:=H
   go_enter Tryd.func28,Tryd.ntmps28
   go_wp2_with (first|((with_reducible refine qr (N:=4) rfl ?_);(try(refine ql (by rfl) ?_;dsimp only));refine qm ?hg (N:=4) ?hd (cs:=#[.string (⟨#[]⟩:ByteArray),.slice none 0 0,.slice none 0 0,.slice none 0 0]) (t:=61) ?hr ?_;(case hd=>rfl);(case hg=>rfl);(case hr=>first|(go_simp;done)|(go_simp;rfl));intro gb151 hg w6 hbox hb;replace HO0:=zq.mk (Kd.zjz (Kd.zj5 (Kd.vu HO0.out) gb151 (Nat.le_of_eq hg.symm)) hb);have BK151:=zq.mk (hbox);have GW151:=zq.mk ((by rw [hg];exact(zw bw):w.heap.size≤gb151));have GE151:=zq.mk ((by rw [hg];exact(zw bw):w.heap.size≤gb151));replace HB:=zq.mk (zn bw hb);clear hb hbox hg)|((with_reducible refine qh (f:=56) rfl ?_);refine zqn (some 7) rfl rfl Tryd.func56 (by kernel_rfl) rfl #[.slice A0 l0.length c0] rfl gs ?_;(with_reducible refine(zqo.calls k _ _ l0 true _ ?side1 ?side2 ?side3 A3.out).mono ?_);(case side1=>exact Kd.cu (Kd.zjt HO0.out).2.2);(case side2=>exact(Kd.zjt HO0.out).2.1);(case side3=>exact LD.below HLD.out (by first|(with_reducible exact Below.refl _ _)|((repeat(first|(with_reducible exact Below.refl _ _)|(with_reducible apply zl)|(with_reducible apply zr)|(with_reducible apply qx)));done)|exact bw));rintro e w7 ⟨rfl,hb⟩;refine⟨_,rfl,?_⟩;replace HO0:=zq.mk (Kd.zjz (Kd.vu HO0.out) hb);replace BK151:=zq.mk (ze (g:=gb151) (o:=.cells #[.string (⟨#[]⟩:ByteArray),.slice none 0 0,.slice none 0 0,.slice none 0 0] 61 (0,0)) (up BK151.out) hb);replace HB:=zq.mk (zn bw hb);(try clear hb);(try clear hb2);(try clear hk);(try clear hi);obtain ⟨hcz8_0,hcz8_1,hcz8_2,hcz8_3,hfz8_0,hfz8_1,hfz8_2,hfz8_3⟩:=zqv BK151.out))
   refine bodyPost_ret (zjp rfl _ _ gb151 61 #[.string (⟨#[]⟩:ByteArray),.slice none 0 0,.slice none 0 0,.slice none 0 0] (0,0) _ rfl (by(with_reducible repeat(first|refine zz ?_ _|refine zk ?_|refine zj ?_ _));refine qw (cs:=#[.string (⟨#[]⟩:ByteArray),.slice none 0 0,.slice none 0 0,.slice none 0 0]) ?_ 3 _ rfl;(with_reducible repeat(first|refine zz ?_ _|refine zk ?_|refine zj ?_ _));refine qw (cs:=#[.string (⟨#[]⟩:ByteArray),.slice none 0 0,.slice none 0 0,.slice none 0 0]) ?_ 2 _ rfl;(with_reducible repeat(first|refine zz ?_ _|refine zk ?_|refine zj ?_ _));refine qw (cs:=#[.string (⟨#[]⟩:ByteArray),.slice none 0 0,.slice none 0 0,.slice none 0 0]) ?_ 1 _ rfl;(with_reducible repeat(first|refine zz ?_ _|refine zk ?_|refine zj ?_ _));refine qw (cs:=#[.string (⟨#[]⟩:ByteArray),.slice none 0 0,.slice none 0 0,.slice none 0 0]) ?_ 0 _ rfl;(with_reducible repeat(first|refine zz ?_ _|refine zk ?_|refine zj ?_ _));exact BK151.out) Tryd.underlying61 rfl (by kernel_rfl)) rfl ?_
   exact⟨_,_,_,by first|rfl|(simp [zg,zy] <;> rfl)|(simp [*,zg,zy] <;> rfl),(by first|exact Kd.zxl _ _ _ _ _|exact Kd.zjy (Kd.R_V (by first|exact Kd.zxf _ _ _ _ _|exact Kd.zx4 _ _ _ _ _|exact Kd.zxl _ _ _ _ _|exact Kd.zx3 _ _ _ _ _|exact Kd.zx2 _ _ _ _ _)) (fun k_ hk=>by first|exact⟨(.inr (hk.1)),hk.2⟩|exact(.inr (hk)))),(by first|exact Kd.zxl _ _ _ _ _|exact Kd.zjy (Kd.R_V (by first|exact Kd.zxf _ _ _ _ _|exact Kd.zx4 _ _ _ _ _|exact Kd.zxl _ _ _ _ _|exact Kd.zx3 _ _ _ _ _|exact Kd.zx2 _ _ _ _ _)) (fun k_ hk=>by first|exact⟨(.inr (hk.1)),hk.2⟩|exact(.inr (hk)))),(by first|exact Kd.zxl _ _ _ _ _|exact Kd.zjy (Kd.S_V (by first|exact Kd.zx2 _ _ _ _ _|exact Kd.zx4 _ _ _ _ _|exact Kd.zxl _ _ _ _ _|exact Kd.zx3 _ _ _ _ _|exact Kd.zxf _ _ _ _ _)) (fun k_ hk=>by first|exact⟨(.inr (hk.1)),hk.2⟩|exact(.inr (hk)))),bw⟩
  rw [if_neg c5] at H
  have c5b0:=decide_eq_false c5
  clear c5
  by_cases c9:a1 ≥ (l0.length:Int)
  ·rw [if_pos c9] at H
   have c9b0:=decide_eq_true c9
   clear c9
   simp only [Option.some.injEq,Prod.mk.injEq] at H
   obtain ⟨rfl,rfl,rfl,rfl,rfl⟩:=H
   go_enter Tryd.func28,Tryd.ntmps28
   go_wp2_with (first|((with_reducible refine qr (N:=4) rfl ?_);(try(refine ql (by rfl) ?_;dsimp only));refine qm ?hg (N:=4) ?hd (cs:=#[.string (⟨#[]⟩:ByteArray),.slice none 0 0,.slice none 0 0,.slice none 0 0]) (t:=61) ?hr ?_;(case hd=>rfl);(case hg=>rfl);(case hr=>first|(go_simp;done)|(go_simp;rfl));intro gb151 hg w10 hbox hb;replace HO0:=zq.mk (Kd.zjz (Kd.zj5 (Kd.vu HO0.out) gb151 (Nat.le_of_eq hg.symm)) hb);have BK151:=zq.mk (hbox);have GW151:=zq.mk ((by rw [hg];exact(zw bw):w.heap.size≤gb151));have GE151:=zq.mk ((by rw [hg];exact(zw bw):w.heap.size≤gb151));replace HB:=zq.mk (zn bw hb);clear hb hbox hg)|((with_reducible refine qh (f:=56) rfl ?_);refine zqn (some 7) rfl rfl Tryd.func56 (by kernel_rfl) rfl #[.slice A0 l0.length c0] rfl gs ?_;(with_reducible refine(zqo.calls k _ _ l0 true _ ?side1 ?side2 ?side3 A3.out).mono ?_);(case side1=>exact Kd.cu (Kd.zjt HO0.out).2.2);(case side2=>exact(Kd.zjt HO0.out).2.1);(case side3=>exact LD.below HLD.out (by first|(with_reducible exact Below.refl _ _)|((repeat(first|(with_reducible exact Below.refl _ _)|(with_reducible apply zl)|(with_reducible apply zr)|(with_reducible apply qx)));done)|exact bw));rintro e w11 ⟨rfl,hb⟩;refine⟨_,rfl,?_⟩;replace HO0:=zq.mk (Kd.zjz (Kd.vu HO0.out) hb);replace BK151:=zq.mk (ze (g:=gb151) (o:=.cells #[.string (⟨#[]⟩:ByteArray),.slice none 0 0,.slice none 0 0,.slice none 0 0] 61 (0,0)) (up BK151.out) hb);replace HB:=zq.mk (zn bw hb);(try clear hb);(try clear hb2);(try clear hk);(try clear hi);obtain ⟨hcz12_0,hcz12_1,hcz12_2,hcz12_3,hfz12_0,hfz12_1,hfz12_2,hfz12_3⟩:=zqv BK151.out))
   refine bodyPost_ret (zjp rfl _ _ gb151 61 #[.string (⟨#[]⟩:ByteArray),.slice none 0 0,.slice none 0 0,.slice none 0 0] (0,0) _ rfl (by(with_reducible repeat(first|refine zz ?_ _|refine zk ?_|refine zj ?_ _));refine qw (cs:=#[.string (⟨#[]⟩:ByteArray),.slice none 0 0,.slice none 0 0,.slice none 0 0]) ?_ 3 _ rfl;(with_reducible repeat(first|refine zz ?_ _|refine zk ?_|refine zj ?_ _));refine qw (cs:=#[.string (⟨#[]⟩:ByteArray),.slice none 0 0,.slice none 0 0,.slice none 0 0]) ?_ 2 _ rfl;(with_reducible repeat(first|refine zz ?_ _|refine zk ?_|refine zj ?_ _));refine qw (cs:=#[.string (⟨#[]⟩:ByteArray),.slice none 0 0,.slice none 0 0,.slice none 0 0]) ?_ 1 _ rfl;(with_reducible repeat(first|refine zz ?_ _|refine zk ?_|refine zj ?_ _));refine qw (cs:=#[.string (⟨#[]⟩:ByteArray),.slice none 0 0,.slice none 0 0,.slice none 0 0]) ?_ 0 _ rfl;(with_reducible repeat(first|refine zz ?_ _|refine zk ?_|refine zj ?_ _));exact BK151.out) Tryd.underlying61 rfl (by kernel_rfl)) rfl ?_
   exact⟨_,_,_,by first|rfl|(simp [zg,zy] <;> rfl)|(simp [*,zg,zy] <;> rfl),(by first|exact Kd.zxl _ _ _ _ _|exact Kd.zjy (Kd.R_V (by first|exact Kd.zxf _ _ _ _ _|exact Kd.zx4 _ _ _ _ _|exact Kd.zxl _ _ _ _ _|exact Kd.zx3 _ _ _ _ _|exact Kd.zx2 _ _ _ _ _)) (fun k_ hk=>by first|exact⟨(.inr (hk.1)),hk.2⟩|exact(.inr (hk)))),(by first|exact Kd.zxl _ _ _ _ _|exact Kd.zjy (Kd.R_V (by first|exact Kd.zxf _ _ _ _ _|exact Kd.zx4 _ _ _ _ _|exact Kd.zxl _ _ _ _ _|exact Kd.zx3 _ _ _ _ _|exact Kd.zx2 _ _ _ _ _)) (fun k_ hk=>by first|exact⟨(.inr (hk.1)),hk.2⟩|exact(.inr (hk)))),(by first|exact Kd.zxl _ _ _ _ _|exact Kd.zjy (Kd.S_V (by first|exact Kd.zx2 _ _ _ _ _|exact Kd.zx4 _ _ _ _ _|exact Kd.zxl _ _ _ _ _|exact Kd.zx3 _ _ _ _ _|exact Kd.zxf _ _ _ _ _)) (fun k_ hk=>by first|exact⟨(.inr (hk.1)),hk.2⟩|exact(.inr (hk)))),bw⟩
  rw [if_neg c9] at H
  have c9b0:=decide_eq_false c9
  clear c9
  by_cases c13:0≤a1
  ·rw [if_pos c13] at H
   have c13b0:=decide_eq_true c13
   clear c13
   by_cases c14:a1<(l0.length:Int)
   ·rw [if_pos c14] at H
    have c14b0:=decide_eq_true c14
    clear c14
    simp only [Option.some.injEq,Prod.mk.injEq] at H
    obtain ⟨rfl,rfl,rfl,rfl,rfl⟩:=H
    go_enter Tryd.func28,Tryd.ntmps28
    go_wp2_with (first|((with_reducible refine qr (N:=4) rfl ?_);(try(refine ql (by rfl) ?_;dsimp only));refine qm ?hg (N:=4) ?hd (cs:=#[.string (⟨#[]⟩:ByteArray),.slice none 0 0,.slice none 0 0,.slice none 0 0]) (t:=61) ?hr ?_;(case hd=>rfl);(case hg=>rfl);(case hr=>first|(go_simp;done)|(go_simp;rfl));intro gb151 hg w15 hbox hb;replace HO0:=zq.mk (Kd.zjz (Kd.zj5 (Kd.vu HO0.out) gb151 (Nat.le_of_eq hg.symm)) hb);have BK151:=zq.mk (hbox);have GW151:=zq.mk ((by rw [hg];exact(zw bw):w.heap.size≤gb151));have GE151:=zq.mk ((by rw [hg];exact(zw bw):w.heap.size≤gb151));replace HB:=zq.mk (zn bw hb);clear hb hbox hg)|((with_reducible refine qh (f:=56) rfl ?_);refine zqn (some 7) rfl rfl Tryd.func56 (by kernel_rfl) rfl #[.slice A0 l0.length c0] rfl gs ?_;(with_reducible refine(zqo.calls k _ _ l0 true _ ?side1 ?side2 ?side3 A3.out).mono ?_);(case side1=>exact Kd.cu (Kd.zjt HO0.out).2.2);(case side2=>exact(Kd.zjt HO0.out).2.1);(case side3=>exact LD.below HLD.out (by first|(with_reducible exact Below.refl _ _)|((repeat(first|(with_reducible exact Below.refl _ _)|(with_reducible apply zl)|(with_reducible apply zr)|(with_reducible apply qx)));done)|exact bw));rintro e w16 ⟨rfl,hb⟩;refine⟨_,rfl,?_⟩;replace HO0:=zq.mk (Kd.zjz (Kd.vu HO0.out) hb);replace BK151:=zq.mk (ze (g:=gb151) (o:=.cells #[.string (⟨#[]⟩:ByteArray),.slice none 0 0,.slice none 0 0,.slice none 0 0] 61 (0,0)) (up BK151.out) hb);replace HB:=zq.mk (zn bw hb);(try clear hb);(try clear hb2);(try clear hk);(try clear hi);have p153:0≤(a1:Int):=dt;have q153:a1<(l0.length:Int):=dt;obtain ⟨ad153,A153_1,c153_1,A153_2,c153_2,A153_3,c153_3,e153,hx153_0,hx153_1,hx153_2,hx153_3,hl153_1,hi153_1,hl153_2,hi153_2,hl153_3,hi153_3⟩:=zkj (Kd.zjt HO0.out).2.2 a1 p153 q153;cases e153;obtain ⟨ce153,hce153,hMe153,hcc153⟩:=Kd.V_get HO0.out z61 a1 p153 (by first|exact q153|exact dt|(have e_:=(Kd.zjt HO0.out).1;omega));obtain ⟨ua153_1,uc153_1,ua153_2,uc153_2,ua153_3,uc153_3,rfl,ul153_1,ge153_1,ul153_2,ge153_2,ul153_3,ge153_3⟩:=k61_openF hMe153;have hv153_1:=hcc153 1 _ rfl;rw [zj3 _ _ 1 (by omega)] at hv153_1;replace hv153_1:=Option.some.inj (hv153_1.symm.trans hx153_1);injection hv153_1 with hva_ hvn_ hvc_;rw [hva_] at ge153_1;rw [hvc_] at ul153_1;have HL153_1:=zq.mk (show Kd.V k90 90 _ w.heap.size _ _ ((zt l0 a1).f1) from Kd.V_mk ul153_1 ge153_1);clear hva_ hvn_ hvc_ ge153_1 ul153_1;have hv153_2:=hcc153 2 _ rfl;rw [zj3 _ _ 2 (by omega)] at hv153_2;replace hv153_2:=Option.some.inj (hv153_2.symm.trans hx153_2);injection hv153_2 with hva_ hvn_ hvc_;rw [hva_] at ge153_2;rw [hvc_] at ul153_2;have HL153_2:=zq.mk (show Kd.V (Kd.int .i64) 3 _ w.heap.size _ _ ((zt l0 a1).f2) from Kd.V_mk ul153_2 ge153_2);clear hva_ hvn_ hvc_ ge153_2 ul153_2;have hv153_3:=hcc153 3 _ rfl;rw [zj3 _ _ 3 (by omega)] at hv153_3;replace hv153_3:=Option.some.inj (hv153_3.symm.trans hx153_3);injection hv153_3 with hva_ hvn_ hvc_;rw [hva_] at ge153_3;rw [hvc_] at ul153_3;have HL153_3:=zq.mk (show Kd.V k96 96 _ w.heap.size _ _ ((zt l0 a1).f3) from Kd.V_mk ul153_3 ge153_3);clear hva_ hvn_ hvc_ ge153_3 ul153_3 hcc153 hce153;have HR153_1:=zq.mk hi153_1;have HC153_1:=zq.mk hl153_1;clear hi153_1 hl153_1;have HR153_2:=zq.mk hi153_2;have HC153_2:=zq.mk hl153_2;clear hi153_2 hl153_2;have HR153_3:=zq.mk hi153_3;have HC153_3:=zq.mk hl153_3;clear hi153_3 hl153_3;replace p153:=eq_true p153;replace q153:=eq_true q153;obtain ⟨hcz17_0,hcz17_1,hcz17_2,hcz17_3,hfz17_0,hfz17_1,hfz17_2,hfz17_3⟩:=zqv BK151.out))
    refine bodyPost_ret (zjp rfl _ _ gb151 61 #[.string ((zt l0 a1).f0),.slice A153_1 ((zt l0 a1).f1).length c153_1,.slice A153_2 ((zt l0 a1).f2).length c153_2,.slice A153_3 ((zt l0 a1).f3).length c153_3] (0,0) _ rfl (by(with_reducible repeat(first|refine zz ?_ _|refine zk ?_|refine zj ?_ _));refine qw (cs:=#[.string ((zt l0 a1).f0),.slice A153_1 ((zt l0 a1).f1).length c153_1,.slice A153_2 ((zt l0 a1).f2).length c153_2,.slice none 0 0]) ?_ 3 _ rfl;(with_reducible repeat(first|refine zz ?_ _|refine zk ?_|refine zj ?_ _));refine qw (cs:=#[.string ((zt l0 a1).f0),.slice A153_1 ((zt l0 a1).f1).length c153_1,.slice none 0 0,.slice none 0 0]) ?_ 2 _ rfl;(with_reducible repeat(first|refine zz ?_ _|refine zk ?_|refine zj ?_ _));refine qw (cs:=#[.string ((zt l0 a1).f0),.slice none 0 0,.slice none 0 0,.slice none 0 0]) ?_ 1 _ rfl;(with_reducible repeat(first|refine zz ?_ _|refine zk ?_|refine zj ?_ _));refine qw (cs:=#[.string (⟨#[]⟩:ByteArray),.slice none 0 0,.slice none 0 0,.slice none 0 0]) ?_ 0 _ rfl;(with_reducible repeat(first|refine zz ?_ _|refine zk ?_|refine zj ?_ _));exact BK151.out) Tryd.underlying61 rfl (by kernel_rfl)) rfl ?_
    exact⟨_,_,_,by first|rfl|(simp [zg,zy] <;> rfl)|(simp [*,zg,zy] <;> rfl),by(with_reducible repeat(first|apply Kd.V_alloc|apply Kd.V_drewN|apply Kd.zwc));exact Kd.zjy (Kd.zx8 (p:=⟨gb151,3,none⟩) (Kd.zx8 (p:=⟨gb151,2,none⟩) (Kd.zx8 (p:=⟨gb151,1,none⟩) (Kd.zx8 (p:=⟨gb151,0,none⟩) (Kd.zjy HL153_1.out (fun k_ hk=>(⟨hk,hk.2⟩:_∧k_≠gb151))) (fun _ hk=>hk.2) (.string ((zt l0 a1).f0))) (fun _ hk=>hk.2) (.slice A153_1 ((zt l0 a1).f1).length c153_1)) (fun _ hk=>hk.2) (.slice A153_2 ((zt l0 a1).f2).length c153_2)) (fun _ hk=>hk.2) (.slice A153_3 ((zt l0 a1).f3).length c153_3)) (fun _ hk=>hk.1.1),by(with_reducible repeat(first|apply Kd.V_alloc|apply Kd.V_drewN|apply Kd.zwc));exact Kd.zjy (Kd.zx8 (p:=⟨gb151,3,none⟩) (Kd.zx8 (p:=⟨gb151,2,none⟩) (Kd.zx8 (p:=⟨gb151,1,none⟩) (Kd.zx8 (p:=⟨gb151,0,none⟩) (Kd.zjy HL153_2.out (fun k_ hk=>(⟨hk,hk.2⟩:_∧k_≠gb151))) (fun _ hk=>hk.2) (.string ((zt l0 a1).f0))) (fun _ hk=>hk.2) (.slice A153_1 ((zt l0 a1).f1).length c153_1)) (fun _ hk=>hk.2) (.slice A153_2 ((zt l0 a1).f2).length c153_2)) (fun _ hk=>hk.2) (.slice A153_3 ((zt l0 a1).f3).length c153_3)) (fun _ hk=>hk.1.1),by(with_reducible repeat(first|apply Kd.V_alloc|apply Kd.V_drewN|apply Kd.zwc));exact Kd.zjy (Kd.zx8 (p:=⟨gb151,3,none⟩) (Kd.zx8 (p:=⟨gb151,2,none⟩) (Kd.zx8 (p:=⟨gb151,1,none⟩) (Kd.zx8 (p:=⟨gb151,0,none⟩) (Kd.zjy HL153_3.out (fun k_ hk=>(⟨hk,hk.2⟩:_∧k_≠gb151))) (fun _ hk=>hk.2) (.string ((zt l0 a1).f0))) (fun _ hk=>hk.2) (.slice A153_1 ((zt l0 a1).f1).length c153_1)) (fun _ hk=>hk.2) (.slice A153_2 ((zt l0 a1).f2).length c153_2)) (fun _ hk=>hk.2) (.slice A153_3 ((zt l0 a1).f3).length c153_3)) (fun _ hk=>hk.1.1),bw⟩
   rw [if_neg c14] at H
   exact absurd H (by simp)
  rw [if_neg c13] at H
  exact absurd H (by simp)
 replace c4:=Bool.eq_false_iff.mpr c4
 subst c4
 rw [if_neg (show ¬ (false=true) by decide)] at H
 simp only [Option.some.injEq,Prod.mk.injEq] at H
 obtain ⟨rfl,rfl,rfl,rfl,rfl⟩:=H
 go_enter Tryd.func28,Tryd.ntmps28
 go_wp2_with (first|((with_reducible refine qr (N:=4) rfl ?_);(try(refine ql (by rfl) ?_;dsimp only));refine qm ?hg (N:=4) ?hd (cs:=#[.string (⟨#[]⟩:ByteArray),.slice none 0 0,.slice none 0 0,.slice none 0 0]) (t:=61) ?hr ?_;(case hd=>rfl);(case hg=>rfl);(case hr=>first|(go_simp;done)|(go_simp;rfl));intro gb151 hg w18 hbox hb;replace HO0:=zq.mk (Kd.zjz (Kd.zj5 (Kd.vu HO0.out) gb151 (Nat.le_of_eq hg.symm)) hb);have BK151:=zq.mk (hbox);have GW151:=zq.mk ((by rw [hg];exact(zw bw):w.heap.size≤gb151));have GE151:=zq.mk ((by rw [hg];exact(zw bw):w.heap.size≤gb151));replace HB:=zq.mk (zn bw hb);clear hb hbox hg)|((with_reducible refine qh (f:=56) rfl ?_);refine zqn (some 7) rfl rfl Tryd.func56 (by kernel_rfl) rfl #[.slice A0 l0.length c0] rfl gs ?_;(with_reducible refine(zqo.calls k _ _ l0 false _ ?side1 ?side2 ?side3 A3.out).mono ?_);(case side1=>exact Kd.cu (Kd.zjt HO0.out).2.2);(case side2=>exact(Kd.zjt HO0.out).2.1);(case side3=>exact LD.below HLD.out (by first|(with_reducible exact Below.refl _ _)|((repeat(first|(with_reducible exact Below.refl _ _)|(with_reducible apply zl)|(with_reducible apply zr)|(with_reducible apply qx)));done)|exact bw));rintro e w19 ⟨rfl,hb⟩;refine⟨_,rfl,?_⟩;replace HO0:=zq.mk (Kd.zjz (Kd.vu HO0.out) hb);replace BK151:=zq.mk (ze (g:=gb151) (o:=.cells #[.string (⟨#[]⟩:ByteArray),.slice none 0 0,.slice none 0 0,.slice none 0 0] 61 (0,0)) (up BK151.out) hb);replace HB:=zq.mk (zn bw hb);(try clear hb);(try clear hb2);(try clear hk);(try clear hi);obtain ⟨hcz20_0,hcz20_1,hcz20_2,hcz20_3,hfz20_0,hfz20_1,hfz20_2,hfz20_3⟩:=zqv BK151.out))
 refine bodyPost_ret (zjp rfl _ _ gb151 61 #[.string (⟨#[]⟩:ByteArray),.slice none 0 0,.slice none 0 0,.slice none 0 0] (0,0) _ rfl (by(with_reducible repeat(first|refine zz ?_ _|refine zk ?_|refine zj ?_ _));refine qw (cs:=#[.string (⟨#[]⟩:ByteArray),.slice none 0 0,.slice none 0 0,.slice none 0 0]) ?_ 3 _ rfl;(with_reducible repeat(first|refine zz ?_ _|refine zk ?_|refine zj ?_ _));refine qw (cs:=#[.string (⟨#[]⟩:ByteArray),.slice none 0 0,.slice none 0 0,.slice none 0 0]) ?_ 2 _ rfl;(with_reducible repeat(first|refine zz ?_ _|refine zk ?_|refine zj ?_ _));refine qw (cs:=#[.string (⟨#[]⟩:ByteArray),.slice none 0 0,.slice none 0 0,.slice none 0 0]) ?_ 1 _ rfl;(with_reducible repeat(first|refine zz ?_ _|refine zk ?_|refine zj ?_ _));refine qw (cs:=#[.string (⟨#[]⟩:ByteArray),.slice none 0 0,.slice none 0 0,.slice none 0 0]) ?_ 0 _ rfl;(with_reducible repeat(first|refine zz ?_ _|refine zk ?_|refine zj ?_ _));exact BK151.out) Tryd.underlying61 rfl (by kernel_rfl)) rfl ?_
 exact⟨_,_,_,by first|rfl|(simp [zg,zy] <;> rfl)|(simp [*,zg,zy] <;> rfl),(by first|exact Kd.zxl _ _ _ _ _|exact Kd.zjy (Kd.R_V (by first|exact Kd.zxf _ _ _ _ _|exact Kd.zx4 _ _ _ _ _|exact Kd.zxl _ _ _ _ _|exact Kd.zx3 _ _ _ _ _|exact Kd.zx2 _ _ _ _ _)) (fun k_ hk=>by first|exact⟨(.inr (hk.1)),hk.2⟩|exact(.inr (hk)))),(by first|exact Kd.zxl _ _ _ _ _|exact Kd.zjy (Kd.R_V (by first|exact Kd.zxf _ _ _ _ _|exact Kd.zx4 _ _ _ _ _|exact Kd.zxl _ _ _ _ _|exact Kd.zx3 _ _ _ _ _|exact Kd.zx2 _ _ _ _ _)) (fun k_ hk=>by first|exact⟨(.inr (hk.1)),hk.2⟩|exact(.inr (hk)))),(by first|exact Kd.zxl _ _ _ _ _|exact Kd.zjy (Kd.S_V (by first|exact Kd.zx2 _ _ _ _ _|exact Kd.zx4 _ _ _ _ _|exact Kd.zxl _ _ _ _ _|exact Kd.zx3 _ _ _ _ _|exact Kd.zxf _ _ _ _ _)) (fun k_ hk=>by first|exact⟨(.inr (hk.1)),hk.2⟩|exact(.inr (hk)))),bw⟩

/-! ### zql: function 57 -/
def zql.j0:Nat→Bool→Int→Int→ByteArray→Option (Int)
 | 0,_,_,_,_=>none
 | k+1,x11,x155000,x155001,x155002=>if x11=true then(some 3) else (if(x155002.size:Int) > 40 then(some 1) else (if x155000=0 then(if((x155000 == 0 && (x155001 == 0 && (x155002.toList == ([]:List UInt8))))=true) then(some 0) else (some 4)) else (if x155000=1 then(if(Go.bits .or .i64 x155001 1)=1 then(if(x155002.toList=([]:List UInt8)) then(some 0) else (some 4)) else (some 4)) else (if x155000=2 then(if(x155002.toList=([]:List UInt8)) then(some 0) else (some 4)) else (if x155000=3 then(if x155001=0 then((utf8_ValidString.f x155002).bind fun t155=>(if t155=true then(some 0) else (some 4))) else (some 4)) else (some 0))))))
def zql.f (k:Nat) (a0_0:Int) (a0_1:Int) (a0_2:ByteArray):Option (Int):=if a0_0<0 then(zql.j0 k true a0_0 a0_1 a0_2) else (zql.j0 k (decide (a0_0 > 3)) a0_0 a0_1 a0_2)
theorem zql.mono_l:∀ k,(∀ y0 y1 y2 y3,LeO (zql.j0 k y0 y1 y2 y3) (zql.j0 (k+1) y0 y1 y2 y3))
 | 0=>fun _ _ _ _ r h=>by simp [zql.j0] at h
 | k+1=>by
  have ih0:=zql.mono_l k
  intro y0 y1 y2 y3
  unfold zql.j0
  repeat' first
  | (with_reducible first|exact ih0 _ _ _ _|exact LeO.refl _|exact LeO.none _|refine LeO.ite ?_ ?_|refine LeO.bind ?_ (fun _=>?_))
  | exact ih0 _ _ _ _
  | exact LeO.none _
  | refine LeO.ite ?_ ?_
  | refine LeO.bind ?_ (fun _=>?_)
theorem zql.mono:∀ a0 a1 a2 k,LeO (zql.f k a0 a1 a2) (zql.f (k+1) a0 a1 a2):=by
 intro a0 a1 a2 k
 have ih0:=zql.mono_l k
 unfold zql.f
 repeat' first
   | (with_reducible first|exact ih0 _ _ _ _|exact LeO.refl _|exact LeO.none _|refine LeO.ite ?_ ?_|refine LeO.bind ?_ (fun _=>?_))
   | exact ih0 _ _ _ _
   | exact LeO.none _
   | refine LeO.ite ?_ ?_
   | refine LeO.bind ?_ (fun _=>?_)
set_option maxHeartbeats 8000000 in
set_option maxRecDepth 100000 in
theorem zql.calls (k:Nat) (a0_0:Int) (a0_1:Int) (a0_2:ByteArray) (r:Int) (w:World) (hL:LD w) (h:zql.f k a0_0 a0_1 a0_2=some r) :
  Calls Tryd.prog 57 #[.agg #[.int .i64 a0_0,.int .i64 a0_1,.string a0_2]] w fun e w'=>e = .returned (.int .i64 r)∧Below w.heap.size w w':=by
 have hu38:=Tryd.underlying38
 have HLD:=zq.mk hL
 clear hL
 have HB:=zq.mk (Below.refl w.heap.size w)
 have H:(if a0_0<0 then(zql.j0 k true a0_0 a0_1 a0_2) else (zql.j0 k (decide (a0_0 > 3)) a0_0 a0_1 a0_2))=some r:=h
 clear h
 have HC2:=zq.mk H
 clear H
 go_enter Tryd.func57,Tryd.ntmps57
 go_upto_region 1 with (first|((with_reducible refine qr (N:=1) rfl ?_);refine qm ?hg (N:=1) ?hd (cs:=#[.int .i64 a0_0,.int .i64 a0_1,.string a0_2]) (t:=38) ?hr ?_;(case hd=>rfl);(case hg=>rfl);(case hr=>first|(go_simp;done)|(go_simp;rfl));intro gb154 hg w3 hbox hb;have BK154:=zq.mk (hbox);have GW154:=zq.mk ((by rw [hg];exact(zw bw):w.heap.size≤gb154));have GE154:=zq.mk ((by rw [hg];exact(zw bw):w.heap.size≤gb154));replace HB:=zq.mk (zn bw hb);clear hb hbox hg))
 (try simp only [Act.put,List.setIfInBounds_toArray,List.set_cons_zero,List.set_cons_succ])
 go_cut [11] (fun v11 wc => ∃ (kq:Nat) (x11_1:Bool),v11 = .bool x11_1∧zq (zql.j0 kq x11_1 a0_0 a0_1 a0_2=some r)∧zq (kq≤k)∧zq (wc.heap[gb154]? = some (.cells #[.int .i64 a0_0,.int .i64 a0_1,.string a0_2] 38 (0,0)))∧zq (Below w.heap.size w wc))
 case first=>
  have H:=HC2.out
  clear HC2
  by_cases c4:a0_0<0
  ·rw [if_pos c4] at H
   have c4b0:=decide_eq_true c4
   clear c4
   (first|rw [c4b0]|(simp only [zqp,zqq];rw [c4b0])|skip)
   have H':=zq.mk H
   clear H
   obtain ⟨hcz5_0,hcz5_1,hcz5_2,hfz5_0,hfz5_1,hfz5_2⟩:=qd BK154.out
   go_wp2
   go_meet
   case rel=>exact⟨_,(true),vr,H',⟨by first|omega|exact Nat.le_refl _⟩,⟨by(with_reducible repeat(first|refine zz ?_ _|refine zk ?_|refine zj ?_ _));exact BK154.out⟩,⟨bw⟩⟩
  rw [if_neg c4] at H
  have c4b0:=decide_eq_false c4
  clear c4
  (first|rw [c4b0]|(simp only [zqp,zqq];rw [c4b0])|skip)
  have H':=zq.mk H
  clear H
  obtain ⟨hcz6_0,hcz6_1,hcz6_2,hfz6_0,hfz6_1,hfz6_2⟩:=qd BK154.out
  go_wp2
  go_meet
  case rel=>exact⟨_,(decide (a0_0 > 3)),vr,H',⟨by first|omega|exact Nat.le_refl _⟩,⟨by(with_reducible repeat(first|refine zz ?_ _|refine zk ?_|refine zj ?_ _));exact BK154.out⟩,⟨bw⟩⟩
 case rest=>
  clear HC2
  obtain ⟨kq,x11_1,rfl,HA,HJ1,BK154,HB⟩:=hcut
  cases kq with
  | zero=>exact absurd HA.out (by simp [zql.j0])
  | succ kj1=>
   have H:=HA.out
   clear HA
   simp only [zql.j0] at H
   by_cases c7:x11_1=true
   ·subst c7
    rw [if_pos rfl] at H
    obtain rfl:=Option.some.inj H
    go_wp2
    go_ret
    exact⟨by first|rfl|(simp [zg,zy] <;> rfl)|(simp [*,zg,zy] <;> rfl),bw⟩
   replace c7:=Bool.eq_false_iff.mpr c7
   subst c7
   rw [if_neg (show ¬ (false=true) by decide)] at H
   by_cases c8:(a0_2.size:Int) > 40
   ·rw [if_pos c8] at H
    have c8b0:=decide_eq_true c8
    have c8b1:decide (40<a0_2.size)=true:=decide_eq_true (by omega)
    clear c8
    obtain rfl:=Option.some.inj H
    obtain ⟨hcz9_0,hcz9_1,hcz9_2,hfz9_0,hfz9_1,hfz9_2⟩:=qd BK154.out
    go_wp2
    go_ret
    exact⟨by first|rfl|(simp [zg,zy] <;> rfl)|(simp [*,zg,zy] <;> rfl),bw⟩
   rw [if_neg c8] at H
   have c8b0:=decide_eq_false c8
   have c8b1:decide (40<a0_2.size)=false:=decide_eq_false (by omega)
   clear c8
   by_cases c10:a0_0=0
   ·rw [if_pos c10] at H
    have c10b0:(a0_0 == 0)=true:=beq_iff_eq.mpr c10
    have c10b1:(a0_0 != 0)=false:=bne_eq_false_iff_eq.mpr c10
    clear c10
    by_cases c11:((a0_0 == 0 && (a0_1 == 0 && (a0_2.toList == ([]:List UInt8))))=true)
    ·rw [if_pos c11] at H
     have c11b0:(a0_0 == 0 && (a0_1 == 0 && (a0_2.toList == ([]:List UInt8))))=true:=c11
     (try(have c11b1:(a0_0 == 0 && (a0_1 == 0 && a0_2.toList.isEmpty))=true:=by first|simpa using c11|simpa [*] using c11))
     (try(have c11b2:(a0_1 == 0 && a0_2.toList.isEmpty)=true:=by first|simpa using c11|simpa [*] using c11))
     (try(have c11b3:decide (a0_0=0 && (a0_1 == 0 && (a0_2.toList == ([]:List UInt8))))=true:=by simpa using c11))
     (try(have c11b4:(a0_0 == 0 && (a0_1 == 0 && (a0_2.toList == ([]:List UInt8))))=true:=by simpa using c11))
     clear c11
     obtain rfl:=Option.some.inj H
     obtain ⟨hcz12_0,hcz12_1,hcz12_2,hfz12_0,hfz12_1,hfz12_2⟩:=qd BK154.out
     go_wp2
     go_ret
     exact⟨by first|rfl|(simp [zg,zy] <;> rfl)|(simp [*,zg,zy] <;> rfl),bw⟩
    rw [if_neg c11] at H
    have c11b0:(a0_0 == 0 && (a0_1 == 0 && (a0_2.toList == ([]:List UInt8))))=false:=by simpa using c11
    (try(have c11b1:(a0_0 == 0 && (a0_1 == 0 && a0_2.toList.isEmpty))=false:=by first|simpa using c11|simpa [*] using c11))
    (try(have c11b2:(a0_1 == 0 && a0_2.toList.isEmpty)=false:=by first|simpa using c11|simpa [*] using c11))
    (try(have c11b3:decide (a0_0=0 && (a0_1 == 0 && (a0_2.toList == ([]:List UInt8))))=false:=by simpa using c11))
    (try(have c11b4:(a0_0 == 0 && (a0_1 == 0 && (a0_2.toList == ([]:List UInt8))))=false:=by simpa using c11))
    (try(have c11b5:¬ (a0_0=0 && (a0_1 == 0 && (a0_2.toList == ([]:List UInt8)))):=by simpa using c11))
    clear c11
    obtain rfl:=Option.some.inj H
    obtain ⟨hcz13_0,hcz13_1,hcz13_2,hfz13_0,hfz13_1,hfz13_2⟩:=qd BK154.out
    go_wp2
    go_ret
    exact⟨by first|rfl|(simp [zg,zy] <;> rfl)|(simp [*,zg,zy] <;> rfl),bw⟩
   rw [if_neg c10] at H
   have c10b0:(a0_0 == 0)=false:=beq_eq_false_iff_ne.mpr c10
   have c10b1:(a0_0 != 0)=true:=bne_iff_ne.mpr c10
   by_cases c14:a0_0=1
   ·rw [if_pos c14] at H
    have c14b0:(a0_0 == 1)=true:=beq_iff_eq.mpr c14
    have c14b1:(a0_0 != 1)=false:=bne_eq_false_iff_eq.mpr c14
    clear c14
    by_cases c15:(Go.bits .or .i64 a0_1 1)=1
    ·rw [if_pos c15] at H
     have c15b0:((Go.bits .or .i64 a0_1 1) == 1)=true:=beq_iff_eq.mpr c15
     have c15b1:((Go.bits .or .i64 a0_1 1) != 1)=false:=bne_eq_false_iff_eq.mpr c15
     clear c15
     by_cases c16:(a0_2.toList=([]:List UInt8))
     ·rw [if_pos c16] at H
      have c16b0:(a0_2.toList == ([]:List UInt8))=true:=beq_iff_eq.mpr c16
      have c16b1:(a0_2.toList != ([]:List UInt8))=false:=bne_eq_false_iff_eq.mpr c16
      clear c16
      obtain rfl:=Option.some.inj H
      obtain ⟨hcz17_0,hcz17_1,hcz17_2,hfz17_0,hfz17_1,hfz17_2⟩:=qd BK154.out
      go_wp2
      go_ret
      exact⟨by first|rfl|(simp [zg,zy] <;> rfl)|(simp [*,zg,zy] <;> rfl),bw⟩
     rw [if_neg c16] at H
     have c16b0:(a0_2.toList == ([]:List UInt8))=false:=beq_eq_false_iff_ne.mpr c16
     have c16b1:(a0_2.toList != ([]:List UInt8))=true:=bne_iff_ne.mpr c16
     obtain rfl:=Option.some.inj H
     obtain ⟨hcz18_0,hcz18_1,hcz18_2,hfz18_0,hfz18_1,hfz18_2⟩:=qd BK154.out
     go_wp2
     go_ret
     exact⟨by first|rfl|(simp [zg,zy] <;> rfl)|(simp [*,zg,zy] <;> rfl),bw⟩
    rw [if_neg c15] at H
    have c15b0:((Go.bits .or .i64 a0_1 1) == 1)=false:=beq_eq_false_iff_ne.mpr c15
    have c15b1:((Go.bits .or .i64 a0_1 1) != 1)=true:=bne_iff_ne.mpr c15
    obtain rfl:=Option.some.inj H
    obtain ⟨hcz19_0,hcz19_1,hcz19_2,hfz19_0,hfz19_1,hfz19_2⟩:=qd BK154.out
    go_wp2
    go_ret
    exact⟨by first|rfl|(simp [zg,zy] <;> rfl)|(simp [*,zg,zy] <;> rfl),bw⟩
   rw [if_neg c14] at H
   have c14b0:(a0_0 == 1)=false:=beq_eq_false_iff_ne.mpr c14
   have c14b1:(a0_0 != 1)=true:=bne_iff_ne.mpr c14
   by_cases c20:a0_0=2
   ·rw [if_pos c20] at H
    have c20b0:(a0_0 == 2)=true:=beq_iff_eq.mpr c20
    have c20b1:(a0_0 != 2)=false:=bne_eq_false_iff_eq.mpr c20
    clear c20
    by_cases c21:(a0_2.toList=([]:List UInt8))
    ·rw [if_pos c21] at H
     have c21b0:(a0_2.toList == ([]:List UInt8))=true:=beq_iff_eq.mpr c21
     have c21b1:(a0_2.toList != ([]:List UInt8))=false:=bne_eq_false_iff_eq.mpr c21
     clear c21
     obtain rfl:=Option.some.inj H
     obtain ⟨hcz22_0,hcz22_1,hcz22_2,hfz22_0,hfz22_1,hfz22_2⟩:=qd BK154.out
     go_wp2
     go_ret
     exact⟨by first|rfl|(simp [zg,zy] <;> rfl)|(simp [*,zg,zy] <;> rfl),bw⟩
    rw [if_neg c21] at H
    have c21b0:(a0_2.toList == ([]:List UInt8))=false:=beq_eq_false_iff_ne.mpr c21
    have c21b1:(a0_2.toList != ([]:List UInt8))=true:=bne_iff_ne.mpr c21
    obtain rfl:=Option.some.inj H
    obtain ⟨hcz23_0,hcz23_1,hcz23_2,hfz23_0,hfz23_1,hfz23_2⟩:=qd BK154.out
    go_wp2
    go_ret
    exact⟨by first|rfl|(simp [zg,zy] <;> rfl)|(simp [*,zg,zy] <;> rfl),bw⟩
   rw [if_neg c20] at H
   have c20b0:(a0_0 == 2)=false:=beq_eq_false_iff_ne.mpr c20
   have c20b1:(a0_0 != 2)=true:=bne_iff_ne.mpr c20
   by_cases c24:a0_0=3
   ·rw [if_pos c24] at H
    have c24b0:(a0_0 == 3)=true:=beq_iff_eq.mpr c24
    have c24b1:(a0_0 != 3)=false:=bne_eq_false_iff_eq.mpr c24
    clear c24
    by_cases c25:a0_1=0
    ·rw [if_pos c25] at H
     have c25b0:(a0_1 == 0)=true:=beq_iff_eq.mpr c25
     have c25b1:(a0_1 != 0)=false:=bne_eq_false_iff_eq.mpr c25
     clear c25
     replace H:=Option.bind_eq_some_iff.mp H
     obtain ⟨t155,A260,H⟩:=H
     replace H:(if t155=true then(some 0) else (some 4))=some r:=H
     have A26:=zq.mk A260
     clear A260
     by_cases c27:t155=true
     ·subst c27
      rw [if_pos rfl] at H
      obtain rfl:=Option.some.inj H
      obtain ⟨hcz28_0,hcz28_1,hcz28_2,hfz28_0,hfz28_1,hfz28_2⟩:=qd BK154.out
      go_wp2_with (first|(go_at_call 96;(with_reducible refine(utf8_ValidString.calls a0_2 true _ ?side1 A26.out).mono ?_);(case side1=>exact LD.below HLD.out (by first|(with_reducible exact Below.refl _ _)|((repeat(first|(with_reducible exact Below.refl _ _)|(with_reducible apply zl)|(with_reducible apply zr)|(with_reducible apply qx)));done)|exact bw));rintro e w29 ⟨rfl,hb⟩;replace BK154:=zq.mk (ze (g:=gb154) (o:=.cells #[.int .i64 a0_0,.int .i64 a0_1,.string a0_2] 38 (0,0)) (up BK154.out) hb);replace HB:=zq.mk (zn bw hb);(try clear hb);(try clear hb2);(try clear hk);(try clear hi)))
      go_ret
      exact⟨by first|rfl|(simp [zg,zy] <;> rfl)|(simp [*,zg,zy] <;> rfl),bw⟩
     replace c27:=Bool.eq_false_iff.mpr c27
     subst c27
     rw [if_neg (show ¬ (false=true) by decide)] at H
     obtain rfl:=Option.some.inj H
     obtain ⟨hcz30_0,hcz30_1,hcz30_2,hfz30_0,hfz30_1,hfz30_2⟩:=qd BK154.out
     go_wp2_with (first|(go_at_call 96;(with_reducible refine(utf8_ValidString.calls a0_2 false _ ?side1 A26.out).mono ?_);(case side1=>exact LD.below HLD.out (by first|(with_reducible exact Below.refl _ _)|((repeat(first|(with_reducible exact Below.refl _ _)|(with_reducible apply zl)|(with_reducible apply zr)|(with_reducible apply qx)));done)|exact bw));rintro e w31 ⟨rfl,hb⟩;replace BK154:=zq.mk (ze (g:=gb154) (o:=.cells #[.int .i64 a0_0,.int .i64 a0_1,.string a0_2] 38 (0,0)) (up BK154.out) hb);replace HB:=zq.mk (zn bw hb);(try clear hb);(try clear hb2);(try clear hk);(try clear hi)))
     go_ret
     exact⟨by first|rfl|(simp [zg,zy] <;> rfl)|(simp [*,zg,zy] <;> rfl),bw⟩
    rw [if_neg c25] at H
    have c25b0:(a0_1 == 0)=false:=beq_eq_false_iff_ne.mpr c25
    have c25b1:(a0_1 != 0)=true:=bne_iff_ne.mpr c25
    obtain rfl:=Option.some.inj H
    obtain ⟨hcz32_0,hcz32_1,hcz32_2,hfz32_0,hfz32_1,hfz32_2⟩:=qd BK154.out
    go_wp2
    go_ret
    exact⟨by first|rfl|(simp [zg,zy] <;> rfl)|(simp [*,zg,zy] <;> rfl),bw⟩
   rw [if_neg c24] at H
   have c24b0:(a0_0 == 3)=false:=beq_eq_false_iff_ne.mpr c24
   have c24b1:(a0_0 != 3)=true:=bne_iff_ne.mpr c24
   obtain rfl:=Option.some.inj H
   obtain ⟨hcz33_0,hcz33_1,hcz33_2,hfz33_0,hfz33_1,hfz33_2⟩:=qd BK154.out
   go_wp2
   go_ret
   exact⟨by first|rfl|(simp [zg,zy] <;> rfl)|(simp [*,zg,zy] <;> rfl),bw⟩

end Go.Proofs.YthhejedfjgikdaaDoor.PRowReads
