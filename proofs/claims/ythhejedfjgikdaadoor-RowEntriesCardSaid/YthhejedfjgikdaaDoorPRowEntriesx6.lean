-- Written by wip/pp of this repo (over the kit's print, with additions of this session); Lean checks every line.
import Derived.Test.YthhejedfjgikdaaDoorPRowEntriesx1
import Derived.Test.YthhejedfjgikdaaDoorPRowEntriesx5
namespace Go.Proofs.YthhejedfjgikdaaDoor.PRowEntries
open Go.RowKit Go.Proofs.YthhejedfjgikdaaDoorW.PrintWords Go.Proofs.YthhejedfjgikdaaDoorW.PrintLast Go.Proofs.YthhejedfjgikdaaDoorW.PrintMore
attribute [local go_sem] zxq zxo zx0 zxz zxg zxf zxp zxn   -- for this text's walks alone
set_option linter.unusedVariables false
set_option linter.unusedSimpArgs false

attribute [local go_sem high] eqA38
/-! ### zx1: function 94, by hand -/
-- HAND rounds=0 making=1 func=1 imports=Derived.Test.YthhejedfjgikdaaDoorOpen
-- INFO 9
/-- The names of things. -/
def zx1.f (l0:List S61):Option (List ByteArray):=if l0.length * 16≤140737488351232 then some (l0.map (·.f0)) else none
theorem zx1.at_ {w:World} {A:Option Addr} {l:List S61} (h:Kd.C k61 w A l.length l) (h0:0<l.length):∃ b o,A=some ⟨b,o,none⟩ ∧ ∀ (i:Nat) (hi:i<l.length),∃ A1 c1,∃ A2 c2,∃ A3 c3,w.cell? ⟨b,o+i * 4,none⟩=some (.string l[i].f0)∧w.cell? ⟨b,o+i * 4+1,none⟩=some (.slice A1 l[i].f1.length c1)∧w.cell? ⟨b,o+i * 4+2,none⟩=some (.slice A2 l[i].f2.length c2)∧w.cell? ⟨b,o+i * 4+3,none⟩=some (.slice A3 l[i].f3.length c3)∧l[i].f1.length≤c1∧Kd.C k90 w A1 l[i].f1.length l[i].f1∧l[i].f2.length≤c2∧Kd.C (Kd.int .i64) w A2 l[i].f2.length l[i].f2∧l[i].f3.length≤c3∧Kd.C k96 w A3 l[i].f3.length l[i].f3:=by
 obtain ⟨ad,A1,c1,A2,c2,A3,c3,rfl,g0,_⟩:=at_T61 h 0 (by omega) (by omega)
 have hs:ad.spot=none:=by
  cases hsp:ad.spot with
  | none=>rfl
  | some s=>
   exfalso
   rw [show ad.add ((0:Int).toNat * 4)=ad from by simp [Addr.add]] at g0
   unfold World.cell? at g0
   split at g0
   ·rw [hsp] at g0
    simp at g0
   ·cases g0
 obtain ⟨b,o,sp⟩:=ad
 dsimp only at hs
 subst hs
 refine⟨b,o,rfl,fun i hi=>?_⟩
 obtain ⟨ad,A1,c1,A2,c2,A3,c3,e,g0,g1,g2,g3,l1,r1,l2,r2,l3,r3⟩:=at_T61 h (i:Int) (by omega) (by omega)
 cases e
 have ee:zqo l (i:Int)=l[i]:=by simp [zqo,List.getD_eq_getElem?_getD,hi]
 have ha:(⟨b,o,none⟩:Addr).add ((i:Int).toNat * 4)=⟨b,o+i * 4,none⟩:=by rw [Int.toNat_natCast];unfold Addr.add;split <;> simp_all
 rw [ee] at g0 g1 g2 g3 l1 r1 l2 r2 l3 r3
 rw [ha] at g0 g1 g2 g3
 exact⟨A1,c1,A2,c2,A3,c3,g0,g1,g2,g3,l1,r1,l2,r2,l3,r3⟩
theorem zx1.of_ (A1:Option Addr) (c1:Nat) (A2:Option Addr) (c2:Nat) (A3:Option Addr) (c3:Nat) (x:S61) (w:World):Calls Tryd.prog 95 #[.agg #[.string x.f0,.slice A1 x.f1.length c1,.slice A2 x.f2.length c2,.slice A3 x.f3.length c3]] w fun e w'=>e = .returned (.string x.f0)∧Below w.heap.size w w':=by
 go_enter Tryd.func95,Tryd.ntmps95
 go_wp2
 go_ret
 exact⟨rfl,zqb (Below.refl _ _) _⟩
theorem zx1.set_ {α:Type} (f:α→ByteArray) (l:List α) (j:Nat) (h:j<l.length):((l.take j).map f ++ List.replicate (l.length - j) ByteArray.empty).set j (f l[j])=(l.take (j+1)).map f ++ List.replicate (l.length - (j+1)) ByteArray.empty:=by
 rw [List.take_succ_eq_append_getElem h,List.map_append,List.append_assoc]
 rw [List.set_append_right _ _ (by simp;omega)]
 simp only [List.length_map,List.length_take,show min j l.length=j by omega,Nat.sub_self]
 obtain ⟨m,hm⟩:∃ m,l.length - j=m+1:=⟨l.length - j - 1,by omega⟩
 rw [hm,show l.length - (j+1)=m by omega,List.replicate_succ]
 rfl
set_option maxRecDepth 100000 in
set_option maxHeartbeats 4000000 in
theorem zx1.calls (A0:Option Addr) (c0:Nat) (l0:List S61) (r:List ByteArray) (w:World) (hr0:Kd.C k61 w A0 l0.length l0) (hc0:l0.length≤c0) (h:zx1.f l0=some r) :
  Calls Tryd.prog 94 #[.slice A0 l0.length c0,.func (.func 95) #[] #[]] w fun e w' => ∃ v0_:Value,e = .returned (v0_)∧Kd.R Kd.string 9 w' w.heap.size (fun _=>True) v0_ r∧Below w.heap.size w w':=by
 unfold zx1.f at h
 split at h
 rotate_left
 ·cases h
 rename_i hb
 obtain rfl:=Option.some.inj h
 have HR:=zqd.mk hr0
 clear h hr0
 have hm:l0.length≤9223372036854775807:=by omega
 go_enter Tryd.func94,Tryd.ntmps94
 go_wp2_with (refine Kd.R_make Kd.string (w0:=w) w.heap.size 9 rfl rfl 118 (.tmp 9) (.tmp 9) rfl (l0.length:Int) rfl rfl Tryd.underlying118 (.string ByteArray.empty) 16 info9 rfl (by decide) (by decide) ByteArray.empty (ok:=fun _=>True) (okp:=fun _=>True) rfl (fun _ h=>h) trivial (by omega) (by omega) (Below.refl _ _) (Nat.le_refl _) ?_;intro v1 w1 ho1 hb1 hg1 hown1;have HO1:=zqd.mk ho1;have HB1:=zqd.mk hb1;clear ho1 hb1 hg1 hown1)
 rw [Int.toNat_natCast] at HO1
 go_loopw [13] (fun i wr => ∃ j:Nat,j≤l0.length∧i = .int .i64 j∧zqd (Kd.R Kd.string 9 wr w.heap.size (fun _=>True) v1 ((l0.take j).map (·.f0) ++ List.replicate (l0.length - j) ByteArray.empty))∧zqd (Below w.heap.size w wr)) (fun i _=>l0.length - (intOf i).toNat)
 case atStart=>exact⟨0,Nat.zero_le _,rfl,⟨by simpa using HO1.out⟩,HB1⟩
 case round=>
  clear HO1 HB1
  obtain ⟨j,hj,rfl,HO,HB⟩:=hrel
  by_cases hlt:j<l0.length
  ·obtain ⟨g,cap,hv,hbg,hgl,cells,hcell⟩:=Kd.R_form HO.out (by simp;omega)
   rw [show((l0.take j).map (·.f0) ++ List.replicate (l0.length - j) ByteArray.empty).length=l0.length by simp;omega] at hv
   subst hv
   obtain ⟨hce,hfr⟩:=Kd.R_celln ByteArray.empty HO.out (j:Int) (by omega) (by omega)
   simp only [Int.toNat_natCast] at hce hfr
   have HCE:=zqd.mk hce
   have HFR:=zqd.mk hfr
   obtain ⟨b,o,rfl,hcs⟩:=zx1.at_ (Kd.zq3 HR.out HB.out) (by omega)
   obtain ⟨A1,c1,A2,c2,A3,c3,p0,p1,p2,p3,l1,r1,l2,r2,l3,r3⟩:=hcs j hlt
   have HSET:=zqd.mk (zx1.set_ (·.f0) l0 j hlt)
   clear hce hfr hcell hcs
   generalize l0[j]=x at *
   go_wp2_with (go_at_call 95;refine(zx1.of_ A1 c1 A2 c2 A3 c3 x _).mono ?_;rintro e2 w2 ⟨rfl,hb2⟩;have HB2:zqd (Below wr.heap.size wr w2):=⟨(zqb (Below.refl wr.heap.size wr) _).trans (hb2.mono (zqb (Below.refl wr.heap.size wr) _).size)⟩;clear hb2;have hce2:=zq6 HB2.out HCE.out;have hfr2:=(HB2.out.frozen (p:=⟨g,j,none⟩) hgl).trans HFR.out)
   go_roundw
   case rel=>exact⟨j+1,by omega,by go_num,⟨by have h3:=Kd.R_putn (Kd.zxy HO.out HB2.out) (j:Int) x.f0;rw [Int.toNat_natCast,HSET.out] at h3;exact h3⟩,⟨(HB.out.trans (HB2.out.mono HB.out.size)).setCell hbg _⟩⟩
   case measure=>simp [intOf];omega
  ·obtain rfl:j=l0.length:=by omega
   go_wp2
   go_ret
   exact⟨_,rfl,by simpa using HO.out,HB.out⟩

/-! ### catalog_tableName: function 95 -/
def catalog_tableName.f (a0_0:ByteArray) (l0_1:List (S90)) (l0_2:List Int) (l0_3:List (S96)):Option (ByteArray):=some a0_0
set_option maxHeartbeats 8000000 in
set_option maxRecDepth 100000 in
theorem catalog_tableName.calls (a0_0:ByteArray) (A0_1:Option Addr) (c0_1:Nat) (l0_1:List (S90)) (A0_2:Option Addr) (c0_2:Nat) (l0_2:List Int) (A0_3:Option Addr) (c0_3:Nat) (l0_3:List (S96)) (r:ByteArray) (w:World) (hr0_1:Kd.C k90 w A0_1 l0_1.length l0_1) (hc0_1:l0_1.length≤c0_1) (hr0_2:Kd.C (Kd.int .i64) w A0_2 l0_2.length l0_2) (hc0_2:l0_2.length≤c0_2) (hr0_3:Kd.C k96 w A0_3 l0_3.length l0_3) (hc0_3:l0_3.length≤c0_3) (h:catalog_tableName.f a0_0 l0_1 l0_2 l0_3=some r) :
  Calls Tryd.prog 95 #[.agg #[.string a0_0,.slice A0_1 l0_1.length c0_1,.slice A0_2 l0_2.length c0_2,.slice A0_3 l0_3.length c0_3]] w fun e w'=>e = .returned (.string r)∧Below w.heap.size w w':=by
 have hu61:=Tryd.underlying61
 have HR0_1:=zqd.mk hr0_1
 have HC0_1:=zqd.mk hc0_1
 clear hr0_1 hc0_1
 have HR0_2:=zqd.mk hr0_2
 have HC0_2:=zqd.mk hc0_2
 clear hr0_2 hc0_2
 have HR0_3:=zqd.mk hr0_3
 have HC0_3:=zqd.mk hc0_3
 clear hr0_3 hc0_3
 have HB:=zqd.mk (Below.refl w.heap.size w)
 have H:(some a0_0)=some r:=h
 clear h
 obtain rfl:=Option.some.inj H
 go_enter Tryd.func95,Tryd.ntmps95
 go_wp2_with (first|((with_reducible refine zqx (N:=1) rfl ?_);refine zqt ?hg (N:=1) ?hd (cs:=#[.string a0_0,.slice A0_1 l0_1.length c0_1,.slice A0_2 l0_2.length c0_2,.slice A0_3 l0_3.length c0_3]) (t:=61) ?hr ?_;(case hd=>rfl);(case hg=>rfl);(case hr=>first|(go_simp;done)|(go_simp;rfl));intro gb143 hg w2 hbox hb;have n0_:=zqd.mk (zqn (by repeat(first|(with_reducible first|exact HB.out|apply zqb|apply zqa|apply zqc)|exact HB.out)) hb);have n1_:=zqd.mk (hbox);have n2_:=zqd.mk ((by rw [hg];exact(zqk (by repeat(first|(with_reducible first|exact HB.out|apply zqb|apply zqa|apply zqc)|exact HB.out))):w.heap.size≤gb143));have n3_:=zqd.mk ((by rw [hg];exact(zqk (by repeat(first|(with_reducible first|exact HB.out|apply zqb|apply zqa|apply zqc)|exact HB.out))):w.heap.size≤gb143));clear HB;have HB:=n0_;have BK143:=n1_;have GW143:=n2_;have GE143:=n3_;clear n0_ n1_ n2_ n3_ hb hbox hg;have hcz3_0:w2.cell? ⟨gb143,0,none⟩=some (.string a0_0):=(zqf BK143.out 0).trans rfl;have hcz3_1:w2.cell? ⟨gb143,1,none⟩=some (.slice A0_1 l0_1.length c0_1):=(zqf BK143.out 1).trans rfl;have hcz3_2:w2.cell? ⟨gb143,2,none⟩=some (.slice A0_2 l0_2.length c0_2):=(zqf BK143.out 2).trans rfl;have hcz3_3:w2.cell? ⟨gb143,3,none⟩=some (.slice A0_3 l0_3.length c0_3):=(zqf BK143.out 3).trans rfl;have hfz3_0:=zqe BK143.out 0;have hfz3_1:=zqe BK143.out 1;have hfz3_2:=zqe BK143.out 2;have hfz3_3:=zqe BK143.out 3))
 go_ret
 exact⟨by first|rfl|(simp [zqm,zql] <;> rfl)|(simp [*,zqm,zql] <;> rfl),by repeat(first|(with_reducible first|exact HB.out|apply zqb|apply zqa|apply zqc|refine zqi ?_ GE143.out)|exact HB.out)⟩

/-! ### zj0: function 56 -/
def zj0.l0:Nat→List (S61)→List (S61)→Int→Int→Option (Bool)
 | 0,_,_,_,_=>none
 | k+1,x0,x8,x9,x10=>if x10<x9 then(if 0≤x10 then(if x10<(x8.length:Int) then((zjs.f k ((zqo x8 x10).f0) ((zqo x8 x10).f1) ((zqo x8 x10).f2) ((zqo x8 x10).f3)).bind fun t146=>(if t146=true then(zj0.l0 k x0 x8 x9 (wrap64 (x10+1))) else (some false))) else (none)) else (none)) else ((zx1.f x0).bind fun t147=>((zjt.f k t147).bind fun t150=>(some t150)))
def zj0.f (k:Nat) (l0:List (S61)):Option (Bool):=if(l0.length:Int) > 4 then(some false) else (zj0.l0 k l0 l0 (l0.length:Int) 0)
theorem zj0.mono_l:∀ k,(∀ y0 y1 y2 y3,LeO (zj0.l0 k y0 y1 y2 y3) (zj0.l0 (k+1) y0 y1 y2 y3))
 | 0=>fun _ _ _ _ r h=>by simp [zj0.l0] at h
 | k+1=>by
  have ih0:=zj0.mono_l k
  ·intro y0 y1 y2 y3
   unfold zj0.l0
   repeat' first
   | (with_reducible first|exact ih0 _ _ _ _|exact zjs.mono _ _ _ _ _|exact zjt.mono _ _|exact LeO.refl _|exact LeO.none _|refine LeO.ite ?_ ?_|refine LeO.bind ?_ (fun _=>?_))
   | exact ih0 _ _ _ _
   | exact zjs.mono _ _ _ _ _
   | exact zjt.mono _ _
   | exact LeO.none _
   | refine LeO.ite ?_ ?_
   | refine LeO.bind ?_ (fun _=>?_)
theorem zj0.mono:∀ a0 k,LeO (zj0.f k a0) (zj0.f (k+1) a0):=by
 intro a0 k
 have ih0:=zj0.mono_l k
 unfold zj0.f
 repeat' first
   | (with_reducible first|exact ih0 _ _ _ _|exact zjs.mono _ _ _ _ _|exact zjt.mono _ _|exact LeO.refl _|exact LeO.none _|refine LeO.ite ?_ ?_|refine LeO.bind ?_ (fun _=>?_))
   | exact ih0 _ _ _ _
   | exact zjs.mono _ _ _ _ _
   | exact zjt.mono _ _
   | exact LeO.none _
   | refine LeO.ite ?_ ?_
   | refine LeO.bind ?_ (fun _=>?_)
set_option maxHeartbeats 8000000 in
set_option maxRecDepth 100000 in
theorem zj0.calls (k:Nat) (A0:Option Addr) (c0:Nat) (l0:List (S61)) (r:Bool) (w:World) (hr0:Kd.C k61 w A0 l0.length l0) (hc0:l0.length≤c0) (hL:LD w) (h:zj0.f k l0=some r) :
  Calls Tryd.prog 56 #[.slice A0 l0.length c0] w fun e w'=>e = .returned (.bool r)∧Below w.heap.size w w':=by
 have hu61:=Tryd.underlying61
 have HLD:=zqd.mk hL
 clear hL
 have HR0:=zqd.mk hr0
 have HC0:=zqd.mk hc0
 clear hr0 hc0
 have HB:=zqd.mk (Below.refl w.heap.size w)
 have H:(if(l0.length:Int) > 4 then(some false) else (zj0.l0 k l0 l0 (l0.length:Int) 0))=some r:=h
 clear h
 by_cases c2:(l0.length:Int) > 4
 ·rw [if_pos c2] at H
  have c2b0:decide (4<(l0.length:Int))=true:=decide_eq_true c2
  have c2b1:decide (4<l0.length)=true:=decide_eq_true (by omega)
  clear c2
  obtain rfl:=Option.some.inj H
  go_enter Tryd.func56,Tryd.ntmps56
  go_wp2
  go_ret
  exact⟨by first|rfl|(simp [zqm,zql] <;> rfl)|(simp [*,zqm,zql] <;> rfl),by repeat(first|(with_reducible first|exact HB.out|apply zqb|apply zqa|apply zqc)|exact HB.out)⟩
 ·rw [if_neg c2] at H
  have c2b0:decide (4<(l0.length:Int))=false:=decide_eq_false c2
  have c2b1:decide (4<l0.length)=false:=decide_eq_false (by omega)
  clear c2
  have H':=zqd.mk H
  clear H
  go_enter Tryd.func56,Tryd.ntmps56
  go_wp2
  go_loopg [10] k (fun kq v10 w' => ∃ (x10_1:Int),v10 = .int .i64 x10_1∧zqd (zj0.l0 kq l0 l0 (l0.length:Int) x10_1=some r)∧zqd (kq≤k)∧zqd (Below w.heap.size w w'))
  case atStart=>exact⟨(0),(by first|rfl|(simp;done)|(simp [*];done)|(generalize ByteArray.toList _=q_;cases q_ <;> rfl)),H',⟨Nat.le_refl _⟩,⟨by repeat(first|(with_reducible first|exact HB.out|apply zqb|apply zqa|apply zqc)|exact HB.out)⟩⟩
  case round=>
   clear H'
   try clear c2
   try clear c2b0
   try clear c2b1
   try clear p2
   obtain ⟨x10_1,rfl,HA,HK1,HB⟩:=hrel
   cases gk with
   | zero=>exact absurd HA.out (by simp [zj0.l0])
   | succ k1=>
    have H:=HA.out
    clear HA
    simp only [zj0.l0] at H
    by_cases c3:x10_1<(l0.length:Int)
    ·rw [if_pos c3] at H
     have c3b0:decide (x10_1<(l0.length:Int))=true:=decide_eq_true c3
     clear c3
     by_cases c4:0≤x10_1
     ·rw [if_pos c4] at H
      have c4b0:decide (0≤x10_1)=true:=decide_eq_true c4
      clear c4
      by_cases c5:x10_1<(l0.length:Int)
      ·rw [if_pos c5] at H
       have c5b0:decide (x10_1<(l0.length:Int))=true:=decide_eq_true c5
       clear c5
       replace H:=Option.bind_eq_some_iff.mp H
       obtain ⟨t146,A60,H⟩:=H
       replace H:(if t146=true then(zj0.l0 k1 l0 l0 (l0.length:Int) (wrap64 (x10_1+1))) else (some false))=some r:=H
       have A6:=zqd.mk A60
       clear A60
       by_cases c7:t146=true
       ·subst c7
        have H1:(zj0.l0 k1 l0 l0 (l0.length:Int) (wrap64 (x10_1+1)))=some r:=by rw [if_pos rfl] at H;exact H
        clear H
        have H:=H1
        clear H1
        have H':=zqd.mk H
        clear H
        have p144:0≤(x10_1:Int):=of_decide_eq_true (by first|(with_reducible assumption)|assumption)
        have q144:x10_1<(l0.length:Int):=of_decide_eq_true (by first|(with_reducible assumption)|assumption)
        obtain ⟨ad144,A144_1,c144_1,A144_2,c144_2,A144_3,c144_3,e144,hx144_0,hx144_1,hx144_2,hx144_3,hl144_1,hi144_1,hl144_2,hi144_2,hl144_3,hi144_3⟩:=at_T61 HR0.out x10_1 p144 q144
        cases e144
        replace hx144_0:=(HB.out.cell (World.block_lt_of_cell? w _ hx144_0)).trans hx144_0
        replace hx144_1:=(HB.out.cell (World.block_lt_of_cell? w _ hx144_1)).trans hx144_1
        replace hx144_2:=(HB.out.cell (World.block_lt_of_cell? w _ hx144_2)).trans hx144_2
        replace hx144_3:=(HB.out.cell (World.block_lt_of_cell? w _ hx144_3)).trans hx144_3
        have HR144_1:=zqd.mk hi144_1
        have HC144_1:=zqd.mk hl144_1
        clear hi144_1 hl144_1
        have HR144_2:=zqd.mk hi144_2
        have HC144_2:=zqd.mk hl144_2
        clear hi144_2 hl144_2
        have HR144_3:=zqd.mk hi144_3
        have HC144_3:=zqd.mk hl144_3
        clear hi144_3 hl144_3
        replace p144:=eq_true p144
        replace q144:=eq_true q144
        go_wp2_with (first|((with_reducible refine zqx (N:=4) rfl ?_);refine zqt ?hg (N:=4) ?hd (cs:=#[.string (⟨#[]⟩:ByteArray),.slice none 0 0,.slice none 0 0,.slice none 0 0]) (t:=61) ?hr ?_;(case hd=>rfl);(case hg=>rfl);(case hr=>first|(go_simp;done)|(go_simp;rfl));intro gb145 hg w8 hbox hb;have n0_:=zqd.mk (zqn (by repeat(first|(with_reducible first|exact HB.out|apply zqb|apply zqa|apply zqc)|exact HB.out)) hb);have n1_:=zqd.mk (hbox);have n2_:=zqd.mk ((by rw [hg];exact(zqk (by repeat(first|(with_reducible first|exact HB.out|apply zqb|apply zqa|apply zqc)|exact HB.out))):w.heap.size≤gb145));have n3_:=zqd.mk ((by rw [hg];exact(zqk (by repeat(first|(with_reducible first|exact HB.out|apply zqb|apply zqa|apply zqc)|exact HB.out))):w.heap.size≤gb145));clear HB;have HB:=n0_;have BK145:=n1_;have GW145:=n2_;have GE145:=n3_;clear n0_ n1_ n2_ n3_ hb hbox hg;have hcz9_0:w8.cell? ⟨gb145,0,none⟩=some (.string (⟨#[]⟩:ByteArray)):=(zqf BK145.out 0).trans rfl;have hcz9_1:w8.cell? ⟨gb145,1,none⟩=some (.slice none 0 0):=(zqf BK145.out 1).trans rfl;have hcz9_2:w8.cell? ⟨gb145,2,none⟩=some (.slice none 0 0):=(zqf BK145.out 2).trans rfl;have hcz9_3:w8.cell? ⟨gb145,3,none⟩=some (.slice none 0 0):=(zqf BK145.out 3).trans rfl;have hfz9_0:=zqe BK145.out 0;have hfz9_1:=zqe BK145.out 1;have hfz9_2:=zqe BK145.out 2;have hfz9_3:=zqe BK145.out 3)|((with_reducible refine zqv (f:=92) rfl ?_);refine zq8 (some 15) rfl rfl Tryd.func92 (by kernel_rfl) rfl #[.agg #[.string ((zqo l0 x10_1).f0),.slice A144_1 ((zqo l0 x10_1).f1).length c144_1,.slice A144_2 ((zqo l0 x10_1).f2).length c144_2,.slice A144_3 ((zqo l0 x10_1).f3).length c144_3]] rfl (by(try simp only [List.map_toArray,List.map_cons,List.map_nil]);first|done|rfl|(simp only [List.length_drop,List.length_take];rfl)) ?_;(with_reducible refine(zjs.calls k1 ((zqo l0 x10_1).f0) _ _ ((zqo l0 x10_1).f1) _ _ ((zqo l0 x10_1).f2) _ _ ((zqo l0 x10_1).f3) true _ ?side1 ?side2 ?side3 ?side4 ?side5 ?side6 ?side7 A6.out).mono ?_);(case side1=>exact Kd.zq3 HR144_1.out (by repeat(first|(with_reducible first|exact HB.out|apply zqb|apply zqa|apply zqc|refine zqi ?_ GE145.out)|exact HB.out)));(case side2=>exact HC144_1.out);(case side3=>exact Kd.zq3 HR144_2.out (by repeat(first|(with_reducible first|exact HB.out|apply zqb|apply zqa|apply zqc|refine zqi ?_ GE145.out)|exact HB.out)));(case side4=>exact HC144_2.out);(case side5=>exact Kd.zq3 HR144_3.out (by repeat(first|(with_reducible first|exact HB.out|apply zqb|apply zqa|apply zqc|refine zqi ?_ GE145.out)|exact HB.out)));(case side6=>exact HC144_3.out);(case side7=>exact LD.below HLD.out (by first|(with_reducible exact Below.refl _ _)|((repeat(first|(with_reducible exact Below.refl _ _)|(with_reducible apply zqb)|(with_reducible apply zqa)|(with_reducible apply zqc)));done)|exact(by repeat(first|(with_reducible first|exact HB.out|apply zqb|apply zqa|apply zqc|refine zqi ?_ GE145.out)|exact HB.out))));rintro e w10 ⟨rfl,hb⟩;refine⟨_,rfl,?_⟩;have n0_:=zqd.mk (zqr (g:=gb145) (o:=.cells #[.string ((zqo l0 x10_1).f0),.slice A144_1 ((zqo l0 x10_1).f1).length c144_1,.slice A144_2 ((zqo l0 x10_1).f2).length c144_2,.slice A144_3 ((zqo l0 x10_1).f3).length c144_3] 61 (0,0)) (by(with_reducible repeat(first|refine zqg ?_ _|refine zqj ?_|refine zqh ?_ _));refine zqu (cs:=#[.string ((zqo l0 x10_1).f0),.slice A144_1 ((zqo l0 x10_1).f1).length c144_1,.slice A144_2 ((zqo l0 x10_1).f2).length c144_2,.slice none 0 0]) ?_ 3 _ rfl;(with_reducible repeat(first|refine zqg ?_ _|refine zqj ?_|refine zqh ?_ _));refine zqu (cs:=#[.string ((zqo l0 x10_1).f0),.slice A144_1 ((zqo l0 x10_1).f1).length c144_1,.slice none 0 0,.slice none 0 0]) ?_ 2 _ rfl;(with_reducible repeat(first|refine zqg ?_ _|refine zqj ?_|refine zqh ?_ _));refine zqu (cs:=#[.string ((zqo l0 x10_1).f0),.slice none 0 0,.slice none 0 0,.slice none 0 0]) ?_ 1 _ rfl;(with_reducible repeat(first|refine zqg ?_ _|refine zqj ?_|refine zqh ?_ _));refine zqu (cs:=#[.string (⟨#[]⟩:ByteArray),.slice none 0 0,.slice none 0 0,.slice none 0 0]) ?_ 0 _ rfl;(with_reducible repeat(first|refine zqg ?_ _|refine zqj ?_|refine zqh ?_ _));exact BK145.out) hb);have n1_:=zqd.mk (zqn (by repeat(first|(with_reducible first|exact HB.out|apply zqb|apply zqa|apply zqc|refine zqi ?_ GE145.out)|exact HB.out)) hb);clear BK145 HB;have BK145:=n0_;have HB:=n1_;clear n0_ n1_;(try clear hb);(try clear hb2);(try clear hk);(try clear hi)))
        go_roundg k1
        case measure=>have:=HK1.out;omega
        case rel=>exact⟨(wrap64 (x10_1+1)),(by first|rfl|(simp;done)|(simp [*];done)|(generalize ByteArray.toList _=q_;cases q_ <;> rfl)),H',⟨by have:=HK1.out;omega⟩,⟨by repeat(first|(with_reducible first|exact HB.out|apply zqb|apply zqa|apply zqc|refine zqi ?_ GE145.out)|exact HB.out)⟩⟩
       ·replace c7:=Bool.eq_false_iff.mpr c7
        subst c7
        have H1:(some false)=some r:=by rw [if_neg (show ¬ (false=true) by decide)] at H;exact H
        clear H
        have H:=H1
        clear H1
        obtain rfl:=Option.some.inj H
        have p144:0≤(x10_1:Int):=of_decide_eq_true (by first|(with_reducible assumption)|assumption)
        have q144:x10_1<(l0.length:Int):=of_decide_eq_true (by first|(with_reducible assumption)|assumption)
        obtain ⟨ad144,A144_1,c144_1,A144_2,c144_2,A144_3,c144_3,e144,hx144_0,hx144_1,hx144_2,hx144_3,hl144_1,hi144_1,hl144_2,hi144_2,hl144_3,hi144_3⟩:=at_T61 HR0.out x10_1 p144 q144
        cases e144
        replace hx144_0:=(HB.out.cell (World.block_lt_of_cell? w _ hx144_0)).trans hx144_0
        replace hx144_1:=(HB.out.cell (World.block_lt_of_cell? w _ hx144_1)).trans hx144_1
        replace hx144_2:=(HB.out.cell (World.block_lt_of_cell? w _ hx144_2)).trans hx144_2
        replace hx144_3:=(HB.out.cell (World.block_lt_of_cell? w _ hx144_3)).trans hx144_3
        have HR144_1:=zqd.mk hi144_1
        have HC144_1:=zqd.mk hl144_1
        clear hi144_1 hl144_1
        have HR144_2:=zqd.mk hi144_2
        have HC144_2:=zqd.mk hl144_2
        clear hi144_2 hl144_2
        have HR144_3:=zqd.mk hi144_3
        have HC144_3:=zqd.mk hl144_3
        clear hi144_3 hl144_3
        replace p144:=eq_true p144
        replace q144:=eq_true q144
        go_wp2_with (first|((with_reducible refine zqx (N:=4) rfl ?_);refine zqt ?hg (N:=4) ?hd (cs:=#[.string (⟨#[]⟩:ByteArray),.slice none 0 0,.slice none 0 0,.slice none 0 0]) (t:=61) ?hr ?_;(case hd=>rfl);(case hg=>rfl);(case hr=>first|(go_simp;done)|(go_simp;rfl));intro gb145 hg w11 hbox hb;have n0_:=zqd.mk (zqn (by repeat(first|(with_reducible first|exact HB.out|apply zqb|apply zqa|apply zqc)|exact HB.out)) hb);have n1_:=zqd.mk (hbox);have n2_:=zqd.mk ((by rw [hg];exact(zqk (by repeat(first|(with_reducible first|exact HB.out|apply zqb|apply zqa|apply zqc)|exact HB.out))):w.heap.size≤gb145));have n3_:=zqd.mk ((by rw [hg];exact(zqk (by repeat(first|(with_reducible first|exact HB.out|apply zqb|apply zqa|apply zqc)|exact HB.out))):w.heap.size≤gb145));clear HB;have HB:=n0_;have BK145:=n1_;have GW145:=n2_;have GE145:=n3_;clear n0_ n1_ n2_ n3_ hb hbox hg;have hcz12_0:w11.cell? ⟨gb145,0,none⟩=some (.string (⟨#[]⟩:ByteArray)):=(zqf BK145.out 0).trans rfl;have hcz12_1:w11.cell? ⟨gb145,1,none⟩=some (.slice none 0 0):=(zqf BK145.out 1).trans rfl;have hcz12_2:w11.cell? ⟨gb145,2,none⟩=some (.slice none 0 0):=(zqf BK145.out 2).trans rfl;have hcz12_3:w11.cell? ⟨gb145,3,none⟩=some (.slice none 0 0):=(zqf BK145.out 3).trans rfl;have hfz12_0:=zqe BK145.out 0;have hfz12_1:=zqe BK145.out 1;have hfz12_2:=zqe BK145.out 2;have hfz12_3:=zqe BK145.out 3)|((with_reducible refine zqv (f:=92) rfl ?_);refine zq8 (some 15) rfl rfl Tryd.func92 (by kernel_rfl) rfl #[.agg #[.string ((zqo l0 x10_1).f0),.slice A144_1 ((zqo l0 x10_1).f1).length c144_1,.slice A144_2 ((zqo l0 x10_1).f2).length c144_2,.slice A144_3 ((zqo l0 x10_1).f3).length c144_3]] rfl (by(try simp only [List.map_toArray,List.map_cons,List.map_nil]);first|done|rfl|(simp only [List.length_drop,List.length_take];rfl)) ?_;(with_reducible refine(zjs.calls k1 ((zqo l0 x10_1).f0) _ _ ((zqo l0 x10_1).f1) _ _ ((zqo l0 x10_1).f2) _ _ ((zqo l0 x10_1).f3) false _ ?side1 ?side2 ?side3 ?side4 ?side5 ?side6 ?side7 A6.out).mono ?_);(case side1=>exact Kd.zq3 HR144_1.out (by repeat(first|(with_reducible first|exact HB.out|apply zqb|apply zqa|apply zqc|refine zqi ?_ GE145.out)|exact HB.out)));(case side2=>exact HC144_1.out);(case side3=>exact Kd.zq3 HR144_2.out (by repeat(first|(with_reducible first|exact HB.out|apply zqb|apply zqa|apply zqc|refine zqi ?_ GE145.out)|exact HB.out)));(case side4=>exact HC144_2.out);(case side5=>exact Kd.zq3 HR144_3.out (by repeat(first|(with_reducible first|exact HB.out|apply zqb|apply zqa|apply zqc|refine zqi ?_ GE145.out)|exact HB.out)));(case side6=>exact HC144_3.out);(case side7=>exact LD.below HLD.out (by first|(with_reducible exact Below.refl _ _)|((repeat(first|(with_reducible exact Below.refl _ _)|(with_reducible apply zqb)|(with_reducible apply zqa)|(with_reducible apply zqc)));done)|exact(by repeat(first|(with_reducible first|exact HB.out|apply zqb|apply zqa|apply zqc|refine zqi ?_ GE145.out)|exact HB.out))));rintro e w13 ⟨rfl,hb⟩;refine⟨_,rfl,?_⟩;have n0_:=zqd.mk (zqr (g:=gb145) (o:=.cells #[.string ((zqo l0 x10_1).f0),.slice A144_1 ((zqo l0 x10_1).f1).length c144_1,.slice A144_2 ((zqo l0 x10_1).f2).length c144_2,.slice A144_3 ((zqo l0 x10_1).f3).length c144_3] 61 (0,0)) (by(with_reducible repeat(first|refine zqg ?_ _|refine zqj ?_|refine zqh ?_ _));refine zqu (cs:=#[.string ((zqo l0 x10_1).f0),.slice A144_1 ((zqo l0 x10_1).f1).length c144_1,.slice A144_2 ((zqo l0 x10_1).f2).length c144_2,.slice none 0 0]) ?_ 3 _ rfl;(with_reducible repeat(first|refine zqg ?_ _|refine zqj ?_|refine zqh ?_ _));refine zqu (cs:=#[.string ((zqo l0 x10_1).f0),.slice A144_1 ((zqo l0 x10_1).f1).length c144_1,.slice none 0 0,.slice none 0 0]) ?_ 2 _ rfl;(with_reducible repeat(first|refine zqg ?_ _|refine zqj ?_|refine zqh ?_ _));refine zqu (cs:=#[.string ((zqo l0 x10_1).f0),.slice none 0 0,.slice none 0 0,.slice none 0 0]) ?_ 1 _ rfl;(with_reducible repeat(first|refine zqg ?_ _|refine zqj ?_|refine zqh ?_ _));refine zqu (cs:=#[.string (⟨#[]⟩:ByteArray),.slice none 0 0,.slice none 0 0,.slice none 0 0]) ?_ 0 _ rfl;(with_reducible repeat(first|refine zqg ?_ _|refine zqj ?_|refine zqh ?_ _));exact BK145.out) hb);have n1_:=zqd.mk (zqn (by repeat(first|(with_reducible first|exact HB.out|apply zqb|apply zqa|apply zqc|refine zqi ?_ GE145.out)|exact HB.out)) hb);clear BK145 HB;have BK145:=n0_;have HB:=n1_;clear n0_ n1_;(try clear hb);(try clear hb2);(try clear hk);(try clear hi)))
        go_ret
        exact⟨by first|rfl|(simp [zqm,zql] <;> rfl)|(simp [*,zqm,zql] <;> rfl),by repeat(first|(with_reducible first|exact HB.out|apply zqb|apply zqa|apply zqc|refine zqi ?_ GE145.out)|exact HB.out)⟩
      ·rw [if_neg c5] at H
       exact absurd H (by simp)
     ·rw [if_neg c4] at H
      exact absurd H (by simp)
    ·rw [if_neg c3] at H
     have c3b0:decide (x10_1<(l0.length:Int))=false:=decide_eq_false c3
     clear c3
     replace H:=Option.bind_eq_some_iff.mp H
     obtain ⟨t147,A140,H⟩:=H
     replace H:((zjt.f k1 t147).bind fun t150=>(some t150))=some r:=H
     have A14:=zqd.mk A140
     clear A140
     replace H:=Option.bind_eq_some_iff.mp H
     obtain ⟨t150,A150,H⟩:=H
     replace H:(some t150)=some r:=H
     have A15:=zqd.mk A150
     clear A150
     obtain rfl:=Option.some.inj H
     go_wp2_with (first|((with_reducible refine zqv (f:=94) rfl ?_);refine zq8 (some 19) rfl rfl Tryd.func94 (by kernel_rfl) rfl #[.slice A0 l0.length c0,.func (.func 95) #[] #[]] rfl (by(try simp only [List.map_toArray,List.map_cons,List.map_nil]);first|done|rfl|(simp only [List.length_drop,List.length_take];rfl)) ?_;(with_reducible refine(zx1.calls _ _ l0 t147 _ ?side1 ?side2 A14.out).mono ?_);(case side1=>repeat(first|exact(Kd.zq3 HR0.out HB.out)|(with_reducible refine Kd.zqw ?_ _)|(with_reducible refine Kd.zqy ?_ _)|(with_reducible refine Kd.zq2 ?_)));(case side2=>exact HC0.out);rintro e w16 ⟨v148,rfl,ho0,hb⟩;refine⟨_,rfl,?_⟩;have n0_:=zqd.mk (Kd.zko ho0 (zqk (by repeat(first|(with_reducible first|exact HB.out|apply zqb|apply zqa|apply zqc)|exact HB.out))));have n1_:=zqd.mk (zqn (by repeat(first|(with_reducible first|exact HB.out|apply zqb|apply zqa|apply zqc)|exact HB.out)) hb);clear HB;have HO149:=n0_;have HB:=n1_;clear n0_ n1_;(try clear hb);(try clear hb2);(try clear hk);(try clear hi);(try clear ho0);obtain ⟨Ao17,co17,eo17⟩:=Kd.zx7 HO149.out;subst eo17)|((with_reducible refine zqv (f:=93) rfl ?_);refine zq8 (some 20) rfl rfl Tryd.func93 (by kernel_rfl) rfl #[.slice Ao17 t147.length co17] rfl (by(try simp only [List.map_toArray,List.map_cons,List.map_nil]);first|done|rfl|(simp only [List.length_drop,List.length_take];rfl)) ?_;(with_reducible refine(zjt.calls k1 _ _ t147 t150 _ ?side1 ?side2 ?side3 A15.out).mono ?_);(case side1=>repeat(first|exact(Kd.zxu HO149.out).2.2|(with_reducible refine Kd.zqw ?_ _)|(with_reducible refine Kd.zqy ?_ _)|(with_reducible refine Kd.zq2 ?_)));(case side2=>exact(Kd.zxu HO149.out).2.1);(case side3=>exact LD.below HLD.out (by first|(with_reducible exact Below.refl _ _)|((repeat(first|(with_reducible exact Below.refl _ _)|(with_reducible apply zqb)|(with_reducible apply zqa)|(with_reducible apply zqc)));done)|exact(by repeat(first|(with_reducible first|exact HB.out|apply zqb|apply zqa|apply zqc)|exact HB.out))));rintro e w18 ⟨rfl,hb⟩;refine⟨_,rfl,?_⟩;have n0_:=zqd.mk (Kd.zxy (by(with_reducible repeat(first|apply Kd.zq4|apply Kd.zq5|apply Kd.zq7));exact HO149.out) hb);have n1_:=zqd.mk (zqn (by repeat(first|(with_reducible first|exact HB.out|apply zqb|apply zqa|apply zqc)|exact HB.out)) hb);clear HO149 HB;have HO149:=n0_;have HB:=n1_;clear n0_ n1_;(try clear hb);(try clear hb2);(try clear hk);(try clear hi)))
     go_ret
     exact⟨by first|rfl|(simp [zqm,zql] <;> rfl)|(simp [*,zqm,zql] <;> rfl),by repeat(first|(with_reducible first|exact HB.out|apply zqb|apply zqa|apply zqc)|exact HB.out)⟩

/-! ### zxv: function 28 -/
def zxv.f (k:Nat) (l0:List (S61)) (a1:Int):Option (ByteArray × (List (S90)) × List Int × (List (S96)) × Int):=(zj0.f k l0).bind fun t152=>(if t152=true then(if a1<0 then(some ((⟨#[]⟩:ByteArray),([]:List (S90)),([]:List Int),([]:List (S96)),2)) else (if a1 ≥ (l0.length:Int) then(some ((⟨#[]⟩:ByteArray),([]:List (S90)),([]:List Int),([]:List (S96)),2)) else (if 0≤a1 then(if a1<(l0.length:Int) then(some ((zqo l0 a1).f0,(zqo l0 a1).f1,(zqo l0 a1).f2,(zqo l0 a1).f3,0)) else (none)) else (none)))) else (some ((⟨#[]⟩:ByteArray),([]:List (S90)),([]:List Int),([]:List (S96)),4)))
theorem zxv.mono:∀ a0 a1 k,LeO (zxv.f k a0 a1) (zxv.f (k+1) a0 a1):=by
 intro a0 a1 k
 unfold zxv.f
 repeat' first
   | (with_reducible first|exact zj0.mono _ _|exact LeO.refl _|exact LeO.none _|refine LeO.ite ?_ ?_|refine LeO.bind ?_ (fun _=>?_))
   | exact zj0.mono _ _
   | exact LeO.none _
   | refine LeO.ite ?_ ?_
   | refine LeO.bind ?_ (fun _=>?_)
set_option maxHeartbeats 8000000 in
set_option maxRecDepth 100000 in
theorem zxv.calls (k:Nat) (P0_:Nat→Prop) (A0:Option Addr) (c0:Nat) (l0:List (S61)) (a1:Int) (r1:ByteArray) (r2:List (S90)) (r3:List Int) (r4:List (S96)) (r5:Int) (w:World) (hs0:Kd.V k61 61 w w.heap.size (fun k_=>P0_ k_) (.slice A0 l0.length c0) l0) (hL:LD w) (h:zxv.f k l0 a1=some (r1,r2,r3,r4,r5)) :
  Calls Tryd.prog 28 #[.slice A0 l0.length c0,.int .i64 a1] w fun e w' => ∃ v1_ v2_ v3_:Value,e = .returned (.tuple #[.agg #[.string r1,v1_,v2_,v3_],.int .i64 r5])∧Kd.V k90 90 w' w.heap.size (fun k_=>(P0_ k_∨w.heap.size≤k_)) v1_ r2∧Kd.V (Kd.int .i64) 3 w' w.heap.size (fun k_=>(P0_ k_∨w.heap.size≤k_)) v2_ r3∧Kd.V k96 96 w' w.heap.size (fun k_=>(P0_ k_∨w.heap.size≤k_)) v3_ r4∧Below w.heap.size w w':=by
 have hu61:=Tryd.underlying61
 have HLD:=zqd.mk hL
 clear hL
 have HO0:=zqd.mk (show Kd.V k61 61 w w.heap.size (fun k_=>(P0_ k_∨w.heap.size≤k_)) (.slice A0 l0.length c0) l0 from Kd.zq9 hs0 (fun k_ hk=>.inl hk))
 have HB:=zqd.mk (Below.refl w.heap.size w)
 have H:((zj0.f k l0).bind fun t152=>(if t152=true then(if a1<0 then(some ((⟨#[]⟩:ByteArray),([]:List (S90)),([]:List Int),([]:List (S96)),2)) else (if a1 ≥ (l0.length:Int) then(some ((⟨#[]⟩:ByteArray),([]:List (S90)),([]:List Int),([]:List (S96)),2)) else (if 0≤a1 then(if a1<(l0.length:Int) then(some ((zqo l0 a1).f0,(zqo l0 a1).f1,(zqo l0 a1).f2,(zqo l0 a1).f3,0)) else (none)) else (none)))) else (some ((⟨#[]⟩:ByteArray),([]:List (S90)),([]:List Int),([]:List (S96)),4))))=some (r1,r2,r3,r4,r5):=h
 clear h
 replace H:=Option.bind_eq_some_iff.mp H
 obtain ⟨t152,A30,H⟩:=H
 replace H:(if t152=true then(if a1<0 then(some ((⟨#[]⟩:ByteArray),([]:List (S90)),([]:List Int),([]:List (S96)),2)) else (if a1 ≥ (l0.length:Int) then(some ((⟨#[]⟩:ByteArray),([]:List (S90)),([]:List Int),([]:List (S96)),2)) else (if 0≤a1 then(if a1<(l0.length:Int) then(some ((zqo l0 a1).f0,(zqo l0 a1).f1,(zqo l0 a1).f2,(zqo l0 a1).f3,0)) else (none)) else (none)))) else (some ((⟨#[]⟩:ByteArray),([]:List (S90)),([]:List Int),([]:List (S96)),4)))=some (r1,r2,r3,r4,r5):=H
 have A3:=zqd.mk A30
 clear A30
 by_cases c4:t152=true
 ·subst c4
  have H1:(if a1<0 then(some ((⟨#[]⟩:ByteArray),([]:List (S90)),([]:List Int),([]:List (S96)),2)) else (if a1 ≥ (l0.length:Int) then(some ((⟨#[]⟩:ByteArray),([]:List (S90)),([]:List Int),([]:List (S96)),2)) else (if 0≤a1 then(if a1<(l0.length:Int) then(some ((zqo l0 a1).f0,(zqo l0 a1).f1,(zqo l0 a1).f2,(zqo l0 a1).f3,0)) else (none)) else (none))))=some (r1,r2,r3,r4,r5):=by rw [if_pos rfl] at H;exact H
  clear H
  have H:=H1
  clear H1
  by_cases c5:a1<0
  ·rw [if_pos c5] at H
   have c5b0:decide (a1<0)=true:=decide_eq_true c5
   clear c5
   simp only [Option.some.injEq,Prod.mk.injEq] at H
   obtain ⟨rfl,rfl,rfl,rfl,rfl⟩:=H
   go_enter Tryd.func28,Tryd.ntmps28
   go_wp2_with (first|((with_reducible refine zqx (N:=4) rfl ?_);(try(refine zqz (by rfl) ?_;dsimp only));refine zqt ?hg (N:=4) ?hd (cs:=#[.string (⟨#[]⟩:ByteArray),.slice none 0 0,.slice none 0 0,.slice none 0 0]) (t:=61) ?hr ?_;(case hd=>rfl);(case hg=>rfl);(case hr=>first|(go_simp;done)|(go_simp;rfl));intro gb151 hg w6 hbox hb;have n0_:=zqd.mk (Kd.zxw (Kd.zkd (by(with_reducible repeat(first|apply Kd.zxe|apply Kd.zxd|apply Kd.zxt));exact HO0.out) gb151 (Nat.le_of_eq hg.symm)) hb);have n1_:=zqd.mk (zqn (by repeat(first|(with_reducible first|exact HB.out|apply zqb|apply zqa|apply zqc)|exact HB.out)) hb);have n2_:=zqd.mk (hbox);have n3_:=zqd.mk ((by rw [hg];exact(zqk (by repeat(first|(with_reducible first|exact HB.out|apply zqb|apply zqa|apply zqc)|exact HB.out))):w.heap.size≤gb151));have n4_:=zqd.mk ((by rw [hg];exact(zqk (by repeat(first|(with_reducible first|exact HB.out|apply zqb|apply zqa|apply zqc)|exact HB.out))):w.heap.size≤gb151));clear HO0 HB;have HO0:=n0_;have HB:=n1_;have BK151:=n2_;have GW151:=n3_;have GE151:=n4_;clear n0_ n1_ n2_ n3_ n4_ hb hbox hg)|((with_reducible refine zqv (f:=56) rfl ?_);refine zq8 (some 7) rfl rfl Tryd.func56 (by kernel_rfl) rfl #[.slice A0 l0.length c0] rfl (by(try simp only [List.map_toArray,List.map_cons,List.map_nil]);first|done|rfl|(simp only [List.length_drop,List.length_take];rfl)) ?_;(with_reducible refine(zj0.calls k _ _ l0 true _ ?side1 ?side2 ?side3 A3.out).mono ?_);(case side1=>repeat(first|exact(Kd.zxc HO0.out).2.2|(with_reducible refine Kd.zqw ?_ _)|(with_reducible refine Kd.zqy ?_ _)|(with_reducible refine Kd.zq2 ?_)));(case side2=>exact(Kd.zxc HO0.out).2.1);(case side3=>exact LD.below HLD.out (by first|(with_reducible exact Below.refl _ _)|((repeat(first|(with_reducible exact Below.refl _ _)|(with_reducible apply zqb)|(with_reducible apply zqa)|(with_reducible apply zqc)));done)|exact(by repeat(first|(with_reducible first|exact HB.out|apply zqb|apply zqa|apply zqc|refine zqi ?_ GE151.out)|exact HB.out))));rintro e w7 ⟨rfl,hb⟩;refine⟨_,rfl,?_⟩;have n0_:=zqd.mk (Kd.zxw (by(with_reducible repeat(first|apply Kd.zxe|apply Kd.zxd|apply Kd.zxt));exact HO0.out) hb);have n1_:=zqd.mk (zqr (g:=gb151) (o:=.cells #[.string (⟨#[]⟩:ByteArray),.slice none 0 0,.slice none 0 0,.slice none 0 0] 61 (0,0)) (by(with_reducible repeat(first|refine zqg ?_ _|refine zqj ?_|refine zqh ?_ _));exact BK151.out) hb);have n2_:=zqd.mk (zqn (by repeat(first|(with_reducible first|exact HB.out|apply zqb|apply zqa|apply zqc|refine zqi ?_ GE151.out)|exact HB.out)) hb);clear HO0 BK151 HB;have HO0:=n0_;have BK151:=n1_;have HB:=n2_;clear n0_ n1_ n2_;(try clear hb);(try clear hb2);(try clear hk);(try clear hi);have hcz8_0:w7.cell? ⟨gb151,0,none⟩=some (.string (⟨#[]⟩:ByteArray)):=(zqf BK151.out 0).trans rfl;have hcz8_1:w7.cell? ⟨gb151,1,none⟩=some (.slice none 0 0):=(zqf BK151.out 1).trans rfl;have hcz8_2:w7.cell? ⟨gb151,2,none⟩=some (.slice none 0 0):=(zqf BK151.out 2).trans rfl;have hcz8_3:w7.cell? ⟨gb151,3,none⟩=some (.slice none 0 0):=(zqf BK151.out 3).trans rfl;have hfz8_0:=zqe BK151.out 0;have hfz8_1:=zqe BK151.out 1;have hfz8_2:=zqe BK151.out 2;have hfz8_3:=zqe BK151.out 3))
   refine bodyPost_ret (results_ct rfl _ _ gb151 61 #[.string (⟨#[]⟩:ByteArray),.slice none 0 0,.slice none 0 0,.slice none 0 0] (0,0) _ rfl (by(with_reducible repeat(first|refine zqg ?_ _|refine zqj ?_|refine zqh ?_ _));refine zqu (cs:=#[.string (⟨#[]⟩:ByteArray),.slice none 0 0,.slice none 0 0,.slice none 0 0]) ?_ 3 _ rfl;(with_reducible repeat(first|refine zqg ?_ _|refine zqj ?_|refine zqh ?_ _));refine zqu (cs:=#[.string (⟨#[]⟩:ByteArray),.slice none 0 0,.slice none 0 0,.slice none 0 0]) ?_ 2 _ rfl;(with_reducible repeat(first|refine zqg ?_ _|refine zqj ?_|refine zqh ?_ _));refine zqu (cs:=#[.string (⟨#[]⟩:ByteArray),.slice none 0 0,.slice none 0 0,.slice none 0 0]) ?_ 1 _ rfl;(with_reducible repeat(first|refine zqg ?_ _|refine zqj ?_|refine zqh ?_ _));refine zqu (cs:=#[.string (⟨#[]⟩:ByteArray),.slice none 0 0,.slice none 0 0,.slice none 0 0]) ?_ 0 _ rfl;(with_reducible repeat(first|refine zqg ?_ _|refine zqj ?_|refine zqh ?_ _));exact BK151.out) Tryd.underlying61 rfl (by kernel_rfl)) rfl ?_
   exact⟨_,_,_,by first|rfl|(simp [zqm,zql] <;> rfl)|(simp [*,zqm,zql] <;> rfl),(by first|exact Kd.V_nil _ _ _ _ _|exact Kd.zq9 (Kd.R_V (by first|exact Kd.R_nil _ _ _ _ _|exact Kd.N_nil _ _ _ _ _|exact Kd.V_nil _ _ _ _ _|exact Kd.Q_nil _ _ _ _ _|exact Kd.S_nil _ _ _ _ _)) (fun k_ hk=>by first|exact⟨(.inr (hk.1)),hk.2⟩|exact(.inr (hk)))),(by first|exact Kd.V_nil _ _ _ _ _|exact Kd.zq9 (Kd.R_V (by first|exact Kd.R_nil _ _ _ _ _|exact Kd.N_nil _ _ _ _ _|exact Kd.V_nil _ _ _ _ _|exact Kd.Q_nil _ _ _ _ _|exact Kd.S_nil _ _ _ _ _)) (fun k_ hk=>by first|exact⟨(.inr (hk.1)),hk.2⟩|exact(.inr (hk)))),(by first|exact Kd.V_nil _ _ _ _ _|exact Kd.zq9 (Kd.S_V (by first|exact Kd.S_nil _ _ _ _ _|exact Kd.N_nil _ _ _ _ _|exact Kd.V_nil _ _ _ _ _|exact Kd.Q_nil _ _ _ _ _|exact Kd.R_nil _ _ _ _ _)) (fun k_ hk=>by first|exact⟨(.inr (hk.1)),hk.2⟩|exact(.inr (hk)))),by repeat(first|(with_reducible first|exact HB.out|apply zqb|apply zqa|apply zqc|refine zqi ?_ GE151.out)|exact HB.out)⟩
  ·rw [if_neg c5] at H
   have c5b0:decide (a1<0)=false:=decide_eq_false c5
   clear c5
   by_cases c9:a1 ≥ (l0.length:Int)
   ·rw [if_pos c9] at H
    have c9b0:decide ((l0.length:Int)≤a1)=true:=decide_eq_true c9
    clear c9
    simp only [Option.some.injEq,Prod.mk.injEq] at H
    obtain ⟨rfl,rfl,rfl,rfl,rfl⟩:=H
    go_enter Tryd.func28,Tryd.ntmps28
    go_wp2_with (first|((with_reducible refine zqx (N:=4) rfl ?_);(try(refine zqz (by rfl) ?_;dsimp only));refine zqt ?hg (N:=4) ?hd (cs:=#[.string (⟨#[]⟩:ByteArray),.slice none 0 0,.slice none 0 0,.slice none 0 0]) (t:=61) ?hr ?_;(case hd=>rfl);(case hg=>rfl);(case hr=>first|(go_simp;done)|(go_simp;rfl));intro gb151 hg w10 hbox hb;have n0_:=zqd.mk (Kd.zxw (Kd.zkd (by(with_reducible repeat(first|apply Kd.zxe|apply Kd.zxd|apply Kd.zxt));exact HO0.out) gb151 (Nat.le_of_eq hg.symm)) hb);have n1_:=zqd.mk (zqn (by repeat(first|(with_reducible first|exact HB.out|apply zqb|apply zqa|apply zqc)|exact HB.out)) hb);have n2_:=zqd.mk (hbox);have n3_:=zqd.mk ((by rw [hg];exact(zqk (by repeat(first|(with_reducible first|exact HB.out|apply zqb|apply zqa|apply zqc)|exact HB.out))):w.heap.size≤gb151));have n4_:=zqd.mk ((by rw [hg];exact(zqk (by repeat(first|(with_reducible first|exact HB.out|apply zqb|apply zqa|apply zqc)|exact HB.out))):w.heap.size≤gb151));clear HO0 HB;have HO0:=n0_;have HB:=n1_;have BK151:=n2_;have GW151:=n3_;have GE151:=n4_;clear n0_ n1_ n2_ n3_ n4_ hb hbox hg)|((with_reducible refine zqv (f:=56) rfl ?_);refine zq8 (some 7) rfl rfl Tryd.func56 (by kernel_rfl) rfl #[.slice A0 l0.length c0] rfl (by(try simp only [List.map_toArray,List.map_cons,List.map_nil]);first|done|rfl|(simp only [List.length_drop,List.length_take];rfl)) ?_;(with_reducible refine(zj0.calls k _ _ l0 true _ ?side1 ?side2 ?side3 A3.out).mono ?_);(case side1=>repeat(first|exact(Kd.zxc HO0.out).2.2|(with_reducible refine Kd.zqw ?_ _)|(with_reducible refine Kd.zqy ?_ _)|(with_reducible refine Kd.zq2 ?_)));(case side2=>exact(Kd.zxc HO0.out).2.1);(case side3=>exact LD.below HLD.out (by first|(with_reducible exact Below.refl _ _)|((repeat(first|(with_reducible exact Below.refl _ _)|(with_reducible apply zqb)|(with_reducible apply zqa)|(with_reducible apply zqc)));done)|exact(by repeat(first|(with_reducible first|exact HB.out|apply zqb|apply zqa|apply zqc|refine zqi ?_ GE151.out)|exact HB.out))));rintro e w11 ⟨rfl,hb⟩;refine⟨_,rfl,?_⟩;have n0_:=zqd.mk (Kd.zxw (by(with_reducible repeat(first|apply Kd.zxe|apply Kd.zxd|apply Kd.zxt));exact HO0.out) hb);have n1_:=zqd.mk (zqr (g:=gb151) (o:=.cells #[.string (⟨#[]⟩:ByteArray),.slice none 0 0,.slice none 0 0,.slice none 0 0] 61 (0,0)) (by(with_reducible repeat(first|refine zqg ?_ _|refine zqj ?_|refine zqh ?_ _));exact BK151.out) hb);have n2_:=zqd.mk (zqn (by repeat(first|(with_reducible first|exact HB.out|apply zqb|apply zqa|apply zqc|refine zqi ?_ GE151.out)|exact HB.out)) hb);clear HO0 BK151 HB;have HO0:=n0_;have BK151:=n1_;have HB:=n2_;clear n0_ n1_ n2_;(try clear hb);(try clear hb2);(try clear hk);(try clear hi);have hcz12_0:w11.cell? ⟨gb151,0,none⟩=some (.string (⟨#[]⟩:ByteArray)):=(zqf BK151.out 0).trans rfl;have hcz12_1:w11.cell? ⟨gb151,1,none⟩=some (.slice none 0 0):=(zqf BK151.out 1).trans rfl;have hcz12_2:w11.cell? ⟨gb151,2,none⟩=some (.slice none 0 0):=(zqf BK151.out 2).trans rfl;have hcz12_3:w11.cell? ⟨gb151,3,none⟩=some (.slice none 0 0):=(zqf BK151.out 3).trans rfl;have hfz12_0:=zqe BK151.out 0;have hfz12_1:=zqe BK151.out 1;have hfz12_2:=zqe BK151.out 2;have hfz12_3:=zqe BK151.out 3))
    refine bodyPost_ret (results_ct rfl _ _ gb151 61 #[.string (⟨#[]⟩:ByteArray),.slice none 0 0,.slice none 0 0,.slice none 0 0] (0,0) _ rfl (by(with_reducible repeat(first|refine zqg ?_ _|refine zqj ?_|refine zqh ?_ _));refine zqu (cs:=#[.string (⟨#[]⟩:ByteArray),.slice none 0 0,.slice none 0 0,.slice none 0 0]) ?_ 3 _ rfl;(with_reducible repeat(first|refine zqg ?_ _|refine zqj ?_|refine zqh ?_ _));refine zqu (cs:=#[.string (⟨#[]⟩:ByteArray),.slice none 0 0,.slice none 0 0,.slice none 0 0]) ?_ 2 _ rfl;(with_reducible repeat(first|refine zqg ?_ _|refine zqj ?_|refine zqh ?_ _));refine zqu (cs:=#[.string (⟨#[]⟩:ByteArray),.slice none 0 0,.slice none 0 0,.slice none 0 0]) ?_ 1 _ rfl;(with_reducible repeat(first|refine zqg ?_ _|refine zqj ?_|refine zqh ?_ _));refine zqu (cs:=#[.string (⟨#[]⟩:ByteArray),.slice none 0 0,.slice none 0 0,.slice none 0 0]) ?_ 0 _ rfl;(with_reducible repeat(first|refine zqg ?_ _|refine zqj ?_|refine zqh ?_ _));exact BK151.out) Tryd.underlying61 rfl (by kernel_rfl)) rfl ?_
    exact⟨_,_,_,by first|rfl|(simp [zqm,zql] <;> rfl)|(simp [*,zqm,zql] <;> rfl),(by first|exact Kd.V_nil _ _ _ _ _|exact Kd.zq9 (Kd.R_V (by first|exact Kd.R_nil _ _ _ _ _|exact Kd.N_nil _ _ _ _ _|exact Kd.V_nil _ _ _ _ _|exact Kd.Q_nil _ _ _ _ _|exact Kd.S_nil _ _ _ _ _)) (fun k_ hk=>by first|exact⟨(.inr (hk.1)),hk.2⟩|exact(.inr (hk)))),(by first|exact Kd.V_nil _ _ _ _ _|exact Kd.zq9 (Kd.R_V (by first|exact Kd.R_nil _ _ _ _ _|exact Kd.N_nil _ _ _ _ _|exact Kd.V_nil _ _ _ _ _|exact Kd.Q_nil _ _ _ _ _|exact Kd.S_nil _ _ _ _ _)) (fun k_ hk=>by first|exact⟨(.inr (hk.1)),hk.2⟩|exact(.inr (hk)))),(by first|exact Kd.V_nil _ _ _ _ _|exact Kd.zq9 (Kd.S_V (by first|exact Kd.S_nil _ _ _ _ _|exact Kd.N_nil _ _ _ _ _|exact Kd.V_nil _ _ _ _ _|exact Kd.Q_nil _ _ _ _ _|exact Kd.R_nil _ _ _ _ _)) (fun k_ hk=>by first|exact⟨(.inr (hk.1)),hk.2⟩|exact(.inr (hk)))),by repeat(first|(with_reducible first|exact HB.out|apply zqb|apply zqa|apply zqc|refine zqi ?_ GE151.out)|exact HB.out)⟩
   ·rw [if_neg c9] at H
    have c9b0:decide ((l0.length:Int)≤a1)=false:=decide_eq_false c9
    clear c9
    by_cases c13:0≤a1
    ·rw [if_pos c13] at H
     have c13b0:decide (0≤a1)=true:=decide_eq_true c13
     clear c13
     by_cases c14:a1<(l0.length:Int)
     ·rw [if_pos c14] at H
      have c14b0:decide (a1<(l0.length:Int))=true:=decide_eq_true c14
      clear c14
      simp only [Option.some.injEq,Prod.mk.injEq] at H
      obtain ⟨rfl,rfl,rfl,rfl,rfl⟩:=H
      go_enter Tryd.func28,Tryd.ntmps28
      go_wp2_with (first|((with_reducible refine zqx (N:=4) rfl ?_);(try(refine zqz (by rfl) ?_;dsimp only));refine zqt ?hg (N:=4) ?hd (cs:=#[.string (⟨#[]⟩:ByteArray),.slice none 0 0,.slice none 0 0,.slice none 0 0]) (t:=61) ?hr ?_;(case hd=>rfl);(case hg=>rfl);(case hr=>first|(go_simp;done)|(go_simp;rfl));intro gb151 hg w15 hbox hb;have n0_:=zqd.mk (Kd.zxw (Kd.zkd (by(with_reducible repeat(first|apply Kd.zxe|apply Kd.zxd|apply Kd.zxt));exact HO0.out) gb151 (Nat.le_of_eq hg.symm)) hb);have n1_:=zqd.mk (zqn (by repeat(first|(with_reducible first|exact HB.out|apply zqb|apply zqa|apply zqc)|exact HB.out)) hb);have n2_:=zqd.mk (hbox);have n3_:=zqd.mk ((by rw [hg];exact(zqk (by repeat(first|(with_reducible first|exact HB.out|apply zqb|apply zqa|apply zqc)|exact HB.out))):w.heap.size≤gb151));have n4_:=zqd.mk ((by rw [hg];exact(zqk (by repeat(first|(with_reducible first|exact HB.out|apply zqb|apply zqa|apply zqc)|exact HB.out))):w.heap.size≤gb151));clear HO0 HB;have HO0:=n0_;have HB:=n1_;have BK151:=n2_;have GW151:=n3_;have GE151:=n4_;clear n0_ n1_ n2_ n3_ n4_ hb hbox hg)|((with_reducible refine zqv (f:=56) rfl ?_);refine zq8 (some 7) rfl rfl Tryd.func56 (by kernel_rfl) rfl #[.slice A0 l0.length c0] rfl (by(try simp only [List.map_toArray,List.map_cons,List.map_nil]);first|done|rfl|(simp only [List.length_drop,List.length_take];rfl)) ?_;(with_reducible refine(zj0.calls k _ _ l0 true _ ?side1 ?side2 ?side3 A3.out).mono ?_);(case side1=>repeat(first|exact(Kd.zxc HO0.out).2.2|(with_reducible refine Kd.zqw ?_ _)|(with_reducible refine Kd.zqy ?_ _)|(with_reducible refine Kd.zq2 ?_)));(case side2=>exact(Kd.zxc HO0.out).2.1);(case side3=>exact LD.below HLD.out (by first|(with_reducible exact Below.refl _ _)|((repeat(first|(with_reducible exact Below.refl _ _)|(with_reducible apply zqb)|(with_reducible apply zqa)|(with_reducible apply zqc)));done)|exact(by repeat(first|(with_reducible first|exact HB.out|apply zqb|apply zqa|apply zqc|refine zqi ?_ GE151.out)|exact HB.out))));rintro e w16 ⟨rfl,hb⟩;refine⟨_,rfl,?_⟩;have n0_:=zqd.mk (Kd.zxw (by(with_reducible repeat(first|apply Kd.zxe|apply Kd.zxd|apply Kd.zxt));exact HO0.out) hb);have n1_:=zqd.mk (zqr (g:=gb151) (o:=.cells #[.string (⟨#[]⟩:ByteArray),.slice none 0 0,.slice none 0 0,.slice none 0 0] 61 (0,0)) (by(with_reducible repeat(first|refine zqg ?_ _|refine zqj ?_|refine zqh ?_ _));exact BK151.out) hb);have n2_:=zqd.mk (zqn (by repeat(first|(with_reducible first|exact HB.out|apply zqb|apply zqa|apply zqc|refine zqi ?_ GE151.out)|exact HB.out)) hb);clear HO0 BK151 HB;have HO0:=n0_;have BK151:=n1_;have HB:=n2_;clear n0_ n1_ n2_;(try clear hb);(try clear hb2);(try clear hk);(try clear hi);have p153:0≤(a1:Int):=of_decide_eq_true (by first|(with_reducible assumption)|assumption);have q153:a1<(l0.length:Int):=of_decide_eq_true (by first|(with_reducible assumption)|assumption);obtain ⟨ad153,A153_1,c153_1,A153_2,c153_2,A153_3,c153_3,e153,hx153_0,hx153_1,hx153_2,hx153_3,hl153_1,hi153_1,hl153_2,hi153_2,hl153_3,hi153_3⟩:=at_T61 (Kd.zxc HO0.out).2.2 a1 p153 q153;cases e153;obtain ⟨ce153,hce153,hMe153,hcc153⟩:=Kd.V_get HO0.out z61 a1 p153 (by first|exact q153|exact of_decide_eq_true (by first|(with_reducible assumption)|assumption)|(have e_:=(Kd.zxc HO0.out).1;omega));obtain ⟨ua153_1,uc153_1,ua153_2,uc153_2,ua153_3,uc153_3,rfl,ul153_1,ge153_1,ul153_2,ge153_2,ul153_3,ge153_3⟩:=k61_openF hMe153;have hv153_1:=hcc153 1 _ rfl;rw [zka _ _ 1 (by omega)] at hv153_1;replace hv153_1:=Option.some.inj (hv153_1.symm.trans hx153_1);injection hv153_1 with hva_ hvn_ hvc_;rw [hva_] at ge153_1;rw [hvc_] at ul153_1;have HL153_1:=zqd.mk (show Kd.V k90 90 _ w.heap.size _ _ ((zqo l0 a1).f1) from Kd.V_mk ul153_1 ge153_1);clear hva_ hvn_ hvc_ ge153_1 ul153_1;have hv153_2:=hcc153 2 _ rfl;rw [zka _ _ 2 (by omega)] at hv153_2;replace hv153_2:=Option.some.inj (hv153_2.symm.trans hx153_2);injection hv153_2 with hva_ hvn_ hvc_;rw [hva_] at ge153_2;rw [hvc_] at ul153_2;have HL153_2:=zqd.mk (show Kd.V (Kd.int .i64) 3 _ w.heap.size _ _ ((zqo l0 a1).f2) from Kd.V_mk ul153_2 ge153_2);clear hva_ hvn_ hvc_ ge153_2 ul153_2;have hv153_3:=hcc153 3 _ rfl;rw [zka _ _ 3 (by omega)] at hv153_3;replace hv153_3:=Option.some.inj (hv153_3.symm.trans hx153_3);injection hv153_3 with hva_ hvn_ hvc_;rw [hva_] at ge153_3;rw [hvc_] at ul153_3;have HL153_3:=zqd.mk (show Kd.V k96 96 _ w.heap.size _ _ ((zqo l0 a1).f3) from Kd.V_mk ul153_3 ge153_3);clear hva_ hvn_ hvc_ ge153_3 ul153_3 hcc153 hce153;have HR153_1:=zqd.mk hi153_1;have HC153_1:=zqd.mk hl153_1;clear hi153_1 hl153_1;have HR153_2:=zqd.mk hi153_2;have HC153_2:=zqd.mk hl153_2;clear hi153_2 hl153_2;have HR153_3:=zqd.mk hi153_3;have HC153_3:=zqd.mk hl153_3;clear hi153_3 hl153_3;replace p153:=eq_true p153;replace q153:=eq_true q153;have hcz17_0:w16.cell? ⟨gb151,0,none⟩=some (.string (⟨#[]⟩:ByteArray)):=(zqf BK151.out 0).trans rfl;have hcz17_1:w16.cell? ⟨gb151,1,none⟩=some (.slice none 0 0):=(zqf BK151.out 1).trans rfl;have hcz17_2:w16.cell? ⟨gb151,2,none⟩=some (.slice none 0 0):=(zqf BK151.out 2).trans rfl;have hcz17_3:w16.cell? ⟨gb151,3,none⟩=some (.slice none 0 0):=(zqf BK151.out 3).trans rfl;have hfz17_0:=zqe BK151.out 0;have hfz17_1:=zqe BK151.out 1;have hfz17_2:=zqe BK151.out 2;have hfz17_3:=zqe BK151.out 3))
      refine bodyPost_ret (results_ct rfl _ _ gb151 61 #[.string ((zqo l0 a1).f0),.slice A153_1 ((zqo l0 a1).f1).length c153_1,.slice A153_2 ((zqo l0 a1).f2).length c153_2,.slice A153_3 ((zqo l0 a1).f3).length c153_3] (0,0) _ rfl (by(with_reducible repeat(first|refine zqg ?_ _|refine zqj ?_|refine zqh ?_ _));refine zqu (cs:=#[.string ((zqo l0 a1).f0),.slice A153_1 ((zqo l0 a1).f1).length c153_1,.slice A153_2 ((zqo l0 a1).f2).length c153_2,.slice none 0 0]) ?_ 3 _ rfl;(with_reducible repeat(first|refine zqg ?_ _|refine zqj ?_|refine zqh ?_ _));refine zqu (cs:=#[.string ((zqo l0 a1).f0),.slice A153_1 ((zqo l0 a1).f1).length c153_1,.slice none 0 0,.slice none 0 0]) ?_ 2 _ rfl;(with_reducible repeat(first|refine zqg ?_ _|refine zqj ?_|refine zqh ?_ _));refine zqu (cs:=#[.string ((zqo l0 a1).f0),.slice none 0 0,.slice none 0 0,.slice none 0 0]) ?_ 1 _ rfl;(with_reducible repeat(first|refine zqg ?_ _|refine zqj ?_|refine zqh ?_ _));refine zqu (cs:=#[.string (⟨#[]⟩:ByteArray),.slice none 0 0,.slice none 0 0,.slice none 0 0]) ?_ 0 _ rfl;(with_reducible repeat(first|refine zqg ?_ _|refine zqj ?_|refine zqh ?_ _));exact BK151.out) Tryd.underlying61 rfl (by kernel_rfl)) rfl ?_
      exact⟨_,_,_,by first|rfl|(simp [zqm,zql] <;> rfl)|(simp [*,zqm,zql] <;> rfl),by(with_reducible repeat(first|apply Kd.zxe|apply Kd.zxd|apply Kd.zxt));exact Kd.zq9 (Kd.zxk (p:=⟨gb151,3,none⟩) (Kd.zxk (p:=⟨gb151,2,none⟩) (Kd.zxk (p:=⟨gb151,1,none⟩) (Kd.zxk (p:=⟨gb151,0,none⟩) (Kd.zq9 HL153_1.out (fun k_ hk=>(⟨hk,hk.2⟩:_∧k_≠gb151))) (fun _ hk=>hk.2) (.string ((zqo l0 a1).f0))) (fun _ hk=>hk.2) (.slice A153_1 ((zqo l0 a1).f1).length c153_1)) (fun _ hk=>hk.2) (.slice A153_2 ((zqo l0 a1).f2).length c153_2)) (fun _ hk=>hk.2) (.slice A153_3 ((zqo l0 a1).f3).length c153_3)) (fun _ hk=>hk.1.1),by(with_reducible repeat(first|apply Kd.zxe|apply Kd.zxd|apply Kd.zxt));exact Kd.zq9 (Kd.zxk (p:=⟨gb151,3,none⟩) (Kd.zxk (p:=⟨gb151,2,none⟩) (Kd.zxk (p:=⟨gb151,1,none⟩) (Kd.zxk (p:=⟨gb151,0,none⟩) (Kd.zq9 HL153_2.out (fun k_ hk=>(⟨hk,hk.2⟩:_∧k_≠gb151))) (fun _ hk=>hk.2) (.string ((zqo l0 a1).f0))) (fun _ hk=>hk.2) (.slice A153_1 ((zqo l0 a1).f1).length c153_1)) (fun _ hk=>hk.2) (.slice A153_2 ((zqo l0 a1).f2).length c153_2)) (fun _ hk=>hk.2) (.slice A153_3 ((zqo l0 a1).f3).length c153_3)) (fun _ hk=>hk.1.1),by(with_reducible repeat(first|apply Kd.zxe|apply Kd.zxd|apply Kd.zxt));exact Kd.zq9 (Kd.zxk (p:=⟨gb151,3,none⟩) (Kd.zxk (p:=⟨gb151,2,none⟩) (Kd.zxk (p:=⟨gb151,1,none⟩) (Kd.zxk (p:=⟨gb151,0,none⟩) (Kd.zq9 HL153_3.out (fun k_ hk=>(⟨hk,hk.2⟩:_∧k_≠gb151))) (fun _ hk=>hk.2) (.string ((zqo l0 a1).f0))) (fun _ hk=>hk.2) (.slice A153_1 ((zqo l0 a1).f1).length c153_1)) (fun _ hk=>hk.2) (.slice A153_2 ((zqo l0 a1).f2).length c153_2)) (fun _ hk=>hk.2) (.slice A153_3 ((zqo l0 a1).f3).length c153_3)) (fun _ hk=>hk.1.1),by repeat(first|(with_reducible first|exact HB.out|apply zqb|apply zqa|apply zqc|refine zqi ?_ GE151.out)|exact HB.out)⟩
     ·rw [if_neg c14] at H
      exact absurd H (by simp)
    ·rw [if_neg c13] at H
     exact absurd H (by simp)
 ·replace c4:=Bool.eq_false_iff.mpr c4
  subst c4
  have H1:(some ((⟨#[]⟩:ByteArray),([]:List (S90)),([]:List Int),([]:List (S96)),4))=some (r1,r2,r3,r4,r5):=by rw [if_neg (show ¬ (false=true) by decide)] at H;exact H
  clear H
  have H:=H1
  clear H1
  simp only [Option.some.injEq,Prod.mk.injEq] at H
  obtain ⟨rfl,rfl,rfl,rfl,rfl⟩:=H
  go_enter Tryd.func28,Tryd.ntmps28
  go_wp2_with (first|((with_reducible refine zqx (N:=4) rfl ?_);(try(refine zqz (by rfl) ?_;dsimp only));refine zqt ?hg (N:=4) ?hd (cs:=#[.string (⟨#[]⟩:ByteArray),.slice none 0 0,.slice none 0 0,.slice none 0 0]) (t:=61) ?hr ?_;(case hd=>rfl);(case hg=>rfl);(case hr=>first|(go_simp;done)|(go_simp;rfl));intro gb151 hg w18 hbox hb;have n0_:=zqd.mk (Kd.zxw (Kd.zkd (by(with_reducible repeat(first|apply Kd.zxe|apply Kd.zxd|apply Kd.zxt));exact HO0.out) gb151 (Nat.le_of_eq hg.symm)) hb);have n1_:=zqd.mk (zqn (by repeat(first|(with_reducible first|exact HB.out|apply zqb|apply zqa|apply zqc)|exact HB.out)) hb);have n2_:=zqd.mk (hbox);have n3_:=zqd.mk ((by rw [hg];exact(zqk (by repeat(first|(with_reducible first|exact HB.out|apply zqb|apply zqa|apply zqc)|exact HB.out))):w.heap.size≤gb151));have n4_:=zqd.mk ((by rw [hg];exact(zqk (by repeat(first|(with_reducible first|exact HB.out|apply zqb|apply zqa|apply zqc)|exact HB.out))):w.heap.size≤gb151));clear HO0 HB;have HO0:=n0_;have HB:=n1_;have BK151:=n2_;have GW151:=n3_;have GE151:=n4_;clear n0_ n1_ n2_ n3_ n4_ hb hbox hg)|((with_reducible refine zqv (f:=56) rfl ?_);refine zq8 (some 7) rfl rfl Tryd.func56 (by kernel_rfl) rfl #[.slice A0 l0.length c0] rfl (by(try simp only [List.map_toArray,List.map_cons,List.map_nil]);first|done|rfl|(simp only [List.length_drop,List.length_take];rfl)) ?_;(with_reducible refine(zj0.calls k _ _ l0 false _ ?side1 ?side2 ?side3 A3.out).mono ?_);(case side1=>repeat(first|exact(Kd.zxc HO0.out).2.2|(with_reducible refine Kd.zqw ?_ _)|(with_reducible refine Kd.zqy ?_ _)|(with_reducible refine Kd.zq2 ?_)));(case side2=>exact(Kd.zxc HO0.out).2.1);(case side3=>exact LD.below HLD.out (by first|(with_reducible exact Below.refl _ _)|((repeat(first|(with_reducible exact Below.refl _ _)|(with_reducible apply zqb)|(with_reducible apply zqa)|(with_reducible apply zqc)));done)|exact(by repeat(first|(with_reducible first|exact HB.out|apply zqb|apply zqa|apply zqc|refine zqi ?_ GE151.out)|exact HB.out))));rintro e w19 ⟨rfl,hb⟩;refine⟨_,rfl,?_⟩;have n0_:=zqd.mk (Kd.zxw (by(with_reducible repeat(first|apply Kd.zxe|apply Kd.zxd|apply Kd.zxt));exact HO0.out) hb);have n1_:=zqd.mk (zqr (g:=gb151) (o:=.cells #[.string (⟨#[]⟩:ByteArray),.slice none 0 0,.slice none 0 0,.slice none 0 0] 61 (0,0)) (by(with_reducible repeat(first|refine zqg ?_ _|refine zqj ?_|refine zqh ?_ _));exact BK151.out) hb);have n2_:=zqd.mk (zqn (by repeat(first|(with_reducible first|exact HB.out|apply zqb|apply zqa|apply zqc|refine zqi ?_ GE151.out)|exact HB.out)) hb);clear HO0 BK151 HB;have HO0:=n0_;have BK151:=n1_;have HB:=n2_;clear n0_ n1_ n2_;(try clear hb);(try clear hb2);(try clear hk);(try clear hi);have hcz20_0:w19.cell? ⟨gb151,0,none⟩=some (.string (⟨#[]⟩:ByteArray)):=(zqf BK151.out 0).trans rfl;have hcz20_1:w19.cell? ⟨gb151,1,none⟩=some (.slice none 0 0):=(zqf BK151.out 1).trans rfl;have hcz20_2:w19.cell? ⟨gb151,2,none⟩=some (.slice none 0 0):=(zqf BK151.out 2).trans rfl;have hcz20_3:w19.cell? ⟨gb151,3,none⟩=some (.slice none 0 0):=(zqf BK151.out 3).trans rfl;have hfz20_0:=zqe BK151.out 0;have hfz20_1:=zqe BK151.out 1;have hfz20_2:=zqe BK151.out 2;have hfz20_3:=zqe BK151.out 3))
  refine bodyPost_ret (results_ct rfl _ _ gb151 61 #[.string (⟨#[]⟩:ByteArray),.slice none 0 0,.slice none 0 0,.slice none 0 0] (0,0) _ rfl (by(with_reducible repeat(first|refine zqg ?_ _|refine zqj ?_|refine zqh ?_ _));refine zqu (cs:=#[.string (⟨#[]⟩:ByteArray),.slice none 0 0,.slice none 0 0,.slice none 0 0]) ?_ 3 _ rfl;(with_reducible repeat(first|refine zqg ?_ _|refine zqj ?_|refine zqh ?_ _));refine zqu (cs:=#[.string (⟨#[]⟩:ByteArray),.slice none 0 0,.slice none 0 0,.slice none 0 0]) ?_ 2 _ rfl;(with_reducible repeat(first|refine zqg ?_ _|refine zqj ?_|refine zqh ?_ _));refine zqu (cs:=#[.string (⟨#[]⟩:ByteArray),.slice none 0 0,.slice none 0 0,.slice none 0 0]) ?_ 1 _ rfl;(with_reducible repeat(first|refine zqg ?_ _|refine zqj ?_|refine zqh ?_ _));refine zqu (cs:=#[.string (⟨#[]⟩:ByteArray),.slice none 0 0,.slice none 0 0,.slice none 0 0]) ?_ 0 _ rfl;(with_reducible repeat(first|refine zqg ?_ _|refine zqj ?_|refine zqh ?_ _));exact BK151.out) Tryd.underlying61 rfl (by kernel_rfl)) rfl ?_
  exact⟨_,_,_,by first|rfl|(simp [zqm,zql] <;> rfl)|(simp [*,zqm,zql] <;> rfl),(by first|exact Kd.V_nil _ _ _ _ _|exact Kd.zq9 (Kd.R_V (by first|exact Kd.R_nil _ _ _ _ _|exact Kd.N_nil _ _ _ _ _|exact Kd.V_nil _ _ _ _ _|exact Kd.Q_nil _ _ _ _ _|exact Kd.S_nil _ _ _ _ _)) (fun k_ hk=>by first|exact⟨(.inr (hk.1)),hk.2⟩|exact(.inr (hk)))),(by first|exact Kd.V_nil _ _ _ _ _|exact Kd.zq9 (Kd.R_V (by first|exact Kd.R_nil _ _ _ _ _|exact Kd.N_nil _ _ _ _ _|exact Kd.V_nil _ _ _ _ _|exact Kd.Q_nil _ _ _ _ _|exact Kd.S_nil _ _ _ _ _)) (fun k_ hk=>by first|exact⟨(.inr (hk.1)),hk.2⟩|exact(.inr (hk)))),(by first|exact Kd.V_nil _ _ _ _ _|exact Kd.zq9 (Kd.S_V (by first|exact Kd.S_nil _ _ _ _ _|exact Kd.N_nil _ _ _ _ _|exact Kd.V_nil _ _ _ _ _|exact Kd.Q_nil _ _ _ _ _|exact Kd.R_nil _ _ _ _ _)) (fun k_ hk=>by first|exact⟨(.inr (hk.1)),hk.2⟩|exact(.inr (hk)))),by repeat(first|(with_reducible first|exact HB.out|apply zqb|apply zqa|apply zqc|refine zqi ?_ GE151.out)|exact HB.out)⟩

/-! ### zjz: function 57 -/
def zjz.j0:Nat→Bool→Int→Int→ByteArray→Option (Int)
 | 0,_,_,_,_=>none
 | k+1,x11,x155000,x155001,x155002=>if x11=true then(some 3) else (if(x155002.size:Int) > 40 then(some 1) else (if x155000=0 then(if((x155000 == 0 && (x155001 == 0 && (x155002.toList == ([]:List UInt8))))=true) then(some 0) else (some 4)) else (if x155000=1 then(if(Go.bits .or .i64 x155001 1)=1 then(if(x155002.toList=([]:List UInt8)) then(some 0) else (some 4)) else (some 4)) else (if x155000=2 then(if(x155002.toList=([]:List UInt8)) then(some 0) else (some 4)) else (if x155000=3 then(if x155001=0 then((utf8_ValidString.f x155002).bind fun t155=>(if t155=true then(some 0) else (some 4))) else (some 4)) else (some 0))))))
def zjz.f (k:Nat) (a0_0:Int) (a0_1:Int) (a0_2:ByteArray):Option (Int):=if a0_0<0 then(zjz.j0 k true a0_0 a0_1 a0_2) else (zjz.j0 k (decide (a0_0 > 3)) a0_0 a0_1 a0_2)
theorem zjz.mono_l:∀ k,(∀ y0 y1 y2 y3,LeO (zjz.j0 k y0 y1 y2 y3) (zjz.j0 (k+1) y0 y1 y2 y3))
 | 0=>fun _ _ _ _ r h=>by simp [zjz.j0] at h
 | k+1=>by
  have ih0:=zjz.mono_l k
  ·intro y0 y1 y2 y3
   unfold zjz.j0
   repeat' first
   | (with_reducible first|exact ih0 _ _ _ _|exact LeO.refl _|exact LeO.none _|refine LeO.ite ?_ ?_|refine LeO.bind ?_ (fun _=>?_))
   | exact ih0 _ _ _ _
   | exact LeO.none _
   | refine LeO.ite ?_ ?_
   | refine LeO.bind ?_ (fun _=>?_)
theorem zjz.mono:∀ a0 a1 a2 k,LeO (zjz.f k a0 a1 a2) (zjz.f (k+1) a0 a1 a2):=by
 intro a0 a1 a2 k
 have ih0:=zjz.mono_l k
 unfold zjz.f
 repeat' first
   | (with_reducible first|exact ih0 _ _ _ _|exact LeO.refl _|exact LeO.none _|refine LeO.ite ?_ ?_|refine LeO.bind ?_ (fun _=>?_))
   | exact ih0 _ _ _ _
   | exact LeO.none _
   | refine LeO.ite ?_ ?_
   | refine LeO.bind ?_ (fun _=>?_)
set_option maxHeartbeats 8000000 in
set_option maxRecDepth 100000 in
theorem zjz.calls (k:Nat) (a0_0:Int) (a0_1:Int) (a0_2:ByteArray) (r:Int) (w:World) (hL:LD w) (h:zjz.f k a0_0 a0_1 a0_2=some r) :
  Calls Tryd.prog 57 #[.agg #[.int .i64 a0_0,.int .i64 a0_1,.string a0_2]] w fun e w'=>e = .returned (.int .i64 r)∧Below w.heap.size w w':=by
 have hu38:=Tryd.underlying38
 have HLD:=zqd.mk hL
 clear hL
 have HB:=zqd.mk (Below.refl w.heap.size w)
 have H:(if a0_0<0 then(zjz.j0 k true a0_0 a0_1 a0_2) else (zjz.j0 k (decide (a0_0 > 3)) a0_0 a0_1 a0_2))=some r:=h
 clear h
 have HC2:=zqd.mk H
 clear H
 go_enter Tryd.func57,Tryd.ntmps57
 go_upto_region 1 with (first|((with_reducible refine zqx (N:=1) rfl ?_);refine zqt ?hg (N:=1) ?hd (cs:=#[.int .i64 a0_0,.int .i64 a0_1,.string a0_2]) (t:=38) ?hr ?_;(case hd=>rfl);(case hg=>rfl);(case hr=>first|(go_simp;done)|(go_simp;rfl));intro gb154 hg w3 hbox hb;have n0_:=zqd.mk (zqn (by repeat(first|(with_reducible first|exact HB.out|apply zqb|apply zqa|apply zqc)|exact HB.out)) hb);have n1_:=zqd.mk (hbox);have n2_:=zqd.mk ((by rw [hg];exact(zqk (by repeat(first|(with_reducible first|exact HB.out|apply zqb|apply zqa|apply zqc)|exact HB.out))):w.heap.size≤gb154));have n3_:=zqd.mk ((by rw [hg];exact(zqk (by repeat(first|(with_reducible first|exact HB.out|apply zqb|apply zqa|apply zqc)|exact HB.out))):w.heap.size≤gb154));clear HB;have HB:=n0_;have BK154:=n1_;have GW154:=n2_;have GE154:=n3_;clear n0_ n1_ n2_ n3_ hb hbox hg))
 (try simp only [Act.put,List.setIfInBounds_toArray,List.set_cons_zero,List.set_cons_succ])
 go_cut [11] (fun v11 wc => ∃ (kq:Nat) (x11_1:Bool),v11 = .bool x11_1∧zqd (zjz.j0 kq x11_1 a0_0 a0_1 a0_2=some r)∧zqd (kq≤k)∧zqd (wc.heap[gb154]? = some (.cells #[.int .i64 a0_0,.int .i64 a0_1,.string a0_2] 38 (0,0)))∧zqd (Below w.heap.size w wc))
 case first=>
  have H:=HC2.out
  clear HC2
  by_cases c4:a0_0<0
  ·rw [if_pos c4] at H
   have c4b0:decide (a0_0<0)=true:=decide_eq_true c4
   clear c4
   (first|rw [c4b0]|(simp only [zx6,zx8];rw [c4b0])|skip)
   have H':=zqd.mk H
   clear H
   have hcz5_0:w3.cell? ⟨gb154,0,none⟩=some (.int .i64 a0_0):=(zqf BK154.out 0).trans rfl
   have hcz5_1:w3.cell? ⟨gb154,1,none⟩=some (.int .i64 a0_1):=(zqf BK154.out 1).trans rfl
   have hcz5_2:w3.cell? ⟨gb154,2,none⟩=some (.string a0_2):=(zqf BK154.out 2).trans rfl
   have hfz5_0:=zqe BK154.out 0
   have hfz5_1:=zqe BK154.out 1
   have hfz5_2:=zqe BK154.out 2
   go_wp2
   go_meet
   case rel=>exact⟨_,(true),(by first|rfl|(simp;done)|(simp [*];done)|(generalize ByteArray.toList _=q_;cases q_ <;> rfl)),H',⟨by first|omega|exact Nat.le_refl _⟩,⟨by(with_reducible repeat(first|refine zqg ?_ _|refine zqj ?_|refine zqh ?_ _));exact BK154.out⟩,⟨by repeat(first|(with_reducible first|exact HB.out|apply zqb|apply zqa|apply zqc|refine zqi ?_ GE154.out)|exact HB.out)⟩⟩
  ·rw [if_neg c4] at H
   have c4b0:decide (a0_0<0)=false:=decide_eq_false c4
   clear c4
   (first|rw [c4b0]|(simp only [zx6,zx8];rw [c4b0])|skip)
   have H':=zqd.mk H
   clear H
   have hcz6_0:w3.cell? ⟨gb154,0,none⟩=some (.int .i64 a0_0):=(zqf BK154.out 0).trans rfl
   have hcz6_1:w3.cell? ⟨gb154,1,none⟩=some (.int .i64 a0_1):=(zqf BK154.out 1).trans rfl
   have hcz6_2:w3.cell? ⟨gb154,2,none⟩=some (.string a0_2):=(zqf BK154.out 2).trans rfl
   have hfz6_0:=zqe BK154.out 0
   have hfz6_1:=zqe BK154.out 1
   have hfz6_2:=zqe BK154.out 2
   go_wp2
   go_meet
   case rel=>exact⟨_,(decide (a0_0 > 3)),(by first|rfl|(simp;done)|(simp [*];done)|(generalize ByteArray.toList _=q_;cases q_ <;> rfl)),H',⟨by first|omega|exact Nat.le_refl _⟩,⟨by(with_reducible repeat(first|refine zqg ?_ _|refine zqj ?_|refine zqh ?_ _));exact BK154.out⟩,⟨by repeat(first|(with_reducible first|exact HB.out|apply zqb|apply zqa|apply zqc|refine zqi ?_ GE154.out)|exact HB.out)⟩⟩
 case rest=>
  clear HC2
  try clear p2
  try clear c4
  try clear c4b0
  try clear c5
  try clear hcz5_0
  try clear hcz5_1
  try clear hcz5_2
  try clear hcz6_0
  try clear hcz6_1
  try clear hcz6_2
  try clear hfz5_0
  try clear hfz5_1
  try clear hfz5_2
  try clear hfz6_0
  try clear hfz6_1
  try clear hfz6_2
  obtain ⟨kq,x11_1,rfl,HA,HJ1,BK154,HB⟩:=hcut
  cases kq with
  | zero=>exact absurd HA.out (by simp [zjz.j0])
  | succ kj1=>
   have H:=HA.out
   clear HA
   simp only [zjz.j0] at H
   by_cases c7:x11_1=true
   ·subst c7
    have H1:(some 3)=some r:=by rw [if_pos rfl] at H;exact H
    clear H
    have H:=H1
    clear H1
    obtain rfl:=Option.some.inj H
    go_wp2
    go_ret
    exact⟨by first|rfl|(simp [zqm,zql] <;> rfl)|(simp [*,zqm,zql] <;> rfl),by repeat(first|(with_reducible first|exact HB.out|apply zqb|apply zqa|apply zqc|refine zqi ?_ GE154.out)|exact HB.out)⟩
   ·replace c7:=Bool.eq_false_iff.mpr c7
    subst c7
    have H1:(if(a0_2.size:Int) > 40 then(some 1) else (if a0_0=0 then(if((a0_0 == 0 && (a0_1 == 0 && (a0_2.toList == ([]:List UInt8))))=true) then(some 0) else (some 4)) else (if a0_0=1 then(if(Go.bits .or .i64 a0_1 1)=1 then(if(a0_2.toList=([]:List UInt8)) then(some 0) else (some 4)) else (some 4)) else (if a0_0=2 then(if(a0_2.toList=([]:List UInt8)) then(some 0) else (some 4)) else (if a0_0=3 then(if a0_1=0 then((utf8_ValidString.f a0_2).bind fun t155=>(if t155=true then(some 0) else (some 4))) else (some 4)) else (some 0))))))=some r:=by rw [if_neg (show ¬ (false=true) by decide)] at H;exact H
    clear H
    have H:=H1
    clear H1
    by_cases c8:(a0_2.size:Int) > 40
    ·rw [if_pos c8] at H
     have c8b0:decide (40<(a0_2.size:Int))=true:=decide_eq_true c8
     have c8b1:decide (40<a0_2.size)=true:=decide_eq_true (by omega)
     clear c8
     obtain rfl:=Option.some.inj H
     have hcz9_0:wc.cell? ⟨gb154,0,none⟩=some (.int .i64 a0_0):=(zqf BK154.out 0).trans rfl
     have hcz9_1:wc.cell? ⟨gb154,1,none⟩=some (.int .i64 a0_1):=(zqf BK154.out 1).trans rfl
     have hcz9_2:wc.cell? ⟨gb154,2,none⟩=some (.string a0_2):=(zqf BK154.out 2).trans rfl
     have hfz9_0:=zqe BK154.out 0
     have hfz9_1:=zqe BK154.out 1
     have hfz9_2:=zqe BK154.out 2
     go_wp2
     go_ret
     exact⟨by first|rfl|(simp [zqm,zql] <;> rfl)|(simp [*,zqm,zql] <;> rfl),by repeat(first|(with_reducible first|exact HB.out|apply zqb|apply zqa|apply zqc|refine zqi ?_ GE154.out)|exact HB.out)⟩
    ·rw [if_neg c8] at H
     have c8b0:decide (40<(a0_2.size:Int))=false:=decide_eq_false c8
     have c8b1:decide (40<a0_2.size)=false:=decide_eq_false (by omega)
     clear c8
     by_cases c10:a0_0=0
     ·rw [if_pos c10] at H
      have c10b0:(a0_0 == 0)=true:=beq_iff_eq.mpr c10
      have c10b1:(a0_0 != 0)=false:=bne_eq_false_iff_eq.mpr c10
      clear c10
      by_cases c11:((a0_0 == 0 && (a0_1 == 0 && (a0_2.toList == ([]:List UInt8))))=true)
      ·rw [if_pos c11] at H
       have c11b0:(a0_0 == 0 && (a0_1 == 0 && (a0_2.toList == ([]:List UInt8))))=true:=c11
       (try(have c11b1:(a0_0 == 0 && (a0_1 == 0 && a0_2.toList.isEmpty))=true:=by first|simpa using c11|simpa [*] using c11))
       (try(have c11b2:(a0_1 == 0 && a0_2.toList.isEmpty)=true:=by first|simpa using c11|simpa [*] using c11))
       (try(have c11b3:decide (a0_0=0 && (a0_1 == 0 && (a0_2.toList == ([]:List UInt8))))=true:=by simpa using c11))
       (try(have c11b4:(a0_0 == 0 && (a0_1 == 0 && (a0_2.toList == ([]:List UInt8))))=true:=by simpa using c11))
       clear c11
       obtain rfl:=Option.some.inj H
       have hcz12_0:wc.cell? ⟨gb154,0,none⟩=some (.int .i64 a0_0):=(zqf BK154.out 0).trans rfl
       have hcz12_1:wc.cell? ⟨gb154,1,none⟩=some (.int .i64 a0_1):=(zqf BK154.out 1).trans rfl
       have hcz12_2:wc.cell? ⟨gb154,2,none⟩=some (.string a0_2):=(zqf BK154.out 2).trans rfl
       have hfz12_0:=zqe BK154.out 0
       have hfz12_1:=zqe BK154.out 1
       have hfz12_2:=zqe BK154.out 2
       go_wp2
       go_ret
       exact⟨by first|rfl|(simp [zqm,zql] <;> rfl)|(simp [*,zqm,zql] <;> rfl),by repeat(first|(with_reducible first|exact HB.out|apply zqb|apply zqa|apply zqc|refine zqi ?_ GE154.out)|exact HB.out)⟩
      ·rw [if_neg c11] at H
       have c11b0:(a0_0 == 0 && (a0_1 == 0 && (a0_2.toList == ([]:List UInt8))))=false:=by simpa using c11
       (try(have c11b1:(a0_0 == 0 && (a0_1 == 0 && a0_2.toList.isEmpty))=false:=by first|simpa using c11|simpa [*] using c11))
       (try(have c11b2:(a0_1 == 0 && a0_2.toList.isEmpty)=false:=by first|simpa using c11|simpa [*] using c11))
       (try(have c11b3:decide (a0_0=0 && (a0_1 == 0 && (a0_2.toList == ([]:List UInt8))))=false:=by simpa using c11))
       (try(have c11b4:(a0_0 == 0 && (a0_1 == 0 && (a0_2.toList == ([]:List UInt8))))=false:=by simpa using c11))
       (try(have c11b5:¬ (a0_0=0 && (a0_1 == 0 && (a0_2.toList == ([]:List UInt8)))):=by simpa using c11))
       clear c11
       obtain rfl:=Option.some.inj H
       have hcz13_0:wc.cell? ⟨gb154,0,none⟩=some (.int .i64 a0_0):=(zqf BK154.out 0).trans rfl
       have hcz13_1:wc.cell? ⟨gb154,1,none⟩=some (.int .i64 a0_1):=(zqf BK154.out 1).trans rfl
       have hcz13_2:wc.cell? ⟨gb154,2,none⟩=some (.string a0_2):=(zqf BK154.out 2).trans rfl
       have hfz13_0:=zqe BK154.out 0
       have hfz13_1:=zqe BK154.out 1
       have hfz13_2:=zqe BK154.out 2
       go_wp2
       go_ret
       exact⟨by first|rfl|(simp [zqm,zql] <;> rfl)|(simp [*,zqm,zql] <;> rfl),by repeat(first|(with_reducible first|exact HB.out|apply zqb|apply zqa|apply zqc|refine zqi ?_ GE154.out)|exact HB.out)⟩
     ·rw [if_neg c10] at H
      have c10b0:(a0_0 == 0)=false:=beq_eq_false_iff_ne.mpr c10
      have c10b1:(a0_0 != 0)=true:=bne_iff_ne.mpr c10
      by_cases c14:a0_0=1
      ·rw [if_pos c14] at H
       have c14b0:(a0_0 == 1)=true:=beq_iff_eq.mpr c14
       have c14b1:(a0_0 != 1)=false:=bne_eq_false_iff_eq.mpr c14
       clear c14
       by_cases c15:(Go.bits .or .i64 a0_1 1)=1
       ·rw [if_pos c15] at H
        have c15b0:((Go.bits .or .i64 a0_1 1) == 1)=true:=beq_iff_eq.mpr c15
        have c15b1:((Go.bits .or .i64 a0_1 1) != 1)=false:=bne_eq_false_iff_eq.mpr c15
        clear c15
        by_cases c16:(a0_2.toList=([]:List UInt8))
        ·rw [if_pos c16] at H
         have c16b0:(a0_2.toList == ([]:List UInt8))=true:=beq_iff_eq.mpr c16
         have c16b1:(a0_2.toList != ([]:List UInt8))=false:=bne_eq_false_iff_eq.mpr c16
         clear c16
         obtain rfl:=Option.some.inj H
         have hcz17_0:wc.cell? ⟨gb154,0,none⟩=some (.int .i64 a0_0):=(zqf BK154.out 0).trans rfl
         have hcz17_1:wc.cell? ⟨gb154,1,none⟩=some (.int .i64 a0_1):=(zqf BK154.out 1).trans rfl
         have hcz17_2:wc.cell? ⟨gb154,2,none⟩=some (.string a0_2):=(zqf BK154.out 2).trans rfl
         have hfz17_0:=zqe BK154.out 0
         have hfz17_1:=zqe BK154.out 1
         have hfz17_2:=zqe BK154.out 2
         go_wp2
         go_ret
         exact⟨by first|rfl|(simp [zqm,zql] <;> rfl)|(simp [*,zqm,zql] <;> rfl),by repeat(first|(with_reducible first|exact HB.out|apply zqb|apply zqa|apply zqc|refine zqi ?_ GE154.out)|exact HB.out)⟩
        ·rw [if_neg c16] at H
         have c16b0:(a0_2.toList == ([]:List UInt8))=false:=beq_eq_false_iff_ne.mpr c16
         have c16b1:(a0_2.toList != ([]:List UInt8))=true:=bne_iff_ne.mpr c16
         obtain rfl:=Option.some.inj H
         have hcz18_0:wc.cell? ⟨gb154,0,none⟩=some (.int .i64 a0_0):=(zqf BK154.out 0).trans rfl
         have hcz18_1:wc.cell? ⟨gb154,1,none⟩=some (.int .i64 a0_1):=(zqf BK154.out 1).trans rfl
         have hcz18_2:wc.cell? ⟨gb154,2,none⟩=some (.string a0_2):=(zqf BK154.out 2).trans rfl
         have hfz18_0:=zqe BK154.out 0
         have hfz18_1:=zqe BK154.out 1
         have hfz18_2:=zqe BK154.out 2
         go_wp2
         go_ret
         exact⟨by first|rfl|(simp [zqm,zql] <;> rfl)|(simp [*,zqm,zql] <;> rfl),by repeat(first|(with_reducible first|exact HB.out|apply zqb|apply zqa|apply zqc|refine zqi ?_ GE154.out)|exact HB.out)⟩
       ·rw [if_neg c15] at H
        have c15b0:((Go.bits .or .i64 a0_1 1) == 1)=false:=beq_eq_false_iff_ne.mpr c15
        have c15b1:((Go.bits .or .i64 a0_1 1) != 1)=true:=bne_iff_ne.mpr c15
        obtain rfl:=Option.some.inj H
        have hcz19_0:wc.cell? ⟨gb154,0,none⟩=some (.int .i64 a0_0):=(zqf BK154.out 0).trans rfl
        have hcz19_1:wc.cell? ⟨gb154,1,none⟩=some (.int .i64 a0_1):=(zqf BK154.out 1).trans rfl
        have hcz19_2:wc.cell? ⟨gb154,2,none⟩=some (.string a0_2):=(zqf BK154.out 2).trans rfl
        have hfz19_0:=zqe BK154.out 0
        have hfz19_1:=zqe BK154.out 1
        have hfz19_2:=zqe BK154.out 2
        go_wp2
        go_ret
        exact⟨by first|rfl|(simp [zqm,zql] <;> rfl)|(simp [*,zqm,zql] <;> rfl),by repeat(first|(with_reducible first|exact HB.out|apply zqb|apply zqa|apply zqc|refine zqi ?_ GE154.out)|exact HB.out)⟩
      ·rw [if_neg c14] at H
       have c14b0:(a0_0 == 1)=false:=beq_eq_false_iff_ne.mpr c14
       have c14b1:(a0_0 != 1)=true:=bne_iff_ne.mpr c14
       by_cases c20:a0_0=2
       ·rw [if_pos c20] at H
        have c20b0:(a0_0 == 2)=true:=beq_iff_eq.mpr c20
        have c20b1:(a0_0 != 2)=false:=bne_eq_false_iff_eq.mpr c20
        clear c20
        by_cases c21:(a0_2.toList=([]:List UInt8))
        ·rw [if_pos c21] at H
         have c21b0:(a0_2.toList == ([]:List UInt8))=true:=beq_iff_eq.mpr c21
         have c21b1:(a0_2.toList != ([]:List UInt8))=false:=bne_eq_false_iff_eq.mpr c21
         clear c21
         obtain rfl:=Option.some.inj H
         have hcz22_0:wc.cell? ⟨gb154,0,none⟩=some (.int .i64 a0_0):=(zqf BK154.out 0).trans rfl
         have hcz22_1:wc.cell? ⟨gb154,1,none⟩=some (.int .i64 a0_1):=(zqf BK154.out 1).trans rfl
         have hcz22_2:wc.cell? ⟨gb154,2,none⟩=some (.string a0_2):=(zqf BK154.out 2).trans rfl
         have hfz22_0:=zqe BK154.out 0
         have hfz22_1:=zqe BK154.out 1
         have hfz22_2:=zqe BK154.out 2
         go_wp2
         go_ret
         exact⟨by first|rfl|(simp [zqm,zql] <;> rfl)|(simp [*,zqm,zql] <;> rfl),by repeat(first|(with_reducible first|exact HB.out|apply zqb|apply zqa|apply zqc|refine zqi ?_ GE154.out)|exact HB.out)⟩
        ·rw [if_neg c21] at H
         have c21b0:(a0_2.toList == ([]:List UInt8))=false:=beq_eq_false_iff_ne.mpr c21
         have c21b1:(a0_2.toList != ([]:List UInt8))=true:=bne_iff_ne.mpr c21
         obtain rfl:=Option.some.inj H
         have hcz23_0:wc.cell? ⟨gb154,0,none⟩=some (.int .i64 a0_0):=(zqf BK154.out 0).trans rfl
         have hcz23_1:wc.cell? ⟨gb154,1,none⟩=some (.int .i64 a0_1):=(zqf BK154.out 1).trans rfl
         have hcz23_2:wc.cell? ⟨gb154,2,none⟩=some (.string a0_2):=(zqf BK154.out 2).trans rfl
         have hfz23_0:=zqe BK154.out 0
         have hfz23_1:=zqe BK154.out 1
         have hfz23_2:=zqe BK154.out 2
         go_wp2
         go_ret
         exact⟨by first|rfl|(simp [zqm,zql] <;> rfl)|(simp [*,zqm,zql] <;> rfl),by repeat(first|(with_reducible first|exact HB.out|apply zqb|apply zqa|apply zqc|refine zqi ?_ GE154.out)|exact HB.out)⟩
       ·rw [if_neg c20] at H
        have c20b0:(a0_0 == 2)=false:=beq_eq_false_iff_ne.mpr c20
        have c20b1:(a0_0 != 2)=true:=bne_iff_ne.mpr c20
        by_cases c24:a0_0=3
        ·rw [if_pos c24] at H
         have c24b0:(a0_0 == 3)=true:=beq_iff_eq.mpr c24
         have c24b1:(a0_0 != 3)=false:=bne_eq_false_iff_eq.mpr c24
         clear c24
         by_cases c25:a0_1=0
         ·rw [if_pos c25] at H
          have c25b0:(a0_1 == 0)=true:=beq_iff_eq.mpr c25
          have c25b1:(a0_1 != 0)=false:=bne_eq_false_iff_eq.mpr c25
          clear c25
          replace H:=Option.bind_eq_some_iff.mp H
          obtain ⟨t155,A260,H⟩:=H
          replace H:(if t155=true then(some 0) else (some 4))=some r:=H
          have A26:=zqd.mk A260
          clear A260
          by_cases c27:t155=true
          ·subst c27
           have H1:(some 0)=some r:=by rw [if_pos rfl] at H;exact H
           clear H
           have H:=H1
           clear H1
           obtain rfl:=Option.some.inj H
           have hcz28_0:wc.cell? ⟨gb154,0,none⟩=some (.int .i64 a0_0):=(zqf BK154.out 0).trans rfl
           have hcz28_1:wc.cell? ⟨gb154,1,none⟩=some (.int .i64 a0_1):=(zqf BK154.out 1).trans rfl
           have hcz28_2:wc.cell? ⟨gb154,2,none⟩=some (.string a0_2):=(zqf BK154.out 2).trans rfl
           have hfz28_0:=zqe BK154.out 0
           have hfz28_1:=zqe BK154.out 1
           have hfz28_2:=zqe BK154.out 2
           go_wp2_with (first|(go_at_call 96;(with_reducible refine(utf8_ValidString.calls a0_2 true _ ?side1 A26.out).mono ?_);(case side1=>exact LD.below HLD.out (by first|(with_reducible exact Below.refl _ _)|((repeat(first|(with_reducible exact Below.refl _ _)|(with_reducible apply zqb)|(with_reducible apply zqa)|(with_reducible apply zqc)));done)|exact(by repeat(first|(with_reducible first|exact HB.out|apply zqb|apply zqa|apply zqc|refine zqi ?_ GE154.out)|exact HB.out))));rintro e w29 ⟨rfl,hb⟩;have n0_:=zqd.mk (zqr (g:=gb154) (o:=.cells #[.int .i64 a0_0,.int .i64 a0_1,.string a0_2] 38 (0,0)) (by(with_reducible repeat(first|refine zqg ?_ _|refine zqj ?_|refine zqh ?_ _));exact BK154.out) hb);have n1_:=zqd.mk (zqn (by repeat(first|(with_reducible first|exact HB.out|apply zqb|apply zqa|apply zqc|refine zqi ?_ GE154.out)|exact HB.out)) hb);clear BK154 HB;have BK154:=n0_;have HB:=n1_;clear n0_ n1_;(try clear hb);(try clear hb2);(try clear hk);(try clear hi)))
           go_ret
           exact⟨by first|rfl|(simp [zqm,zql] <;> rfl)|(simp [*,zqm,zql] <;> rfl),by repeat(first|(with_reducible first|exact HB.out|apply zqb|apply zqa|apply zqc|refine zqi ?_ GE154.out)|exact HB.out)⟩
          ·replace c27:=Bool.eq_false_iff.mpr c27
           subst c27
           have H1:(some 4)=some r:=by rw [if_neg (show ¬ (false=true) by decide)] at H;exact H
           clear H
           have H:=H1
           clear H1
           obtain rfl:=Option.some.inj H
           have hcz30_0:wc.cell? ⟨gb154,0,none⟩=some (.int .i64 a0_0):=(zqf BK154.out 0).trans rfl
           have hcz30_1:wc.cell? ⟨gb154,1,none⟩=some (.int .i64 a0_1):=(zqf BK154.out 1).trans rfl
           have hcz30_2:wc.cell? ⟨gb154,2,none⟩=some (.string a0_2):=(zqf BK154.out 2).trans rfl
           have hfz30_0:=zqe BK154.out 0
           have hfz30_1:=zqe BK154.out 1
           have hfz30_2:=zqe BK154.out 2
           go_wp2_with (first|(go_at_call 96;(with_reducible refine(utf8_ValidString.calls a0_2 false _ ?side1 A26.out).mono ?_);(case side1=>exact LD.below HLD.out (by first|(with_reducible exact Below.refl _ _)|((repeat(first|(with_reducible exact Below.refl _ _)|(with_reducible apply zqb)|(with_reducible apply zqa)|(with_reducible apply zqc)));done)|exact(by repeat(first|(with_reducible first|exact HB.out|apply zqb|apply zqa|apply zqc|refine zqi ?_ GE154.out)|exact HB.out))));rintro e w31 ⟨rfl,hb⟩;have n0_:=zqd.mk (zqr (g:=gb154) (o:=.cells #[.int .i64 a0_0,.int .i64 a0_1,.string a0_2] 38 (0,0)) (by(with_reducible repeat(first|refine zqg ?_ _|refine zqj ?_|refine zqh ?_ _));exact BK154.out) hb);have n1_:=zqd.mk (zqn (by repeat(first|(with_reducible first|exact HB.out|apply zqb|apply zqa|apply zqc|refine zqi ?_ GE154.out)|exact HB.out)) hb);clear BK154 HB;have BK154:=n0_;have HB:=n1_;clear n0_ n1_;(try clear hb);(try clear hb2);(try clear hk);(try clear hi)))
           go_ret
           exact⟨by first|rfl|(simp [zqm,zql] <;> rfl)|(simp [*,zqm,zql] <;> rfl),by repeat(first|(with_reducible first|exact HB.out|apply zqb|apply zqa|apply zqc|refine zqi ?_ GE154.out)|exact HB.out)⟩
         ·rw [if_neg c25] at H
          have c25b0:(a0_1 == 0)=false:=beq_eq_false_iff_ne.mpr c25
          have c25b1:(a0_1 != 0)=true:=bne_iff_ne.mpr c25
          obtain rfl:=Option.some.inj H
          have hcz32_0:wc.cell? ⟨gb154,0,none⟩=some (.int .i64 a0_0):=(zqf BK154.out 0).trans rfl
          have hcz32_1:wc.cell? ⟨gb154,1,none⟩=some (.int .i64 a0_1):=(zqf BK154.out 1).trans rfl
          have hcz32_2:wc.cell? ⟨gb154,2,none⟩=some (.string a0_2):=(zqf BK154.out 2).trans rfl
          have hfz32_0:=zqe BK154.out 0
          have hfz32_1:=zqe BK154.out 1
          have hfz32_2:=zqe BK154.out 2
          go_wp2
          go_ret
          exact⟨by first|rfl|(simp [zqm,zql] <;> rfl)|(simp [*,zqm,zql] <;> rfl),by repeat(first|(with_reducible first|exact HB.out|apply zqb|apply zqa|apply zqc|refine zqi ?_ GE154.out)|exact HB.out)⟩
        ·rw [if_neg c24] at H
         have c24b0:(a0_0 == 3)=false:=beq_eq_false_iff_ne.mpr c24
         have c24b1:(a0_0 != 3)=true:=bne_iff_ne.mpr c24
         obtain rfl:=Option.some.inj H
         have hcz33_0:wc.cell? ⟨gb154,0,none⟩=some (.int .i64 a0_0):=(zqf BK154.out 0).trans rfl
         have hcz33_1:wc.cell? ⟨gb154,1,none⟩=some (.int .i64 a0_1):=(zqf BK154.out 1).trans rfl
         have hcz33_2:wc.cell? ⟨gb154,2,none⟩=some (.string a0_2):=(zqf BK154.out 2).trans rfl
         have hfz33_0:=zqe BK154.out 0
         have hfz33_1:=zqe BK154.out 1
         have hfz33_2:=zqe BK154.out 2
         go_wp2
         go_ret
         exact⟨by first|rfl|(simp [zqm,zql] <;> rfl)|(simp [*,zqm,zql] <;> rfl),by repeat(first|(with_reducible first|exact HB.out|apply zqb|apply zqa|apply zqc|refine zqi ?_ GE154.out)|exact HB.out)⟩

end Go.Proofs.YthhejedfjgikdaaDoor.PRowEntries
