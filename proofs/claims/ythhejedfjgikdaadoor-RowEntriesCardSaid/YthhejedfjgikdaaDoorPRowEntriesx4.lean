-- Written by wip/pp of this repo (over the kit's print, with additions of this session); Lean checks every line.
import Derived.Test.YthhejedfjgikdaaDoorPRowEntriesx3
namespace Go.Proofs.YthhejedfjgikdaaDoor.PRowEntries
open Go.RowKit Go.Proofs.YthhejedfjgikdaaDoorW.PrintWords Go.Proofs.YthhejedfjgikdaaDoorW.PrintLast Go.Proofs.YthhejedfjgikdaaDoorW.PrintMore
attribute [local go_sem] zxq zxo zx0 zxz zxg zxf zxp zxn   -- for this text's walks alone
set_option linter.unusedVariables false
set_option linter.unusedSimpArgs false

/-! ### zjv: function 114 -/
def zjv.l0:Nat→List Int→Int→List Int→Int→Int→Option (Bool)
 | 0,_,_,_,_,_=>none
 | k+1,x0,x1,x7,x8,x9=>if x9<x8 then(if 0≤x9 then(if x9<(x7.length:Int) then(if(rd x7 x9)<0 then(some false) else (if(rd x7 x9) ≥ x1 then(some false) else (zjv.l0 k x0 x1 x7 x8 (wrap64 (x9+1))))) else (none)) else (none)) else (if(x0.length:Int) > 0 then(if(x0.length:Int)≤3 then((zjx.f x0).bind fun t123=>(some t123)) else (some false)) else (some false))
def zjv.f (k:Nat) (l0:List Int) (a1:Int):Option (Bool):=zjv.l0 k l0 a1 l0 (l0.length:Int) 0
theorem zjv.mono_l:∀ k,(∀ y0 y1 y2 y3 y4,LeO (zjv.l0 k y0 y1 y2 y3 y4) (zjv.l0 (k+1) y0 y1 y2 y3 y4))
 | 0=>fun _ _ _ _ _ r h=>by simp [zjv.l0] at h
 | k+1=>by
  have ih0:=zjv.mono_l k
  ·intro y0 y1 y2 y3 y4
   unfold zjv.l0
   repeat' first
   | (with_reducible first|exact ih0 _ _ _ _ _|exact LeO.refl _|exact LeO.none _|refine LeO.ite ?_ ?_|refine LeO.bind ?_ (fun _=>?_))
   | exact ih0 _ _ _ _ _
   | exact LeO.none _
   | refine LeO.ite ?_ ?_
   | refine LeO.bind ?_ (fun _=>?_)
theorem zjv.mono:∀ a0 a1 k,LeO (zjv.f k a0 a1) (zjv.f (k+1) a0 a1):=by
 intro a0 a1 k
 have ih0:=zjv.mono_l k
 unfold zjv.f
 repeat' first
   | (with_reducible first|exact ih0 _ _ _ _ _|exact LeO.refl _|exact LeO.none _|refine LeO.ite ?_ ?_|refine LeO.bind ?_ (fun _=>?_))
   | exact ih0 _ _ _ _ _
   | exact LeO.none _
   | refine LeO.ite ?_ ?_
   | refine LeO.bind ?_ (fun _=>?_)
set_option maxHeartbeats 8000000 in
set_option maxRecDepth 100000 in
theorem zjv.calls (k:Nat) (A0:Option Addr) (c0:Nat) (l0:List Int) (a1:Int) (r:Bool) (w:World) (hr0:Kd.C (Kd.int .i64) w A0 l0.length l0) (hc0:l0.length≤c0) (h:zjv.f k l0 a1=some r) :
  Calls Tryd.prog 114 #[.slice A0 l0.length c0,.int .i64 a1] w fun e w'=>e = .returned (.bool r)∧Below w.heap.size w w':=by
 have HR0:=zqd.mk hr0
 have HC0:=zqd.mk hc0
 clear hr0 hc0
 have HB:=zqd.mk (Below.refl w.heap.size w)
 have H:(zjv.l0 k l0 a1 l0 (l0.length:Int) 0)=some r:=h
 clear h
 have H':=zqd.mk H
 clear H
 go_enter Tryd.func114,Tryd.ntmps114
 go_wp2
 go_loopg [9] k (fun kq v9 w' => ∃ (x9_1:Int),v9 = .int .i64 x9_1∧zqd (zjv.l0 kq l0 a1 l0 (l0.length:Int) x9_1=some r)∧zqd (kq≤k)∧zqd (Below w.heap.size w w'))
 case atStart=>exact⟨(0),(by first|rfl|(simp;done)|(simp [*];done)|(generalize ByteArray.toList _=q_;cases q_ <;> rfl)),H',⟨Nat.le_refl _⟩,⟨by repeat(first|(with_reducible first|exact HB.out|apply zqb|apply zqa|apply zqc)|exact HB.out)⟩⟩
 case round=>
  clear H'
  try clear c1
  try clear p2
  obtain ⟨x9_1,rfl,HA,HK1,HB⟩:=hrel
  cases gk with
  | zero=>exact absurd HA.out (by simp [zjv.l0])
  | succ k1=>
   have H:=HA.out
   clear HA
   simp only [zjv.l0] at H
   by_cases c3:x9_1<(l0.length:Int)
   ·rw [if_pos c3] at H
    have c3b0:decide (x9_1<(l0.length:Int))=true:=decide_eq_true c3
    clear c3
    by_cases c4:0≤x9_1
    ·rw [if_pos c4] at H
     have c4b0:decide (0≤x9_1)=true:=decide_eq_true c4
     clear c4
     by_cases c5:x9_1<(l0.length:Int)
     ·rw [if_pos c5] at H
      have c5b0:decide (x9_1<(l0.length:Int))=true:=decide_eq_true c5
      clear c5
      by_cases c6:(rd l0 x9_1)<0
      ·rw [if_pos c6] at H
       have c6b0:decide ((rd l0 x9_1)<0)=true:=decide_eq_true c6
       clear c6
       obtain rfl:=Option.some.inj H
       have p122:0≤(x9_1:Int):=of_decide_eq_true (by first|(with_reducible assumption)|assumption)
       have q122:x9_1<(l0.length:Int):=of_decide_eq_true (by first|(with_reducible assumption)|assumption)
       obtain ⟨ad122,e122,hx122_0⟩:=Kd.zke HR0.out x9_1 p122 q122
       cases e122
       replace hx122_0:=(HB.out.cell (World.block_lt_of_cell? w _ hx122_0)).trans hx122_0
       replace p122:=eq_true p122
       replace q122:=eq_true q122
       go_wp2
       go_ret
       exact⟨by first|rfl|(simp [zqm,zql] <;> rfl)|(simp [*,zqm,zql] <;> rfl),by repeat(first|(with_reducible first|exact HB.out|apply zqb|apply zqa|apply zqc)|exact HB.out)⟩
      ·rw [if_neg c6] at H
       have c6b0:decide ((rd l0 x9_1)<0)=false:=decide_eq_false c6
       clear c6
       by_cases c7:(rd l0 x9_1) ≥ a1
       ·rw [if_pos c7] at H
        have c7b0:decide (a1≤(rd l0 x9_1))=true:=decide_eq_true c7
        clear c7
        obtain rfl:=Option.some.inj H
        have p122:0≤(x9_1:Int):=of_decide_eq_true (by first|(with_reducible assumption)|assumption)
        have q122:x9_1<(l0.length:Int):=of_decide_eq_true (by first|(with_reducible assumption)|assumption)
        obtain ⟨ad122,e122,hx122_0⟩:=Kd.zke HR0.out x9_1 p122 q122
        cases e122
        replace hx122_0:=(HB.out.cell (World.block_lt_of_cell? w _ hx122_0)).trans hx122_0
        replace p122:=eq_true p122
        replace q122:=eq_true q122
        go_wp2
        go_ret
        exact⟨by first|rfl|(simp [zqm,zql] <;> rfl)|(simp [*,zqm,zql] <;> rfl),by repeat(first|(with_reducible first|exact HB.out|apply zqb|apply zqa|apply zqc)|exact HB.out)⟩
       ·rw [if_neg c7] at H
        have c7b0:decide (a1≤(rd l0 x9_1))=false:=decide_eq_false c7
        clear c7
        have H':=zqd.mk H
        clear H
        have p122:0≤(x9_1:Int):=of_decide_eq_true (by first|(with_reducible assumption)|assumption)
        have q122:x9_1<(l0.length:Int):=of_decide_eq_true (by first|(with_reducible assumption)|assumption)
        obtain ⟨ad122,e122,hx122_0⟩:=Kd.zke HR0.out x9_1 p122 q122
        cases e122
        replace hx122_0:=(HB.out.cell (World.block_lt_of_cell? w _ hx122_0)).trans hx122_0
        replace p122:=eq_true p122
        replace q122:=eq_true q122
        go_wp2
        go_roundg k1
        case measure=>have:=HK1.out;omega
        case rel=>exact⟨(wrap64 (x9_1+1)),(by first|rfl|(simp;done)|(simp [*];done)|(generalize ByteArray.toList _=q_;cases q_ <;> rfl)),H',⟨by have:=HK1.out;omega⟩,⟨by repeat(first|(with_reducible first|exact HB.out|apply zqb|apply zqa|apply zqc)|exact HB.out)⟩⟩
     ·rw [if_neg c5] at H
      exact absurd H (by simp)
    ·rw [if_neg c4] at H
     exact absurd H (by simp)
   ·rw [if_neg c3] at H
    have c3b0:decide (x9_1<(l0.length:Int))=false:=decide_eq_false c3
    clear c3
    by_cases c8:(l0.length:Int) > 0
    ·rw [if_pos c8] at H
     have c8b0:decide (0<(l0.length:Int))=true:=decide_eq_true c8
     have c8b1:decide (0<l0.length)=true:=decide_eq_true (by omega)
     clear c8
     by_cases c9:(l0.length:Int)≤3
     ·rw [if_pos c9] at H
      have c9b0:decide ((l0.length:Int)≤3)=true:=decide_eq_true c9
      have c9b1:decide (l0.length≤3)=true:=decide_eq_true (by omega)
      clear c9
      replace H:=Option.bind_eq_some_iff.mp H
      obtain ⟨t123,A100,H⟩:=H
      replace H:(some t123)=some r:=H
      have A10:=zqd.mk A100
      clear A100
      obtain rfl:=Option.some.inj H
      go_wp2_with (first|(go_at_call 146;(with_reducible refine(zjx.calls _ _ l0 t123 _ ?side1 ?side2 A10.out).mono ?_);(case side1=>repeat(first|exact(Kd.zq3 HR0.out HB.out)|(with_reducible refine Kd.zqw ?_ _)|(with_reducible refine Kd.zqy ?_ _)|(with_reducible refine Kd.zq2 ?_)));(case side2=>exact HC0.out);rintro e w11 ⟨rfl,hb⟩;have n0_:=zqd.mk (zqn (by repeat(first|(with_reducible first|exact HB.out|apply zqb|apply zqa|apply zqc)|exact HB.out)) hb);clear HB;have HB:=n0_;clear n0_;(try clear hb);(try clear hb2);(try clear hk);(try clear hi)))
      go_ret
      exact⟨by first|rfl|(simp [zqm,zql] <;> rfl)|(simp [*,zqm,zql] <;> rfl),by repeat(first|(with_reducible first|exact HB.out|apply zqb|apply zqa|apply zqc)|exact HB.out)⟩
     ·rw [if_neg c9] at H
      have c9b0:decide ((l0.length:Int)≤3)=false:=decide_eq_false c9
      have c9b1:decide (l0.length≤3)=false:=decide_eq_false (by omega)
      clear c9
      obtain rfl:=Option.some.inj H
      go_wp2
      go_ret
      exact⟨by first|rfl|(simp [zqm,zql] <;> rfl)|(simp [*,zqm,zql] <;> rfl),by repeat(first|(with_reducible first|exact HB.out|apply zqb|apply zqa|apply zqc)|exact HB.out)⟩
    ·rw [if_neg c8] at H
     have c8b0:decide (0<(l0.length:Int))=false:=decide_eq_false c8
     have c8b1:decide (0<l0.length)=false:=decide_eq_false (by omega)
     clear c8
     obtain rfl:=Option.some.inj H
     go_wp2
     go_ret
     exact⟨by first|rfl|(simp [zqm,zql] <;> rfl)|(simp [*,zqm,zql] <;> rfl),by repeat(first|(with_reducible first|exact HB.out|apply zqb|apply zqa|apply zqc)|exact HB.out)⟩

/-! ### zxr: function 115, by hand -/
-- HAND rounds=0 making=1 func=1 imports=Derived.Test.YthhejedfjgikdaaDoorOpen
-- INFO 9
/-- The names of things. -/
def zxr.f (l0:List S90):Option (List ByteArray):=if l0.length * 16≤140737488351232 then some (l0.map (·.f0)) else none
theorem zxr.at_ {w:World} {A:Option Addr} {l:List S90} (h:Kd.C k90 w A l.length l) (h0:0<l.length):∃ b o,A=some ⟨b,o,none⟩ ∧ ∀ (i:Nat) (hi:i<l.length),w.cell? ⟨b,o+i * 3,none⟩=some (.string l[i].f0)∧w.cell? ⟨b,o+i * 3+1,none⟩=some (.int .i64 l[i].f1)∧w.cell? ⟨b,o+i * 3+2,none⟩=some (.bool l[i].f2):=by
 obtain ⟨ad,rfl,g0,_⟩:=at_T90 h 0 (by omega) (by omega)
 have hs:ad.spot=none:=by
  cases hsp:ad.spot with
  | none=>rfl
  | some s=>
   exfalso
   rw [show ad.add ((0:Int).toNat * 3)=ad from by simp [Addr.add]] at g0
   unfold World.cell? at g0
   split at g0
   ·rw [hsp] at g0
    simp at g0
   ·cases g0
 obtain ⟨b,o,sp⟩:=ad
 dsimp only at hs
 subst hs
 refine⟨b,o,rfl,fun i hi=>?_⟩
 obtain ⟨ad,e,g0,g1,g2⟩:=at_T90 h (i:Int) (by omega) (by omega)
 cases e
 have ee:zqp l (i:Int)=l[i]:=by simp [zqp,List.getD_eq_getElem?_getD,hi]
 have ha:(⟨b,o,none⟩:Addr).add ((i:Int).toNat * 3)=⟨b,o+i * 3,none⟩:=by rw [Int.toNat_natCast];unfold Addr.add;split <;> simp_all
 rw [ee] at g0 g1 g2
 rw [ha] at g0 g1 g2
 exact⟨g0,g1,g2⟩
theorem zxr.of_ (x:S90) (w:World):Calls Tryd.prog 116 #[.agg #[.string x.f0,.int .i64 x.f1,.bool x.f2]] w fun e w'=>e = .returned (.string x.f0)∧Below w.heap.size w w':=by
 go_enter Tryd.func116,Tryd.ntmps116
 go_wp2
 go_ret
 exact⟨rfl,zqb (Below.refl _ _) _⟩
theorem zxr.set_ {α:Type} (f:α→ByteArray) (l:List α) (j:Nat) (h:j<l.length):((l.take j).map f ++ List.replicate (l.length - j) ByteArray.empty).set j (f l[j])=(l.take (j+1)).map f ++ List.replicate (l.length - (j+1)) ByteArray.empty:=by
 rw [List.take_succ_eq_append_getElem h,List.map_append,List.append_assoc]
 rw [List.set_append_right _ _ (by simp;omega)]
 simp only [List.length_map,List.length_take,show min j l.length=j by omega,Nat.sub_self]
 obtain ⟨m,hm⟩:∃ m,l.length - j=m+1:=⟨l.length - j - 1,by omega⟩
 rw [hm,show l.length - (j+1)=m by omega,List.replicate_succ]
 rfl
set_option maxRecDepth 100000 in
set_option maxHeartbeats 4000000 in
theorem zxr.calls (A0:Option Addr) (c0:Nat) (l0:List S90) (r:List ByteArray) (w:World) (hr0:Kd.C k90 w A0 l0.length l0) (hc0:l0.length≤c0) (h:zxr.f l0=some r) :
  Calls Tryd.prog 115 #[.slice A0 l0.length c0,.func (.func 116) #[] #[]] w fun e w' => ∃ v0_:Value,e = .returned (v0_)∧Kd.R Kd.string 9 w' w.heap.size (fun _=>True) v0_ r∧Below w.heap.size w w':=by
 unfold zxr.f at h
 split at h
 rotate_left
 ·cases h
 rename_i hb
 obtain rfl:=Option.some.inj h
 have HR:=zqd.mk hr0
 clear h hr0
 have hm:l0.length≤9223372036854775807:=by omega
 go_enter Tryd.func115,Tryd.ntmps115
 go_wp2_with (refine Kd.R_make Kd.string (w0:=w) w.heap.size 9 rfl rfl 118 (.tmp 9) (.tmp 9) rfl (l0.length:Int) rfl rfl Tryd.underlying118 (.string ByteArray.empty) 16 info9 rfl (by decide) (by decide) ByteArray.empty (ok:=fun _=>True) (okp:=fun _=>True) rfl (fun _ h=>h) trivial (by omega) (by omega) (Below.refl _ _) (Nat.le_refl _) ?_;intro v1 w1 ho1 hb1 hg1 hown1;have HO1:=zqd.mk ho1;have HB1:=zqd.mk hb1;clear ho1 hb1 hg1 hown1)
 rw [Int.toNat_natCast] at HO1
 go_loopw [13] (fun i wr => ∃ j:Nat,j≤l0.length∧i = .int .i64 j∧zqd (Kd.R Kd.string 9 wr w.heap.size (fun _=>True) v1 ((l0.take j).map (·.f0) ++ List.replicate (l0.length - j) ByteArray.empty))∧zqd (Below w.heap.size w wr)) (fun i _=>l0.length - (intOf i).toNat)
 case atStart=>exact⟨0,Nat.zero_le _,rfl,⟨by simpa using HO1.out⟩,HB1⟩
 case round=>
  clear HO1 HB1
  obtain ⟨j,hj,rfl,HO,HB⟩:=hrel
  by_cases hlt:j<l0.length
  ·obtain ⟨g,cap,hv,hbg,hgl,cells,hcell⟩:=Kd.R_form HO.out (by simp;omega)
   rw [show((l0.take j).map (·.f0) ++ List.replicate (l0.length - j) ByteArray.empty).length=l0.length by simp;omega] at hv
   subst hv
   obtain ⟨hce,hfr⟩:=Kd.R_celln ByteArray.empty HO.out (j:Int) (by omega) (by omega)
   simp only [Int.toNat_natCast] at hce hfr
   have HCE:=zqd.mk hce
   have HFR:=zqd.mk hfr
   obtain ⟨b,o,rfl,hcs⟩:=zxr.at_ (Kd.zq3 HR.out HB.out) (by omega)
   obtain ⟨p0,p1,p2⟩:=hcs j hlt
   have HSET:=zqd.mk (zxr.set_ (·.f0) l0 j hlt)
   clear hce hfr hcell hcs
   generalize l0[j]=x at *
   go_wp2_with (go_at_call 116;refine(zxr.of_ x _).mono ?_;rintro e2 w2 ⟨rfl,hb2⟩;have HB2:zqd (Below wr.heap.size wr w2):=⟨(zqb (Below.refl wr.heap.size wr) _).trans (hb2.mono (zqb (Below.refl wr.heap.size wr) _).size)⟩;clear hb2;have hce2:=zq6 HB2.out HCE.out;have hfr2:=(HB2.out.frozen (p:=⟨g,j,none⟩) hgl).trans HFR.out)
   go_roundw
   case rel=>exact⟨j+1,by omega,by go_num,⟨by have h3:=Kd.R_putn (Kd.zxy HO.out HB2.out) (j:Int) x.f0;rw [Int.toNat_natCast,HSET.out] at h3;exact h3⟩,⟨(HB.out.trans (HB2.out.mono HB.out.size)).setCell hbg _⟩⟩
   case measure=>simp [intOf];omega
  ·obtain rfl:j=l0.length:=by omega
   go_wp2
   go_ret
   exact⟨_,rfl,by simpa using HO.out,HB.out⟩

/-! ### zkn: function 116 -/
def zkn.f (a0_0:ByteArray) (a0_1:Int) (a0_2:Bool):Option (ByteArray):=some a0_0
set_option maxHeartbeats 8000000 in
set_option maxRecDepth 100000 in
theorem zkn.calls (a0_0:ByteArray) (a0_1:Int) (a0_2:Bool) (r:ByteArray) (w:World) (h:zkn.f a0_0 a0_1 a0_2=some r) :
  Calls Tryd.prog 116 #[.agg #[.string a0_0,.int .i64 a0_1,.bool a0_2]] w fun e w'=>e = .returned (.string r)∧Below w.heap.size w w':=by
 have hu90:=Tryd.underlying90
 have HB:=zqd.mk (Below.refl w.heap.size w)
 have H:(some a0_0)=some r:=h
 clear h
 obtain rfl:=Option.some.inj H
 go_enter Tryd.func116,Tryd.ntmps116
 go_wp2_with (first|((with_reducible refine zqx (N:=1) rfl ?_);refine zqt ?hg (N:=1) ?hd (cs:=#[.string a0_0,.int .i64 a0_1,.bool a0_2]) (t:=90) ?hr ?_;(case hd=>rfl);(case hg=>rfl);(case hr=>first|(go_simp;done)|(go_simp;rfl));intro gb124 hg w2 hbox hb;have n0_:=zqd.mk (zqn (by repeat(first|(with_reducible first|exact HB.out|apply zqb|apply zqa|apply zqc)|exact HB.out)) hb);have n1_:=zqd.mk (hbox);have n2_:=zqd.mk ((by rw [hg];exact(zqk (by repeat(first|(with_reducible first|exact HB.out|apply zqb|apply zqa|apply zqc)|exact HB.out))):w.heap.size≤gb124));have n3_:=zqd.mk ((by rw [hg];exact(zqk (by repeat(first|(with_reducible first|exact HB.out|apply zqb|apply zqa|apply zqc)|exact HB.out))):w.heap.size≤gb124));clear HB;have HB:=n0_;have BK124:=n1_;have GW124:=n2_;have GE124:=n3_;clear n0_ n1_ n2_ n3_ hb hbox hg;have hcz3_0:w2.cell? ⟨gb124,0,none⟩=some (.string a0_0):=(zqf BK124.out 0).trans rfl;have hcz3_1:w2.cell? ⟨gb124,1,none⟩=some (.int .i64 a0_1):=(zqf BK124.out 1).trans rfl;have hcz3_2:w2.cell? ⟨gb124,2,none⟩=some (.bool a0_2):=(zqf BK124.out 2).trans rfl;have hfz3_0:=zqe BK124.out 0;have hfz3_1:=zqe BK124.out 1;have hfz3_2:=zqe BK124.out 2))
 go_ret
 exact⟨by first|rfl|(simp [zqm,zql] <;> rfl)|(simp [*,zqm,zql] <;> rfl),by repeat(first|(with_reducible first|exact HB.out|apply zqb|apply zqa|apply zqc|refine zqi ?_ GE124.out)|exact HB.out)⟩

/-! ### zxs: function 117, by hand -/
-- HAND rounds=0 making=1 func=1 imports=Derived.Test.YthhejedfjgikdaaDoorOpen
-- INFO 9
/-- The names of things. -/
def zxs.f (l0:List S96):Option (List ByteArray):=if l0.length * 16≤140737488351232 then some (l0.map (·.f0)) else none
theorem zxs.at_ {w:World} {A:Option Addr} {l:List S96} (h:Kd.C k96 w A l.length l) (h0:0<l.length):∃ b o,A=some ⟨b,o,none⟩ ∧ ∀ (i:Nat) (hi:i<l.length),∃ A1 c1,w.cell? ⟨b,o+i * 2,none⟩=some (.string l[i].f0)∧w.cell? ⟨b,o+i * 2+1,none⟩=some (.slice A1 l[i].f1.length c1)∧l[i].f1.length≤c1∧Kd.C (Kd.int .i64) w A1 l[i].f1.length l[i].f1:=by
 obtain ⟨ad,A1,c1,rfl,g0,_⟩:=at_T96 h 0 (by omega) (by omega)
 have hs:ad.spot=none:=by
  cases hsp:ad.spot with
  | none=>rfl
  | some s=>
   exfalso
   rw [show ad.add ((0:Int).toNat * 2)=ad from by simp [Addr.add]] at g0
   unfold World.cell? at g0
   split at g0
   ·rw [hsp] at g0
    simp at g0
   ·cases g0
 obtain ⟨b,o,sp⟩:=ad
 dsimp only at hs
 subst hs
 refine⟨b,o,rfl,fun i hi=>?_⟩
 obtain ⟨ad,A1,c1,e,g0,g1,l1,r1⟩:=at_T96 h (i:Int) (by omega) (by omega)
 cases e
 have ee:zq0 l (i:Int)=l[i]:=by simp [zq0,List.getD_eq_getElem?_getD,hi]
 have ha:(⟨b,o,none⟩:Addr).add ((i:Int).toNat * 2)=⟨b,o+i * 2,none⟩:=by rw [Int.toNat_natCast];unfold Addr.add;split <;> simp_all
 rw [ee] at g0 g1 l1 r1
 rw [ha] at g0 g1
 exact⟨A1,c1,g0,g1,l1,r1⟩
theorem zxs.of_ (A1:Option Addr) (c1:Nat) (x:S96) (w:World):Calls Tryd.prog 118 #[.agg #[.string x.f0,.slice A1 x.f1.length c1]] w fun e w'=>e = .returned (.string x.f0)∧Below w.heap.size w w':=by
 go_enter Tryd.func118,Tryd.ntmps118
 go_wp2
 go_ret
 exact⟨rfl,zqb (Below.refl _ _) _⟩
theorem zxs.set_ {α:Type} (f:α→ByteArray) (l:List α) (j:Nat) (h:j<l.length):((l.take j).map f ++ List.replicate (l.length - j) ByteArray.empty).set j (f l[j])=(l.take (j+1)).map f ++ List.replicate (l.length - (j+1)) ByteArray.empty:=by
 rw [List.take_succ_eq_append_getElem h,List.map_append,List.append_assoc]
 rw [List.set_append_right _ _ (by simp;omega)]
 simp only [List.length_map,List.length_take,show min j l.length=j by omega,Nat.sub_self]
 obtain ⟨m,hm⟩:∃ m,l.length - j=m+1:=⟨l.length - j - 1,by omega⟩
 rw [hm,show l.length - (j+1)=m by omega,List.replicate_succ]
 rfl
set_option maxRecDepth 100000 in
set_option maxHeartbeats 4000000 in
theorem zxs.calls (A0:Option Addr) (c0:Nat) (l0:List S96) (r:List ByteArray) (w:World) (hr0:Kd.C k96 w A0 l0.length l0) (hc0:l0.length≤c0) (h:zxs.f l0=some r) :
  Calls Tryd.prog 117 #[.slice A0 l0.length c0,.func (.func 118) #[] #[]] w fun e w' => ∃ v0_:Value,e = .returned (v0_)∧Kd.R Kd.string 9 w' w.heap.size (fun _=>True) v0_ r∧Below w.heap.size w w':=by
 unfold zxs.f at h
 split at h
 rotate_left
 ·cases h
 rename_i hb
 obtain rfl:=Option.some.inj h
 have HR:=zqd.mk hr0
 clear h hr0
 have hm:l0.length≤9223372036854775807:=by omega
 go_enter Tryd.func117,Tryd.ntmps117
 go_wp2_with (refine Kd.R_make Kd.string (w0:=w) w.heap.size 9 rfl rfl 118 (.tmp 9) (.tmp 9) rfl (l0.length:Int) rfl rfl Tryd.underlying118 (.string ByteArray.empty) 16 info9 rfl (by decide) (by decide) ByteArray.empty (ok:=fun _=>True) (okp:=fun _=>True) rfl (fun _ h=>h) trivial (by omega) (by omega) (Below.refl _ _) (Nat.le_refl _) ?_;intro v1 w1 ho1 hb1 hg1 hown1;have HO1:=zqd.mk ho1;have HB1:=zqd.mk hb1;clear ho1 hb1 hg1 hown1)
 rw [Int.toNat_natCast] at HO1
 go_loopw [13] (fun i wr => ∃ j:Nat,j≤l0.length∧i = .int .i64 j∧zqd (Kd.R Kd.string 9 wr w.heap.size (fun _=>True) v1 ((l0.take j).map (·.f0) ++ List.replicate (l0.length - j) ByteArray.empty))∧zqd (Below w.heap.size w wr)) (fun i _=>l0.length - (intOf i).toNat)
 case atStart=>exact⟨0,Nat.zero_le _,rfl,⟨by simpa using HO1.out⟩,HB1⟩
 case round=>
  clear HO1 HB1
  obtain ⟨j,hj,rfl,HO,HB⟩:=hrel
  by_cases hlt:j<l0.length
  ·obtain ⟨g,cap,hv,hbg,hgl,cells,hcell⟩:=Kd.R_form HO.out (by simp;omega)
   rw [show((l0.take j).map (·.f0) ++ List.replicate (l0.length - j) ByteArray.empty).length=l0.length by simp;omega] at hv
   subst hv
   obtain ⟨hce,hfr⟩:=Kd.R_celln ByteArray.empty HO.out (j:Int) (by omega) (by omega)
   simp only [Int.toNat_natCast] at hce hfr
   have HCE:=zqd.mk hce
   have HFR:=zqd.mk hfr
   obtain ⟨b,o,rfl,hcs⟩:=zxs.at_ (Kd.zq3 HR.out HB.out) (by omega)
   obtain ⟨A1,c1,p0,p1,l1,r1⟩:=hcs j hlt
   have HSET:=zqd.mk (zxs.set_ (·.f0) l0 j hlt)
   clear hce hfr hcell hcs
   generalize l0[j]=x at *
   go_wp2_with (go_at_call 118;refine(zxs.of_ A1 c1 x _).mono ?_;rintro e2 w2 ⟨rfl,hb2⟩;have HB2:zqd (Below wr.heap.size wr w2):=⟨(zqb (Below.refl wr.heap.size wr) _).trans (hb2.mono (zqb (Below.refl wr.heap.size wr) _).size)⟩;clear hb2;have hce2:=zq6 HB2.out HCE.out;have hfr2:=(HB2.out.frozen (p:=⟨g,j,none⟩) hgl).trans HFR.out)
   go_roundw
   case rel=>exact⟨j+1,by omega,by go_num,⟨by have h3:=Kd.R_putn (Kd.zxy HO.out HB2.out) (j:Int) x.f0;rw [Int.toNat_natCast,HSET.out] at h3;exact h3⟩,⟨(HB.out.trans (HB2.out.mono HB.out.size)).setCell hbg _⟩⟩
   case measure=>simp [intOf];omega
  ·obtain rfl:j=l0.length:=by omega
   go_wp2
   go_ret
   exact⟨_,rfl,by simpa using HO.out,HB.out⟩

/-! ### catalog_indexName: function 118 -/
def catalog_indexName.f (a0_0:ByteArray) (l0_1:List Int):Option (ByteArray):=some a0_0
set_option maxHeartbeats 8000000 in
set_option maxRecDepth 100000 in
theorem catalog_indexName.calls (a0_0:ByteArray) (A0_1:Option Addr) (c0_1:Nat) (l0_1:List Int) (r:ByteArray) (w:World) (hr0_1:Kd.C (Kd.int .i64) w A0_1 l0_1.length l0_1) (hc0_1:l0_1.length≤c0_1) (h:catalog_indexName.f a0_0 l0_1=some r) :
  Calls Tryd.prog 118 #[.agg #[.string a0_0,.slice A0_1 l0_1.length c0_1]] w fun e w'=>e = .returned (.string r)∧Below w.heap.size w w':=by
 have hu96:=Tryd.underlying96
 have HR0_1:=zqd.mk hr0_1
 have HC0_1:=zqd.mk hc0_1
 clear hr0_1 hc0_1
 have HB:=zqd.mk (Below.refl w.heap.size w)
 have H:(some a0_0)=some r:=h
 clear h
 obtain rfl:=Option.some.inj H
 go_enter Tryd.func118,Tryd.ntmps118
 go_wp2_with (first|((with_reducible refine zqx (N:=1) rfl ?_);refine zqt ?hg (N:=1) ?hd (cs:=#[.string a0_0,.slice A0_1 l0_1.length c0_1]) (t:=96) ?hr ?_;(case hd=>rfl);(case hg=>rfl);(case hr=>first|(go_simp;done)|(go_simp;rfl));intro gb125 hg w2 hbox hb;have n0_:=zqd.mk (zqn (by repeat(first|(with_reducible first|exact HB.out|apply zqb|apply zqa|apply zqc)|exact HB.out)) hb);have n1_:=zqd.mk (hbox);have n2_:=zqd.mk ((by rw [hg];exact(zqk (by repeat(first|(with_reducible first|exact HB.out|apply zqb|apply zqa|apply zqc)|exact HB.out))):w.heap.size≤gb125));have n3_:=zqd.mk ((by rw [hg];exact(zqk (by repeat(first|(with_reducible first|exact HB.out|apply zqb|apply zqa|apply zqc)|exact HB.out))):w.heap.size≤gb125));clear HB;have HB:=n0_;have BK125:=n1_;have GW125:=n2_;have GE125:=n3_;clear n0_ n1_ n2_ n3_ hb hbox hg;have hcz3_0:w2.cell? ⟨gb125,0,none⟩=some (.string a0_0):=(zqf BK125.out 0).trans rfl;have hcz3_1:w2.cell? ⟨gb125,1,none⟩=some (.slice A0_1 l0_1.length c0_1):=(zqf BK125.out 1).trans rfl;have hfz3_0:=zqe BK125.out 0;have hfz3_1:=zqe BK125.out 1))
 go_ret
 exact⟨by first|rfl|(simp [zqm,zql] <;> rfl)|(simp [*,zqm,zql] <;> rfl),by repeat(first|(with_reducible first|exact HB.out|apply zqb|apply zqa|apply zqc|refine zqi ?_ GE125.out)|exact HB.out)⟩

end Go.Proofs.YthhejedfjgikdaaDoor.PRowEntries
