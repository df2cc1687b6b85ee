-- Written by wip/pp of this repo (over the kit's print, with additions of this session); Lean checks every line.
import Derived.Test.YthhejedfjgikdaaDoorPRowReadsx0
namespace Go.Proofs.YthhejedfjgikdaaDoor.PRowReads
open Go.RowKit Go.Proofs.YthhejedfjgikdaaDoorW.PrintWords Go.Proofs.YthhejedfjgikdaaDoorW.PrintLast Go.Proofs.YthhejedfjgikdaaDoorW.PrintMore
attribute [local go_sem] zjo zjm zjw zjv zja zq9 zjn zjl   -- for this text's walks alone
set_option linter.unusedVariables false
set_option linter.unusedSimpArgs false

/-! ### qk: function 150, by hand -/
-- HAND rounds=0 making=1 laid=1 imports=Derived.Shelf.Unicode.ValidAny,Derived.Lib.ValidAsc,Derived.Lib.LaidU8T,Derived.Deep.QuietTactic,Derived.BigQuiet,Derived.Deep.CutBlock,Derived.Deep.DeepCutAuto,Derived.Deep.LoopGhost,Derived.Test.YthhejedfjgikdaaDoorShelfV
-- INFO 5
def qk.txt (l:List Int):ByteArray:=⟨(l.map fun x=>UInt8.ofNat x.toNat).toArray⟩
def qk.f (l0:List Int):Option Bool:=if ∀ x ∈ l0,0≤x∧x≤255 then some (Lib.validD (qk.txt l0).data.toList) else none
theorem qk.txt_bytes (l:List Int) (h:∀ x ∈ l,0≤x∧x≤255):bytesOf (qk.txt l)=l:=by
 unfold bytesOf qk.txt
 simp only [List.map_map]
 conv=>rhs;rw [← List.map_id l]
 refine List.map_congr_left (fun x hx=>?_)
 have:=h x hx
 simp only [Function.comp,id,UInt8.toNat_ofNat']
 omega
theorem qk.txt_size (l:List Int):(qk.txt l).size=l.length:=by simp [qk.txt,ByteArray.size]
section
open Go.Shelf Go.Proofs
def qk.Rd (w:World) (A:Option Addr) (t:ByteArray):Prop:=zju w .u8 A t.size (bytesOf t)
theorem qk.Rd.below {w w1:World} {A:Option Addr} {t:ByteArray} (h:qk.Rd w A t) (hb:Below w.heap.size w w1):qk.Rd w1 A t:=zju.below h hb
theorem qk.cell_ {w:World} {A:Option Addr} {t:ByteArray} (h:qk.Rd w A t) (h0:0<t.size):∃ ad,A=some ad ∧ ∀ i,i<t.size→w.cell? (ad.add i)=some (.int .u8 ((t.get! i).toNat:Int)):=by
 obtain ⟨ad,e,hc⟩:=h.2.2 h0
 refine⟨ad,e,fun i hi=>?_⟩
 rw [hc i hi]
 have:(bytesOf t).getD i 0=((t.get! i).toNat:Int):=by
  rw [Utf8W.get!_of_lt t i hi]
  have h1:=rd_bytesOf t (i:Int)
  rw [← zxj t (i:Int) (by simpa using hi)] at h1
  simpa [rd] using h1
 rw [this]
theorem qk.cut_ (t:ByteArray) (A:Option Addr) (m:Nat) (hm:m≤t.size):∃ A':Option Addr,(∀ W:World,(Instr.slice 30 (.slice A t.size t.size) (some (.int .i64 (m:Int))) none none).run Tryd.prog W = .ok (.slice A' (t.extract m t.size).size (t.extract m t.size).size) W) ∧ ∀ w:World,qk.Rd w A t→qk.Rd w A' (t.extract m t.size):=by
 obtain ⟨i,hi,hz⟩:=Option.map_eq_some_iff.1 zxr
 simp only [Prod.mk.injEq] at hz
 obtain ⟨A',h1,h2⟩:=print_cut (P:=Tryd.prog) 30 5 .i64 Tryd.underlying30 hi hz.2.1 A t.size t.size m hm
 refine⟨A',fun W=>?_,fun w h=>?_⟩
 ·rw [Lib.ext_size];exact h1 W
 have h3:=h2 w .u8 (bytesOf t) (Nat.le_refl _) h
 unfold qk.Rd
 rw [Lib.ext_size,show bytesOf (t.extract m t.size)=(bytesOf t).drop m from by unfold bytesOf;rw [Lib.ext_list,List.map_drop]]
 exact h3
theorem qk.off_ {w:World} {ad:Addr} {t:ByteArray} (h:qk.Rd w (some ad) t) (m:Nat) (h0:0<m) (hm:m≤t.size):qk.Rd w (some ⟨ad.block,ad.off+m,none⟩) (t.extract m t.size):=by
 unfold qk.Rd at *
 have h3:=zju.drop_ h m hm (Nat.le_refl _)
 rw [Lib.ext_size,show bytesOf (t.extract m t.size)=(bytesOf t).drop m from by unfold bytesOf;rw [Lib.ext_list,List.map_drop]]
 by_cases e:t.size=m
 ·refine⟨h3.1,h3.2.1,fun q=>by omega⟩
 rw [if_neg e] at h3
 have:(some ad).map (·.add m)=some ⟨ad.block,ad.off+m,none⟩:=by simp [Addr.add];omega
 rwa [this] at h3
set_option maxHeartbeats 8000000 in
set_option maxRecDepth 100000 in
theorem qk.word_ (t:ByteArray) (A:Option Addr) (w:World) (hs:8≤t.size) (hr:qk.Rd w A t) :
  Calls Tryd.prog 165 #[.slice A t.size t.size] w fun e w'=>e = .returned (.int .u64 (Lib.leNat [t.get! 0,t.get! 1,t.get! 2,t.get! 3,t.get! 4,t.get! 5,t.get! 6,t.get! 7])) ∧ ∃ q,w'=w.drewN q:=by
 have hm:=hr.2.1
 obtain ⟨ad,rfl,hc⟩:=qk.cell_ hr (by omega)
 obtain ⟨x0,hx0⟩:∃ x0,t.get! 0=x0:=⟨_,rfl⟩
 have hc0:=hc 0 (by omega)
 rw [hx0] at hc0
 have h0:x0.toNat<256:=x0.toNat_lt
 have p0:(0:Int)<(t.size:Int):=by omega
 have q0:0<t.size:=by omega
 obtain ⟨x1,hx1⟩:∃ x1,t.get! 1=x1:=⟨_,rfl⟩
 have hc1:=hc 1 (by omega)
 rw [hx1] at hc1
 have h1:x1.toNat<256:=x1.toNat_lt
 have p1:(1:Int)<(t.size:Int):=by omega
 have q1:1<t.size:=by omega
 obtain ⟨x2,hx2⟩:∃ x2,t.get! 2=x2:=⟨_,rfl⟩
 have hc2:=hc 2 (by omega)
 rw [hx2] at hc2
 have h2:x2.toNat<256:=x2.toNat_lt
 have p2:(2:Int)<(t.size:Int):=by omega
 have q2:2<t.size:=by omega
 obtain ⟨x3,hx3⟩:∃ x3,t.get! 3=x3:=⟨_,rfl⟩
 have hc3:=hc 3 (by omega)
 rw [hx3] at hc3
 have h3:x3.toNat<256:=x3.toNat_lt
 have p3:(3:Int)<(t.size:Int):=by omega
 have q3:3<t.size:=by omega
 obtain ⟨x4,hx4⟩:∃ x4,t.get! 4=x4:=⟨_,rfl⟩
 have hc4:=hc 4 (by omega)
 rw [hx4] at hc4
 have h4:x4.toNat<256:=x4.toNat_lt
 have p4:(4:Int)<(t.size:Int):=by omega
 have q4:4<t.size:=by omega
 obtain ⟨x5,hx5⟩:∃ x5,t.get! 5=x5:=⟨_,rfl⟩
 have hc5:=hc 5 (by omega)
 rw [hx5] at hc5
 have h5:x5.toNat<256:=x5.toNat_lt
 have p5:(5:Int)<(t.size:Int):=by omega
 have q5:5<t.size:=by omega
 obtain ⟨x6,hx6⟩:∃ x6,t.get! 6=x6:=⟨_,rfl⟩
 have hc6:=hc 6 (by omega)
 rw [hx6] at hc6
 have h6:x6.toNat<256:=x6.toNat_lt
 have p6:(6:Int)<(t.size:Int):=by omega
 have q6:6<t.size:=by omega
 obtain ⟨x7,hx7⟩:∃ x7,t.get! 7=x7:=⟨_,rfl⟩
 have hc7:=hc 7 (by omega)
 rw [hx7] at hc7
 have h7:x7.toNat<256:=x7.toNat_lt
 have p7:(7:Int)<(t.size:Int):=by omega
 have q7:7<t.size:=by omega
 rw [hx0,hx1,hx2,hx3,hx4,hx5,hx6,hx7]
 have hv:((Lib.leNat [x0,x1,x2,x3,x4,x5,x6,x7]:Nat):Int)=(x0.toNat:Int)+(x1.toNat:Int) * 256+(x2.toNat:Int) * 65536+(x3.toNat:Int) * 16777216+(x4.toNat:Int) * 4294967296+(x5.toNat:Int) * 1099511627776+(x6.toNat:Int) * 281474976710656+(x7.toNat:Int) * 72057594037927936:=by
  simp only [Lib.leNat]
  push_cast
  omega
 have HV:=zq.mk hv
 have hz0:w.cell? ad=some (.int .u8 (x0.toNat:Int)):=by simpa [Addr.add] using hc0
 have hz1:w.cell? ⟨ad.block,ad.off+1,none⟩=some (.int .u8 (x1.toNat:Int)):=by simpa [Addr.add] using hc1
 have hz2:w.cell? ⟨ad.block,ad.off+2,none⟩=some (.int .u8 (x2.toNat:Int)):=by simpa [Addr.add] using hc2
 have hz3:w.cell? ⟨ad.block,ad.off+3,none⟩=some (.int .u8 (x3.toNat:Int)):=by simpa [Addr.add] using hc3
 have hz4:w.cell? ⟨ad.block,ad.off+4,none⟩=some (.int .u8 (x4.toNat:Int)):=by simpa [Addr.add] using hc4
 have hz5:w.cell? ⟨ad.block,ad.off+5,none⟩=some (.int .u8 (x5.toNat:Int)):=by simpa [Addr.add] using hc5
 have hz6:w.cell? ⟨ad.block,ad.off+6,none⟩=some (.int .u8 (x6.toNat:Int)):=by simpa [Addr.add] using hc6
 have hz7:w.cell? ⟨ad.block,ad.off+7,none⟩=some (.int .u8 (x7.toNat:Int)):=by simpa [Addr.add] using hc7
 clear hc0 hc1 hc2 hc3 hc4 hc5 hc6 hc7
 clear hc hv hr hx0 hx1 hx2 hx3 hx4 hx5 hx6 hx7
 go_enter Tryd.func165,Tryd.ntmps165
 go_wp2
 go_quiet (fail)
 go_wp2
 go_ret
 refine⟨?_,_,rfl⟩
 simp (disch:=omega) only [u64_wrap_id,u64_or8,u64_or16,u64_or24,u64_or32,u64_or40,u64_or48,u64_or56]
 rw [HV.out]
 rfl
theorem qk.bdN {B:Nat} {a w:World} (h:Below B a w) (q:Nat):Below B a (w.drewN q):=zr h q
set_option maxRecDepth 100000 in
theorem qk.and7:∀ X:Fin 256,bits .and .u8 ((X.val:Nat):Int) 7=((X.val % 8:Nat):Int):=by decide
set_option maxHeartbeats 16000000 in
set_option maxRecDepth 1000000 in
theorem qk.valid_ (t0:ByteArray) (A0:Option Addr) (c0:Nat) (w:World) (hr:qk.Rd w A0 t0) (hc0:t0.size≤c0) (hT:Lib.Utf8Tabs 0 1 w) :
  Calls Tryd.prog 150 #[.slice A0 t0.size c0] w fun e w'=>e = .returned (.bool (Lib.validD t0.data.toList))∧Below w.heap.size w w':=by
 have hm:=hr.2.1
 obtain ⟨ANS,hANS⟩:∃ ANS,Lib.validD t0.data.toList=ANS:=⟨_,rfl⟩
 rw [hANS]
 have HR:=zq.mk hr
 have HT:=zq.mk hT
 have HA:=zq.mk hANS
 clear hr hT hANS
 go_enter Tryd.func150,Tryd.ntmps150
 go_wp2
 go_loopg [0] (t0.size+1) (fun gk s0 wx=>Below w.heap.size w wx ∧ ∃ (A:Option Addr) (t:ByteArray),s0 = .slice A t.size t.size∧zq (qk.Rd w A t)∧zq (Lib.validD t.data.toList=ANS)∧t.size<gk∧t.size≤9223372036854775807)
 case atStart=>exact⟨Below.refl _ _,A0,t0,rfl,HR,HA,by omega,hm⟩
 case round=>
  clear HA HR hc0
  obtain ⟨hbw,A,t,rfl,HR,HV,hg,hts⟩:=hrel
  by_cases h0:0<t.size
  rotate_left
  ·have h0z:¬ ((0:Int)<(t.size:Int)):=by omega
   have ht0:t.data.toList = []:=List.eq_nil_of_length_eq_zero (by rw [← Lib.size_eq];omega)
   have hv:=HV.out
   rw [ht0,Lib.validD_nil] at hv
   subst hv
   go_wp2
   go_ret
   exact⟨rfl,hbw⟩
  obtain ⟨g',rfl⟩:∃ g',gk=g'+1:=⟨gk - 1,by omega⟩
  have h0z:(0:Int)<(t.size:Int):=by omega
  obtain ⟨ad,rfl,hcl⟩:=qk.cell_ (HR.out.below hbw) h0
  have HCL:=zq.mk hcl
  obtain ⟨x0,hx0⟩:∃ x0,t.get! 0=x0:=⟨_,rfl⟩
  have hs0:=hcl 0 h0
  rw [hx0] at hs0
  have hs0':wr.cell? ad=some (.int .u8 (x0.toNat:Int)):=by simpa [Addr.add] using hs0
  have HX0:=zq.mk hx0
  have hx0lt:x0.toNat<256:=x0.toNat_lt
  clear hcl hs0 hx0
  by_cases hasc:x0.toNat<128
  ·as_aux_lemma=>
   have hascz:(x0.toNat:Int)<128:=by omega
   have a1:Lib.Asc t 1:=Lib.asc_one t h0 (by rw [HX0.out];exact hasc)
   obtain ⟨A1,r1,m1⟩:=qk.cut_ t (some ad) 1 h0
   have R1:=zq.mk (m1 w HR.out)
   obtain ⟨t1,ht1⟩:∃ t1,t.extract 1 t.size=t1:=⟨_,rfl⟩
   have z1:t1.size+1=t.size:=by rw [← ht1,Lib.ext_size];omega
   have v1:Lib.validD t1.data.toList=ANS:=by rw [← ht1,Lib.valid_skip t 1 a1];exact HV.out
   rw [ht1] at r1 R1
   have V1:=zq.mk v1
   clear a1 v1 ht1 HV m1
   have r1':∀ W:World,(Instr.slice 30 (.slice (some ad) t.size t.size) (some (.int .i64 1)) none none).run Tryd.prog W = .ok (.slice A1 t1.size t1.size) W:=r1
   clear r1
   by_cases c8:8<t1.size
   rotate_left
   ·have c8z:¬ ((8:Int)<(t1.size:Int)):=by omega
    go_wp2
    go_roundg g'
    case measure=>omega
    case rel=>exact⟨hbw,A1,t1,rfl,R1,V1,by omega,by omega⟩
   have c8z:(8:Int)<(t1.size:Int):=by omega
   have Rt1:=R1
   obtain ⟨W1,hW1⟩:∃ W1,Lib.leNat [t1.get! 0,t1.get! 1,t1.get! 2,t1.get! 3,t1.get! 4,t1.get! 5,t1.get! 6,t1.get! 7]=W1:=⟨_,rfl⟩
   have lW1:W1<18446744073709551616:=hW1 ▸ Lib.word_lt t1
   have cW1:∀ W:World,Below w.heap.size w W→Calls Tryd.prog 165 #[.slice A1 t1.size t1.size] W fun e w'=>e = .returned (.int .u64 (W1:Int)) ∧ ∃ q,w'=W.drewN q:=fun W hb=>by rw [← hW1];exact qk.word_ t1 A1 W (by omega) (Rt1.out.below hb)
   have CW1:=zq.mk cW1
   have kW1:=Lib.word_asc t1 (by omega)
   rw [hW1] at kW1
   clear cW1
   have hand1:bits .and .u64 (W1:Int) 9259542123273814144=((W1 &&& 9259542123273814144:Nat):Int):=u64_and_nat W1 9259542123273814144 lW1 (by omega)
   obtain ⟨Z1,hZ1⟩:∃ Z1,W1 &&& 9259542123273814144=Z1:=⟨_,rfl⟩
   rw [hZ1] at hand1 kW1
   by_cases hz1:Z1=0
   rotate_left
   ·have hz1b:((Z1:Int) == 0)=false:=by rw [beq_eq_false_iff_ne];omega
    clear kW1 hz1 hZ1 hW1
    go_wp2_with (go_at_call 165;refine(CW1.out _ hbw).mono ?_;rintro e W2 ⟨rfl,q1,rfl⟩)
    go_roundg g'
    case measure=>omega
    case rel=>exact⟨qk.bdN hbw q1,A1,t1,rfl,Rt1,V1,by omega,by omega⟩
   have hz1b:((Z1:Int) == 0)=true:=by rw [beq_iff_eq];omega
   have a8:Lib.Asc t1 8:=kW1.1 hz1
   obtain ⟨A2,rt2,mt2⟩:=qk.cut_ t1 A1 8 (by omega)
   have Rt2:=zq.mk (mt2 w Rt1.out)
   obtain ⟨t2,ht2⟩:∃ t2,t1.extract 8 t1.size=t2:=⟨_,rfl⟩
   have zt2:t2.size+8=t1.size:=by rw [← ht2,Lib.ext_size];omega
   rw [ht2] at rt2 Rt2
   have qt2:∀ W:World,(Instr.slice 30 (.slice A1 t1.size t1.size) (some (.int .i64 8)) none none).run Tryd.prog W = .ok (.slice A2 t2.size t2.size) W:=rt2
   clear rt2 mt2
   have V2:zq (Lib.validD t2.data.toList=ANS):=⟨by rw [← ht2,Lib.valid_skip t1 8 a8];exact V1.out⟩
   clear kW1 a8 hz1 hZ1 hW1 ht2
   have b8z:(8:Int)≤(t1.size:Int):=by omega
   go_wp2_with (go_at_call 165;refine(CW1.out _ hbw).mono ?_;rintro e W2 ⟨rfl,q1,rfl⟩)
   have hb1:Below w.heap.size w (wr.drewN q1):=qk.bdN hbw q1
   generalize wr.drewN q1=wq at hb1 ⊢
   by_cases c16:16<t2.size
   rotate_left
   ·have c16z:¬ ((16:Int)<(t2.size:Int)):=by omega
    have c16b:=decide_eq_false c16z
    go_quiet (fail)
    go_wp2
    go_roundg g'
    case measure=>omega
    case rel=>exact⟨qk.bdN hb1 _,A2,t2,rfl,Rt2,V2,by omega,by omega⟩
   have c16z:(16:Int)<(t2.size:Int):=by omega
   have s8z:(8:Int)≤(t2.size:Int):=by omega
   obtain ⟨ad2,rfl,_⟩:=qk.cell_ (Rt2.out.below hbw) (by omega)
   obtain ⟨t2b,ht2b⟩:∃ t2b,t2.extract 8 t2.size=t2b:=⟨_,rfl⟩
   have zt2b:t2b.size=t2.size - 8:=by rw [← ht2b,Lib.ext_size]
   have Rt2b:zq (qk.Rd w (some ⟨ad2.block,ad2.off+8,none⟩) t2b):=⟨ht2b ▸ qk.off_ Rt2.out 8 (by omega) (by omega)⟩
   have n8:¬ t2.size=8:=by omega
   obtain ⟨W2,hW2⟩:∃ W2,Lib.leNat [t2.get! 0,t2.get! 1,t2.get! 2,t2.get! 3,t2.get! 4,t2.get! 5,t2.get! 6,t2.get! 7]=W2:=⟨_,rfl⟩
   have lW2:W2<18446744073709551616:=hW2 ▸ Lib.word_lt t2
   have cW2:∀ W:World,Below w.heap.size w W→Calls Tryd.prog 165 #[.slice (some ad2) t2.size t2.size] W fun e w'=>e = .returned (.int .u64 (W2:Int)) ∧ ∃ q,w'=W.drewN q:=fun W hb=>by rw [← hW2];exact qk.word_ t2 (some ad2) W (by omega) (Rt2.out.below hb)
   have CW2:=zq.mk cW2
   have kW2:=Lib.word_asc t2 (by omega)
   rw [hW2] at kW2
   clear cW2
   obtain ⟨W3,hW3⟩:∃ W3,Lib.leNat [t2b.get! 0,t2b.get! 1,t2b.get! 2,t2b.get! 3,t2b.get! 4,t2b.get! 5,t2b.get! 6,t2b.get! 7]=W3:=⟨_,rfl⟩
   have lW3:W3<18446744073709551616:=hW3 ▸ Lib.word_lt t2b
   have cW3:∀ W:World,Below w.heap.size w W→Calls Tryd.prog 165 #[.slice (some ⟨ad2.block,ad2.off+8,none⟩) (t2.size - 8) (t2.size - 8)] W fun e w'=>e = .returned (.int .u64 (W3:Int)) ∧ ∃ q,w'=W.drewN q:=fun W hb=>by rw [← hW3, ← zt2b];exact qk.word_ t2b (some ⟨ad2.block,ad2.off+8,none⟩) W (by omega) (Rt2b.out.below hb)
   have CW3:=zq.mk cW3
   have kW3:=Lib.word_asc t2b (by omega)
   rw [hW3] at kW3
   clear cW3
   have hor2:bits .or .u64 (W2:Int) (W3:Int)=((W2 ||| W3:Nat):Int):=u64_or_nat W2 W3 lW2 lW3
   have lor2:W2 ||| W3<18446744073709551616:=Nat.or_lt_two_pow (n:=64) lW2 lW3
   have hand2:bits .and .u64 ((W2 ||| W3:Nat):Int) 9259542123273814144=(((W2 ||| W3) &&& 9259542123273814144:Nat):Int):=u64_and_nat _ 9259542123273814144 lor2 (by omega)
   have k2:(W2 ||| W3) &&& 9259542123273814144=0→Lib.Asc t2 16:=fun h0'=>by
    obtain ⟨e1,e2⟩:=(Lib.or_mask W2 W3 _).1 h0'
    exact Lib.asc_add t2 8 8 (kW2.1 e1) (by rw [ht2b];exact kW3.1 e2)
   obtain ⟨O2,hO2⟩:∃ O2,W2 ||| W3=O2:=⟨_,rfl⟩
   rw [hO2] at hor2 hand2 k2
   obtain ⟨Z2,hZ2⟩:∃ Z2,O2 &&& 9259542123273814144=Z2:=⟨_,rfl⟩
   rw [hZ2] at hand2 k2
   clear kW2 kW3 lor2 hO2 hZ2 hW2 hW3 ht2b
   by_cases hz2:Z2=0
   rotate_left
   ·have hz2b:((Z2:Int) == 0)=false:=by rw [beq_eq_false_iff_ne];omega
    clear k2 hz2
    go_quiet ((first|(go_at_call 165;(with_reducible refine Calls.quiet_of (CW2.out _ (qk.bdN hb1 _))))|(go_at_call 165;(with_reducible refine Calls.quiet_of (CW3.out _ (qk.bdN hb1 _))))))
    go_wp2
    go_roundg g'
    case measure=>omega
    case rel=>exact⟨qk.bdN hb1 _,(some ad2),t2,rfl,Rt2,V2,by omega,by omega⟩
   have hz2b:((Z2:Int) == 0)=true:=by rw [beq_iff_eq];omega
   have a16:=k2 hz2
   obtain ⟨A3,rt3,mt3⟩:=qk.cut_ t2 (some ad2) 16 (by omega)
   have Rt3:=zq.mk (mt3 w Rt2.out)
   obtain ⟨t3,ht3⟩:∃ t3,t2.extract 16 t2.size=t3:=⟨_,rfl⟩
   have zt3:t3.size+16=t2.size:=by rw [← ht3,Lib.ext_size];omega
   rw [ht3] at rt3 Rt3
   have qt3:∀ W:World,(Instr.slice 30 (.slice (some ad2) t2.size t2.size) (some (.int .i64 16)) none none).run Tryd.prog W = .ok (.slice A3 t3.size t3.size) W:=rt3
   clear rt3 mt3
   have V3:zq (Lib.validD t3.data.toList=ANS):=⟨by rw [← ht3,Lib.valid_skip t2 16 a16];exact V2.out⟩
   have s16z:(16:Int)≤(t2.size:Int):=by omega
   clear k2 a16 hz2 ht3
   go_quiet ((first|(go_at_call 165;(with_reducible refine Calls.quiet_of (CW2.out _ (qk.bdN hb1 _))))|(go_at_call 165;(with_reducible refine Calls.quiet_of (CW3.out _ (qk.bdN hb1 _))))))
   go_wp2
   clear CW1 CW2 CW3
   generalize hwq2:wq.drewN nq=wq2 at *
   have hb2:Below w.heap.size w wq2:=hwq2 ▸ qk.bdN hb1 nq
   clear hwq2 hb1 hbw
   go_loopg [0] (t3.size+1) (fun g2 s0 wx=>Below w.heap.size w wx ∧ ∃ (A:Option Addr) (u:ByteArray),s0 = .slice A u.size u.size∧zq (qk.Rd w A u)∧zq (Lib.validD u.data.toList=ANS)∧u.size<g2∧u.size≤t3.size)
   case atStart=>exact⟨hb2,A3,t3,rfl,Rt3,V3,by omega,Nat.le_refl _⟩
   case round=>
    clear hb2 Rt3 V3
    obtain ⟨hbu,Au,u,rfl,Ru,Vu,hgu,hut⟩:=hrel
    by_cases c32:32<u.size
    rotate_left
    ·have c32z:¬ ((32:Int)<(u.size:Int)):=by omega
     have c32b:=decide_eq_false c32z
     go_wp2_with fail
     go_quiet (fail)
     go_wp2
     go_roundg g'
     case measure=>omega
     case rel=>exact⟨qk.bdN hbu _,Au,u,rfl,Ru,Vu,by omega,by omega⟩
    obtain ⟨g3,rfl⟩:∃ g3,gk=g3+1:=⟨gk - 1,by omega⟩
    have c32z:(32:Int)<(u.size:Int):=by omega
    have s8u:(8:Int)≤(u.size:Int):=by omega
    have s16u:(16:Int)≤(u.size:Int):=by omega
    have s24u:(24:Int)≤(u.size:Int):=by omega
    have n8u:¬ u.size=8:=by omega
    have n16u:¬ u.size=16:=by omega
    have n24u:¬ u.size=24:=by omega
    obtain ⟨adu,rfl,_⟩:=qk.cell_ (Ru.out.below hbu) (by omega)
    obtain ⟨ub,hub⟩:∃ ub,u.extract 8 u.size=ub:=⟨_,rfl⟩
    have zub:ub.size=u.size - 8:=by rw [← hub,Lib.ext_size]
    have Rub:zq (qk.Rd w (some ⟨adu.block,adu.off+8,none⟩) ub):=⟨hub ▸ qk.off_ Ru.out 8 (by omega) (by omega)⟩
    obtain ⟨uc,huc⟩:∃ uc,u.extract 16 u.size=uc:=⟨_,rfl⟩
    have zuc:uc.size=u.size - 16:=by rw [← huc,Lib.ext_size]
    have Ruc:zq (qk.Rd w (some ⟨adu.block,adu.off+16,none⟩) uc):=⟨huc ▸ qk.off_ Ru.out 16 (by omega) (by omega)⟩
    obtain ⟨ud,hud⟩:∃ ud,u.extract 24 u.size=ud:=⟨_,rfl⟩
    have zud:ud.size=u.size - 24:=by rw [← hud,Lib.ext_size]
    have Rud:zq (qk.Rd w (some ⟨adu.block,adu.off+24,none⟩) ud):=⟨hud ▸ qk.off_ Ru.out 24 (by omega) (by omega)⟩
    obtain ⟨B0,hB0⟩:∃ B0,Lib.leNat [u.get! 0,u.get! 1,u.get! 2,u.get! 3,u.get! 4,u.get! 5,u.get! 6,u.get! 7]=B0:=⟨_,rfl⟩
    have lB0:B0<18446744073709551616:=hB0 ▸ Lib.word_lt u
    have cB0:∀ W:World,Below w.heap.size w W→Calls Tryd.prog 165 #[.slice (some adu) u.size u.size] W fun e w'=>e = .returned (.int .u64 (B0:Int)) ∧ ∃ q,w'=W.drewN q:=fun W hb=>by rw [← hB0];exact qk.word_ u (some adu) W (by omega) (Ru.out.below hb)
    have CB0:=zq.mk cB0
    have kB0:=Lib.word_asc u (by omega)
    rw [hB0] at kB0
    clear cB0
    obtain ⟨B1,hB1⟩:∃ B1,Lib.leNat [ub.get! 0,ub.get! 1,ub.get! 2,ub.get! 3,ub.get! 4,ub.get! 5,ub.get! 6,ub.get! 7]=B1:=⟨_,rfl⟩
    have lB1:B1<18446744073709551616:=hB1 ▸ Lib.word_lt ub
    have cB1:∀ W:World,Below w.heap.size w W→Calls Tryd.prog 165 #[.slice (some ⟨adu.block,adu.off+8,none⟩) (u.size - 8) (u.size - 8)] W fun e w'=>e = .returned (.int .u64 (B1:Int)) ∧ ∃ q,w'=W.drewN q:=fun W hb=>by rw [← hB1, ← zub];exact qk.word_ ub (some ⟨adu.block,adu.off+8,none⟩) W (by omega) (Rub.out.below hb)
    have CB1:=zq.mk cB1
    have kB1:=Lib.word_asc ub (by omega)
    rw [hB1] at kB1
    clear cB1
    obtain ⟨B2,hB2⟩:∃ B2,Lib.leNat [uc.get! 0,uc.get! 1,uc.get! 2,uc.get! 3,uc.get! 4,uc.get! 5,uc.get! 6,uc.get! 7]=B2:=⟨_,rfl⟩
    have lB2:B2<18446744073709551616:=hB2 ▸ Lib.word_lt uc
    have cB2:∀ W:World,Below w.heap.size w W→Calls Tryd.prog 165 #[.slice (some ⟨adu.block,adu.off+16,none⟩) (u.size - 16) (u.size - 16)] W fun e w'=>e = .returned (.int .u64 (B2:Int)) ∧ ∃ q,w'=W.drewN q:=fun W hb=>by rw [← hB2, ← zuc];exact qk.word_ uc (some ⟨adu.block,adu.off+16,none⟩) W (by omega) (Ruc.out.below hb)
    have CB2:=zq.mk cB2
    have kB2:=Lib.word_asc uc (by omega)
    rw [hB2] at kB2
    clear cB2
    obtain ⟨B3,hB3⟩:∃ B3,Lib.leNat [ud.get! 0,ud.get! 1,ud.get! 2,ud.get! 3,ud.get! 4,ud.get! 5,ud.get! 6,ud.get! 7]=B3:=⟨_,rfl⟩
    have lB3:B3<18446744073709551616:=hB3 ▸ Lib.word_lt ud
    have cB3:∀ W:World,Below w.heap.size w W→Calls Tryd.prog 165 #[.slice (some ⟨adu.block,adu.off+24,none⟩) (u.size - 24) (u.size - 24)] W fun e w'=>e = .returned (.int .u64 (B3:Int)) ∧ ∃ q,w'=W.drewN q:=fun W hb=>by rw [← hB3, ← zud];exact qk.word_ ud (some ⟨adu.block,adu.off+24,none⟩) W (by omega) (Rud.out.below hb)
    have CB3:=zq.mk cB3
    have kB3:=Lib.word_asc ud (by omega)
    rw [hB3] at kB3
    clear cB3
    have ho1:bits .or .u64 (B0:Int) (B1:Int)=((B0 ||| B1:Nat):Int):=u64_or_nat B0 B1 lB0 lB1
    have ho2:bits .or .u64 (B2:Int) (B3:Int)=((B2 ||| B3:Nat):Int):=u64_or_nat B2 B3 lB2 lB3
    have lo1:B0 ||| B1<18446744073709551616:=Nat.or_lt_two_pow (n:=64) lB0 lB1
    have lo2:B2 ||| B3<18446744073709551616:=Nat.or_lt_two_pow (n:=64) lB2 lB3
    have ho3:bits .or .u64 ((B0 ||| B1:Nat):Int) ((B2 ||| B3:Nat):Int)=(((B0 ||| B1) ||| (B2 ||| B3):Nat):Int):=u64_or_nat _ _ lo1 lo2
    have lo3:(B0 ||| B1) ||| (B2 ||| B3)<18446744073709551616:=Nat.or_lt_two_pow (n:=64) lo1 lo2
    have hand3:bits .and .u64 (((B0 ||| B1) ||| (B2 ||| B3):Nat):Int) 9259542123273814144=((((B0 ||| B1) ||| (B2 ||| B3)) &&& 9259542123273814144:Nat):Int):=u64_and_nat _ 9259542123273814144 lo3 (by omega)
    have k3:((B0 ||| B1) ||| (B2 ||| B3)) &&& 9259542123273814144=0→Lib.Asc u 32:=fun h0'=>by
     obtain ⟨e01,e23⟩:=(Lib.or_mask _ _ _).1 h0'
     obtain ⟨e0,e1⟩:=(Lib.or_mask _ _ _).1 e01
     obtain ⟨e2,e3⟩:=(Lib.or_mask _ _ _).1 e23
     have s16:Lib.Asc u 16:=Lib.asc_add u 8 8 (kB0.1 e0) (by rw [hub];exact kB1.1 e1)
     have s24:Lib.Asc u 24:=Lib.asc_add u 16 8 s16 (by rw [huc];exact kB2.1 e2)
     exact Lib.asc_add u 24 8 s24 (by rw [hud];exact kB3.1 e3)
    obtain ⟨P1,hP1⟩:∃ P1,B0 ||| B1=P1:=⟨_,rfl⟩
    obtain ⟨P2,hP2⟩:∃ P2,B2 ||| B3=P2:=⟨_,rfl⟩
    rw [hP1,hP2] at ho3 hand3 k3
    rw [hP1] at ho1
    rw [hP2] at ho2
    obtain ⟨P3,hP3⟩:∃ P3,P1 ||| P2=P3:=⟨_,rfl⟩
    rw [hP3] at ho3 hand3 k3
    obtain ⟨Z3,hZ3⟩:∃ Z3,P3 &&& 9259542123273814144=Z3:=⟨_,rfl⟩
    rw [hZ3] at hand3 k3
    clear kB0 kB1 kB2 kB3 lo1 lo2 lo3 hP1 hP2 hP3 hZ3 hB0 hB1 hB2 hB3 hub huc hud
    by_cases hz3:Z3=0
    ·have hz3b:((Z3:Int) == 0)=true:=by rw [beq_iff_eq];omega
     have a32:=k3 hz3
     obtain ⟨Au2,ru2,mu2⟩:=qk.cut_ u (some adu) 32 (by omega)
     have Ru2:=zq.mk (mu2 w Ru.out)
     obtain ⟨u2,hu2⟩:∃ u2,u.extract 32 u.size=u2:=⟨_,rfl⟩
     have zu2:u2.size+32=u.size:=by rw [← hu2,Lib.ext_size];omega
     rw [hu2] at ru2 Ru2
     have qu2:∀ W:World,(Instr.slice 30 (.slice (some adu) u.size u.size) (some (.int .i64 32)) none none).run Tryd.prog W = .ok (.slice Au2 u2.size u2.size) W:=ru2
     have Vu2:zq (Lib.validD u2.data.toList=ANS):=⟨by rw [← hu2,Lib.valid_skip u 32 a32];exact Vu.out⟩
     clear ru2 mu2 k3 a32 hz3 hu2
     go_wp2_with fail
     go_quiet ((first|(go_at_call 165;(with_reducible refine Calls.quiet_of (CB0.out _ (qk.bdN hbu _))))|(go_at_call 165;(with_reducible refine Calls.quiet_of (CB1.out _ (qk.bdN hbu _))))|(go_at_call 165;(with_reducible refine Calls.quiet_of (CB2.out _ (qk.bdN hbu _))))|(go_at_call 165;(with_reducible refine Calls.quiet_of (CB3.out _ (qk.bdN hbu _))))))
     go_wp2
     go_roundg g3
     case measure=>omega
     case rel=>exact⟨qk.bdN hbu _,Au2,u2,rfl,Ru2,Vu2,by omega,by omega⟩
    have hz3b:((Z3:Int) == 0)=false:=by rw [beq_eq_false_iff_ne];omega
    clear k3 hz3
    go_wp2_with fail
    go_quiet ((first|(go_at_call 165;(with_reducible refine Calls.quiet_of (CB0.out _ (qk.bdN hbu _))))|(go_at_call 165;(with_reducible refine Calls.quiet_of (CB1.out _ (qk.bdN hbu _))))|(go_at_call 165;(with_reducible refine Calls.quiet_of (CB2.out _ (qk.bdN hbu _))))|(go_at_call 165;(with_reducible refine Calls.quiet_of (CB3.out _ (qk.bdN hbu _))))))
    go_wp2
    go_roundg g'
    case measure=>omega
    case rel=>exact⟨qk.bdN hbu _,some adu,u,rfl,Ru,Vu,by omega,by omega⟩
  have hge:128≤x0.toNat:=by omega
  have hascz:¬ ((x0.toNat:Int)<128):=by omega
  have hTr:=Utf8Tabs_below HT.out hbw
  obtain ⟨x1,hx1⟩:∃ x1,t.get! 1=x1:=⟨_,rfl⟩
  obtain ⟨x2,hx2⟩:∃ x2,t.get! 2=x2:=⟨_,rfl⟩
  obtain ⟨x3,hx3⟩:∃ x3,t.get! 3=x3:=⟨_,rfl⟩
  have l1:=x1.toNat_lt
  have l2:=x2.toNat_lt
  have l3:=x3.toNat_lt
  have hne:t.data.toList ≠ []:=fun h=>by rw [Lib.size_eq,h] at h0;simp at h0
  have hlead:=Lib.validD_lead t.data.toList hne (by rw [Lib.getD_get!',HX0.out];exact hge)
  rw [Lib.getD_get!',Lib.getD_get!',Lib.getD_get!',Lib.getD_get!',HX0.out,hx1,hx2,hx3, ← Lib.size_eq,HV.out] at hlead
  have hc1:1<t.size→wr.cell? ⟨ad.block,ad.off+1,none⟩=some (.int .u8 (x1.toNat:Int)):=fun h=>by have:=HCL.out 1 h;rw [hx1] at this;simpa [Addr.add] using this
  have hc2:2<t.size→wr.cell? ⟨ad.block,ad.off+2,none⟩=some (.int .u8 (x2.toNat:Int)):=fun h=>by have:=HCL.out 2 h;rw [hx2] at this;simpa [Addr.add] using this
  have hc3:3<t.size→wr.cell? ⟨ad.block,ad.off+3,none⟩=some (.int .u8 (x3.toNat:Int)):=fun h=>by have:=HCL.out 3 h;rw [hx3] at this;simpa [Addr.add] using this
  have HC1:=zq.mk hc1
  have HC2:=zq.mk hc2
  have HC3:=zq.mk hc3
  have hadl:ad.block<wr.heap.size:=World.block_lt_of_cell? wr _ hs0'
  have hf0:=hTr.1 x0.toNat hx0lt
  have hXlt:Lib.firstT x0.toNat<256:=by rcases Lib.firstT_cases x0.toNat with h|h|h|h|h|h|h|h|h <;> omega
  obtain ⟨X,hX⟩:∃ X,Lib.firstT x0.toNat=X:=⟨_,rfl⟩
  rw [hX] at hf0 hXlt hlead
  have h7:=qk.and7 ⟨X,hXlt⟩
  simp only at h7
  have ha0:wr.cell? ⟨1,X / 16 * 2,none⟩=some (.int .u8 (Lib.accLo (X / 16))):=by rw [Nat.mul_comm];exact(hTr.2 (X / 16) (by omega)).1
  have ha1:wr.cell? ⟨1,X / 16 * 2+1,none⟩=some (.int .u8 (Lib.accHi (X / 16))):=by rw [Nat.mul_comm];exact(hTr.2 (X / 16) (by omega)).2
  obtain ⟨LO,hLO⟩:∃ LO,Lib.accLo (X / 16)=LO:=⟨_,rfl⟩
  obtain ⟨HI,hHI⟩:∃ HI,Lib.accHi (X / 16)=HI:=⟨_,rfl⟩
  rw [hLO] at ha0 hlead
  rw [hHI] at ha1 hlead
  obtain ⟨SZ,hSZ⟩:∃ SZ,X % 8=SZ:=⟨_,rfl⟩
  rw [hSZ] at hlead
  have hgl:1<wr.heap.size:=World.block_lt_of_cell? wr _ ha0
  clear hTr hX HV hLO hHI hne hc1 hc2 hc3 hx1 hx2 hx3
  by_cases s2:SZ=2
  ·as_aux_lemma=>
   subst s2
   have hSZz:(X:Int) % 8=2:=by omega
   have hlead':=hlead
   simp only [Lib.checkN,Nat.reduceEqDiff,if_true,if_false] at hlead'
   have HL:=zq.mk hlead'
   clear hlead hlead' hSZ
   go_upto_region 18 with fail
   go_cut [103] from 85 to 103 (fun c wx => ∃ bb:Bool,c = .bool bb∧zq (decide (t.size<2∨x1.toNat<LO∨HI<x1.toNat)=bb)∧Below w.heap.size w wx)
   case first=>
    as_aux_lemma=>
    by_cases q0:t.size<2
    ·have q0z:(t.size:Int)<2:=by omega
     go_quiet (fail)
     go_wp2
     go_meet
     exact⟨true,rfl,⟨decide_eq_true (p:=t.size<2∨x1.toNat<LO∨HI<x1.toNat) (by omega)⟩,qk.bdN (hbw.alloc hbw.size _) _⟩
    have q0z:¬ ((t.size:Int)<2):=by omega
    have hz1:(1:Int)<(t.size:Int):=by omega
    have hp1:1<t.size:=by omega
    have hs1:=HC1.out (by omega)
    by_cases q1:x1.toNat<LO
    ·have q1z:(x1.toNat:Int)<(LO:Int):=by omega
     go_quiet (fail)
     go_wp2
     go_meet
     exact⟨true,rfl,⟨decide_eq_true (p:=t.size<2∨x1.toNat<LO∨HI<x1.toNat) (by omega)⟩,qk.bdN (hbw.alloc hbw.size _) _⟩
    have q1z:¬ ((x1.toNat:Int)<(LO:Int)):=by omega
    by_cases q2:HI<x1.toNat
    ·have q2z:(HI:Int)<(x1.toNat:Int):=by omega
     go_quiet (fail)
     go_wp2
     go_meet
     exact⟨true,rfl,⟨decide_eq_true (p:=t.size<2∨x1.toNat<LO∨HI<x1.toNat) (by omega)⟩,qk.bdN (hbw.alloc hbw.size _) _⟩
    have q2z:¬ ((HI:Int)<(x1.toNat:Int)):=by omega
    go_quiet (fail)
    go_wp2
    go_meet
    exact⟨false,rfl,⟨decide_eq_false (p:=t.size<2∨x1.toNat<LO∨HI<x1.toNat) (by omega)⟩,qk.bdN (hbw.alloc hbw.size _) _⟩
   case rest=>
    as_aux_lemma=>
    obtain ⟨bb,rfl,hbb,hbc⟩:=hcut
    have hl:=HL.out
    cases bb with
    | true=>
     rw [if_pos (of_decide_eq_true hbb.out)] at hl
     have HL2:=zq.mk hl
     clear hl
     go_wp2
     go_ret
     exact⟨by first|rfl|(rw [HL2.out];rfl),hbc⟩
    | false=>
     have hb:=of_decide_eq_false hbb.out
     rw [if_neg hb] at hl
     obtain ⟨At,rt,mt⟩:=qk.cut_ t (some ad) 2 (by omega)
     have Rt:=zq.mk (mt w HR.out)
     obtain ⟨tt,htt⟩:∃ tt,t.extract 2 t.size=tt:=⟨_,rfl⟩
     have ztt:tt.size+2=t.size:=by rw [← htt,Lib.ext_size];omega
     rw [htt] at rt Rt
     have qtt:∀ W:World,(Instr.slice 30 (.slice (some ad) t.size t.size) (some (.int .i64 2)) none none).run Tryd.prog W = .ok (.slice At tt.size tt.size) W:=rt
     have Vt:zq (Lib.validD tt.data.toList=ANS):=⟨by rw [← htt,Lib.ext_list];first|exact hl.symm|exact hl⟩
     have nsz:(2:Int)≤(t.size:Int):=by omega
     clear rt mt hl hb htt
     go_wp2
     go_roundg g'
     case measure=>omega
     case rel=>exact⟨hbc,At,tt,rfl,Rt,Vt,by omega,by omega⟩
  by_cases s3:SZ=3
  ·as_aux_lemma=>
   subst s3
   have hSZz:(X:Int) % 8=3:=by omega
   have hlead':=hlead
   simp only [Lib.checkN,Nat.reduceEqDiff,if_true,if_false] at hlead'
   have HL:=zq.mk hlead'
   clear hlead hlead' hSZ
   go_upto_region 22 with fail
   go_cut [138] from 108 to 138 (fun c wx => ∃ bb:Bool,c = .bool bb∧zq (decide (t.size<3∨x1.toNat<LO∨HI<x1.toNat∨x2.toNat<128∨191<x2.toNat)=bb)∧Below w.heap.size w wx)
   case first=>
    as_aux_lemma=>
    by_cases q0:t.size<3
    ·have q0z:(t.size:Int)<3:=by omega
     go_quiet (fail)
     go_wp2
     go_meet
     exact⟨true,rfl,⟨decide_eq_true (p:=t.size<3∨x1.toNat<LO∨HI<x1.toNat∨x2.toNat<128∨191<x2.toNat) (by omega)⟩,qk.bdN (hbw.alloc hbw.size _) _⟩
    have q0z:¬ ((t.size:Int)<3):=by omega
    have hz1:(1:Int)<(t.size:Int):=by omega
    have hp1:1<t.size:=by omega
    have hs1:=HC1.out (by omega)
    have hz2:(2:Int)<(t.size:Int):=by omega
    have hp2:2<t.size:=by omega
    have hs2:=HC2.out (by omega)
    by_cases q1:x1.toNat<LO
    ·have q1z:(x1.toNat:Int)<(LO:Int):=by omega
     go_quiet (fail)
     go_wp2
     go_meet
     exact⟨true,rfl,⟨decide_eq_true (p:=t.size<3∨x1.toNat<LO∨HI<x1.toNat∨x2.toNat<128∨191<x2.toNat) (by omega)⟩,qk.bdN (hbw.alloc hbw.size _) _⟩
    have q1z:¬ ((x1.toNat:Int)<(LO:Int)):=by omega
    by_cases q2:HI<x1.toNat
    ·have q2z:(HI:Int)<(x1.toNat:Int):=by omega
     go_quiet (fail)
     go_wp2
     go_meet
     exact⟨true,rfl,⟨decide_eq_true (p:=t.size<3∨x1.toNat<LO∨HI<x1.toNat∨x2.toNat<128∨191<x2.toNat) (by omega)⟩,qk.bdN (hbw.alloc hbw.size _) _⟩
    have q2z:¬ ((HI:Int)<(x1.toNat:Int)):=by omega
    by_cases q3:x2.toNat<128
    ·have q3z:(x2.toNat:Int)<128:=by omega
     go_quiet (fail)
     go_wp2
     go_meet
     exact⟨true,rfl,⟨decide_eq_true (p:=t.size<3∨x1.toNat<LO∨HI<x1.toNat∨x2.toNat<128∨191<x2.toNat) (by omega)⟩,qk.bdN (hbw.alloc hbw.size _) _⟩
    have q3z:¬ ((x2.toNat:Int)<128):=by omega
    by_cases q4:191<x2.toNat
    ·have q4z:(191:Int)<(x2.toNat:Int):=by omega
     go_quiet (fail)
     go_wp2
     go_meet
     exact⟨true,rfl,⟨decide_eq_true (p:=t.size<3∨x1.toNat<LO∨HI<x1.toNat∨x2.toNat<128∨191<x2.toNat) (by omega)⟩,qk.bdN (hbw.alloc hbw.size _) _⟩
    have q4z:¬ ((191:Int)<(x2.toNat:Int)):=by omega
    go_quiet (fail)
    go_wp2
    go_meet
    exact⟨false,rfl,⟨decide_eq_false (p:=t.size<3∨x1.toNat<LO∨HI<x1.toNat∨x2.toNat<128∨191<x2.toNat) (by omega)⟩,qk.bdN (hbw.alloc hbw.size _) _⟩
   case rest=>
    as_aux_lemma=>
    obtain ⟨bb,rfl,hbb,hbc⟩:=hcut
    have hl:=HL.out
    cases bb with
    | true=>
     rw [if_pos (of_decide_eq_true hbb.out)] at hl
     have HL2:=zq.mk hl
     clear hl
     go_wp2
     go_ret
     exact⟨by first|rfl|(rw [HL2.out];rfl),hbc⟩
    | false=>
     have hb:=of_decide_eq_false hbb.out
     rw [if_neg hb] at hl
     obtain ⟨At,rt,mt⟩:=qk.cut_ t (some ad) 3 (by omega)
     have Rt:=zq.mk (mt w HR.out)
     obtain ⟨tt,htt⟩:∃ tt,t.extract 3 t.size=tt:=⟨_,rfl⟩
     have ztt:tt.size+3=t.size:=by rw [← htt,Lib.ext_size];omega
     rw [htt] at rt Rt
     have qtt:∀ W:World,(Instr.slice 30 (.slice (some ad) t.size t.size) (some (.int .i64 3)) none none).run Tryd.prog W = .ok (.slice At tt.size tt.size) W:=rt
     have Vt:zq (Lib.validD tt.data.toList=ANS):=⟨by rw [← htt,Lib.ext_list];first|exact hl.symm|exact hl⟩
     have nsz:(3:Int)≤(t.size:Int):=by omega
     clear rt mt hl hb htt
     go_wp2
     go_roundg g'
     case measure=>omega
     case rel=>exact⟨hbc,At,tt,rfl,Rt,Vt,by omega,by omega⟩
  by_cases s4:SZ=4
  ·as_aux_lemma=>
   subst s4
   have hSZz:(X:Int) % 8=4:=by omega
   have hlead':=hlead
   simp only [Lib.checkN,Nat.reduceEqDiff,if_true,if_false] at hlead'
   have HL:=zq.mk hlead'
   clear hlead hlead' hSZ
   go_upto_region 26 with fail
   go_cut [185] from 143 to 185 (fun c wx => ∃ bb:Bool,c = .bool bb∧zq (decide (t.size<4∨x1.toNat<LO∨HI<x1.toNat∨x2.toNat<128∨191<x2.toNat∨x3.toNat<128∨191<x3.toNat)=bb)∧Below w.heap.size w wx)
   case first=>
    as_aux_lemma=>
    by_cases q0:t.size<4
    ·have q0z:(t.size:Int)<4:=by omega
     go_quiet (fail)
     go_wp2
     go_meet
     exact⟨true,rfl,⟨decide_eq_true (p:=t.size<4∨x1.toNat<LO∨HI<x1.toNat∨x2.toNat<128∨191<x2.toNat∨x3.toNat<128∨191<x3.toNat) (by omega)⟩,qk.bdN (hbw.alloc hbw.size _) _⟩
    have q0z:¬ ((t.size:Int)<4):=by omega
    have hz1:(1:Int)<(t.size:Int):=by omega
    have hp1:1<t.size:=by omega
    have hs1:=HC1.out (by omega)
    have hz2:(2:Int)<(t.size:Int):=by omega
    have hp2:2<t.size:=by omega
    have hs2:=HC2.out (by omega)
    have hz3:(3:Int)<(t.size:Int):=by omega
    have hp3:3<t.size:=by omega
    have hs3:=HC3.out (by omega)
    by_cases q1:x1.toNat<LO
    ·have q1z:(x1.toNat:Int)<(LO:Int):=by omega
     go_quiet (fail)
     go_wp2
     go_meet
     exact⟨true,rfl,⟨decide_eq_true (p:=t.size<4∨x1.toNat<LO∨HI<x1.toNat∨x2.toNat<128∨191<x2.toNat∨x3.toNat<128∨191<x3.toNat) (by omega)⟩,qk.bdN (hbw.alloc hbw.size _) _⟩
    have q1z:¬ ((x1.toNat:Int)<(LO:Int)):=by omega
    by_cases q2:HI<x1.toNat
    ·have q2z:(HI:Int)<(x1.toNat:Int):=by omega
     go_quiet (fail)
     go_wp2
     go_meet
     exact⟨true,rfl,⟨decide_eq_true (p:=t.size<4∨x1.toNat<LO∨HI<x1.toNat∨x2.toNat<128∨191<x2.toNat∨x3.toNat<128∨191<x3.toNat) (by omega)⟩,qk.bdN (hbw.alloc hbw.size _) _⟩
    have q2z:¬ ((HI:Int)<(x1.toNat:Int)):=by omega
    by_cases q3:x2.toNat<128
    ·have q3z:(x2.toNat:Int)<128:=by omega
     go_quiet (fail)
     go_wp2
     go_meet
     exact⟨true,rfl,⟨decide_eq_true (p:=t.size<4∨x1.toNat<LO∨HI<x1.toNat∨x2.toNat<128∨191<x2.toNat∨x3.toNat<128∨191<x3.toNat) (by omega)⟩,qk.bdN (hbw.alloc hbw.size _) _⟩
    have q3z:¬ ((x2.toNat:Int)<128):=by omega
    by_cases q4:191<x2.toNat
    ·have q4z:(191:Int)<(x2.toNat:Int):=by omega
     go_quiet (fail)
     go_wp2
     go_meet
     exact⟨true,rfl,⟨decide_eq_true (p:=t.size<4∨x1.toNat<LO∨HI<x1.toNat∨x2.toNat<128∨191<x2.toNat∨x3.toNat<128∨191<x3.toNat) (by omega)⟩,qk.bdN (hbw.alloc hbw.size _) _⟩
    have q4z:¬ ((191:Int)<(x2.toNat:Int)):=by omega
    by_cases q5:x3.toNat<128
    ·have q5z:(x3.toNat:Int)<128:=by omega
     go_quiet (fail)
     go_wp2
     go_meet
     exact⟨true,rfl,⟨decide_eq_true (p:=t.size<4∨x1.toNat<LO∨HI<x1.toNat∨x2.toNat<128∨191<x2.toNat∨x3.toNat<128∨191<x3.toNat) (by omega)⟩,qk.bdN (hbw.alloc hbw.size _) _⟩
    have q5z:¬ ((x3.toNat:Int)<128):=by omega
    by_cases q6:191<x3.toNat
    ·have q6z:(191:Int)<(x3.toNat:Int):=by omega
     go_quiet (fail)
     go_wp2
     go_meet
     exact⟨true,rfl,⟨decide_eq_true (p:=t.size<4∨x1.toNat<LO∨HI<x1.toNat∨x2.toNat<128∨191<x2.toNat∨x3.toNat<128∨191<x3.toNat) (by omega)⟩,qk.bdN (hbw.alloc hbw.size _) _⟩
    have q6z:¬ ((191:Int)<(x3.toNat:Int)):=by omega
    go_quiet (fail)
    go_wp2
    go_meet
    exact⟨false,rfl,⟨decide_eq_false (p:=t.size<4∨x1.toNat<LO∨HI<x1.toNat∨x2.toNat<128∨191<x2.toNat∨x3.toNat<128∨191<x3.toNat) (by omega)⟩,qk.bdN (hbw.alloc hbw.size _) _⟩
   case rest=>
    as_aux_lemma=>
    obtain ⟨bb,rfl,hbb,hbc⟩:=hcut
    have hl:=HL.out
    cases bb with
    | true=>
     rw [if_pos (of_decide_eq_true hbb.out)] at hl
     have HL2:=zq.mk hl
     clear hl
     go_wp2
     go_ret
     exact⟨by first|rfl|(rw [HL2.out];rfl),hbc⟩
    | false=>
     have hb:=of_decide_eq_false hbb.out
     rw [if_neg hb] at hl
     obtain ⟨At,rt,mt⟩:=qk.cut_ t (some ad) 4 (by omega)
     have Rt:=zq.mk (mt w HR.out)
     obtain ⟨tt,htt⟩:∃ tt,t.extract 4 t.size=tt:=⟨_,rfl⟩
     have ztt:tt.size+4=t.size:=by rw [← htt,Lib.ext_size];omega
     rw [htt] at rt Rt
     have qtt:∀ W:World,(Instr.slice 30 (.slice (some ad) t.size t.size) (some (.int .i64 4)) none none).run Tryd.prog W = .ok (.slice At tt.size tt.size) W:=rt
     have Vt:zq (Lib.validD tt.data.toList=ANS):=⟨by rw [← htt,Lib.ext_list];first|exact hl.symm|exact hl⟩
     have nsz:(4:Int)≤(t.size:Int):=by omega
     clear rt mt hl hb htt
     go_wp2
     go_roundg g'
     case measure=>omega
     case rel=>exact⟨hbc,At,tt,rfl,Rt,Vt,by omega,by omega⟩
  have e2:¬ ((X:Int) % 8=2):=by omega
  have e3:¬ ((X:Int) % 8=3):=by omega
  have e4:¬ ((X:Int) % 8=4):=by omega
  have e2b:(((X:Int) % 8) == 2)=false:=by simp;omega
  have e3b:(((X:Int) % 8) == 3)=false:=by simp;omega
  have e4b:(((X:Int) % 8) == 4)=false:=by simp;omega
  simp only [Lib.checkN,s2,s3,s4,if_false] at hlead
  have HL:=zq.mk hlead
  clear hlead
  go_wp2
  all_goals (go_ret;exact⟨by first|rfl|(rw [HL.out];rfl),hbw.alloc hbw.size _⟩)
theorem qk.zv8:(Rows.laid_unicode_utf8_first:DataW Unit)=Lib.firstData:=by kernel_rfl
theorem qk.zvm:(Rows.laid_unicode_utf8_acceptRanges:DataW Unit)=Lib.acceptData:=by kernel_rfl
theorem qk.tabs {w:World} (h:LD w):Lib.Utf8Tabs 0 1 w:=by
 obtain ⟨L0,h1,h2⟩:=h
 exact Utf8Tabs_below (utf8Tabs_of_readsT (U8Types.of196 Tryd.laysValid) ⟨by kernel_rfl,by kernel_rfl,by kernel_rfl,by kernel_rfl,by kernel_rfl,by kernel_rfl,by kernel_rfl⟩
  (Lib.laidMet.reads h1 (by rw [← qk.zv8];exact LD.in_unicode_utf8_first)) (Lib.laidMet.reads h1 (by rw [← qk.zvm];exact LD.in_unicode_utf8_acceptRanges))) h2
theorem qk.calls (A0:Option Addr) (c0:Nat) (l0:List Int) (r:Bool) (w:World) (hr0:Kd.C (Kd.int .u8) w A0 l0.length l0) (hc0:l0.length≤c0) (hL:LD w) (h:qk.f l0=some r) :
  Calls Tryd.prog 150 #[.slice A0 l0.length c0] w fun e w'=>e = .returned (.bool r)∧Below w.heap.size w w':=by
 unfold qk.f at h
 split at h
 rotate_left
 ·cases h
 rename_i hb
 cases h
 have hz:=qk.txt_size l0
 have hR:qk.Rd w A0 (qk.txt l0):=by
  unfold qk.Rd
  rw [qk.txt_bytes l0 hb,hz]
  refine⟨rfl,hr0.2.1,fun hn=>?_⟩
  obtain ⟨ad,e,_⟩:=Kd.zjb hr0 0 (by omega) (by omega)
  refine⟨ad,e,fun j hj=>?_⟩
  obtain ⟨ad',e',hc⟩:=Kd.zjb hr0 (j:Int) (by omega) (by omega)
  rw [e] at e'
  cases e'
  rw [Int.toNat_natCast] at hc
  exact hc.trans (by simp [rd])
 have h2:=qk.valid_ (qk.txt l0) A0 c0 w hR (by rw [hz];exact hc0) (qk.tabs hL)
 rw [hz] at h2
 exact h2

end

end Go.Proofs.YthhejedfjgikdaaDoor.PRowReads
