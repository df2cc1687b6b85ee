-- Written by wip/pp of this repo (over the kit's print, with additions of this session); Lean checks every line.
import Derived.Test.YthhejedfjgikdaaDoorPRelProjectsx2
namespace Go.Proofs.YthhejedfjgikdaaDoor.PRelProjects
open Go.RowKit Go.Proofs.YthhejedfjgikdaaDoorW.PrintWords Go.Proofs.YthhejedfjgikdaaDoorW.PrintLast Go.Proofs.YthhejedfjgikdaaDoorW.PrintMore
attribute [local go_sem] zjh zjf zjq zjp zq4 zq3 zjg zje   -- for this text's walks alone
set_option linter.unusedVariables false
set_option linter.unusedSimpArgs false

/-! ### zqf: function 151 -/
def zqf.j0:Nat→Int→Bool→Option (Int)
 | 0,_,_=>none
 | k+1,x3,x9=>if x9=true then(some 1) else (if x3 ≥ 8 then(if x3≤20 then(some 2) else (some (-1))) else (some (-1)))
def zqf.f (k:Nat) (a0_0:Int) (a0_1:Int) (a0_2:Int) (a0_3:ByteArray) (a0_4:ByteArray) (a0_5:ByteArray) (a0_6:Int) (l0_7:List (S41)):Option (Int):=if a0_0=1 then(some 0) else (if a0_0 ≥ 4 then(zqf.j0 k a0_0 (decide (a0_0≤7))) else (zqf.j0 k a0_0 false))
theorem zqf.mono_l:∀ k,(∀ y0 y1,LeO (zqf.j0 k y0 y1) (zqf.j0 (k+1) y0 y1))
 | 0=>fun _ _ r h=>by simp [zqf.j0] at h
 | k+1=>by
  have ih0:=zqf.mono_l k
  intro y0 y1
  unfold zqf.j0
  repeat' first
  | (with_reducible first|exact ih0 _ _|exact LeO.refl _|exact LeO.none _|refine LeO.ite ?_ ?_|refine LeO.bind ?_ (fun _=>?_))
  | exact ih0 _ _
  | exact LeO.none _
  | refine LeO.ite ?_ ?_
  | refine LeO.bind ?_ (fun _=>?_)
theorem zqf.mono:∀ a0 a1 a2 a3 a4 a5 a6 a7 k,LeO (zqf.f k a0 a1 a2 a3 a4 a5 a6 a7) (zqf.f (k+1) a0 a1 a2 a3 a4 a5 a6 a7):=by
 intro a0 a1 a2 a3 a4 a5 a6 a7 k
 have ih0:=zqf.mono_l k
 unfold zqf.f
 repeat' first
   | (with_reducible first|exact ih0 _ _|exact LeO.refl _|exact LeO.none _|refine LeO.ite ?_ ?_|refine LeO.bind ?_ (fun _=>?_))
   | exact ih0 _ _
   | exact LeO.none _
   | refine LeO.ite ?_ ?_
   | refine LeO.bind ?_ (fun _=>?_)
set_option maxHeartbeats 8000000 in
set_option maxRecDepth 100000 in
theorem zqf.calls (k:Nat) (a0_0:Int) (a0_1:Int) (a0_2:Int) (a0_3:ByteArray) (a0_4:ByteArray) (a0_5:ByteArray) (a0_6:Int) (A0_7:Option Addr) (c0_7:Nat) (l0_7:List (S41)) (r:Int) (w:World) (hr0_7:Kd.C k41 w A0_7 l0_7.length l0_7) (hc0_7:l0_7.length≤c0_7) (h:zqf.f k a0_0 a0_1 a0_2 a0_3 a0_4 a0_5 a0_6 l0_7=some r) :
  Calls Tryd.prog 151 #[.agg #[.int .i64 a0_0,.int .i64 a0_1,.int .i64 a0_2,.string a0_3,.string a0_4,.string a0_5,.int .i64 a0_6,.slice A0_7 l0_7.length c0_7]] w fun e w'=>e = .returned (.int .i64 r)∧Below w.heap.size w w':=by
 have hu101:=Tryd.underlying101
 have HR0_7:=zq.mk hr0_7
 have HC0_7:=zq.mk hc0_7
 clear hr0_7 hc0_7
 have HB:=zq.mk (Below.refl w.heap.size w)
 have H:(if a0_0=1 then(some 0) else (if a0_0 ≥ 4 then(zqf.j0 k a0_0 (decide (a0_0≤7))) else (zqf.j0 k a0_0 false)))=some r:=h
 clear h
 by_cases c2:a0_0=1
 ·rw [if_pos c2] at H
  have c2b0:(a0_0 == 1)=true:=beq_iff_eq.mpr c2
  have c2b1:(a0_0 != 1)=false:=bne_eq_false_iff_eq.mpr c2
  clear c2
  obtain rfl:=Option.some.inj H
  go_enter Tryd.func151,Tryd.ntmps151
  go_wp2_with (first|((with_reducible refine qo (N:=1) rfl ?_);refine qd ?hg (N:=1) ?hd (cs:=#[.int .i64 a0_0,.int .i64 a0_1,.int .i64 a0_2,.string a0_3,.string a0_4,.string a0_5,.int .i64 a0_6,.slice A0_7 l0_7.length c0_7]) (t:=101) ?hr ?_;(case hd=>rfl);(case hg=>rfl);(case hr=>first|(go_simp;done)|(go_simp;rfl));intro gb108 hg w3 hbox hb;have BK108:=zq.mk (hbox);have GW108:=zq.mk ((by rw [hg];exact(zy bw):w.heap.size≤gb108));have GE108:=zq.mk ((by rw [hg];exact(zy bw):w.heap.size≤gb108));replace HB:=zq.mk (zt bw hb);clear hb hbox hg;obtain ⟨hcz4_0,hcz4_1,hcz4_2,hcz4_3,hcz4_4,hcz4_5,hcz4_6,hcz4_7,hfz4_0,hfz4_1,hfz4_2,hfz4_3,hfz4_4,hfz4_5,hfz4_6,hfz4_7⟩:=zqv BK108.out))
  go_ret
  exact⟨by first|rfl|(simp [zx,zj] <;> rfl)|(simp [*,zx,zj] <;> rfl),bw⟩
 rw [if_neg c2] at H
 have c2b0:(a0_0 == 1)=false:=beq_eq_false_iff_ne.mpr c2
 have c2b1:(a0_0 != 1)=true:=bne_iff_ne.mpr c2
 have HC5:=zq.mk H
 clear H
 go_enter Tryd.func151,Tryd.ntmps151
 go_upto_region 4 with (first|((with_reducible refine qo (N:=1) rfl ?_);refine qd ?hg (N:=1) ?hd (cs:=#[.int .i64 a0_0,.int .i64 a0_1,.int .i64 a0_2,.string a0_3,.string a0_4,.string a0_5,.int .i64 a0_6,.slice A0_7 l0_7.length c0_7]) (t:=101) ?hr ?_;(case hd=>rfl);(case hg=>rfl);(case hr=>first|(go_simp;done)|(go_simp;rfl));intro gb108 hg w6 hbox hb;have BK108:=zq.mk (hbox);have GW108:=zq.mk ((by rw [hg];exact(zy bw):w.heap.size≤gb108));have GE108:=zq.mk ((by rw [hg];exact(zy bw):w.heap.size≤gb108));replace HB:=zq.mk (zt bw hb);clear hb hbox hg;obtain ⟨hcz7_0,hcz7_1,hcz7_2,hcz7_3,hcz7_4,hcz7_5,hcz7_6,hcz7_7,hfz7_0,hfz7_1,hfz7_2,hfz7_3,hfz7_4,hfz7_5,hfz7_6,hfz7_7⟩:=zqv BK108.out))
 (try simp only [Act.put,List.setIfInBounds_toArray,List.set_cons_zero,List.set_cons_succ])
 go_cut [9] (fun v9 wc => ∃ (kq:Nat) (x9_4:Bool),v9 = .bool x9_4∧zq (zqf.j0 kq a0_0 x9_4=some r)∧zq (kq≤k)∧zq (wc.heap[gb108]? = some (.cells #[.int .i64 a0_0,.int .i64 a0_1,.int .i64 a0_2,.string a0_3,.string a0_4,.string a0_5,.int .i64 a0_6,(.slice A0_7 l0_7.length c0_7)] 101 (0,0)))∧zq (Below w.heap.size w wc))
 case first=>
  have H:=HC5.out
  clear HC5
  by_cases c8:a0_0 ≥ 4
  ·rw [if_pos c8] at H
   have c8b0:=decide_eq_true c8
   clear c8
   (first|rw [c8b0]|(simp only [zjs,zjt];rw [c8b0])|skip)
   have H':=zq.mk H
   clear H
   go_wp2
   go_meet
   case rel=>exact⟨_,(decide (a0_0≤7)),vr,H',⟨by first|omega|exact Nat.le_refl _⟩,⟨by(with_reducible repeat(first|refine zh ?_ _|refine zc ?_|refine zv ?_ _));exact BK108.out⟩,⟨bw⟩⟩
  rw [if_neg c8] at H
  have c8b0:=decide_eq_false c8
  clear c8
  (first|rw [c8b0]|(simp only [zjs,zjt];rw [c8b0])|skip)
  have H':=zq.mk H
  clear H
  go_wp2
  go_meet
  case rel=>exact⟨_,(false),vr,H',⟨by first|omega|exact Nat.le_refl _⟩,⟨by(with_reducible repeat(first|refine zh ?_ _|refine zc ?_|refine zv ?_ _));exact BK108.out⟩,⟨bw⟩⟩
 case rest=>
  clear HC5
  (try clear c2);(try clear c2b0);(try clear c2b1);(try clear hcz7_0);(try clear hcz7_1);(try clear hcz7_2);(try clear hcz7_3);(try clear hcz7_4);(try clear hcz7_5);(try clear hcz7_6);(try clear hcz7_7);(try clear hfz7_0);(try clear hfz7_1);(try clear hfz7_2);(try clear hfz7_3);(try clear hfz7_4);(try clear hfz7_5);(try clear hfz7_6);(try clear hfz7_7)
  obtain ⟨kq,x9_4,rfl,HA,HJ4,BK108,HB⟩:=hcut
  cases kq with
  | zero=>exact absurd HA.out (by simp [zqf.j0])
  | succ kj4=>
   have H:=HA.out
   clear HA
   simp only [zqf.j0] at H
   by_cases c9:x9_4=true
   ·subst c9
    rw [if_pos rfl] at H
    obtain rfl:=Option.some.inj H
    go_wp2
    go_ret
    exact⟨by first|rfl|(simp [zx,zj] <;> rfl)|(simp [*,zx,zj] <;> rfl),bw⟩
   replace c9:=Bool.eq_false_iff.mpr c9
   subst c9
   rw [if_neg (show ¬ (false=true) by decide)] at H
   by_cases c10:a0_0 ≥ 8
   ·rw [if_pos c10] at H
    have c10b0:=decide_eq_true c10
    clear c10
    by_cases c11:a0_0≤20
    ·rw [if_pos c11] at H
     have c11b0:=decide_eq_true c11
     clear c11
     obtain rfl:=Option.some.inj H
     go_wp2
     go_ret
     exact⟨by first|rfl|(simp [zx,zj] <;> rfl)|(simp [*,zx,zj] <;> rfl),bw⟩
    rw [if_neg c11] at H
    have c11b0:=decide_eq_false c11
    clear c11
    obtain rfl:=Option.some.inj H
    go_wp2
    go_ret
    exact⟨by first|rfl|(simp [zx,zj] <;> rfl)|(simp [*,zx,zj] <;> rfl),bw⟩
   rw [if_neg c10] at H
   have c10b0:=decide_eq_false c10
   clear c10
   obtain rfl:=Option.some.inj H
   go_wp2
   go_ret
   exact⟨by first|rfl|(simp [zx,zj] <;> rfl)|(simp [*,zx,zj] <;> rfl),bw⟩

/-! ### qj: function 128, by hand -/
-- HAND rounds=1 making=1 laid=1 func=1 imports=Derived.Deep.QuietTactic,Derived.BigQuiet,Derived.Deep.RegionHeld3,Derived.Deep.RegionWith
def qj.zeroV (v:S38):Prop:=v.f0=0∧v.f1=0∧v.f2.toList = []
instance (v:S38):Decidable (qj.zeroV v):=by unfold qj.zeroV;infer_instance
def qj.fine (w:Int) (e:S41):Prop:=qj.zeroV e.f1∧(e.f2 ++ e.f3).toList = []∧e.f5.length=0∧0≤e.f4∧e.f4<w
instance (w:Int) (e:S41):Decidable (qj.fine w e):=by unfold qj.fine;infer_instance
def qj.parts (op:Int):Int:=if op=1 then 0 else if 4≤op∧op≤7 then 1 else if 8≤op∧op≤20 then 2 else -1
def qj.all (f:S41→Option Bool) (z:Bool):List S41→Option Bool
 | []=>some z
 | s :: r=>(f s).bind fun b=>if b=true then qj.all f z r else some false
def qj.may (w:Int) (k:Nat):Nat→S41→Option Bool
 | 0,_=>some false
 | n+1,e=>if 9223372036854775807<e.f2.size+e.f3.size then none else if e.f0=3 then some (decide (qj.fine w e)) else
   if qj.parts e.f0≠e.f5.length ∨ ¬ (e.f2 ++ e.f3).toList = []∨e.f4≠0 then some false else
   if e.f0=1 then(qf.f k e.f1.f0 e.f1.f1 e.f1.f2).bind fun c=>some (decide (c=0)) else
   qj.all (qj.may w k n) (decide (qj.zeroV e.f1)) e.f5
def qj.f (_k:Nat) (_a:Int):Option Bool:=none
theorem qj.mono:∀ a0 k,LeO (qj.f k a0) (qj.f (k+1) a0):=fun _ _=>LeO.refl _
set_option maxRecDepth 100000 in
set_option maxHeartbeats 4000000 in
theorem qj.placed (wd:Int) (e:S41) (A7:Option Addr) (c7:Nat) (n:Int) (g:Nat) (w:World) (hg:w.cell? ⟨g,0,none⟩=some (.int .i64 wd)) (hsz:e.f2.size+e.f3.size≤9223372036854775807) :
  Calls Tryd.prog 129 #[.agg #[.int .i64 e.f0,.int .i64 e.f1.f0,.int .i64 e.f1.f1,.string e.f1.f2,.string e.f2,.string e.f3,.int .i64 e.f4,.slice A7 e.f5.length c7],.int .i64 n,.pointer (some ⟨g,0,none⟩)] w fun r w'=>r = .returned (.tuple #[.bool (decide (qj.fine wd e)),.bool (e.f0 == 3)])∧Below w.heap.size w w':=by
 have hu:=Tryd.underlying41
 have HS:=zq.mk hsz
 have hgl:g<w.heap.size:=World.block_lt_of_cell? w _ hg
 have hs1:¬ 9223372036854775807<e.f2.size+e.f3.size:=by omega
 clear hsz
 by_cases z0:e.f1.f0=0
 rotate_left
 ·go_enter Tryd.func129,Tryd.ntmps129
  go_wp2
  go_quiet (fail)
  go_wp2
  go_ret2
  exact⟨by simp [qj.fine,qj.zeroV, *],qc (zp (Below.refl _ _) _) _⟩
 by_cases z1:e.f1.f1=0
 rotate_left
 ·go_enter Tryd.func129,Tryd.ntmps129
  go_wp2
  go_quiet (fail)
  go_wp2
  go_ret2
  exact⟨by simp [qj.fine,qj.zeroV, *],qc (zp (Below.refl _ _) _) _⟩
 by_cases z2:e.f1.f2.toList = []
 rotate_left
 ·go_enter Tryd.func129,Tryd.ntmps129
  go_wp2
  go_quiet (fail)
  go_wp2
  go_ret2
  exact⟨by simp [qj.fine,qj.zeroV, *],qc (zp (Below.refl _ _) _) _⟩
 by_cases z3:(e.f2 ++ e.f3).toList = []
 rotate_left
 ·go_enter Tryd.func129,Tryd.ntmps129
  go_wp2
  go_quiet (fail)
  go_wp2
  go_ret2
  exact⟨by simp [qj.fine,qj.zeroV, *],qc (zp (Below.refl _ _) _) _⟩
 by_cases z4:e.f5.length=0
 rotate_left
 ·go_enter Tryd.func129,Tryd.ntmps129
  go_wp2
  go_quiet (fail)
  go_wp2
  go_ret2
  exact⟨by simp [qj.fine,qj.zeroV, *],qc (zp (Below.refl _ _) _) _⟩
 by_cases z5:0≤e.f4
 rotate_left
 ·have d5:decide ((0:Int)≤e.f4)=false:=by simpa using z5
  go_enter Tryd.func129,Tryd.ntmps129
  go_wp2
  go_quiet (fail)
  go_wp2
  go_ret2
  exact⟨by simp [qj.fine,qj.zeroV, *],qc (zp (Below.refl _ _) _) _⟩
 have d5:decide ((0:Int)≤e.f4)=true:=by simpa using z5
 by_cases z6:e.f4<wd
 rotate_left
 ·have d6:decide (e.f4<wd)=false:=by simpa using z6
  go_enter Tryd.func129,Tryd.ntmps129
  go_wp2
  go_quiet (fail)
  go_wp2
  go_ret2
  exact⟨by simp [qj.fine,qj.zeroV, *],qc (zp (Below.refl _ _) _) _⟩
 have d6:decide (e.f4<wd)=true:=by simpa using z6
 go_enter Tryd.func129,Tryd.ntmps129
 go_wp2
 go_quiet (fail)
 go_wp2
 go_ret2
 exact⟨by simp [qj.fine,qj.zeroV, *],qc (zp (Below.refl _ _) _) _⟩
theorem qj.at_ {w:World} {A:Option Addr} {l:List S41} (h:Kd.C k41 w A l.length l) (h0:0<l.length):∃ b o,A=some ⟨b,o,none⟩ ∧ ∀ (i:Nat) (hi:i<l.length),∃ A7 c7,
  w.cell? ⟨b,o+i * 8,none⟩=some (.int .i64 l[i].f0)∧w.cell? ⟨b,o+i * 8+1,none⟩=some (.int .i64 l[i].f1.f0)∧w.cell? ⟨b,o+i * 8+2,none⟩=some (.int .i64 l[i].f1.f1)∧w.cell? ⟨b,o+i * 8+3,none⟩=some (.string l[i].f1.f2) ∧
   w.cell? ⟨b,o+i * 8+4,none⟩=some (.string l[i].f2)∧w.cell? ⟨b,o+i * 8+5,none⟩=some (.string l[i].f3)∧w.cell? ⟨b,o+i * 8+6,none⟩=some (.int .i64 l[i].f4)∧w.cell? ⟨b,o+i * 8+7,none⟩=some (.slice A7 l[i].f5.length c7) ∧
   l[i].f5.length≤c7∧Kd.C k41 w A7 l[i].f5.length l[i].f5:=by
 obtain ⟨ad,A7,c7,rfl,g0,_⟩:=zxh h 0 (by omega) (by omega)
 have hs:ad.spot=none:=by
  cases hsp:ad.spot with
  | none=>rfl
  | some s=>
   exfalso
   rw [show ad.add ((0:Int).toNat * 8)=ad from by simp [Addr.add]] at g0
   unfold World.cell? at g0
   split at g0
   ·rw [hsp] at g0
    simp at g0
   cases g0
 obtain ⟨b,o,sp⟩:=ad
 dsimp only at hs
 subst hs
 refine⟨b,o,rfl,fun i hi=>?_⟩
 obtain ⟨ad,A7,c7,e,g0,g1,g2,g3,g4,g5,g6,g7,l7,r7⟩:=zxh h (i:Int) (by omega) (by omega)
 cases e
 have ee:zg l (i:Int)=l[i]:=by simp [zg,List.getD_eq_getElem?_getD,hi]
 have ha:(⟨b,o,none⟩:Addr).add ((i:Int).toNat * 8)=⟨b,o+i * 8,none⟩:=by rw [Int.toNat_natCast];unfold Addr.add;split <;> simp_all
 rw [ee] at g0 g1 g2 g3 g4 g5 g6 g7 l7 r7
 rw [ha] at g0 g1 g2 g3 g4 g5 g6 g7
 exact⟨A7,c7,g0,g1,g2,g3,g4,g5,g6,g7,l7,r7⟩
theorem qj.parts_at (k:Nat) (op a1 a2:Int) (a3 a4 a5:ByteArray) (a6:Int) (l:List S41):zqf.f (k+1) op a1 a2 a3 a4 a5 a6 l=some (qj.parts op):=by
 unfold zqf.f qj.parts
 by_cases h1:op=1
 ·rw [if_pos h1,if_pos h1]
 rw [if_neg h1,if_neg h1]
 by_cases h4:op ≥ 4
 ·rw [if_pos h4]
  by_cases h7:op≤7
  ·rw [decide_eq_true h7,if_pos ⟨h4,h7⟩,zqf.j0,if_pos rfl]
  rw [decide_eq_false h7,if_neg (by omega),zqf.j0,if_neg (by decide)]
  by_cases h8:op ≥ 8
  ·rw [if_pos h8]
   by_cases h20:op≤20
   ·rw [if_pos h20,if_pos ⟨h8,h20⟩]
   rw [if_neg h20,if_neg (by omega)]
  rw [if_neg h8,if_neg (by omega)]
 rw [if_neg h4,if_neg (by omega),zqf.j0,if_neg (by decide),if_neg (by omega),if_neg (by omega)]
set_option maxRecDepth 100000 in
set_option maxHeartbeats 16000000 in
theorem qj.asked (wd:Int) (k:Nat):∀ (n:Nat) (e:S41) (A7:Option Addr) (c7:Nat) (r:Bool) (g:Nat) (w:World),n≤12→w.cell? ⟨g,0,none⟩=some (.int .i64 wd)→Kd.C k41 w A7 e.f5.length e.f5→e.f5.length≤c7→LD w→qj.may wd k n e=some r →
  Calls Tryd.prog 128 #[.agg #[.int .i64 e.f0,.int .i64 e.f1.f0,.int .i64 e.f1.f1,.string e.f1.f2,.string e.f2,.string e.f3,.int .i64 e.f4,.slice A7 e.f5.length c7],.func (.func 129) #[] #[.pointer (some ⟨g,0,none⟩)],.int .i64 (12 - (n:Int))] w fun x w'=>x = .returned (.bool r)∧Below w.heap.size w w':=by
 intro n
 induction n with
 | zero=>
  intro e A7 c7 r g w hn hg hr hc hL h
  obtain rfl:=Option.some.inj h
  clear h hr hL hg
  go_enter Tryd.func128,Tryd.ntmps128
  go_wp2
  go_ret
  exact⟨rfl,zp (Below.refl _ _) _⟩
 | succ n ih=>
 intro e A7 c7 r g w hn hg hr hc hL h
 have hm:=hr.2.1
 have HR:=zq.mk hr
 have HL:=zq.mk hL
 have IH:=zq.mk ih
 clear hr hL ih
 obtain ⟨m,hm1,hm2⟩:∃ m:Int,m=12 - ((n+1:Nat):Int)∧m+1=12 - (n:Int):=⟨_,rfl,by omega⟩
 rw [← hm1]
 have hm3:(m == 12)=false:=by simp;omega
 have hm4:IntKind.i64.wrap (m+1)=m+1:=by rw [IntKind.wrap_i64];omega
 have HM:=zq.mk (And.intro hm1 hm2)
 clear hm1 hm2
 rw [qj.may] at h
 by_cases hsz:9223372036854775807<e.f2.size+e.f3.size
 ·rw [if_pos hsz] at h;cases h
 rw [if_neg hsz] at h
 have hgl:g<w.heap.size:=World.block_lt_of_cell? w _ hg
 have hcl:∀ W:World,Calls Tryd.prog 129 #[.agg #[.int .i64 e.f0,.int .i64 e.f1.f0,.int .i64 e.f1.f1,.string e.f1.f2,.string e.f2,.string e.f3,.int .i64 e.f4,.slice A7 e.f5.length c7],.int .i64 m,.pointer (some ⟨g,0,none⟩)] (w.alloc (.cells #[.int .i64 e.f0,.int .i64 e.f1.f0,.int .i64 e.f1.f1,.string e.f1.f2,.string e.f2,.string e.f3,.int .i64 e.f4,.slice A7 e.f5.length c7] 101)) fun r w'=>r = .returned (.tuple #[.bool (decide (qj.fine wd e)),.bool (e.f0 == 3)])∧Below (w.alloc (.cells #[.int .i64 e.f0,.int .i64 e.f1.f0,.int .i64 e.f1.f1,.string e.f1.f2,.string e.f2,.string e.f3,.int .i64 e.f4,.slice A7 e.f5.length c7] 101)).heap.size (w.alloc (.cells #[.int .i64 e.f0,.int .i64 e.f1.f0,.int .i64 e.f1.f1,.string e.f1.f2,.string e.f2,.string e.f3,.int .i64 e.f4,.slice A7 e.f5.length c7] 101)) w':=fun _=>qj.placed wd e A7 c7 m g _ ((World.cell?_alloc_past _ _ _ hgl).trans hg) (by omega)
 have HCL:=zq.mk (hcl w)
 clear hcl
 have keep:∀ W:World,Below (w.alloc (.cells #[.int .i64 e.f0,.int .i64 e.f1.f0,.int .i64 e.f1.f1,.string e.f1.f2,.string e.f2,.string e.f3,.int .i64 e.f4,.slice A7 e.f5.length c7] 101)).heap.size (w.alloc (.cells #[.int .i64 e.f0,.int .i64 e.f1.f0,.int .i64 e.f1.f1,.string e.f1.f2,.string e.f2,.string e.f3,.int .i64 e.f4,.slice A7 e.f5.length c7] 101)) W→W.cell? ⟨w.heap.size,0,none⟩=some (.int .i64 e.f0)∧W.cell? ⟨w.heap.size,1,none⟩=some (.int .i64 e.f1.f0)∧W.cell? ⟨w.heap.size,2,none⟩=some (.int .i64 e.f1.f1)∧W.cell? ⟨w.heap.size,3,none⟩=some (.string e.f1.f2)∧W.cell? ⟨w.heap.size,4,none⟩=some (.string e.f2)∧W.cell? ⟨w.heap.size,5,none⟩=some (.string e.f3)∧W.cell? ⟨w.heap.size,6,none⟩=some (.int .i64 e.f4)∧W.cell? ⟨w.heap.size,7,none⟩=some (.slice A7 e.f5.length c7):=fun W hb=>⟨qq hb (by simp [go_sem]),qq hb (by simp [go_sem]),qq hb (by simp [go_sem]),qq hb (by simp [go_sem]),qq hb (by simp [go_sem]),qq hb (by simp [go_sem]),qq hb (by simp [go_sem]),qq hb (by simp [go_sem])⟩
 have KP:=zq.mk keep
 have HW:zq (∀ W:World,Below (w.alloc (.cells #[.int .i64 e.f0,.int .i64 e.f1.f0,.int .i64 e.f1.f1,.string e.f1.f2,.string e.f2,.string e.f3,.int .i64 e.f4,.slice A7 e.f5.length c7] 101)).heap.size (w.alloc (.cells #[.int .i64 e.f0,.int .i64 e.f1.f0,.int .i64 e.f1.f1,.string e.f1.f2,.string e.f2,.string e.f3,.int .i64 e.f4,.slice A7 e.f5.length c7] 101)) W→Below w.heap.size w W):=⟨fun W hb=>(zp (Below.refl _ _) _).trans (hb.mono (zp (Below.refl _ _) _).size)⟩
 clear keep
 by_cases h3:e.f0=3
 ·rw [if_pos h3] at h
  obtain rfl:=Option.some.inj h
  have h3':(e.f0 == 3)=true:=by simpa using h3
  clear h h3
  go_enter Tryd.func128,Tryd.ntmps128
  go_wp2_with (go_at_call 129;(with_reducible refine HCL.out.mono ?_);rintro x w1 ⟨rfl,hb⟩;have HB:=zq.mk hb;clear hb)
  go_ret
  exact⟨rfl,HW.out _ HB.out⟩
 rw [if_neg h3] at h
 have h3':(e.f0 == 3)=false:=by simpa using h3
 have HPC:zq (∀ W:World,Below (w.alloc (.cells #[.int .i64 e.f0,.int .i64 e.f1.f0,.int .i64 e.f1.f1,.string e.f1.f2,.string e.f2,.string e.f3,.int .i64 e.f4,.slice A7 e.f5.length c7] 101)).heap.size (w.alloc (.cells #[.int .i64 e.f0,.int .i64 e.f1.f0,.int .i64 e.f1.f1,.string e.f1.f2,.string e.f2,.string e.f3,.int .i64 e.f4,.slice A7 e.f5.length c7] 101)) W→Calls Tryd.prog 151 #[.agg #[.int .i64 e.f0,.int .i64 e.f1.f0,.int .i64 e.f1.f1,.string e.f1.f2,.string e.f2,.string e.f3,.int .i64 e.f4,.slice A7 e.f5.length c7]] W fun x w'=>x = .returned (.int .i64 (qj.parts e.f0))∧Below (w.alloc (.cells #[.int .i64 e.f0,.int .i64 e.f1.f0,.int .i64 e.f1.f1,.string e.f1.f2,.string e.f2,.string e.f3,.int .i64 e.f4,.slice A7 e.f5.length c7] 101)).heap.size (w.alloc (.cells #[.int .i64 e.f0,.int .i64 e.f1.f0,.int .i64 e.f1.f1,.string e.f1.f2,.string e.f2,.string e.f3,.int .i64 e.f4,.slice A7 e.f5.length c7] 101)) w'):=
  ⟨fun W hb=>(zqf.calls 1 _ _ _ _ _ _ _ A7 c7 e.f5 _ W (Kd.zqj HR.out (HW.out W hb)) hc (qj.parts_at 0 _ _ _ _ _ _ _ _)).mono fun x w' ⟨hx,hd⟩=>⟨hx,hb.trans (hd.mono hb.size)⟩⟩
 have KP2:zq (∀ W:World,Below (w.alloc (.cells #[.int .i64 e.f0,.int .i64 e.f1.f0,.int .i64 e.f1.f1,.string e.f1.f2,.string e.f2,.string e.f3,.int .i64 e.f4,.slice A7 e.f5.length c7] 101)).heap.size (w.alloc (.cells #[.int .i64 e.f0,.int .i64 e.f1.f0,.int .i64 e.f1.f1,.string e.f1.f2,.string e.f2,.string e.f3,.int .i64 e.f4,.slice A7 e.f5.length c7] 101)) W→Below (w.alloc (.cells #[.int .i64 e.f0,.int .i64 e.f1.f0,.int .i64 e.f1.f1,.string e.f1.f2,.string e.f2,.string e.f3,.int .i64 e.f4,.slice A7 e.f5.length c7] 101)).heap.size (w.alloc (.cells #[.int .i64 e.f0,.int .i64 e.f1.f0,.int .i64 e.f1.f1,.string e.f1.f2,.string e.f2,.string e.f3,.int .i64 e.f4,.slice A7 e.f5.length c7] 101)) W∧W.cell? ⟨w.heap.size,0,none⟩=some (.int .i64 e.f0)∧W.cell? ⟨w.heap.size,1,none⟩=some (.int .i64 e.f1.f0)∧W.cell? ⟨w.heap.size,2,none⟩=some (.int .i64 e.f1.f1)∧W.cell? ⟨w.heap.size,3,none⟩=some (.string e.f1.f2)∧W.cell? ⟨w.heap.size,4,none⟩=some (.string e.f2)∧W.cell? ⟨w.heap.size,5,none⟩=some (.string e.f3)∧W.cell? ⟨w.heap.size,6,none⟩=some (.int .i64 e.f4)∧W.cell? ⟨w.heap.size,7,none⟩=some (.slice A7 e.f5.length c7)):=⟨fun W hb=>⟨hb,KP.out W hb⟩⟩
 clear h3
 generalize hP:qj.parts e.f0=P at *
 clear hP
 by_cases c1:P=e.f5.length
 rotate_left
 ·rw [if_pos (.inl c1)] at h
  obtain rfl:=Option.some.inj h
  have d1:(P != (e.f5.length:Int))=true:=by simpa using c1
  clear h c1
  go_enter Tryd.func128,Tryd.ntmps128
  go_wp2_with (go_at_call 129;(with_reducible refine HCL.out.mono ?_);rintro x w1 ⟨rfl,hb⟩;have HB:=zq.mk hb;clear hb)
  obtain ⟨y,y0,y1,y2,y3,y4,y5,y6,y7⟩:=KP2.out _ HB.out
  first|fail|(go_region_with (go_at_call 151;refine(HPC.out _ (by first|exact HB.out|exact zqa HB.out)).mono ?_;rintro x w2 ⟨rfl,hb2⟩;obtain ⟨z0,z1,z2,z3,z4,z5,z6,z7⟩:=KP.out _ hb2))|fail
  all_goals
   go_wp2
   go_ret
   exact⟨rfl,HW.out _ (by first|exact hb2|exact zqa hb2)⟩
 have d1:(P != (e.f5.length:Int))=false:=by simpa using c1
 by_cases c2:(e.f2 ++ e.f3).toList = []
 rotate_left
 ·rw [if_pos (.inr (.inl c2))] at h
  obtain rfl:=Option.some.inj h
  have d2:(e.f2 ++ e.f3).toList.isEmpty=false:=by cases hq:(e.f2 ++ e.f3).toList with|nil=>exact absurd hq c2|cons _ _=>rfl
  clear h c1
  go_enter Tryd.func128,Tryd.ntmps128
  go_wp2_with (go_at_call 129;(with_reducible refine HCL.out.mono ?_);rintro x w1 ⟨rfl,hb⟩;have HB:=zq.mk hb;clear hb)
  obtain ⟨y,y0,y1,y2,y3,y4,y5,y6,y7⟩:=KP2.out _ HB.out
  first|fail|(go_region_with (go_at_call 151;refine(HPC.out _ (by first|exact HB.out|exact zqa HB.out)).mono ?_;rintro x w2 ⟨rfl,hb2⟩;obtain ⟨z0,z1,z2,z3,z4,z5,z6,z7⟩:=KP.out _ hb2))|fail
  all_goals
   go_wp2
   go_ret
   exact⟨rfl,HW.out _ (by first|exact hb2|exact zqa hb2)⟩
 have d2:(e.f2 ++ e.f3).toList.isEmpty=true:=by rw [c2];rfl
 by_cases c3:e.f4=0
 rotate_left
 ·rw [if_pos (.inr (.inr c3))] at h
  obtain rfl:=Option.some.inj h
  have d3:(e.f4 != 0)=true:=by simpa using c3
  clear h c1 c3
  go_enter Tryd.func128,Tryd.ntmps128
  go_wp2_with (go_at_call 129;(with_reducible refine HCL.out.mono ?_);rintro x w1 ⟨rfl,hb⟩;have HB:=zq.mk hb;clear hb)
  obtain ⟨y,y0,y1,y2,y3,y4,y5,y6,y7⟩:=KP2.out _ HB.out
  first|fail|(go_region_held3 (fun W=>Below (w.alloc (.cells #[.int .i64 e.f0,.int .i64 e.f1.f0,.int .i64 e.f1.f1,.string e.f1.f2,.string e.f2,.string e.f3,.int .i64 e.f4,.slice A7 e.f5.length c7] 101)).heap.size (w.alloc (.cells #[.int .i64 e.f0,.int .i64 e.f1.f0,.int .i64 e.f1.f1,.string e.f1.f2,.string e.f2,.string e.f3,.int .i64 e.f4,.slice A7 e.f5.length c7] 101)) W∧W.cell? ⟨w.heap.size,0,none⟩=some (.int .i64 e.f0)∧W.cell? ⟨w.heap.size,1,none⟩=some (.int .i64 e.f1.f0)∧W.cell? ⟨w.heap.size,2,none⟩=some (.int .i64 e.f1.f1)∧W.cell? ⟨w.heap.size,3,none⟩=some (.string e.f1.f2)∧W.cell? ⟨w.heap.size,4,none⟩=some (.string e.f2)∧W.cell? ⟨w.heap.size,5,none⟩=some (.string e.f3)∧W.cell? ⟨w.heap.size,6,none⟩=some (.int .i64 e.f4)∧W.cell? ⟨w.heap.size,7,none⟩=some (.slice A7 e.f5.length c7))
   (first|exact KP2.out _ (by assumption)|exact KP2.out _ (zqa (by assumption)))
   ((go_at_call 151;refine(HPC.out _ (by go_split_ands;assumption)).mono ?_;rintro x w2 ⟨rfl,hb2⟩)))|fail
  all_goals
   go_wp2
   go_ret
   exact⟨rfl,HW.out _ (by first|exact hb2|exact zqa hb2)⟩
 have d3:(e.f4 != 0)=false:=by simpa using c3
 rw [if_neg (by rintro (h_|h_|h_) <;> first|exact h_ c1|exact h_ c2|exact h_ c3)] at h
 clear c1 c3
 by_cases c4:e.f0=1
 ·rw [if_pos c4] at h
  obtain ⟨c,hck,h⟩:=Option.bind_eq_some_iff.1 h
  obtain rfl:=Option.some.inj h
  have HCK:=zq.mk hck
  have d4:(e.f0 == 1)=true:=by simpa using c4
  clear h hck c4
  go_enter Tryd.func128,Tryd.ntmps128
  go_wp2_with (go_at_call 129;(with_reducible refine HCL.out.mono ?_);rintro x w1 ⟨rfl,hb⟩;have HB:=zq.mk hb;clear hb)
  obtain ⟨y,y0,y1,y2,y3,y4,y5,y6,y7⟩:=KP2.out _ HB.out
  first|fail|(go_region_held3 (fun W=>Below (w.alloc (.cells #[.int .i64 e.f0,.int .i64 e.f1.f0,.int .i64 e.f1.f1,.string e.f1.f2,.string e.f2,.string e.f3,.int .i64 e.f4,.slice A7 e.f5.length c7] 101)).heap.size (w.alloc (.cells #[.int .i64 e.f0,.int .i64 e.f1.f0,.int .i64 e.f1.f1,.string e.f1.f2,.string e.f2,.string e.f3,.int .i64 e.f4,.slice A7 e.f5.length c7] 101)) W∧W.cell? ⟨w.heap.size,0,none⟩=some (.int .i64 e.f0)∧W.cell? ⟨w.heap.size,1,none⟩=some (.int .i64 e.f1.f0)∧W.cell? ⟨w.heap.size,2,none⟩=some (.int .i64 e.f1.f1)∧W.cell? ⟨w.heap.size,3,none⟩=some (.string e.f1.f2)∧W.cell? ⟨w.heap.size,4,none⟩=some (.string e.f2)∧W.cell? ⟨w.heap.size,5,none⟩=some (.string e.f3)∧W.cell? ⟨w.heap.size,6,none⟩=some (.int .i64 e.f4)∧W.cell? ⟨w.heap.size,7,none⟩=some (.slice A7 e.f5.length c7))
   (first|exact KP2.out _ (by assumption)|exact KP2.out _ (zqa (by assumption)))
   ((go_at_call 151;refine(HPC.out _ (by go_split_ands;assumption)).mono ?_;rintro x w2 ⟨rfl,hb2⟩)))|fail
  all_goals
   have HB2:=zq.mk (HW.out _ (by first|exact hb2|exact zqa hb2))
   obtain ⟨z0,z1,z2,z3,z4,z5,z6,z7⟩:=KP.out _ hb2
   go_wp2_with (go_at_call 57;refine(qf.calls k e.f1.f0 e.f1.f1 e.f1.f2 c _ (LD.below HL.out HB2.out) HCK.out).mono ?_;rintro x w3 ⟨rfl,hb3⟩)
   go_ret
   exact⟨rfl,HB2.out.trans (hb3.mono HB2.out.size)⟩
 rw [if_neg c4] at h
 have d4:(e.f0 == 1)=false:=by simpa using c4
 have HS:=zq.mk h
 clear h c4
 have HZ:zq (∀ W:World,Below (w.alloc (.cells #[.int .i64 e.f0,.int .i64 e.f1.f0,.int .i64 e.f1.f1,.string e.f1.f2,.string e.f2,.string e.f3,.int .i64 e.f4,.slice A7 e.f5.length c7] 101)).heap.size (w.alloc (.cells #[.int .i64 e.f0,.int .i64 e.f1.f0,.int .i64 e.f1.f1,.string e.f1.f2,.string e.f2,.string e.f3,.int .i64 e.f4,.slice A7 e.f5.length c7] 101)) W→Below w.heap.size w W∧W.cell? ⟨g,0,none⟩=some (.int .i64 wd)):=⟨fun W hb=>⟨HW.out W hb,qq (HW.out W hb) hg⟩⟩
 go_enter Tryd.func128,Tryd.ntmps128
 go_wp2_with (go_at_call 129;(with_reducible refine HCL.out.mono ?_);rintro x w1 ⟨rfl,hb⟩;have HB:=zq.mk hb;clear hb)
 obtain ⟨y,y0,y1,y2,y3,y4,y5,y6,y7⟩:=KP2.out _ HB.out
 first|fail|(go_region_held3 (fun W=>Below (w.alloc (.cells #[.int .i64 e.f0,.int .i64 e.f1.f0,.int .i64 e.f1.f1,.string e.f1.f2,.string e.f2,.string e.f3,.int .i64 e.f4,.slice A7 e.f5.length c7] 101)).heap.size (w.alloc (.cells #[.int .i64 e.f0,.int .i64 e.f1.f0,.int .i64 e.f1.f1,.string e.f1.f2,.string e.f2,.string e.f3,.int .i64 e.f4,.slice A7 e.f5.length c7] 101)) W∧W.cell? ⟨w.heap.size,0,none⟩=some (.int .i64 e.f0)∧W.cell? ⟨w.heap.size,1,none⟩=some (.int .i64 e.f1.f0)∧W.cell? ⟨w.heap.size,2,none⟩=some (.int .i64 e.f1.f1)∧W.cell? ⟨w.heap.size,3,none⟩=some (.string e.f1.f2)∧W.cell? ⟨w.heap.size,4,none⟩=some (.string e.f2)∧W.cell? ⟨w.heap.size,5,none⟩=some (.string e.f3)∧W.cell? ⟨w.heap.size,6,none⟩=some (.int .i64 e.f4)∧W.cell? ⟨w.heap.size,7,none⟩=some (.slice A7 e.f5.length c7))
  (first|exact KP2.out _ (by assumption)|exact KP2.out _ (zqa (by assumption)))
  ((go_at_call 151;refine(HPC.out _ (by go_split_ands;assumption)).mono ?_;rintro x w2 ⟨rfl,hb2⟩)))|fail
 all_goals
  obtain ⟨z0,z1,z2,z3,z4,z5,z6,z7⟩:=KP.out _ hb2
  have HB3:=zq.mk hb2
  clear hb2
  go_wp2
  clear y y0 y1 y2 y3 y4 y5 y6 y7 z0 z1 z2 z3 z4 z5 z6 z7 hg
  go_loopw [10,51] (fun _ i wr => ∃ j:Nat,j≤e.f5.length∧i = .int .i64 j∧zq (qj.all (qj.may wd k n) (decide (qj.zeroV e.f1)) (e.f5.drop j)=some r)∧zq (Below (w.alloc (.cells #[.int .i64 e.f0,.int .i64 e.f1.f0,.int .i64 e.f1.f1,.string e.f1.f2,.string e.f2,.string e.f3,.int .i64 e.f4,.slice A7 e.f5.length c7] 101)).heap.size (w.alloc (.cells #[.int .i64 e.f0,.int .i64 e.f1.f0,.int .i64 e.f1.f1,.string e.f1.f2,.string e.f2,.string e.f3,.int .i64 e.f4,.slice A7 e.f5.length c7] 101)) wr)) (fun _ i _=>e.f5.length - (intOf i).toNat)
  case atStart=>exact⟨0,by omega,rfl,HS,HB3⟩
  case round=>
   clear HS HB3 HB
   obtain ⟨j,hj,rfl,HS,HB⟩:=hrel
   obtain ⟨y0,y1,y2,y3,y4,y5,y6,y7⟩:=KP.out _ HB.out
   by_cases hlt:j<e.f5.length
   ·obtain ⟨bb,oo,rfl,hcs⟩:=qj.at_ (Kd.zqj HR.out (HZ.out _ HB.out).1) (by omega)
    obtain ⟨A8,c8,p0,p1,p2,p3,p4,p5,p6,p7,l8,r8⟩:=hcs j hlt
    have hs:=HS.out
    rw [List.drop_eq_getElem_cons hlt,qj.all] at hs
    obtain ⟨q,hq,hs⟩:=Option.bind_eq_some_iff.1 hs
    generalize e.f5[j]=x at *
    have hgl2:g<wr.heap.size:=World.block_lt_of_cell? wr _ (HZ.out _ HB.out).2
    have hcall:Calls Tryd.prog 128 #[.agg #[.int .i64 x.f0,.int .i64 x.f1.f0,.int .i64 x.f1.f1,.string x.f1.f2,.string x.f2,.string x.f3,.int .i64 x.f4,.slice A8 x.f5.length c8],.func (.func 129) #[] #[.pointer (some ⟨g,0,none⟩)],.int .i64 (m+1)] (wr.alloc (.cells #[.int .i64 x.f0,.int .i64 x.f1.f0,.int .i64 x.f1.f1,.string x.f1.f2,.string x.f2,.string x.f3,.int .i64 x.f4,.slice A8 x.f5.length c8] 41)) fun z w'=>z = .returned (.bool q)∧Below (w.alloc (.cells #[.int .i64 e.f0,.int .i64 e.f1.f0,.int .i64 e.f1.f1,.string e.f1.f2,.string e.f2,.string e.f3,.int .i64 e.f4,.slice (some ⟨bb,oo,none⟩) e.f5.length c7] 101)).heap.size (w.alloc (.cells #[.int .i64 e.f0,.int .i64 e.f1.f0,.int .i64 e.f1.f1,.string e.f1.f2,.string e.f2,.string e.f3,.int .i64 e.f4,.slice (some ⟨bb,oo,none⟩) e.f5.length c7] 101)) w':=by
     rw [HM.out.2]
     have hba:=zp HB.out (.cells #[.int .i64 x.f0,.int .i64 x.f1.f0,.int .i64 x.f1.f1,.string x.f1.f2,.string x.f2,.string x.f3,.int .i64 x.f4,.slice A8 x.f5.length c8] 41)
     exact(IH.out x A8 c8 q g _ (by omega) ((World.cell?_alloc_past _ _ _ hgl2).trans (HZ.out _ HB.out).2) (Kd.zqj r8 (zp (Below.refl _ _) _)) l8 (LD.below HL.out (HZ.out _ hba).1) hq).mono fun z w' ⟨hz,hd⟩=>⟨hz,hba.trans (hd.mono hba.size)⟩
    have HCA:=zq.mk hcall
    clear hcall r8 hcs hq
    cases q with
    | true=>
     rw [if_pos rfl] at hs
     have HS2:=zq.mk hs
     clear HS hs
     go_wp2_with (go_at_call 128;(with_reducible refine HCA.out.mono ?_);rintro z w4 ⟨rfl,hb4⟩;have HB4:=zq.mk hb4;clear hb4)
     go_roundw
     case rel=>exact⟨j+1,by omega,by go_num,HS2,HB4⟩
     case measure=>simp [intOf];omega
    | false=>
     rw [if_neg (by decide)] at hs
     obtain rfl:=Option.some.inj hs
     clear HS hs
     go_wp2_with (go_at_call 128;(with_reducible refine HCA.out.mono ?_);rintro z w4 ⟨rfl,hb4⟩;have HB4:=zq.mk hb4;clear hb4)
     go_ret
     exact⟨rfl,HW.out _ HB4.out⟩
   obtain rfl:j=e.f5.length:=by omega
   have hs:=HS.out
   rw [List.drop_length,qj.all] at hs
   obtain rfl:=Option.some.inj hs
   clear HS hs
   by_cases z0:e.f1.f0=0
   rotate_left
   ·go_wp2
    go_ret
    exact⟨by simp [qj.zeroV,z0],HW.out _ HB.out⟩
   by_cases z1:e.f1.f1=0
   rotate_left
   ·go_wp2
    go_ret
    exact⟨by simp [qj.zeroV,z0,z1],HW.out _ HB.out⟩
   by_cases z2:e.f1.f2.toList = []
   rotate_left
   ·go_wp2
    go_ret
    exact⟨by simp [qj.zeroV,z0,z1,z2],HW.out _ HB.out⟩
   go_wp2
   go_ret
   exact⟨by simp [qj.zeroV,z0,z1,z2],HW.out _ HB.out⟩

-- NOT PRINTED: function 104 (eval_MayWith)

-- NOT PRINTED: function 105 (eval_Placed)

/-! ### zqw: function 67, by hand -/
-- HAND rounds=1 making=1 laid=1 imports=Derived.Deep.RegionHeld3,Derived.Deep.RegionWith
def zqw.expr (a0 a1 a2:Int) (a3 a4 a5:ByteArray) (a6:Int) (l7:List S41):S41:=⟨a0,⟨a1,a2,a3⟩,a4,a5,a6,l7⟩
def zqw.f (k:Nat) (a0_0:Int) (a0_1:Int) (a0_2:Int) (a0_3:ByteArray) (a0_4:ByteArray) (a0_5:ByteArray) (a0_6:Int) (l0_7:List S41) (a1:Int):Option Bool:=qj.may a1 k 12 (zqw.expr a0_0 a0_1 a0_2 a0_3 a0_4 a0_5 a0_6 l0_7)
theorem zqw.mono_all {f g:S41→Option Bool} (h:∀ x,LeO (f x) (g x)) (z:Bool):∀ l,LeO (qj.all f z l) (qj.all g z l)
 | []=>LeO.refl _
 | s :: r=>by
  unfold qj.all
  refine LeO.bind (h s) (fun b=>?_)
  refine LeO.ite ?_ (LeO.refl _)
  exact zqw.mono_all h z r
theorem zqw.mono_may (w:Int) (k:Nat):∀ n x,LeO (qj.may w k n x) (qj.may w (k+1) n x)
 | 0,_=>LeO.refl _
 | n+1,e=>by
  unfold qj.may
  refine LeO.ite (LeO.refl _) (LeO.ite (LeO.refl _) (LeO.ite (LeO.refl _) (LeO.ite ?_ ?_)))
  ·exact LeO.bind (qf.mono _ _ _ _) (fun _=>LeO.refl _)
  exact zqw.mono_all (zqw.mono_may w k n) _ _
theorem zqw.mono:∀ a0 a1 a2 a3 a4 a5 a6 a7 a8 k,LeO (zqw.f k a0 a1 a2 a3 a4 a5 a6 a7 a8) (zqw.f (k+1) a0 a1 a2 a3 a4 a5 a6 a7 a8):=fun _ _ _ _ _ _ _ _ _ k=>zqw.mono_may _ k 12 _
set_option maxRecDepth 100000 in
set_option maxHeartbeats 2000000 in
theorem zqw.with_ (wd:Int) (k:Nat) (e:S41) (A7:Option Addr) (c7:Nat) (r:Bool) (g:Nat) (w:World) (hg:w.cell? ⟨g,0,none⟩=some (.int .i64 wd)) (hr:Kd.C k41 w A7 e.f5.length e.f5) (hc:e.f5.length≤c7) (hL:LD w) (h:qj.may wd k 12 e=some r) :
  Calls Tryd.prog 104 #[.agg #[.int .i64 e.f0,.int .i64 e.f1.f0,.int .i64 e.f1.f1,.string e.f1.f2,.string e.f2,.string e.f3,.int .i64 e.f4,.slice A7 e.f5.length c7],.func (.func 129) #[] #[.pointer (some ⟨g,0,none⟩)],.int .i64 0] w fun x w'=>x = .returned (.bool r)∧Below w.heap.size w w':=by
 have hgl:g<w.heap.size:=World.block_lt_of_cell? w _ hg
 have hB:=zp (Below.refl w.heap.size w) (.cells #[.int .i64 e.f0,.int .i64 e.f1.f0,.int .i64 e.f1.f1,.string e.f1.f2,.string e.f2,.string e.f3,.int .i64 e.f4,.slice A7 e.f5.length c7] 41)
 have hcall:=qj.asked wd k 12 e A7 c7 r g (w.alloc (.cells #[.int .i64 e.f0,.int .i64 e.f1.f0,.int .i64 e.f1.f1,.string e.f1.f2,.string e.f2,.string e.f3,.int .i64 e.f4,.slice A7 e.f5.length c7] 41)) (by omega) ((World.cell?_alloc_past _ _ _ hgl).trans hg) (Kd.zqj hr hB) hc (LD.below hL hB) h
 rw [show(12:Int) - ((12:Nat):Int)=0 from rfl] at hcall
 have HCA:=zq.mk hcall
 have HB:=zq.mk hB
 clear hcall hB h hL hr hg
 go_enter Tryd.func104,Tryd.ntmps104
 go_wp2_with (go_at_call 128;(with_reducible refine HCA.out.mono ?_);rintro z w4 ⟨rfl,hb4⟩;have HB4:=zq.mk hb4;clear hb4)
 go_ret
 exact⟨rfl,HB.out.trans (HB4.out.mono HB.out.size)⟩
set_option maxRecDepth 100000 in
theorem zqw.made (wd:Int) (w:World):Calls Tryd.prog 105 #[.int .i64 wd] w fun x w'=>x = .returned (.func (.func 129) #[] #[.pointer (some ⟨w.heap.size,0,none⟩)])∧w'=w.alloc (.cells #[.int .i64 wd] 3):=by
 go_enter Tryd.func105,Tryd.ntmps105
 go_wp2
 go_ret
 exact⟨rfl,rfl⟩
set_option maxRecDepth 100000 in
set_option maxHeartbeats 2000000 in
theorem zqw.calls (k:Nat) (a0_0:Int) (a0_1:Int) (a0_2:Int) (a0_3:ByteArray) (a0_4:ByteArray) (a0_5:ByteArray) (a0_6:Int) (A0_7:Option Addr) (c0_7:Nat) (l0_7:List (S41)) (a1:Int) (r:Bool) (w:World) (hr0_7:Kd.C k41 w A0_7 l0_7.length l0_7) (hc0_7:l0_7.length≤c0_7) (hL:LD w) (h:zqw.f k a0_0 a0_1 a0_2 a0_3 a0_4 a0_5 a0_6 l0_7 a1=some r) :
  Calls Tryd.prog 67 #[.agg #[.int .i64 a0_0,.int .i64 a0_1,.int .i64 a0_2,.string a0_3,.string a0_4,.string a0_5,.int .i64 a0_6,.slice A0_7 l0_7.length c0_7],.int .i64 a1] w fun e w'=>e = .returned (.bool r)∧Below w.heap.size w w':=by
 have HR:=zq.mk hr0_7
 have HL:=zq.mk hL
 have HS:=zq.mk h
 clear hr0_7 hL h
 go_enter Tryd.func67,Tryd.ntmps67
 go_wp2
 first|fail|(go_region_with (first
  | (go_at_call 105;refine(zqw.made a1 _).mono ?_;rintro x w1 ⟨rfl,rfl⟩)
  | (go_at_call 104;refine(zqw.with_ a1 k (zqw.expr a0_0 a0_1 a0_2 a0_3 a0_4 a0_5 a0_6 l0_7) A0_7 c0_7 r _ _ (by simp [go_sem]) (Kd.zqj HR.out (by repeat(first|exact Below.refl _ _|apply zp|apply qc|apply zqa))) hc0_7 (LD.below HL.out (by repeat(first|exact Below.refl _ _|apply zp|apply qc|apply zqa))) HS.out).mono ?_;rintro x w2 ⟨rfl,hb2⟩;have HB2:=zq.mk (((by repeat(first|exact Below.refl _ _|apply zp|apply qc|apply zqa)):Below w.heap.size w _).trans (hb2.mono (((by repeat(first|exact Below.refl _ _|apply zp|apply qc|apply zqa)):Below w.heap.size w _)).size));clear hb2)))|fail
 all_goals
  go_wp2
  go_ret
  exact⟨rfl,by first|exact HB2.out|exact zqa HB2.out⟩

/-! ### zqq: function 38 -/
def zqq.l0:Nat→List (S38)→Int→Int→Option (Int)
 | 0,_,_,_=>none
 | k+1,x13,x14,x15=>if x15<x14 then(if 0≤x15 then(if x15<(x13.length:Int) then((qf.f k ((qe x13 x15).f0) ((qe x13 x15).f1) ((qe x13 x15).f2)).bind fun t113=>(if t113=0 then(zqq.l0 k x13 x14 (wrap64 (x15+1))) else (some t113))) else (none)) else (none)) else (some 0)
def zqq.f (k:Nat) (a0_0:Int) (a0_1:Int) (a0_2:Int) (a0_3:ByteArray) (a0_4:ByteArray) (a0_5:ByteArray) (a0_6:Int) (l0_7:List (S41)) (l1:List (S38)):Option (Int):=(zqw.f k a0_0 a0_1 a0_2 a0_3 a0_4 a0_5 a0_6 l0_7 (l1.length:Int)).bind fun t110=>(if t110=true then(zqq.l0 k l1 (l1.length:Int) 0) else (some 4))
theorem zqq.mono_l:∀ k,(∀ y0 y1 y2,LeO (zqq.l0 k y0 y1 y2) (zqq.l0 (k+1) y0 y1 y2))
 | 0=>fun _ _ _ r h=>by simp [zqq.l0] at h
 | k+1=>by
  have ih0:=zqq.mono_l k
  intro y0 y1 y2
  unfold zqq.l0
  repeat' first
  | (with_reducible first|exact ih0 _ _ _|exact zqw.mono _ _ _ _ _ _ _ _ _ _|exact qf.mono _ _ _ _|exact LeO.refl _|exact LeO.none _|refine LeO.ite ?_ ?_|refine LeO.bind ?_ (fun _=>?_))
  | exact ih0 _ _ _
  | exact zqw.mono _ _ _ _ _ _ _ _ _ _
  | exact qf.mono _ _ _ _
  | exact LeO.none _
  | refine LeO.ite ?_ ?_
  | refine LeO.bind ?_ (fun _=>?_)
theorem zqq.mono:∀ a0 a1 a2 a3 a4 a5 a6 a7 a8 k,LeO (zqq.f k a0 a1 a2 a3 a4 a5 a6 a7 a8) (zqq.f (k+1) a0 a1 a2 a3 a4 a5 a6 a7 a8):=by
 intro a0 a1 a2 a3 a4 a5 a6 a7 a8 k
 have ih0:=zqq.mono_l k
 unfold zqq.f
 repeat' first
   | (with_reducible first|exact ih0 _ _ _|exact zqw.mono _ _ _ _ _ _ _ _ _ _|exact qf.mono _ _ _ _|exact LeO.refl _|exact LeO.none _|refine LeO.ite ?_ ?_|refine LeO.bind ?_ (fun _=>?_))
   | exact ih0 _ _ _
   | exact zqw.mono _ _ _ _ _ _ _ _ _ _
   | exact qf.mono _ _ _ _
   | exact LeO.none _
   | refine LeO.ite ?_ ?_
   | refine LeO.bind ?_ (fun _=>?_)
set_option maxHeartbeats 8000000 in
set_option maxRecDepth 100000 in
theorem zqq.calls (k:Nat) (a0_0:Int) (a0_1:Int) (a0_2:Int) (a0_3:ByteArray) (a0_4:ByteArray) (a0_5:ByteArray) (a0_6:Int) (A0_7:Option Addr) (c0_7:Nat) (l0_7:List (S41)) (A1:Option Addr) (c1:Nat) (l1:List (S38)) (r:Int) (w:World) (hr0_7:Kd.C k41 w A0_7 l0_7.length l0_7) (hc0_7:l0_7.length≤c0_7) (hr1:Kd.C k38 w A1 l1.length l1) (hc1:l1.length≤c1) (hL:LD w) (h:zqq.f k a0_0 a0_1 a0_2 a0_3 a0_4 a0_5 a0_6 l0_7 l1=some r) :
  Calls Tryd.prog 38 #[.agg #[.int .i64 a0_0,.int .i64 a0_1,.int .i64 a0_2,.string a0_3,.string a0_4,.string a0_5,.int .i64 a0_6,.slice A0_7 l0_7.length c0_7],.slice A1 l1.length c1] w fun e w'=>e = .returned (.int .i64 r)∧Below w.heap.size w w':=by
 have hu41:=Tryd.underlying41
 have hu38:=Tryd.underlying38
 have HLD:=zq.mk hL
 clear hL
 have HR0_7:=zq.mk hr0_7
 have HC0_7:=zq.mk hc0_7
 clear hr0_7 hc0_7
 have HR1:=zq.mk hr1
 have HC1:=zq.mk hc1
 clear hr1 hc1
 have HB:=zq.mk (Below.refl w.heap.size w)
 have H:((zqw.f k a0_0 a0_1 a0_2 a0_3 a0_4 a0_5 a0_6 l0_7 (l1.length:Int)).bind fun t110=>(if t110=true then(zqq.l0 k l1 (l1.length:Int) 0) else (some 4)))=some r:=h
 clear h
 replace H:=Option.bind_eq_some_iff.mp H
 obtain ⟨t110,A30,H⟩:=H
 replace H:(if t110=true then(zqq.l0 k l1 (l1.length:Int) 0) else (some 4))=some r:=H
 have A3:=zq.mk A30
 clear A30
 by_cases c4:t110=true
 ·subst c4
  rw [if_pos rfl] at H
  have H':=zq.mk H
  clear H
  go_enter Tryd.func38,Tryd.ntmps38
  go_wp2_with (first|((with_reducible refine qo (N:=2) rfl ?_);refine qd ?hg (N:=2) ?hd (cs:=#[.int .i64 a0_0,.int .i64 a0_1,.int .i64 a0_2,.string a0_3,.string a0_4,.string a0_5,.int .i64 a0_6,.slice A0_7 l0_7.length c0_7]) (t:=41) ?hr ?_;(case hd=>rfl);(case hg=>rfl);(case hr=>first|(go_simp;done)|(go_simp;rfl));intro gb109 hg w5 hbox hb;have BK109:=zq.mk (hbox);have GW109:=zq.mk ((by rw [hg];exact(zy bw):w.heap.size≤gb109));have GE109:=zq.mk ((by rw [hg];exact(zy bw):w.heap.size≤gb109));replace HB:=zq.mk (zt bw hb);clear hb hbox hg;obtain ⟨hcz6_0,hcz6_1,hcz6_2,hcz6_3,hcz6_4,hcz6_5,hcz6_6,hcz6_7,hfz6_0,hfz6_1,hfz6_2,hfz6_3,hfz6_4,hfz6_5,hfz6_6,hfz6_7⟩:=zqv BK109.out)|((with_reducible refine zl (f:=67) rfl ?_);refine qu (some 11) rfl rfl Tryd.func67 (by kernel_rfl) rfl #[.agg #[.int .i64 a0_0,.int .i64 a0_1,.int .i64 a0_2,.string a0_3,.string a0_4,.string a0_5,.int .i64 a0_6,.slice A0_7 l0_7.length c0_7],.int .i64 (l1.length:Int)] rfl gs ?_;(with_reducible refine(zqw.calls k a0_0 a0_1 a0_2 a0_3 a0_4 a0_5 a0_6 _ _ l0_7 (l1.length:Int) true _ ?side1 ?side2 ?side3 A3.out).mono ?_);(case side1=>exact Kd.cu (Kd.zqj HR0_7.out HB.out));(case side2=>exact HC0_7.out);(case side3=>exact LD.below HLD.out (by first|(with_reducible exact Below.refl _ _)|((repeat(first|(with_reducible exact Below.refl _ _)|(with_reducible apply zp)|(with_reducible apply qc)|(with_reducible apply zqa)));done)|exact bw));rintro e w7 ⟨rfl,hb⟩;refine⟨_,rfl,?_⟩;replace BK109:=zq.mk (za (g:=gb109) (o:=.cells #[.int .i64 a0_0,.int .i64 a0_1,.int .i64 a0_2,.string a0_3,.string a0_4,.string a0_5,.int .i64 a0_6,.slice A0_7 l0_7.length c0_7] 41 (0,0)) (up BK109.out) hb);replace HB:=zq.mk (zt bw hb);(try clear hb);(try clear hb2);(try clear hk);(try clear hi)))
  go_loopg [15] k (fun kq v15 w' => ∃ (x15_1:Int),v15 = .int .i64 x15_1∧zq (zqq.l0 kq l1 (l1.length:Int) x15_1=some r)∧zq (kq≤k)∧zq (w'.heap[gb109]? = some (.cells #[.int .i64 a0_0,.int .i64 a0_1,.int .i64 a0_2,.string a0_3,.string a0_4,.string a0_5,.int .i64 a0_6,(.slice A0_7 l0_7.length c0_7)] 41 (0,0)))∧zq (Below w.heap.size w w'))
  case atStart=>exact⟨(0),vr,H',⟨Nat.le_refl _⟩,⟨by(with_reducible repeat(first|refine zh ?_ _|refine zc ?_|refine zv ?_ _));exact BK109.out⟩,⟨bw⟩⟩
  case round=>
   clear H'
   (try clear c1);(try clear c4);(try clear hcz6_0);(try clear hcz6_1);(try clear hcz6_2);(try clear hcz6_3);(try clear hcz6_4);(try clear hcz6_5);(try clear hcz6_6);(try clear hcz6_7);(try clear hfz6_0);(try clear hfz6_1);(try clear hfz6_2);(try clear hfz6_3);(try clear hfz6_4);(try clear hfz6_5);(try clear hfz6_6);(try clear hfz6_7)
   (try clear BK109)
   obtain ⟨x15_1,rfl,HA,HK1,BK109,HB⟩:=hrel
   cases gk with
   | zero=>exact absurd HA.out (by simp [zqq.l0])
   | succ k1=>
    have H:=HA.out
    clear HA
    simp only [zqq.l0] at H
    by_cases c8:x15_1<(l1.length:Int)
    ·rw [if_pos c8] at H
     have c8b0:=decide_eq_true c8
     clear c8
     by_cases c9:0≤x15_1
     ·rw [if_pos c9] at H
      have c9b0:=decide_eq_true c9
      clear c9
      by_cases c10:x15_1<(l1.length:Int)
      ·rw [if_pos c10] at H
       have c10b0:=decide_eq_true c10
       clear c10
       replace H:=Option.bind_eq_some_iff.mp H
       obtain ⟨t113,A110,H⟩:=H
       replace H:(if t113=0 then(zqq.l0 k1 l1 (l1.length:Int) (wrap64 (x15_1+1))) else (some t113))=some r:=H
       have A11:=zq.mk A110
       clear A110
       by_cases c12:t113=0
       ·rw [if_pos c12] at H
        have c12b0:(t113 == 0)=true:=beq_iff_eq.mpr c12
        have c12b1:(t113 != 0)=false:=bne_eq_false_iff_eq.mpr c12
        clear c12
        have H':=zq.mk H
        clear H
        have p111:0≤(x15_1:Int):=dt
        have q111:x15_1<(l1.length:Int):=dt
        obtain ⟨ad111,e111,hx111_0,hx111_1,hx111_2⟩:=zj6 HR1.out x15_1 p111 q111
        cases e111
        replace hx111_0:=(HB.out.cell (World.block_lt_of_cell? w _ hx111_0)).trans hx111_0
        replace hx111_1:=(HB.out.cell (World.block_lt_of_cell? w _ hx111_1)).trans hx111_1
        replace hx111_2:=(HB.out.cell (World.block_lt_of_cell? w _ hx111_2)).trans hx111_2
        replace p111:=eq_true p111
        replace q111:=eq_true q111
        go_wp2_with (first|((with_reducible refine qo (N:=6) rfl ?_);refine qd ?hg (N:=6) ?hd (cs:=#[.int .i64 0,.int .i64 0,.string (⟨#[]⟩:ByteArray)]) (t:=38) ?hr ?_;(case hd=>rfl);(case hg=>rfl);(case hr=>first|(go_simp;done)|(go_simp;rfl));intro gb112 hg w13 hbox hb;have BK112:=zq.mk (hbox);have GW112:=zq.mk ((by rw [hg];exact(zy bw):w.heap.size≤gb112));have GE112:=zq.mk ((by rw [hg];exact(zy bw):w.heap.size≤gb112));replace HB:=zq.mk (zt bw hb);have NB109_112:=zq.mk ((by rw [hg];exact Nat.ne_of_lt (qi (g:=gb109) (o:=.cells #[.int .i64 a0_0,.int .i64 a0_1,.int .i64 a0_2,.string a0_3,.string a0_4,.string a0_5,.int .i64 a0_6,.slice A0_7 l0_7.length c0_7] 41 (0,0)) (up BK109.out)):gb109≠gb112));have NB112_109:=zq.mk ((by rw [hg];exact Nat.ne_of_gt (qi (g:=gb109) (o:=.cells #[.int .i64 a0_0,.int .i64 a0_1,.int .i64 a0_2,.string a0_3,.string a0_4,.string a0_5,.int .i64 a0_6,.slice A0_7 l0_7.length c0_7] 41 (0,0)) (up BK109.out)):gb112≠gb109));replace BK109:=zq.mk (za (g:=gb109) (o:=.cells #[.int .i64 a0_0,.int .i64 a0_1,.int .i64 a0_2,.string a0_3,.string a0_4,.string a0_5,.int .i64 a0_6,.slice A0_7 l0_7.length c0_7] 41 (0,0)) (up BK109.out) hb);clear hb hbox hg;have hnb14:=NB112_109.out;have hnc14:=NB109_112.out;obtain ⟨hcz15_0,hcz15_1,hcz15_2,hfz15_0,hfz15_1,hfz15_2⟩:=zb BK112.out)|((with_reducible refine zl (f:=57) rfl ?_);refine qu (some 20) rfl rfl Tryd.func57 (by kernel_rfl) rfl #[.agg #[.int .i64 ((qe l1 x15_1).f0),.int .i64 ((qe l1 x15_1).f1),.string ((qe l1 x15_1).f2)]] rfl gs ?_;(with_reducible refine(qf.calls k1 ((qe l1 x15_1).f0) ((qe l1 x15_1).f1) ((qe l1 x15_1).f2) t113 _ ?side1 A11.out).mono ?_);(case side1=>exact LD.below HLD.out (by first|(with_reducible exact Below.refl _ _)|((repeat(first|(with_reducible exact Below.refl _ _)|(with_reducible apply zp)|(with_reducible apply qc)|(with_reducible apply zqa)));done)|exact bw));rintro e w16 ⟨rfl,hb⟩;refine⟨_,rfl,?_⟩;replace BK109:=zq.mk (za (g:=gb109) (o:=.cells #[.int .i64 a0_0,.int .i64 a0_1,.int .i64 a0_2,.string a0_3,.string a0_4,.string a0_5,.int .i64 a0_6,.slice A0_7 l0_7.length c0_7] 41 (0,0)) (by(with_reducible repeat(first|refine zh ?_ _|refine zc ?_|refine zv ?_ _));refine zqy ?_ NB109_112.out _;(with_reducible repeat(first|refine zh ?_ _|refine zc ?_|refine zv ?_ _));refine zqy ?_ NB109_112.out _;(with_reducible repeat(first|refine zh ?_ _|refine zc ?_|refine zv ?_ _));refine zqy ?_ NB109_112.out _;(with_reducible repeat(first|refine zh ?_ _|refine zc ?_|refine zv ?_ _));exact BK109.out) hb);replace BK112:=zq.mk (za (g:=gb112) (o:=.cells #[.int .i64 ((qe l1 x15_1).f0),.int .i64 ((qe l1 x15_1).f1),.string ((qe l1 x15_1).f2)] 38 (0,0)) (by(with_reducible repeat(first|refine zh ?_ _|refine zc ?_|refine zv ?_ _));refine zr (cs:=#[.int .i64 ((qe l1 x15_1).f0),.int .i64 ((qe l1 x15_1).f1),.string (⟨#[]⟩:ByteArray)]) ?_ 2 _ rfl;(with_reducible repeat(first|refine zh ?_ _|refine zc ?_|refine zv ?_ _));refine zr (cs:=#[.int .i64 ((qe l1 x15_1).f0),.int .i64 0,.string (⟨#[]⟩:ByteArray)]) ?_ 1 _ rfl;(with_reducible repeat(first|refine zh ?_ _|refine zc ?_|refine zv ?_ _));refine zr (cs:=#[.int .i64 0,.int .i64 0,.string (⟨#[]⟩:ByteArray)]) ?_ 0 _ rfl;(with_reducible repeat(first|refine zh ?_ _|refine zc ?_|refine zv ?_ _));exact BK112.out) hb);replace HB:=zq.mk (zt bw hb);(try clear hb);(try clear hb2);(try clear hk);(try clear hi)))
        go_roundg k1
        case measure=>have:=HK1.out;omega
        case rel=>exact⟨(wrap64 (x15_1+1)),vr,H',⟨by have:=HK1.out;omega⟩,⟨by(with_reducible repeat(first|refine zh ?_ _|refine zc ?_|refine zv ?_ _));exact BK109.out⟩,⟨bw⟩⟩
       rw [if_neg c12] at H
       have c12b0:(t113 == 0)=false:=beq_eq_false_iff_ne.mpr c12
       have c12b1:(t113 != 0)=true:=bne_iff_ne.mpr c12
       obtain rfl:=Option.some.inj H
       have p111:0≤(x15_1:Int):=dt
       have q111:x15_1<(l1.length:Int):=dt
       obtain ⟨ad111,e111,hx111_0,hx111_1,hx111_2⟩:=zj6 HR1.out x15_1 p111 q111
       cases e111
       replace hx111_0:=(HB.out.cell (World.block_lt_of_cell? w _ hx111_0)).trans hx111_0
       replace hx111_1:=(HB.out.cell (World.block_lt_of_cell? w _ hx111_1)).trans hx111_1
       replace hx111_2:=(HB.out.cell (World.block_lt_of_cell? w _ hx111_2)).trans hx111_2
       replace p111:=eq_true p111
       replace q111:=eq_true q111
       go_wp2_with (first|((with_reducible refine qo (N:=6) rfl ?_);refine qd ?hg (N:=6) ?hd (cs:=#[.int .i64 0,.int .i64 0,.string (⟨#[]⟩:ByteArray)]) (t:=38) ?hr ?_;(case hd=>rfl);(case hg=>rfl);(case hr=>first|(go_simp;done)|(go_simp;rfl));intro gb112 hg w17 hbox hb;have BK112:=zq.mk (hbox);have GW112:=zq.mk ((by rw [hg];exact(zy bw):w.heap.size≤gb112));have GE112:=zq.mk ((by rw [hg];exact(zy bw):w.heap.size≤gb112));replace HB:=zq.mk (zt bw hb);have NB109_112:=zq.mk ((by rw [hg];exact Nat.ne_of_lt (qi (g:=gb109) (o:=.cells #[.int .i64 a0_0,.int .i64 a0_1,.int .i64 a0_2,.string a0_3,.string a0_4,.string a0_5,.int .i64 a0_6,.slice A0_7 l0_7.length c0_7] 41 (0,0)) (up BK109.out)):gb109≠gb112));have NB112_109:=zq.mk ((by rw [hg];exact Nat.ne_of_gt (qi (g:=gb109) (o:=.cells #[.int .i64 a0_0,.int .i64 a0_1,.int .i64 a0_2,.string a0_3,.string a0_4,.string a0_5,.int .i64 a0_6,.slice A0_7 l0_7.length c0_7] 41 (0,0)) (up BK109.out)):gb112≠gb109));replace BK109:=zq.mk (za (g:=gb109) (o:=.cells #[.int .i64 a0_0,.int .i64 a0_1,.int .i64 a0_2,.string a0_3,.string a0_4,.string a0_5,.int .i64 a0_6,.slice A0_7 l0_7.length c0_7] 41 (0,0)) (up BK109.out) hb);clear hb hbox hg;have hnb18:=NB112_109.out;have hnc18:=NB109_112.out;obtain ⟨hcz19_0,hcz19_1,hcz19_2,hfz19_0,hfz19_1,hfz19_2⟩:=zb BK112.out)|((with_reducible refine zl (f:=57) rfl ?_);refine qu (some 20) rfl rfl Tryd.func57 (by kernel_rfl) rfl #[.agg #[.int .i64 ((qe l1 x15_1).f0),.int .i64 ((qe l1 x15_1).f1),.string ((qe l1 x15_1).f2)]] rfl gs ?_;(with_reducible refine(qf.calls k1 ((qe l1 x15_1).f0) ((qe l1 x15_1).f1) ((qe l1 x15_1).f2) t113 _ ?side1 A11.out).mono ?_);(case side1=>exact LD.below HLD.out (by first|(with_reducible exact Below.refl _ _)|((repeat(first|(with_reducible exact Below.refl _ _)|(with_reducible apply zp)|(with_reducible apply qc)|(with_reducible apply zqa)));done)|exact bw));rintro e w20 ⟨rfl,hb⟩;refine⟨_,rfl,?_⟩;replace BK109:=zq.mk (za (g:=gb109) (o:=.cells #[.int .i64 a0_0,.int .i64 a0_1,.int .i64 a0_2,.string a0_3,.string a0_4,.string a0_5,.int .i64 a0_6,.slice A0_7 l0_7.length c0_7] 41 (0,0)) (by(with_reducible repeat(first|refine zh ?_ _|refine zc ?_|refine zv ?_ _));refine zqy ?_ NB109_112.out _;(with_reducible repeat(first|refine zh ?_ _|refine zc ?_|refine zv ?_ _));refine zqy ?_ NB109_112.out _;(with_reducible repeat(first|refine zh ?_ _|refine zc ?_|refine zv ?_ _));refine zqy ?_ NB109_112.out _;(with_reducible repeat(first|refine zh ?_ _|refine zc ?_|refine zv ?_ _));exact BK109.out) hb);replace BK112:=zq.mk (za (g:=gb112) (o:=.cells #[.int .i64 ((qe l1 x15_1).f0),.int .i64 ((qe l1 x15_1).f1),.string ((qe l1 x15_1).f2)] 38 (0,0)) (by(with_reducible repeat(first|refine zh ?_ _|refine zc ?_|refine zv ?_ _));refine zr (cs:=#[.int .i64 ((qe l1 x15_1).f0),.int .i64 ((qe l1 x15_1).f1),.string (⟨#[]⟩:ByteArray)]) ?_ 2 _ rfl;(with_reducible repeat(first|refine zh ?_ _|refine zc ?_|refine zv ?_ _));refine zr (cs:=#[.int .i64 ((qe l1 x15_1).f0),.int .i64 0,.string (⟨#[]⟩:ByteArray)]) ?_ 1 _ rfl;(with_reducible repeat(first|refine zh ?_ _|refine zc ?_|refine zv ?_ _));refine zr (cs:=#[.int .i64 0,.int .i64 0,.string (⟨#[]⟩:ByteArray)]) ?_ 0 _ rfl;(with_reducible repeat(first|refine zh ?_ _|refine zc ?_|refine zv ?_ _));exact BK112.out) hb);replace HB:=zq.mk (zt bw hb);(try clear hb);(try clear hb2);(try clear hk);(try clear hi)))
       go_ret
       exact⟨by first|rfl|(simp [zx,zj] <;> rfl)|(simp [*,zx,zj] <;> rfl),bw⟩
      rw [if_neg c10] at H
      exact absurd H (by simp)
     rw [if_neg c9] at H
     exact absurd H (by simp)
    rw [if_neg c8] at H
    have c8b0:=decide_eq_false c8
    clear c8
    obtain rfl:=Option.some.inj H
    go_wp2
    go_ret
    exact⟨by first|rfl|(simp [zx,zj] <;> rfl)|(simp [*,zx,zj] <;> rfl),bw⟩
 replace c4:=Bool.eq_false_iff.mpr c4
 subst c4
 rw [if_neg (show ¬ (false=true) by decide)] at H
 obtain rfl:=Option.some.inj H
 go_enter Tryd.func38,Tryd.ntmps38
 go_wp2_with (first|((with_reducible refine qo (N:=2) rfl ?_);refine qd ?hg (N:=2) ?hd (cs:=#[.int .i64 a0_0,.int .i64 a0_1,.int .i64 a0_2,.string a0_3,.string a0_4,.string a0_5,.int .i64 a0_6,.slice A0_7 l0_7.length c0_7]) (t:=41) ?hr ?_;(case hd=>rfl);(case hg=>rfl);(case hr=>first|(go_simp;done)|(go_simp;rfl));intro gb109 hg w21 hbox hb;have BK109:=zq.mk (hbox);have GW109:=zq.mk ((by rw [hg];exact(zy bw):w.heap.size≤gb109));have GE109:=zq.mk ((by rw [hg];exact(zy bw):w.heap.size≤gb109));replace HB:=zq.mk (zt bw hb);clear hb hbox hg;obtain ⟨hcz22_0,hcz22_1,hcz22_2,hcz22_3,hcz22_4,hcz22_5,hcz22_6,hcz22_7,hfz22_0,hfz22_1,hfz22_2,hfz22_3,hfz22_4,hfz22_5,hfz22_6,hfz22_7⟩:=zqv BK109.out)|((with_reducible refine zl (f:=67) rfl ?_);refine qu (some 11) rfl rfl Tryd.func67 (by kernel_rfl) rfl #[.agg #[.int .i64 a0_0,.int .i64 a0_1,.int .i64 a0_2,.string a0_3,.string a0_4,.string a0_5,.int .i64 a0_6,.slice A0_7 l0_7.length c0_7],.int .i64 (l1.length:Int)] rfl gs ?_;(with_reducible refine(zqw.calls k a0_0 a0_1 a0_2 a0_3 a0_4 a0_5 a0_6 _ _ l0_7 (l1.length:Int) false _ ?side1 ?side2 ?side3 A3.out).mono ?_);(case side1=>exact Kd.cu (Kd.zqj HR0_7.out HB.out));(case side2=>exact HC0_7.out);(case side3=>exact LD.below HLD.out (by first|(with_reducible exact Below.refl _ _)|((repeat(first|(with_reducible exact Below.refl _ _)|(with_reducible apply zp)|(with_reducible apply qc)|(with_reducible apply zqa)));done)|exact bw));rintro e w23 ⟨rfl,hb⟩;refine⟨_,rfl,?_⟩;replace BK109:=zq.mk (za (g:=gb109) (o:=.cells #[.int .i64 a0_0,.int .i64 a0_1,.int .i64 a0_2,.string a0_3,.string a0_4,.string a0_5,.int .i64 a0_6,.slice A0_7 l0_7.length c0_7] 41 (0,0)) (up BK109.out) hb);replace HB:=zq.mk (zt bw hb);(try clear hb);(try clear hb2);(try clear hk);(try clear hi)))
 go_ret
 exact⟨by first|rfl|(simp [zx,zj] <;> rfl)|(simp [*,zx,zj] <;> rfl),bw⟩

/-! ### zq0: function 46 -/
def zq0.f (k:Nat) (a0_0:Int) (a0_1:Int) (a0_2:ByteArray):Option (Int × Int):=(qf.f k a0_0 a0_1 a0_2).bind fun t115=>(if t115=0 then(if a0_0=0 then(some (1,0)) else (if a0_0=1 then(some (wrap64 (a0_1 * 2),0)) else (some (0,12)))) else (some (0,t115)))
theorem zq0.mono:∀ a0 a1 a2 k,LeO (zq0.f k a0 a1 a2) (zq0.f (k+1) a0 a1 a2):=by
 intro a0 a1 a2 k
 unfold zq0.f
 repeat' first
   | (with_reducible first|exact qf.mono _ _ _ _|exact LeO.refl _|exact LeO.none _|refine LeO.ite ?_ ?_|refine LeO.bind ?_ (fun _=>?_))
   | exact qf.mono _ _ _ _
   | exact LeO.none _
   | refine LeO.ite ?_ ?_
   | refine LeO.bind ?_ (fun _=>?_)
set_option maxHeartbeats 8000000 in
set_option maxRecDepth 100000 in
theorem zq0.calls (k:Nat) (a0_0:Int) (a0_1:Int) (a0_2:ByteArray) (r1:Int) (r2:Int) (w:World) (hL:LD w) (h:zq0.f k a0_0 a0_1 a0_2=some (r1,r2)) :
  Calls Tryd.prog 46 #[.agg #[.int .i64 a0_0,.int .i64 a0_1,.string a0_2]] w fun e w'=>e = .returned (.tuple #[.int .i64 r1,.int .i64 r2])∧Below w.heap.size w w':=by
 have hu38:=Tryd.underlying38
 have HLD:=zq.mk hL
 clear hL
 have HB:=zq.mk (Below.refl w.heap.size w)
 have H:((qf.f k a0_0 a0_1 a0_2).bind fun t115=>(if t115=0 then(if a0_0=0 then(some (1,0)) else (if a0_0=1 then(some (wrap64 (a0_1 * 2),0)) else (some (0,12)))) else (some (0,t115))))=some (r1,r2):=h
 clear h
 replace H:=Option.bind_eq_some_iff.mp H
 obtain ⟨t115,A20,H⟩:=H
 replace H:(if t115=0 then(if a0_0=0 then(some (1,0)) else (if a0_0=1 then(some (wrap64 (a0_1 * 2),0)) else (some (0,12)))) else (some (0,t115)))=some (r1,r2):=H
 have A2:=zq.mk A20
 clear A20
 by_cases c3:t115=0
 ·rw [if_pos c3] at H
  have c3b0:(t115 == 0)=true:=beq_iff_eq.mpr c3
  have c3b1:(t115 != 0)=false:=bne_eq_false_iff_eq.mpr c3
  clear c3
  by_cases c4:a0_0=0
  ·rw [if_pos c4] at H
   have c4b0:(a0_0 == 0)=true:=beq_iff_eq.mpr c4
   have c4b1:(a0_0 != 0)=false:=bne_eq_false_iff_eq.mpr c4
   clear c4
   simp only [Option.some.injEq,Prod.mk.injEq] at H
   obtain ⟨rfl,rfl⟩:=H
   go_enter Tryd.func46,Tryd.ntmps46
   go_wp2_with (first|((with_reducible refine qo (N:=1) rfl ?_);refine qd ?hg (N:=1) ?hd (cs:=#[.int .i64 a0_0,.int .i64 a0_1,.string a0_2]) (t:=38) ?hr ?_;(case hd=>rfl);(case hg=>rfl);(case hr=>first|(go_simp;done)|(go_simp;rfl));intro gb114 hg w5 hbox hb;have BK114:=zq.mk (hbox);have GW114:=zq.mk ((by rw [hg];exact(zy bw):w.heap.size≤gb114));have GE114:=zq.mk ((by rw [hg];exact(zy bw):w.heap.size≤gb114));replace HB:=zq.mk (zt bw hb);clear hb hbox hg;obtain ⟨hcz6_0,hcz6_1,hcz6_2,hfz6_0,hfz6_1,hfz6_2⟩:=zb BK114.out)|((with_reducible refine zl (f:=57) rfl ?_);refine qu (some 6) rfl rfl Tryd.func57 (by kernel_rfl) rfl #[.agg #[.int .i64 a0_0,.int .i64 a0_1,.string a0_2]] rfl gs ?_;(with_reducible refine(qf.calls k a0_0 a0_1 a0_2 t115 _ ?side1 A2.out).mono ?_);(case side1=>exact LD.below HLD.out (by first|(with_reducible exact Below.refl _ _)|((repeat(first|(with_reducible exact Below.refl _ _)|(with_reducible apply zp)|(with_reducible apply qc)|(with_reducible apply zqa)));done)|exact bw));rintro e w7 ⟨rfl,hb⟩;refine⟨_,rfl,?_⟩;replace BK114:=zq.mk (za (g:=gb114) (o:=.cells #[.int .i64 a0_0,.int .i64 a0_1,.string a0_2] 38 (0,0)) (up BK114.out) hb);replace HB:=zq.mk (zt bw hb);(try clear hb);(try clear hb2);(try clear hk);(try clear hi);obtain ⟨hcz8_0,hcz8_1,hcz8_2,hfz8_0,hfz8_1,hfz8_2⟩:=zb BK114.out))
   go_ret2
   exact⟨by first|rfl|(simp [zx,zj] <;> rfl)|(simp [*,zx,zj] <;> rfl),bw⟩
  rw [if_neg c4] at H
  have c4b0:(a0_0 == 0)=false:=beq_eq_false_iff_ne.mpr c4
  have c4b1:(a0_0 != 0)=true:=bne_iff_ne.mpr c4
  by_cases c9:a0_0=1
  ·rw [if_pos c9] at H
   have c9b0:(a0_0 == 1)=true:=beq_iff_eq.mpr c9
   have c9b1:(a0_0 != 1)=false:=bne_eq_false_iff_eq.mpr c9
   clear c9
   simp only [Option.some.injEq,Prod.mk.injEq] at H
   obtain ⟨rfl,rfl⟩:=H
   go_enter Tryd.func46,Tryd.ntmps46
   go_wp2_with (first|((with_reducible refine qo (N:=1) rfl ?_);refine qd ?hg (N:=1) ?hd (cs:=#[.int .i64 a0_0,.int .i64 a0_1,.string a0_2]) (t:=38) ?hr ?_;(case hd=>rfl);(case hg=>rfl);(case hr=>first|(go_simp;done)|(go_simp;rfl));intro gb114 hg w10 hbox hb;have BK114:=zq.mk (hbox);have GW114:=zq.mk ((by rw [hg];exact(zy bw):w.heap.size≤gb114));have GE114:=zq.mk ((by rw [hg];exact(zy bw):w.heap.size≤gb114));replace HB:=zq.mk (zt bw hb);clear hb hbox hg;obtain ⟨hcz11_0,hcz11_1,hcz11_2,hfz11_0,hfz11_1,hfz11_2⟩:=zb BK114.out)|((with_reducible refine zl (f:=57) rfl ?_);refine qu (some 6) rfl rfl Tryd.func57 (by kernel_rfl) rfl #[.agg #[.int .i64 a0_0,.int .i64 a0_1,.string a0_2]] rfl gs ?_;(with_reducible refine(qf.calls k a0_0 a0_1 a0_2 t115 _ ?side1 A2.out).mono ?_);(case side1=>exact LD.below HLD.out (by first|(with_reducible exact Below.refl _ _)|((repeat(first|(with_reducible exact Below.refl _ _)|(with_reducible apply zp)|(with_reducible apply qc)|(with_reducible apply zqa)));done)|exact bw));rintro e w12 ⟨rfl,hb⟩;refine⟨_,rfl,?_⟩;replace BK114:=zq.mk (za (g:=gb114) (o:=.cells #[.int .i64 a0_0,.int .i64 a0_1,.string a0_2] 38 (0,0)) (up BK114.out) hb);replace HB:=zq.mk (zt bw hb);(try clear hb);(try clear hb2);(try clear hk);(try clear hi);obtain ⟨hcz13_0,hcz13_1,hcz13_2,hfz13_0,hfz13_1,hfz13_2⟩:=zb BK114.out))
   go_ret2
   exact⟨by first|rfl|(simp [zx,zj] <;> rfl)|(simp [*,zx,zj] <;> rfl),bw⟩
  rw [if_neg c9] at H
  have c9b0:(a0_0 == 1)=false:=beq_eq_false_iff_ne.mpr c9
  have c9b1:(a0_0 != 1)=true:=bne_iff_ne.mpr c9
  simp only [Option.some.injEq,Prod.mk.injEq] at H
  obtain ⟨rfl,rfl⟩:=H
  go_enter Tryd.func46,Tryd.ntmps46
  go_wp2_with (first|((with_reducible refine qo (N:=1) rfl ?_);refine qd ?hg (N:=1) ?hd (cs:=#[.int .i64 a0_0,.int .i64 a0_1,.string a0_2]) (t:=38) ?hr ?_;(case hd=>rfl);(case hg=>rfl);(case hr=>first|(go_simp;done)|(go_simp;rfl));intro gb114 hg w14 hbox hb;have BK114:=zq.mk (hbox);have GW114:=zq.mk ((by rw [hg];exact(zy bw):w.heap.size≤gb114));have GE114:=zq.mk ((by rw [hg];exact(zy bw):w.heap.size≤gb114));replace HB:=zq.mk (zt bw hb);clear hb hbox hg;obtain ⟨hcz15_0,hcz15_1,hcz15_2,hfz15_0,hfz15_1,hfz15_2⟩:=zb BK114.out)|((with_reducible refine zl (f:=57) rfl ?_);refine qu (some 6) rfl rfl Tryd.func57 (by kernel_rfl) rfl #[.agg #[.int .i64 a0_0,.int .i64 a0_1,.string a0_2]] rfl gs ?_;(with_reducible refine(qf.calls k a0_0 a0_1 a0_2 t115 _ ?side1 A2.out).mono ?_);(case side1=>exact LD.below HLD.out (by first|(with_reducible exact Below.refl _ _)|((repeat(first|(with_reducible exact Below.refl _ _)|(with_reducible apply zp)|(with_reducible apply qc)|(with_reducible apply zqa)));done)|exact bw));rintro e w16 ⟨rfl,hb⟩;refine⟨_,rfl,?_⟩;replace BK114:=zq.mk (za (g:=gb114) (o:=.cells #[.int .i64 a0_0,.int .i64 a0_1,.string a0_2] 38 (0,0)) (up BK114.out) hb);replace HB:=zq.mk (zt bw hb);(try clear hb);(try clear hb2);(try clear hk);(try clear hi);obtain ⟨hcz17_0,hcz17_1,hcz17_2,hfz17_0,hfz17_1,hfz17_2⟩:=zb BK114.out))
  go_ret2
  exact⟨by first|rfl|(simp [zx,zj] <;> rfl)|(simp [*,zx,zj] <;> rfl),bw⟩
 rw [if_neg c3] at H
 have c3b0:(t115 == 0)=false:=beq_eq_false_iff_ne.mpr c3
 have c3b1:(t115 != 0)=true:=bne_iff_ne.mpr c3
 simp only [Option.some.injEq,Prod.mk.injEq] at H
 obtain ⟨rfl,rfl⟩:=H
 go_enter Tryd.func46,Tryd.ntmps46
 go_wp2_with (first|((with_reducible refine qo (N:=1) rfl ?_);refine qd ?hg (N:=1) ?hd (cs:=#[.int .i64 a0_0,.int .i64 a0_1,.string a0_2]) (t:=38) ?hr ?_;(case hd=>rfl);(case hg=>rfl);(case hr=>first|(go_simp;done)|(go_simp;rfl));intro gb114 hg w18 hbox hb;have BK114:=zq.mk (hbox);have GW114:=zq.mk ((by rw [hg];exact(zy bw):w.heap.size≤gb114));have GE114:=zq.mk ((by rw [hg];exact(zy bw):w.heap.size≤gb114));replace HB:=zq.mk (zt bw hb);clear hb hbox hg;obtain ⟨hcz19_0,hcz19_1,hcz19_2,hfz19_0,hfz19_1,hfz19_2⟩:=zb BK114.out)|((with_reducible refine zl (f:=57) rfl ?_);refine qu (some 6) rfl rfl Tryd.func57 (by kernel_rfl) rfl #[.agg #[.int .i64 a0_0,.int .i64 a0_1,.string a0_2]] rfl gs ?_;(with_reducible refine(qf.calls k a0_0 a0_1 a0_2 t115 _ ?side1 A2.out).mono ?_);(case side1=>exact LD.below HLD.out (by first|(with_reducible exact Below.refl _ _)|((repeat(first|(with_reducible exact Below.refl _ _)|(with_reducible apply zp)|(with_reducible apply qc)|(with_reducible apply zqa)));done)|exact bw));rintro e w20 ⟨rfl,hb⟩;refine⟨_,rfl,?_⟩;replace BK114:=zq.mk (za (g:=gb114) (o:=.cells #[.int .i64 a0_0,.int .i64 a0_1,.string a0_2] 38 (0,0)) (up BK114.out) hb);replace HB:=zq.mk (zt bw hb);(try clear hb);(try clear hb2);(try clear hk);(try clear hi)))
 go_ret2
 exact⟨by first|rfl|(simp [zx,zj] <;> rfl)|(simp [*,zx,zj] <;> rfl),bw⟩

end Go.Proofs.YthhejedfjgikdaaDoor.PRelProjects
