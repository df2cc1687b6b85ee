-- Written by wip/pp of this repo (over the kit's print, with additions of this session); Lean checks every line.
import Derived.Test.YtmfpaeajibeikaaDoorPEvalHoldsx2
namespace Go.Proofs.YtmfpaeajibeikaaDoor.PEvalHolds
open Go.RowKit Go.Proofs.YtmfpaeajibeikaaDoorW.PrintWords Go.Proofs.YtmfpaeajibeikaaDoorW.PrintLast Go.Proofs.YtmfpaeajibeikaaDoorW.PrintMore
attribute [local go_sem] zje zjc zjo zjn zq1 zq0 zjd zjb   -- for this text's walks alone
set_option linter.unusedVariables false
set_option linter.unusedSimpArgs false

/-! ### qq: function 89, by hand -/
-- HAND rounds=1 making=1 laid=1 func=1 imports=Derived.Deep.QuietTactic,Derived.BigQuiet,Derived.Deep.RegionHeld3,Derived.Deep.RegionWith
def qq.zeroV (v:S30):Prop:=v.f0=0∧v.f1=0∧v.f2.toList = []
instance (v:S30):Decidable (qq.zeroV v):=by unfold qq.zeroV;infer_instance
def qq.fine (w:Int) (e:S33):Prop:=qq.zeroV e.f1∧(e.f2 ++ e.f3).toList = []∧e.f5.length=0∧0≤e.f4∧e.f4<w
instance (w:Int) (e:S33):Decidable (qq.fine w e):=by unfold qq.fine;infer_instance
def qq.parts (op:Int):Int:=if op=1 then 0 else if 4≤op∧op≤7 then 1 else if 8≤op∧op≤20 then 2 else -1
def qq.all (f:S33→Option Bool) (z:Bool):List S33→Option Bool
 | []=>some z
 | s :: r=>(f s).bind fun b=>if b=true then qq.all f z r else some false
def qq.may (w:Int) (k:Nat):Nat→S33→Option Bool
 | 0,_=>some false
 | n+1,e=>if 9223372036854775807<e.f2.size+e.f3.size then none else if e.f0=3 then some (decide (qq.fine w e)) else
   if qq.parts e.f0≠e.f5.length ∨ ¬ (e.f2 ++ e.f3).toList = []∨e.f4≠0 then some false else
   if e.f0=1 then(qi.f k e.f1.f0 e.f1.f1 e.f1.f2).bind fun c=>some (decide (c=0)) else
   qq.all (qq.may w k n) (decide (qq.zeroV e.f1)) e.f5
def qq.f (_k:Nat) (_a:Int):Option Bool:=none
theorem qq.mono:∀ a0 k,LeO (qq.f k a0) (qq.f (k+1) a0):=fun _ _=>LeO.refl _
set_option maxRecDepth 100000 in
set_option maxHeartbeats 4000000 in
theorem qq.placed (wd:Int) (e:S33) (A7:Option Addr) (c7:Nat) (n:Int) (g:Nat) (w:World) (hg:w.cell? ⟨g,0,none⟩=some (.int .i64 wd)) (hsz:e.f2.size+e.f3.size≤9223372036854775807) :
  Calls Tryd.prog 90 #[.agg #[.int .i64 e.f0,.int .i64 e.f1.f0,.int .i64 e.f1.f1,.string e.f1.f2,.string e.f2,.string e.f3,.int .i64 e.f4,.slice A7 e.f5.length c7],.int .i64 n,.pointer (some ⟨g,0,none⟩)] w fun r w'=>r = .returned (.tuple #[.bool (decide (qq.fine wd e)),.bool (e.f0 == 3)])∧Below w.heap.size w w':=by
 have hu:=Tryd.underlying33
 have HS:=zq.mk hsz
 have hgl:g<w.heap.size:=World.block_lt_of_cell? w _ hg
 have hs1:¬ 9223372036854775807<e.f2.size+e.f3.size:=by omega
 clear hsz
 by_cases z0:e.f1.f0=0
 rotate_left
 ·go_enter Tryd.func90,Tryd.ntmps90
  go_wp2
  go_quiet (fail)
  go_wp2
  go_ret2
  exact⟨by simp [qq.fine,qq.zeroV, *],qd (zm (Below.refl _ _) _) _⟩
 by_cases z1:e.f1.f1=0
 rotate_left
 ·go_enter Tryd.func90,Tryd.ntmps90
  go_wp2
  go_quiet (fail)
  go_wp2
  go_ret2
  exact⟨by simp [qq.fine,qq.zeroV, *],qd (zm (Below.refl _ _) _) _⟩
 by_cases z2:e.f1.f2.toList = []
 rotate_left
 ·go_enter Tryd.func90,Tryd.ntmps90
  go_wp2
  go_quiet (fail)
  go_wp2
  go_ret2
  exact⟨by simp [qq.fine,qq.zeroV, *],qd (zm (Below.refl _ _) _) _⟩
 by_cases z3:(e.f2 ++ e.f3).toList = []
 rotate_left
 ·go_enter Tryd.func90,Tryd.ntmps90
  go_wp2
  go_quiet (fail)
  go_wp2
  go_ret2
  exact⟨by simp [qq.fine,qq.zeroV, *],qd (zm (Below.refl _ _) _) _⟩
 by_cases z4:e.f5.length=0
 rotate_left
 ·go_enter Tryd.func90,Tryd.ntmps90
  go_wp2
  go_quiet (fail)
  go_wp2
  go_ret2
  exact⟨by simp [qq.fine,qq.zeroV, *],qd (zm (Below.refl _ _) _) _⟩
 by_cases z5:0≤e.f4
 rotate_left
 ·have d5:decide ((0:Int)≤e.f4)=false:=by simpa using z5
  go_enter Tryd.func90,Tryd.ntmps90
  go_wp2
  go_quiet (fail)
  go_wp2
  go_ret2
  exact⟨by simp [qq.fine,qq.zeroV, *],qd (zm (Below.refl _ _) _) _⟩
 have d5:decide ((0:Int)≤e.f4)=true:=by simpa using z5
 by_cases z6:e.f4<wd
 rotate_left
 ·have d6:decide (e.f4<wd)=false:=by simpa using z6
  go_enter Tryd.func90,Tryd.ntmps90
  go_wp2
  go_quiet (fail)
  go_wp2
  go_ret2
  exact⟨by simp [qq.fine,qq.zeroV, *],qd (zm (Below.refl _ _) _) _⟩
 have d6:decide (e.f4<wd)=true:=by simpa using z6
 go_enter Tryd.func90,Tryd.ntmps90
 go_wp2
 go_quiet (fail)
 go_wp2
 go_ret2
 exact⟨by simp [qq.fine,qq.zeroV, *],qd (zm (Below.refl _ _) _) _⟩
theorem qq.at_ {w:World} {A:Option Addr} {l:List S33} (h:Kd.C k33 w A l.length l) (h0:0<l.length):∃ b o,A=some ⟨b,o,none⟩ ∧ ∀ (i:Nat) (hi:i<l.length),∃ A7 c7,
  w.cell? ⟨b,o+i * 8,none⟩=some (.int .i64 l[i].f0)∧w.cell? ⟨b,o+i * 8+1,none⟩=some (.int .i64 l[i].f1.f0)∧w.cell? ⟨b,o+i * 8+2,none⟩=some (.int .i64 l[i].f1.f1)∧w.cell? ⟨b,o+i * 8+3,none⟩=some (.string l[i].f1.f2) ∧
   w.cell? ⟨b,o+i * 8+4,none⟩=some (.string l[i].f2)∧w.cell? ⟨b,o+i * 8+5,none⟩=some (.string l[i].f3)∧w.cell? ⟨b,o+i * 8+6,none⟩=some (.int .i64 l[i].f4)∧w.cell? ⟨b,o+i * 8+7,none⟩=some (.slice A7 l[i].f5.length c7) ∧
   l[i].f5.length≤c7∧Kd.C k33 w A7 l[i].f5.length l[i].f5:=by
 obtain ⟨ad,A7,c7,rfl,g0,_⟩:=zxc h 0 (by omega) (by omega)
 have hs:ad.spot=none:=by
  cases hsp:ad.spot with
  | none=>rfl
  | some s=>
   exfalso
   rw [show ad.add ((0:Int).toNat * 8)=ad from by simp [Addr.add]] at g0
   unfold World.cell? at g0
   split at g0
   ·rw [hsp] at g0
    simp at g0
   cases g0
 obtain ⟨b,o,sp⟩:=ad
 dsimp only at hs
 subst hs
 refine⟨b,o,rfl,fun i hi=>?_⟩
 obtain ⟨ad,A7,c7,e,g0,g1,g2,g3,g4,g5,g6,g7,l7,r7⟩:=zxc h (i:Int) (by omega) (by omega)
 cases e
 have ee:zg l (i:Int)=l[i]:=by simp [zg,List.getD_eq_getElem?_getD,hi]
 have ha:(⟨b,o,none⟩:Addr).add ((i:Int).toNat * 8)=⟨b,o+i * 8,none⟩:=by rw [Int.toNat_natCast];unfold Addr.add;split <;> simp_all
 rw [ee] at g0 g1 g2 g3 g4 g5 g6 g7 l7 r7
 rw [ha] at g0 g1 g2 g3 g4 g5 g6 g7
 exact⟨A7,c7,g0,g1,g2,g3,g4,g5,g6,g7,l7,r7⟩
theorem qq.parts_at (k:Nat) (op a1 a2:Int) (a3 a4 a5:ByteArray) (a6:Int) (l:List S33):zqd.f (k+1) op a1 a2 a3 a4 a5 a6 l=some (qq.parts op):=by
 unfold zqd.f qq.parts
 by_cases h1:op=1
 ·rw [if_pos h1,if_pos h1]
 rw [if_neg h1,if_neg h1]
 by_cases h4:op ≥ 4
 ·rw [if_pos h4]
  by_cases h7:op≤7
  ·rw [decide_eq_true h7,if_pos ⟨h4,h7⟩,zqd.j0,if_pos rfl]
  rw [decide_eq_false h7,if_neg (by omega),zqd.j0,if_neg (by decide)]
  by_cases h8:op ≥ 8
  ·rw [if_pos h8]
   by_cases h20:op≤20
   ·rw [if_pos h20,if_pos ⟨h8,h20⟩]
   rw [if_neg h20,if_neg (by omega)]
  rw [if_neg h8,if_neg (by omega)]
 rw [if_neg h4,if_neg (by omega),zqd.j0,if_neg (by decide),if_neg (by omega),if_neg (by omega)]
set_option maxRecDepth 100000 in
set_option maxHeartbeats 16000000 in
theorem qq.asked (wd:Int) (k:Nat):∀ (n:Nat) (e:S33) (A7:Option Addr) (c7:Nat) (r:Bool) (g:Nat) (w:World),n≤12→w.cell? ⟨g,0,none⟩=some (.int .i64 wd)→Kd.C k33 w A7 e.f5.length e.f5→e.f5.length≤c7→LD w→qq.may wd k n e=some r →
  Calls Tryd.prog 89 #[.agg #[.int .i64 e.f0,.int .i64 e.f1.f0,.int .i64 e.f1.f1,.string e.f1.f2,.string e.f2,.string e.f3,.int .i64 e.f4,.slice A7 e.f5.length c7],.func (.func 90) #[] #[.pointer (some ⟨g,0,none⟩)],.int .i64 (12 - (n:Int))] w fun x w'=>x = .returned (.bool r)∧Below w.heap.size w w':=by
 intro n
 induction n with
 | zero=>
  intro e A7 c7 r g w hn hg hr hc hL h
  obtain rfl:=Option.some.inj h
  clear h hr hL hg
  go_enter Tryd.func89,Tryd.ntmps89
  go_wp2
  go_ret
  exact⟨rfl,zm (Below.refl _ _) _⟩
 | succ n ih=>
 intro e A7 c7 r g w hn hg hr hc hL h
 have hm:=hr.2.1
 have HR:=zq.mk hr
 have HL:=zq.mk hL
 have IH:=zq.mk ih
 clear hr hL ih
 obtain ⟨m,hm1,hm2⟩:∃ m:Int,m=12 - ((n+1:Nat):Int)∧m+1=12 - (n:Int):=⟨_,rfl,by omega⟩
 rw [← hm1]
 have hm3:(m == 12)=false:=by simp;omega
 have hm4:IntKind.i64.wrap (m+1)=m+1:=by rw [IntKind.wrap_i64];omega
 have HM:=zq.mk (And.intro hm1 hm2)
 clear hm1 hm2
 rw [qq.may] at h
 by_cases hsz:9223372036854775807<e.f2.size+e.f3.size
 ·rw [if_pos hsz] at h;cases h
 rw [if_neg hsz] at h
 have hgl:g<w.heap.size:=World.block_lt_of_cell? w _ hg
 have hcl:∀ W:World,Calls Tryd.prog 90 #[.agg #[.int .i64 e.f0,.int .i64 e.f1.f0,.int .i64 e.f1.f1,.string e.f1.f2,.string e.f2,.string e.f3,.int .i64 e.f4,.slice A7 e.f5.length c7],.int .i64 m,.pointer (some ⟨g,0,none⟩)] (w.alloc (.cells #[.int .i64 e.f0,.int .i64 e.f1.f0,.int .i64 e.f1.f1,.string e.f1.f2,.string e.f2,.string e.f3,.int .i64 e.f4,.slice A7 e.f5.length c7] 75)) fun r w'=>r = .returned (.tuple #[.bool (decide (qq.fine wd e)),.bool (e.f0 == 3)])∧Below (w.alloc (.cells #[.int .i64 e.f0,.int .i64 e.f1.f0,.int .i64 e.f1.f1,.string e.f1.f2,.string e.f2,.string e.f3,.int .i64 e.f4,.slice A7 e.f5.length c7] 75)).heap.size (w.alloc (.cells #[.int .i64 e.f0,.int .i64 e.f1.f0,.int .i64 e.f1.f1,.string e.f1.f2,.string e.f2,.string e.f3,.int .i64 e.f4,.slice A7 e.f5.length c7] 75)) w':=fun _=>qq.placed wd e A7 c7 m g _ ((World.cell?_alloc_past _ _ _ hgl).trans hg) (by omega)
 have HCL:=zq.mk (hcl w)
 clear hcl
 have keep:∀ W:World,Below (w.alloc (.cells #[.int .i64 e.f0,.int .i64 e.f1.f0,.int .i64 e.f1.f1,.string e.f1.f2,.string e.f2,.string e.f3,.int .i64 e.f4,.slice A7 e.f5.length c7] 75)).heap.size (w.alloc (.cells #[.int .i64 e.f0,.int .i64 e.f1.f0,.int .i64 e.f1.f1,.string e.f1.f2,.string e.f2,.string e.f3,.int .i64 e.f4,.slice A7 e.f5.length c7] 75)) W→W.cell? ⟨w.heap.size,0,none⟩=some (.int .i64 e.f0)∧W.cell? ⟨w.heap.size,1,none⟩=some (.int .i64 e.f1.f0)∧W.cell? ⟨w.heap.size,2,none⟩=some (.int .i64 e.f1.f1)∧W.cell? ⟨w.heap.size,3,none⟩=some (.string e.f1.f2)∧W.cell? ⟨w.heap.size,4,none⟩=some (.string e.f2)∧W.cell? ⟨w.heap.size,5,none⟩=some (.string e.f3)∧W.cell? ⟨w.heap.size,6,none⟩=some (.int .i64 e.f4)∧W.cell? ⟨w.heap.size,7,none⟩=some (.slice A7 e.f5.length c7):=fun W hb=>⟨zp hb (by simp [go_sem]),zp hb (by simp [go_sem]),zp hb (by simp [go_sem]),zp hb (by simp [go_sem]),zp hb (by simp [go_sem]),zp hb (by simp [go_sem]),zp hb (by simp [go_sem]),zp hb (by simp [go_sem])⟩
 have KP:=zq.mk keep
 have HW:zq (∀ W:World,Below (w.alloc (.cells #[.int .i64 e.f0,.int .i64 e.f1.f0,.int .i64 e.f1.f1,.string e.f1.f2,.string e.f2,.string e.f3,.int .i64 e.f4,.slice A7 e.f5.length c7] 75)).heap.size (w.alloc (.cells #[.int .i64 e.f0,.int .i64 e.f1.f0,.int .i64 e.f1.f1,.string e.f1.f2,.string e.f2,.string e.f3,.int .i64 e.f4,.slice A7 e.f5.length c7] 75)) W→Below w.heap.size w W):=⟨fun W hb=>(zm (Below.refl _ _) _).trans (hb.mono (zm (Below.refl _ _) _).size)⟩
 clear keep
 by_cases h3:e.f0=3
 ·rw [if_pos h3] at h
  obtain rfl:=Option.some.inj h
  have h3':(e.f0 == 3)=true:=by simpa using h3
  clear h h3
  go_enter Tryd.func89,Tryd.ntmps89
  go_wp2_with (go_at_call 90;(with_reducible refine HCL.out.mono ?_);rintro x w1 ⟨rfl,hb⟩;have HB:=zq.mk hb;clear hb)
  go_ret
  exact⟨rfl,HW.out _ HB.out⟩
 rw [if_neg h3] at h
 have h3':(e.f0 == 3)=false:=by simpa using h3
 have HPC:zq (∀ W:World,Below (w.alloc (.cells #[.int .i64 e.f0,.int .i64 e.f1.f0,.int .i64 e.f1.f1,.string e.f1.f2,.string e.f2,.string e.f3,.int .i64 e.f4,.slice A7 e.f5.length c7] 75)).heap.size (w.alloc (.cells #[.int .i64 e.f0,.int .i64 e.f1.f0,.int .i64 e.f1.f1,.string e.f1.f2,.string e.f2,.string e.f3,.int .i64 e.f4,.slice A7 e.f5.length c7] 75)) W→Calls Tryd.prog 115 #[.agg #[.int .i64 e.f0,.int .i64 e.f1.f0,.int .i64 e.f1.f1,.string e.f1.f2,.string e.f2,.string e.f3,.int .i64 e.f4,.slice A7 e.f5.length c7]] W fun x w'=>x = .returned (.int .i64 (qq.parts e.f0))∧Below (w.alloc (.cells #[.int .i64 e.f0,.int .i64 e.f1.f0,.int .i64 e.f1.f1,.string e.f1.f2,.string e.f2,.string e.f3,.int .i64 e.f4,.slice A7 e.f5.length c7] 75)).heap.size (w.alloc (.cells #[.int .i64 e.f0,.int .i64 e.f1.f0,.int .i64 e.f1.f1,.string e.f1.f2,.string e.f2,.string e.f3,.int .i64 e.f4,.slice A7 e.f5.length c7] 75)) w'):=
  ⟨fun W hb=>(zqd.calls 1 _ _ _ _ _ _ _ A7 c7 e.f5 _ W (Kd.zqe HR.out (HW.out W hb)) hc (qq.parts_at 0 _ _ _ _ _ _ _ _)).mono fun x w' ⟨hx,hd⟩=>⟨hx,hb.trans (hd.mono hb.size)⟩⟩
 have KP2:zq (∀ W:World,Below (w.alloc (.cells #[.int .i64 e.f0,.int .i64 e.f1.f0,.int .i64 e.f1.f1,.string e.f1.f2,.string e.f2,.string e.f3,.int .i64 e.f4,.slice A7 e.f5.length c7] 75)).heap.size (w.alloc (.cells #[.int .i64 e.f0,.int .i64 e.f1.f0,.int .i64 e.f1.f1,.string e.f1.f2,.string e.f2,.string e.f3,.int .i64 e.f4,.slice A7 e.f5.length c7] 75)) W→Below (w.alloc (.cells #[.int .i64 e.f0,.int .i64 e.f1.f0,.int .i64 e.f1.f1,.string e.f1.f2,.string e.f2,.string e.f3,.int .i64 e.f4,.slice A7 e.f5.length c7] 75)).heap.size (w.alloc (.cells #[.int .i64 e.f0,.int .i64 e.f1.f0,.int .i64 e.f1.f1,.string e.f1.f2,.string e.f2,.string e.f3,.int .i64 e.f4,.slice A7 e.f5.length c7] 75)) W∧W.cell? ⟨w.heap.size,0,none⟩=some (.int .i64 e.f0)∧W.cell? ⟨w.heap.size,1,none⟩=some (.int .i64 e.f1.f0)∧W.cell? ⟨w.heap.size,2,none⟩=some (.int .i64 e.f1.f1)∧W.cell? ⟨w.heap.size,3,none⟩=some (.string e.f1.f2)∧W.cell? ⟨w.heap.size,4,none⟩=some (.string e.f2)∧W.cell? ⟨w.heap.size,5,none⟩=some (.string e.f3)∧W.cell? ⟨w.heap.size,6,none⟩=some (.int .i64 e.f4)∧W.cell? ⟨w.heap.size,7,none⟩=some (.slice A7 e.f5.length c7)):=⟨fun W hb=>⟨hb,KP.out W hb⟩⟩
 clear h3
 generalize hP:qq.parts e.f0=P at *
 clear hP
 by_cases c1:P=e.f5.length
 rotate_left
 ·rw [if_pos (.inl c1)] at h
  obtain rfl:=Option.some.inj h
  have d1:(P != (e.f5.length:Int))=true:=by simpa using c1
  clear h c1
  go_enter Tryd.func89,Tryd.ntmps89
  go_wp2_with (go_at_call 90;(with_reducible refine HCL.out.mono ?_);rintro x w1 ⟨rfl,hb⟩;have HB:=zq.mk hb;clear hb)
  obtain ⟨y,y0,y1,y2,y3,y4,y5,y6,y7⟩:=KP2.out _ HB.out
  first|fail|(go_region_with (go_at_call 115;refine(HPC.out _ (by first|exact HB.out|exact qe HB.out)).mono ?_;rintro x w2 ⟨rfl,hb2⟩;obtain ⟨z0,z1,z2,z3,z4,z5,z6,z7⟩:=KP.out _ hb2))|fail
  all_goals
   go_wp2
   go_ret
   exact⟨rfl,HW.out _ (by first|exact hb2|exact qe hb2)⟩
 have d1:(P != (e.f5.length:Int))=false:=by simpa using c1
 by_cases c2:(e.f2 ++ e.f3).toList = []
 rotate_left
 ·rw [if_pos (.inr (.inl c2))] at h
  obtain rfl:=Option.some.inj h
  have d2:(e.f2 ++ e.f3).toList.isEmpty=false:=by cases hq:(e.f2 ++ e.f3).toList with|nil=>exact absurd hq c2|cons _ _=>rfl
  clear h c1
  go_enter Tryd.func89,Tryd.ntmps89
  go_wp2_with (go_at_call 90;(with_reducible refine HCL.out.mono ?_);rintro x w1 ⟨rfl,hb⟩;have HB:=zq.mk hb;clear hb)
  obtain ⟨y,y0,y1,y2,y3,y4,y5,y6,y7⟩:=KP2.out _ HB.out
  first|fail|(go_region_with (go_at_call 115;refine(HPC.out _ (by first|exact HB.out|exact qe HB.out)).mono ?_;rintro x w2 ⟨rfl,hb2⟩;obtain ⟨z0,z1,z2,z3,z4,z5,z6,z7⟩:=KP.out _ hb2))|fail
  all_goals
   go_wp2
   go_ret
   exact⟨rfl,HW.out _ (by first|exact hb2|exact qe hb2)⟩
 have d2:(e.f2 ++ e.f3).toList.isEmpty=true:=by rw [c2];rfl
 by_cases c3:e.f4=0
 rotate_left
 ·rw [if_pos (.inr (.inr c3))] at h
  obtain rfl:=Option.some.inj h
  have d3:(e.f4 != 0)=true:=by simpa using c3
  clear h c1 c3
  go_enter Tryd.func89,Tryd.ntmps89
  go_wp2_with (go_at_call 90;(with_reducible refine HCL.out.mono ?_);rintro x w1 ⟨rfl,hb⟩;have HB:=zq.mk hb;clear hb)
  obtain ⟨y,y0,y1,y2,y3,y4,y5,y6,y7⟩:=KP2.out _ HB.out
  first|fail|(go_region_held3 (fun W=>Below (w.alloc (.cells #[.int .i64 e.f0,.int .i64 e.f1.f0,.int .i64 e.f1.f1,.string e.f1.f2,.string e.f2,.string e.f3,.int .i64 e.f4,.slice A7 e.f5.length c7] 75)).heap.size (w.alloc (.cells #[.int .i64 e.f0,.int .i64 e.f1.f0,.int .i64 e.f1.f1,.string e.f1.f2,.string e.f2,.string e.f3,.int .i64 e.f4,.slice A7 e.f5.length c7] 75)) W∧W.cell? ⟨w.heap.size,0,none⟩=some (.int .i64 e.f0)∧W.cell? ⟨w.heap.size,1,none⟩=some (.int .i64 e.f1.f0)∧W.cell? ⟨w.heap.size,2,none⟩=some (.int .i64 e.f1.f1)∧W.cell? ⟨w.heap.size,3,none⟩=some (.string e.f1.f2)∧W.cell? ⟨w.heap.size,4,none⟩=some (.string e.f2)∧W.cell? ⟨w.heap.size,5,none⟩=some (.string e.f3)∧W.cell? ⟨w.heap.size,6,none⟩=some (.int .i64 e.f4)∧W.cell? ⟨w.heap.size,7,none⟩=some (.slice A7 e.f5.length c7))
   (first|exact KP2.out _ (by assumption)|exact KP2.out _ (qe (by assumption)))
   ((go_at_call 115;refine(HPC.out _ (by go_split_ands;assumption)).mono ?_;rintro x w2 ⟨rfl,hb2⟩)))|fail
  all_goals
   go_wp2
   go_ret
   exact⟨rfl,HW.out _ (by first|exact hb2|exact qe hb2)⟩
 have d3:(e.f4 != 0)=false:=by simpa using c3
 rw [if_neg (by rintro (h_|h_|h_) <;> first|exact h_ c1|exact h_ c2|exact h_ c3)] at h
 clear c1 c3
 by_cases c4:e.f0=1
 ·rw [if_pos c4] at h
  obtain ⟨c,hck,h⟩:=Option.bind_eq_some_iff.1 h
  obtain rfl:=Option.some.inj h
  have HCK:=zq.mk hck
  have d4:(e.f0 == 1)=true:=by simpa using c4
  clear h hck c4
  go_enter Tryd.func89,Tryd.ntmps89
  go_wp2_with (go_at_call 90;(with_reducible refine HCL.out.mono ?_);rintro x w1 ⟨rfl,hb⟩;have HB:=zq.mk hb;clear hb)
  obtain ⟨y,y0,y1,y2,y3,y4,y5,y6,y7⟩:=KP2.out _ HB.out
  first|fail|(go_region_held3 (fun W=>Below (w.alloc (.cells #[.int .i64 e.f0,.int .i64 e.f1.f0,.int .i64 e.f1.f1,.string e.f1.f2,.string e.f2,.string e.f3,.int .i64 e.f4,.slice A7 e.f5.length c7] 75)).heap.size (w.alloc (.cells #[.int .i64 e.f0,.int .i64 e.f1.f0,.int .i64 e.f1.f1,.string e.f1.f2,.string e.f2,.string e.f3,.int .i64 e.f4,.slice A7 e.f5.length c7] 75)) W∧W.cell? ⟨w.heap.size,0,none⟩=some (.int .i64 e.f0)∧W.cell? ⟨w.heap.size,1,none⟩=some (.int .i64 e.f1.f0)∧W.cell? ⟨w.heap.size,2,none⟩=some (.int .i64 e.f1.f1)∧W.cell? ⟨w.heap.size,3,none⟩=some (.string e.f1.f2)∧W.cell? ⟨w.heap.size,4,none⟩=some (.string e.f2)∧W.cell? ⟨w.heap.size,5,none⟩=some (.string e.f3)∧W.cell? ⟨w.heap.size,6,none⟩=some (.int .i64 e.f4)∧W.cell? ⟨w.heap.size,7,none⟩=some (.slice A7 e.f5.length c7))
   (first|exact KP2.out _ (by assumption)|exact KP2.out _ (qe (by assumption)))
   ((go_at_call 115;refine(HPC.out _ (by go_split_ands;assumption)).mono ?_;rintro x w2 ⟨rfl,hb2⟩)))|fail
  all_goals
   have HB2:=zq.mk (HW.out _ (by first|exact hb2|exact qe hb2))
   obtain ⟨z0,z1,z2,z3,z4,z5,z6,z7⟩:=KP.out _ hb2
   go_wp2_with (go_at_call 40;refine(qi.calls k e.f1.f0 e.f1.f1 e.f1.f2 c _ (LD.below HL.out HB2.out) HCK.out).mono ?_;rintro x w3 ⟨rfl,hb3⟩)
   go_ret
   exact⟨rfl,HB2.out.trans (hb3.mono HB2.out.size)⟩
 rw [if_neg c4] at h
 have d4:(e.f0 == 1)=false:=by simpa using c4
 have HS:=zq.mk h
 clear h c4
 have HZ:zq (∀ W:World,Below (w.alloc (.cells #[.int .i64 e.f0,.int .i64 e.f1.f0,.int .i64 e.f1.f1,.string e.f1.f2,.string e.f2,.string e.f3,.int .i64 e.f4,.slice A7 e.f5.length c7] 75)).heap.size (w.alloc (.cells #[.int .i64 e.f0,.int .i64 e.f1.f0,.int .i64 e.f1.f1,.string e.f1.f2,.string e.f2,.string e.f3,.int .i64 e.f4,.slice A7 e.f5.length c7] 75)) W→Below w.heap.size w W∧W.cell? ⟨g,0,none⟩=some (.int .i64 wd)):=⟨fun W hb=>⟨HW.out W hb,zp (HW.out W hb) hg⟩⟩
 go_enter Tryd.func89,Tryd.ntmps89
 go_wp2_with (go_at_call 90;(with_reducible refine HCL.out.mono ?_);rintro x w1 ⟨rfl,hb⟩;have HB:=zq.mk hb;clear hb)
 obtain ⟨y,y0,y1,y2,y3,y4,y5,y6,y7⟩:=KP2.out _ HB.out
 first|fail|(go_region_held3 (fun W=>Below (w.alloc (.cells #[.int .i64 e.f0,.int .i64 e.f1.f0,.int .i64 e.f1.f1,.string e.f1.f2,.string e.f2,.string e.f3,.int .i64 e.f4,.slice A7 e.f5.length c7] 75)).heap.size (w.alloc (.cells #[.int .i64 e.f0,.int .i64 e.f1.f0,.int .i64 e.f1.f1,.string e.f1.f2,.string e.f2,.string e.f3,.int .i64 e.f4,.slice A7 e.f5.length c7] 75)) W∧W.cell? ⟨w.heap.size,0,none⟩=some (.int .i64 e.f0)∧W.cell? ⟨w.heap.size,1,none⟩=some (.int .i64 e.f1.f0)∧W.cell? ⟨w.heap.size,2,none⟩=some (.int .i64 e.f1.f1)∧W.cell? ⟨w.heap.size,3,none⟩=some (.string e.f1.f2)∧W.cell? ⟨w.heap.size,4,none⟩=some (.string e.f2)∧W.cell? ⟨w.heap.size,5,none⟩=some (.string e.f3)∧W.cell? ⟨w.heap.size,6,none⟩=some (.int .i64 e.f4)∧W.cell? ⟨w.heap.size,7,none⟩=some (.slice A7 e.f5.length c7))
  (first|exact KP2.out _ (by assumption)|exact KP2.out _ (qe (by assumption)))
  ((go_at_call 115;refine(HPC.out _ (by go_split_ands;assumption)).mono ?_;rintro x w2 ⟨rfl,hb2⟩)))|fail
 all_goals
  obtain ⟨z0,z1,z2,z3,z4,z5,z6,z7⟩:=KP.out _ hb2
  have HB3:=zq.mk hb2
  clear hb2
  go_wp2
  clear y y0 y1 y2 y3 y4 y5 y6 y7 z0 z1 z2 z3 z4 z5 z6 z7 hg
  go_loopw [10,51] (fun _ i wr => ∃ j:Nat,j≤e.f5.length∧i = .int .i64 j∧zq (qq.all (qq.may wd k n) (decide (qq.zeroV e.f1)) (e.f5.drop j)=some r)∧zq (Below (w.alloc (.cells #[.int .i64 e.f0,.int .i64 e.f1.f0,.int .i64 e.f1.f1,.string e.f1.f2,.string e.f2,.string e.f3,.int .i64 e.f4,.slice A7 e.f5.length c7] 75)).heap.size (w.alloc (.cells #[.int .i64 e.f0,.int .i64 e.f1.f0,.int .i64 e.f1.f1,.string e.f1.f2,.string e.f2,.string e.f3,.int .i64 e.f4,.slice A7 e.f5.length c7] 75)) wr)) (fun _ i _=>e.f5.length - (intOf i).toNat)
  case atStart=>exact⟨0,by omega,rfl,HS,HB3⟩
  case round=>
   clear HS HB3 HB
   obtain ⟨j,hj,rfl,HS,HB⟩:=hrel
   obtain ⟨y0,y1,y2,y3,y4,y5,y6,y7⟩:=KP.out _ HB.out
   by_cases hlt:j<e.f5.length
   ·obtain ⟨bb,oo,rfl,hcs⟩:=qq.at_ (Kd.zqe HR.out (HZ.out _ HB.out).1) (by omega)
    obtain ⟨A8,c8,p0,p1,p2,p3,p4,p5,p6,p7,l8,r8⟩:=hcs j hlt
    have hs:=HS.out
    rw [List.drop_eq_getElem_cons hlt,qq.all] at hs
    obtain ⟨q,hq,hs⟩:=Option.bind_eq_some_iff.1 hs
    generalize e.f5[j]=x at *
    have hgl2:g<wr.heap.size:=World.block_lt_of_cell? wr _ (HZ.out _ HB.out).2
    have hcall:Calls Tryd.prog 89 #[.agg #[.int .i64 x.f0,.int .i64 x.f1.f0,.int .i64 x.f1.f1,.string x.f1.f2,.string x.f2,.string x.f3,.int .i64 x.f4,.slice A8 x.f5.length c8],.func (.func 90) #[] #[.pointer (some ⟨g,0,none⟩)],.int .i64 (m+1)] (wr.alloc (.cells #[.int .i64 x.f0,.int .i64 x.f1.f0,.int .i64 x.f1.f1,.string x.f1.f2,.string x.f2,.string x.f3,.int .i64 x.f4,.slice A8 x.f5.length c8] 33)) fun z w'=>z = .returned (.bool q)∧Below (w.alloc (.cells #[.int .i64 e.f0,.int .i64 e.f1.f0,.int .i64 e.f1.f1,.string e.f1.f2,.string e.f2,.string e.f3,.int .i64 e.f4,.slice (some ⟨bb,oo,none⟩) e.f5.length c7] 75)).heap.size (w.alloc (.cells #[.int .i64 e.f0,.int .i64 e.f1.f0,.int .i64 e.f1.f1,.string e.f1.f2,.string e.f2,.string e.f3,.int .i64 e.f4,.slice (some ⟨bb,oo,none⟩) e.f5.length c7] 75)) w':=by
     rw [HM.out.2]
     have hba:=zm HB.out (.cells #[.int .i64 x.f0,.int .i64 x.f1.f0,.int .i64 x.f1.f1,.string x.f1.f2,.string x.f2,.string x.f3,.int .i64 x.f4,.slice A8 x.f5.length c8] 33)
     exact(IH.out x A8 c8 q g _ (by omega) ((World.cell?_alloc_past _ _ _ hgl2).trans (HZ.out _ HB.out).2) (Kd.zqe r8 (zm (Below.refl _ _) _)) l8 (LD.below HL.out (HZ.out _ hba).1) hq).mono fun z w' ⟨hz,hd⟩=>⟨hz,hba.trans (hd.mono hba.size)⟩
    have HCA:=zq.mk hcall
    clear hcall r8 hcs hq
    cases q with
    | true=>
     rw [if_pos rfl] at hs
     have HS2:=zq.mk hs
     clear HS hs
     go_wp2_with (go_at_call 89;(with_reducible refine HCA.out.mono ?_);rintro z w4 ⟨rfl,hb4⟩;have HB4:=zq.mk hb4;clear hb4)
     go_roundw
     case rel=>exact⟨j+1,by omega,by go_num,HS2,HB4⟩
     case measure=>simp [intOf];omega
    | false=>
     rw [if_neg (by decide)] at hs
     obtain rfl:=Option.some.inj hs
     clear HS hs
     go_wp2_with (go_at_call 89;(with_reducible refine HCA.out.mono ?_);rintro z w4 ⟨rfl,hb4⟩;have HB4:=zq.mk hb4;clear hb4)
     go_ret
     exact⟨rfl,HW.out _ HB4.out⟩
   obtain rfl:j=e.f5.length:=by omega
   have hs:=HS.out
   rw [List.drop_length,qq.all] at hs
   obtain rfl:=Option.some.inj hs
   clear HS hs
   by_cases z0:e.f1.f0=0
   rotate_left
   ·go_wp2
    go_ret
    exact⟨by simp [qq.zeroV,z0],HW.out _ HB.out⟩
   by_cases z1:e.f1.f1=0
   rotate_left
   ·go_wp2
    go_ret
    exact⟨by simp [qq.zeroV,z0,z1],HW.out _ HB.out⟩
   by_cases z2:e.f1.f2.toList = []
   rotate_left
   ·go_wp2
    go_ret
    exact⟨by simp [qq.zeroV,z0,z1,z2],HW.out _ HB.out⟩
   go_wp2
   go_ret
   exact⟨by simp [qq.zeroV,z0,z1,z2],HW.out _ HB.out⟩

-- NOT PRINTED: function 63 (eval_MayWith)

-- NOT PRINTED: function 64 (eval_Placed)

/-! ### zqy: function 45, by hand -/
-- HAND rounds=1 making=1 laid=1 imports=Derived.Deep.RegionHeld3,Derived.Deep.RegionWith
def zqy.expr (a0 a1 a2:Int) (a3 a4 a5:ByteArray) (a6:Int) (l7:List S33):S33:=⟨a0,⟨a1,a2,a3⟩,a4,a5,a6,l7⟩
def zqy.f (k:Nat) (a0_0:Int) (a0_1:Int) (a0_2:Int) (a0_3:ByteArray) (a0_4:ByteArray) (a0_5:ByteArray) (a0_6:Int) (l0_7:List S33) (a1:Int):Option Bool:=qq.may a1 k 12 (zqy.expr a0_0 a0_1 a0_2 a0_3 a0_4 a0_5 a0_6 l0_7)
theorem zqy.mono_all {f g:S33→Option Bool} (h:∀ x,LeO (f x) (g x)) (z:Bool):∀ l,LeO (qq.all f z l) (qq.all g z l)
 | []=>LeO.refl _
 | s :: r=>by
  unfold qq.all
  refine LeO.bind (h s) (fun b=>?_)
  refine LeO.ite ?_ (LeO.refl _)
  exact zqy.mono_all h z r
theorem zqy.mono_may (w:Int) (k:Nat):∀ n x,LeO (qq.may w k n x) (qq.may w (k+1) n x)
 | 0,_=>LeO.refl _
 | n+1,e=>by
  unfold qq.may
  refine LeO.ite (LeO.refl _) (LeO.ite (LeO.refl _) (LeO.ite (LeO.refl _) (LeO.ite ?_ ?_)))
  ·exact LeO.bind (qi.mono _ _ _ _) (fun _=>LeO.refl _)
  exact zqy.mono_all (zqy.mono_may w k n) _ _
theorem zqy.mono:∀ a0 a1 a2 a3 a4 a5 a6 a7 a8 k,LeO (zqy.f k a0 a1 a2 a3 a4 a5 a6 a7 a8) (zqy.f (k+1) a0 a1 a2 a3 a4 a5 a6 a7 a8):=fun _ _ _ _ _ _ _ _ _ k=>zqy.mono_may _ k 12 _
set_option maxRecDepth 100000 in
set_option maxHeartbeats 2000000 in
theorem zqy.with_ (wd:Int) (k:Nat) (e:S33) (A7:Option Addr) (c7:Nat) (r:Bool) (g:Nat) (w:World) (hg:w.cell? ⟨g,0,none⟩=some (.int .i64 wd)) (hr:Kd.C k33 w A7 e.f5.length e.f5) (hc:e.f5.length≤c7) (hL:LD w) (h:qq.may wd k 12 e=some r) :
  Calls Tryd.prog 63 #[.agg #[.int .i64 e.f0,.int .i64 e.f1.f0,.int .i64 e.f1.f1,.string e.f1.f2,.string e.f2,.string e.f3,.int .i64 e.f4,.slice A7 e.f5.length c7],.func (.func 90) #[] #[.pointer (some ⟨g,0,none⟩)],.int .i64 0] w fun x w'=>x = .returned (.bool r)∧Below w.heap.size w w':=by
 have hgl:g<w.heap.size:=World.block_lt_of_cell? w _ hg
 have hB:=zm (Below.refl w.heap.size w) (.cells #[.int .i64 e.f0,.int .i64 e.f1.f0,.int .i64 e.f1.f1,.string e.f1.f2,.string e.f2,.string e.f3,.int .i64 e.f4,.slice A7 e.f5.length c7] 33)
 have hcall:=qq.asked wd k 12 e A7 c7 r g (w.alloc (.cells #[.int .i64 e.f0,.int .i64 e.f1.f0,.int .i64 e.f1.f1,.string e.f1.f2,.string e.f2,.string e.f3,.int .i64 e.f4,.slice A7 e.f5.length c7] 33)) (by omega) ((World.cell?_alloc_past _ _ _ hgl).trans hg) (Kd.zqe hr hB) hc (LD.below hL hB) h
 rw [show(12:Int) - ((12:Nat):Int)=0 from rfl] at hcall
 have HCA:=zq.mk hcall
 have HB:=zq.mk hB
 clear hcall hB h hL hr hg
 go_enter Tryd.func63,Tryd.ntmps63
 go_wp2_with (go_at_call 89;(with_reducible refine HCA.out.mono ?_);rintro z w4 ⟨rfl,hb4⟩;have HB4:=zq.mk hb4;clear hb4)
 go_ret
 exact⟨rfl,HB.out.trans (HB4.out.mono HB.out.size)⟩
set_option maxRecDepth 100000 in
theorem zqy.made (wd:Int) (w:World):Calls Tryd.prog 64 #[.int .i64 wd] w fun x w'=>x = .returned (.func (.func 90) #[] #[.pointer (some ⟨w.heap.size,0,none⟩)])∧w'=w.alloc (.cells #[.int .i64 wd] 3):=by
 go_enter Tryd.func64,Tryd.ntmps64
 go_wp2
 go_ret
 exact⟨rfl,rfl⟩
set_option maxRecDepth 100000 in
set_option maxHeartbeats 2000000 in
theorem zqy.calls (k:Nat) (a0_0:Int) (a0_1:Int) (a0_2:Int) (a0_3:ByteArray) (a0_4:ByteArray) (a0_5:ByteArray) (a0_6:Int) (A0_7:Option Addr) (c0_7:Nat) (l0_7:List (S33)) (a1:Int) (r:Bool) (w:World) (hr0_7:Kd.C k33 w A0_7 l0_7.length l0_7) (hc0_7:l0_7.length≤c0_7) (hL:LD w) (h:zqy.f k a0_0 a0_1 a0_2 a0_3 a0_4 a0_5 a0_6 l0_7 a1=some r) :
  Calls Tryd.prog 45 #[.agg #[.int .i64 a0_0,.int .i64 a0_1,.int .i64 a0_2,.string a0_3,.string a0_4,.string a0_5,.int .i64 a0_6,.slice A0_7 l0_7.length c0_7],.int .i64 a1] w fun e w'=>e = .returned (.bool r)∧Below w.heap.size w w':=by
 have HR:=zq.mk hr0_7
 have HL:=zq.mk hL
 have HS:=zq.mk h
 clear hr0_7 hL h
 go_enter Tryd.func45,Tryd.ntmps45
 go_wp2
 first|fail|(go_region_with (first
  | (go_at_call 64;refine(zqy.made a1 _).mono ?_;rintro x w1 ⟨rfl,rfl⟩)
  | (go_at_call 63;refine(zqy.with_ a1 k (zqy.expr a0_0 a0_1 a0_2 a0_3 a0_4 a0_5 a0_6 l0_7) A0_7 c0_7 r _ _ (by simp [go_sem]) (Kd.zqe HR.out (by repeat(first|exact Below.refl _ _|apply zm|apply qd|apply qe))) hc0_7 (LD.below HL.out (by repeat(first|exact Below.refl _ _|apply zm|apply qd|apply qe))) HS.out).mono ?_;rintro x w2 ⟨rfl,hb2⟩;have HB2:=zq.mk (((by repeat(first|exact Below.refl _ _|apply zm|apply qd|apply qe)):Below w.heap.size w _).trans (hb2.mono (((by repeat(first|exact Below.refl _ _|apply zm|apply qd|apply qe)):Below w.heap.size w _)).size));clear hb2)))|fail
 all_goals
  go_wp2
  go_ret
  exact⟨rfl,by first|exact HB2.out|exact qe HB2.out⟩

/-! ### zqo: function 26 -/
def zqo.l0:Nat→List (S30)→Int→Int→Option (Int)
 | 0,_,_,_=>none
 | k+1,x13,x14,x15=>if x15<x14 then(if 0≤x15 then(if x15<(x13.length:Int) then((qi.f k ((zqh x13 x15).f0) ((zqh x13 x15).f1) ((zqh x13 x15).f2)).bind fun t108=>(if t108=0 then(zqo.l0 k x13 x14 (wrap64 (x15+1))) else (some t108))) else (none)) else (none)) else (some 0)
def zqo.f (k:Nat) (a0_0:Int) (a0_1:Int) (a0_2:Int) (a0_3:ByteArray) (a0_4:ByteArray) (a0_5:ByteArray) (a0_6:Int) (l0_7:List (S33)) (l1:List (S30)):Option (Int):=(zqy.f k a0_0 a0_1 a0_2 a0_3 a0_4 a0_5 a0_6 l0_7 (l1.length:Int)).bind fun t105=>(if t105=true then(zqo.l0 k l1 (l1.length:Int) 0) else (some 4))
theorem zqo.mono_l:∀ k,(∀ y0 y1 y2,LeO (zqo.l0 k y0 y1 y2) (zqo.l0 (k+1) y0 y1 y2))
 | 0=>fun _ _ _ r h=>by simp [zqo.l0] at h
 | k+1=>by
  have ih0:=zqo.mono_l k
  intro y0 y1 y2
  unfold zqo.l0
  repeat' first
  | (with_reducible first|exact ih0 _ _ _|exact zqy.mono _ _ _ _ _ _ _ _ _ _|exact qi.mono _ _ _ _|exact LeO.refl _|exact LeO.none _|refine LeO.ite ?_ ?_|refine LeO.bind ?_ (fun _=>?_))
  | exact ih0 _ _ _
  | exact zqy.mono _ _ _ _ _ _ _ _ _ _
  | exact qi.mono _ _ _ _
  | exact LeO.none _
  | refine LeO.ite ?_ ?_
  | refine LeO.bind ?_ (fun _=>?_)
theorem zqo.mono:∀ a0 a1 a2 a3 a4 a5 a6 a7 a8 k,LeO (zqo.f k a0 a1 a2 a3 a4 a5 a6 a7 a8) (zqo.f (k+1) a0 a1 a2 a3 a4 a5 a6 a7 a8):=by
 intro a0 a1 a2 a3 a4 a5 a6 a7 a8 k
 have ih0:=zqo.mono_l k
 unfold zqo.f
 repeat' first
   | (with_reducible first|exact ih0 _ _ _|exact zqy.mono _ _ _ _ _ _ _ _ _ _|exact qi.mono _ _ _ _|exact LeO.refl _|exact LeO.none _|refine LeO.ite ?_ ?_|refine LeO.bind ?_ (fun _=>?_))
   | exact ih0 _ _ _
   | exact zqy.mono _ _ _ _ _ _ _ _ _ _
   | exact qi.mono _ _ _ _
   | exact LeO.none _
   | refine LeO.ite ?_ ?_
   | refine LeO.bind ?_ (fun _=>?_)
set_option maxHeartbeats 8000000 in
set_option maxRecDepth 100000 in
theorem zqo.calls (k:Nat) (a0_0:Int) (a0_1:Int) (a0_2:Int) (a0_3:ByteArray) (a0_4:ByteArray) (a0_5:ByteArray) (a0_6:Int) (A0_7:Option Addr) (c0_7:Nat) (l0_7:List (S33)) (A1:Option Addr) (c1:Nat) (l1:List (S30)) (r:Int) (w:World) (hr0_7:Kd.C k33 w A0_7 l0_7.length l0_7) (hc0_7:l0_7.length≤c0_7) (hr1:Kd.C k30 w A1 l1.length l1) (hc1:l1.length≤c1) (hL:LD w) (h:zqo.f k a0_0 a0_1 a0_2 a0_3 a0_4 a0_5 a0_6 l0_7 l1=some r) :
  Calls Tryd.prog 26 #[.agg #[.int .i64 a0_0,.int .i64 a0_1,.int .i64 a0_2,.string a0_3,.string a0_4,.string a0_5,.int .i64 a0_6,.slice A0_7 l0_7.length c0_7],.slice A1 l1.length c1] w fun e w'=>e = .returned (.int .i64 r)∧Below w.heap.size w w':=by
 have hu33:=Tryd.underlying33
 have hu30:=Tryd.underlying30
 have HLD:=zq.mk hL
 clear hL
 have HR0_7:=zq.mk hr0_7
 have HC0_7:=zq.mk hc0_7
 clear hr0_7 hc0_7
 have HR1:=zq.mk hr1
 have HC1:=zq.mk hc1
 clear hr1 hc1
 have HB:=zq.mk (Below.refl w.heap.size w)
 have H:((zqy.f k a0_0 a0_1 a0_2 a0_3 a0_4 a0_5 a0_6 l0_7 (l1.length:Int)).bind fun t105=>(if t105=true then(zqo.l0 k l1 (l1.length:Int) 0) else (some 4)))=some r:=h
 clear h
 replace H:=Option.bind_eq_some_iff.mp H
 obtain ⟨t105,A30,H⟩:=H
 replace H:(if t105=true then(zqo.l0 k l1 (l1.length:Int) 0) else (some 4))=some r:=H
 have A3:=zq.mk A30
 clear A30
 by_cases c4:t105=true
 ·subst c4
  rw [if_pos rfl] at H
  have H':=zq.mk H
  clear H
  go_enter Tryd.func26,Tryd.ntmps26
  go_wp2_with (first|((with_reducible refine ql (N:=2) rfl ?_);refine qh ?hg (N:=2) ?hd (cs:=#[.int .i64 a0_0,.int .i64 a0_1,.int .i64 a0_2,.string a0_3,.string a0_4,.string a0_5,.int .i64 a0_6,.slice A0_7 l0_7.length c0_7]) (t:=33) ?hr ?_;(case hd=>rfl);(case hg=>rfl);(case hr=>first|(go_simp;done)|(go_simp;rfl));intro gb104 hg w5 hbox hb;have BK104:=zq.mk (hbox);have GW104:=zq.mk ((by rw [hg];exact(zv bw):w.heap.size≤gb104));have GE104:=zq.mk ((by rw [hg];exact(zv bw):w.heap.size≤gb104));replace HB:=zq.mk (zb bw hb);clear hb hbox hg;obtain ⟨hcz6_0,hcz6_1,hcz6_2,hcz6_3,hcz6_4,hcz6_5,hcz6_6,hcz6_7,hfz6_0,hfz6_1,hfz6_2,hfz6_3,hfz6_4,hfz6_5,hfz6_6,hfz6_7⟩:=zql BK104.out)|((with_reducible refine zs (f:=45) rfl ?_);refine qo (some 11) rfl rfl Tryd.func45 (by kernel_rfl) rfl #[.agg #[.int .i64 a0_0,.int .i64 a0_1,.int .i64 a0_2,.string a0_3,.string a0_4,.string a0_5,.int .i64 a0_6,.slice A0_7 l0_7.length c0_7],.int .i64 (l1.length:Int)] rfl gs ?_;(with_reducible refine(zqy.calls k a0_0 a0_1 a0_2 a0_3 a0_4 a0_5 a0_6 _ _ l0_7 (l1.length:Int) true _ ?side1 ?side2 ?side3 A3.out).mono ?_);(case side1=>exact Kd.cu (Kd.zqe HR0_7.out HB.out));(case side2=>exact HC0_7.out);(case side3=>exact LD.below HLD.out (by first|(with_reducible exact Below.refl _ _)|((repeat(first|(with_reducible exact Below.refl _ _)|(with_reducible apply zm)|(with_reducible apply qd)|(with_reducible apply qe)));done)|exact bw));rintro e w7 ⟨rfl,hb⟩;refine⟨_,rfl,?_⟩;replace BK104:=zq.mk (zf (g:=gb104) (o:=.cells #[.int .i64 a0_0,.int .i64 a0_1,.int .i64 a0_2,.string a0_3,.string a0_4,.string a0_5,.int .i64 a0_6,.slice A0_7 l0_7.length c0_7] 33 (0,0)) (up BK104.out) hb);replace HB:=zq.mk (zb bw hb);(try clear hb);(try clear hb2);(try clear hk);(try clear hi)))
  go_loopg [15] k (fun kq v15 w' => ∃ (x15_1:Int),v15 = .int .i64 x15_1∧zq (zqo.l0 kq l1 (l1.length:Int) x15_1=some r)∧zq (kq≤k)∧zq (w'.heap[gb104]? = some (.cells #[.int .i64 a0_0,.int .i64 a0_1,.int .i64 a0_2,.string a0_3,.string a0_4,.string a0_5,.int .i64 a0_6,(.slice A0_7 l0_7.length c0_7)] 33 (0,0)))∧zq (Below w.heap.size w w'))
  case atStart=>exact⟨(0),vr,H',⟨Nat.le_refl _⟩,⟨by(with_reducible repeat(first|refine zn ?_ _|refine zt ?_|refine zy ?_ _));exact BK104.out⟩,⟨bw⟩⟩
  case round=>
   clear H'
   (try clear c1);(try clear c4);(try clear hcz6_0);(try clear hcz6_1);(try clear hcz6_2);(try clear hcz6_3);(try clear hcz6_4);(try clear hcz6_5);(try clear hcz6_6);(try clear hcz6_7);(try clear hfz6_0);(try clear hfz6_1);(try clear hfz6_2);(try clear hfz6_3);(try clear hfz6_4);(try clear hfz6_5);(try clear hfz6_6);(try clear hfz6_7)
   (try clear BK104)
   obtain ⟨x15_1,rfl,HA,HK1,BK104,HB⟩:=hrel
   cases gk with
   | zero=>exact absurd HA.out (by simp [zqo.l0])
   | succ k1=>
    have H:=HA.out
    clear HA
    simp only [zqo.l0] at H
    by_cases c8:x15_1<(l1.length:Int)
    ·rw [if_pos c8] at H
     have c8b0:=decide_eq_true c8
     clear c8
     by_cases c9:0≤x15_1
     ·rw [if_pos c9] at H
      have c9b0:=decide_eq_true c9
      clear c9
      by_cases c10:x15_1<(l1.length:Int)
      ·rw [if_pos c10] at H
       have c10b0:=decide_eq_true c10
       clear c10
       replace H:=Option.bind_eq_some_iff.mp H
       obtain ⟨t108,A110,H⟩:=H
       replace H:(if t108=0 then(zqo.l0 k1 l1 (l1.length:Int) (wrap64 (x15_1+1))) else (some t108))=some r:=H
       have A11:=zq.mk A110
       clear A110
       by_cases c12:t108=0
       ·rw [if_pos c12] at H
        have c12b0:(t108 == 0)=true:=beq_iff_eq.mpr c12
        have c12b1:(t108 != 0)=false:=bne_eq_false_iff_eq.mpr c12
        clear c12
        have H':=zq.mk H
        clear H
        have p106:0≤(x15_1:Int):=dt
        have q106:x15_1<(l1.length:Int):=dt
        obtain ⟨ad106,e106,hx106_0,hx106_1,hx106_2⟩:=zxn HR1.out x15_1 p106 q106
        cases e106
        replace hx106_0:=(HB.out.cell (World.block_lt_of_cell? w _ hx106_0)).trans hx106_0
        replace hx106_1:=(HB.out.cell (World.block_lt_of_cell? w _ hx106_1)).trans hx106_1
        replace hx106_2:=(HB.out.cell (World.block_lt_of_cell? w _ hx106_2)).trans hx106_2
        replace p106:=eq_true p106
        replace q106:=eq_true q106
        go_wp2_with (first|((with_reducible refine ql (N:=6) rfl ?_);refine qh ?hg (N:=6) ?hd (cs:=#[.int .i64 0,.int .i64 0,.string (⟨#[]⟩:ByteArray)]) (t:=30) ?hr ?_;(case hd=>rfl);(case hg=>rfl);(case hr=>first|(go_simp;done)|(go_simp;rfl));intro gb107 hg w13 hbox hb;have BK107:=zq.mk (hbox);have GW107:=zq.mk ((by rw [hg];exact(zv bw):w.heap.size≤gb107));have GE107:=zq.mk ((by rw [hg];exact(zv bw):w.heap.size≤gb107));replace HB:=zq.mk (zb bw hb);have NB104_107:=zq.mk ((by rw [hg];exact Nat.ne_of_lt (qf (g:=gb104) (o:=.cells #[.int .i64 a0_0,.int .i64 a0_1,.int .i64 a0_2,.string a0_3,.string a0_4,.string a0_5,.int .i64 a0_6,.slice A0_7 l0_7.length c0_7] 33 (0,0)) (up BK104.out)):gb104≠gb107));have NB107_104:=zq.mk ((by rw [hg];exact Nat.ne_of_gt (qf (g:=gb104) (o:=.cells #[.int .i64 a0_0,.int .i64 a0_1,.int .i64 a0_2,.string a0_3,.string a0_4,.string a0_5,.int .i64 a0_6,.slice A0_7 l0_7.length c0_7] 33 (0,0)) (up BK104.out)):gb107≠gb104));replace BK104:=zq.mk (zf (g:=gb104) (o:=.cells #[.int .i64 a0_0,.int .i64 a0_1,.int .i64 a0_2,.string a0_3,.string a0_4,.string a0_5,.int .i64 a0_6,.slice A0_7 l0_7.length c0_7] 33 (0,0)) (up BK104.out) hb);clear hb hbox hg;have hnb14:=NB107_104.out;have hnc14:=NB104_107.out;obtain ⟨hcz15_0,hcz15_1,hcz15_2,hfz15_0,hfz15_1,hfz15_2⟩:=zr BK107.out)|((with_reducible refine zs (f:=40) rfl ?_);refine qo (some 20) rfl rfl Tryd.func40 (by kernel_rfl) rfl #[.agg #[.int .i64 ((zqh l1 x15_1).f0),.int .i64 ((zqh l1 x15_1).f1),.string ((zqh l1 x15_1).f2)]] rfl gs ?_;(with_reducible refine(qi.calls k1 ((zqh l1 x15_1).f0) ((zqh l1 x15_1).f1) ((zqh l1 x15_1).f2) t108 _ ?side1 A11.out).mono ?_);(case side1=>exact LD.below HLD.out (by first|(with_reducible exact Below.refl _ _)|((repeat(first|(with_reducible exact Below.refl _ _)|(with_reducible apply zm)|(with_reducible apply qd)|(with_reducible apply qe)));done)|exact bw));rintro e w16 ⟨rfl,hb⟩;refine⟨_,rfl,?_⟩;replace BK104:=zq.mk (zf (g:=gb104) (o:=.cells #[.int .i64 a0_0,.int .i64 a0_1,.int .i64 a0_2,.string a0_3,.string a0_4,.string a0_5,.int .i64 a0_6,.slice A0_7 l0_7.length c0_7] 33 (0,0)) (by(with_reducible repeat(first|refine zn ?_ _|refine zt ?_|refine zy ?_ _));refine zqv ?_ NB104_107.out _;(with_reducible repeat(first|refine zn ?_ _|refine zt ?_|refine zy ?_ _));refine zqv ?_ NB104_107.out _;(with_reducible repeat(first|refine zn ?_ _|refine zt ?_|refine zy ?_ _));refine zqv ?_ NB104_107.out _;(with_reducible repeat(first|refine zn ?_ _|refine zt ?_|refine zy ?_ _));exact BK104.out) hb);replace BK107:=zq.mk (zf (g:=gb107) (o:=.cells #[.int .i64 ((zqh l1 x15_1).f0),.int .i64 ((zqh l1 x15_1).f1),.string ((zqh l1 x15_1).f2)] 30 (0,0)) (by(with_reducible repeat(first|refine zn ?_ _|refine zt ?_|refine zy ?_ _));refine zl (cs:=#[.int .i64 ((zqh l1 x15_1).f0),.int .i64 ((zqh l1 x15_1).f1),.string (⟨#[]⟩:ByteArray)]) ?_ 2 _ rfl;(with_reducible repeat(first|refine zn ?_ _|refine zt ?_|refine zy ?_ _));refine zl (cs:=#[.int .i64 ((zqh l1 x15_1).f0),.int .i64 0,.string (⟨#[]⟩:ByteArray)]) ?_ 1 _ rfl;(with_reducible repeat(first|refine zn ?_ _|refine zt ?_|refine zy ?_ _));refine zl (cs:=#[.int .i64 0,.int .i64 0,.string (⟨#[]⟩:ByteArray)]) ?_ 0 _ rfl;(with_reducible repeat(first|refine zn ?_ _|refine zt ?_|refine zy ?_ _));exact BK107.out) hb);replace HB:=zq.mk (zb bw hb);(try clear hb);(try clear hb2);(try clear hk);(try clear hi)))
        go_roundg k1
        case measure=>have:=HK1.out;omega
        case rel=>exact⟨(wrap64 (x15_1+1)),vr,H',⟨by have:=HK1.out;omega⟩,⟨by(with_reducible repeat(first|refine zn ?_ _|refine zt ?_|refine zy ?_ _));exact BK104.out⟩,⟨bw⟩⟩
       rw [if_neg c12] at H
       have c12b0:(t108 == 0)=false:=beq_eq_false_iff_ne.mpr c12
       have c12b1:(t108 != 0)=true:=bne_iff_ne.mpr c12
       obtain rfl:=Option.some.inj H
       have p106:0≤(x15_1:Int):=dt
       have q106:x15_1<(l1.length:Int):=dt
       obtain ⟨ad106,e106,hx106_0,hx106_1,hx106_2⟩:=zxn HR1.out x15_1 p106 q106
       cases e106
       replace hx106_0:=(HB.out.cell (World.block_lt_of_cell? w _ hx106_0)).trans hx106_0
       replace hx106_1:=(HB.out.cell (World.block_lt_of_cell? w _ hx106_1)).trans hx106_1
       replace hx106_2:=(HB.out.cell (World.block_lt_of_cell? w _ hx106_2)).trans hx106_2
       replace p106:=eq_true p106
       replace q106:=eq_true q106
       go_wp2_with (first|((with_reducible refine ql (N:=6) rfl ?_);refine qh ?hg (N:=6) ?hd (cs:=#[.int .i64 0,.int .i64 0,.string (⟨#[]⟩:ByteArray)]) (t:=30) ?hr ?_;(case hd=>rfl);(case hg=>rfl);(case hr=>first|(go_simp;done)|(go_simp;rfl));intro gb107 hg w17 hbox hb;have BK107:=zq.mk (hbox);have GW107:=zq.mk ((by rw [hg];exact(zv bw):w.heap.size≤gb107));have GE107:=zq.mk ((by rw [hg];exact(zv bw):w.heap.size≤gb107));replace HB:=zq.mk (zb bw hb);have NB104_107:=zq.mk ((by rw [hg];exact Nat.ne_of_lt (qf (g:=gb104) (o:=.cells #[.int .i64 a0_0,.int .i64 a0_1,.int .i64 a0_2,.string a0_3,.string a0_4,.string a0_5,.int .i64 a0_6,.slice A0_7 l0_7.length c0_7] 33 (0,0)) (up BK104.out)):gb104≠gb107));have NB107_104:=zq.mk ((by rw [hg];exact Nat.ne_of_gt (qf (g:=gb104) (o:=.cells #[.int .i64 a0_0,.int .i64 a0_1,.int .i64 a0_2,.string a0_3,.string a0_4,.string a0_5,.int .i64 a0_6,.slice A0_7 l0_7.length c0_7] 33 (0,0)) (up BK104.out)):gb107≠gb104));replace BK104:=zq.mk (zf (g:=gb104) (o:=.cells #[.int .i64 a0_0,.int .i64 a0_1,.int .i64 a0_2,.string a0_3,.string a0_4,.string a0_5,.int .i64 a0_6,.slice A0_7 l0_7.length c0_7] 33 (0,0)) (up BK104.out) hb);clear hb hbox hg;have hnb18:=NB107_104.out;have hnc18:=NB104_107.out;obtain ⟨hcz19_0,hcz19_1,hcz19_2,hfz19_0,hfz19_1,hfz19_2⟩:=zr BK107.out)|((with_reducible refine zs (f:=40) rfl ?_);refine qo (some 20) rfl rfl Tryd.func40 (by kernel_rfl) rfl #[.agg #[.int .i64 ((zqh l1 x15_1).f0),.int .i64 ((zqh l1 x15_1).f1),.string ((zqh l1 x15_1).f2)]] rfl gs ?_;(with_reducible refine(qi.calls k1 ((zqh l1 x15_1).f0) ((zqh l1 x15_1).f1) ((zqh l1 x15_1).f2) t108 _ ?side1 A11.out).mono ?_);(case side1=>exact LD.below HLD.out (by first|(with_reducible exact Below.refl _ _)|((repeat(first|(with_reducible exact Below.refl _ _)|(with_reducible apply zm)|(with_reducible apply qd)|(with_reducible apply qe)));done)|exact bw));rintro e w20 ⟨rfl,hb⟩;refine⟨_,rfl,?_⟩;replace BK104:=zq.mk (zf (g:=gb104) (o:=.cells #[.int .i64 a0_0,.int .i64 a0_1,.int .i64 a0_2,.string a0_3,.string a0_4,.string a0_5,.int .i64 a0_6,.slice A0_7 l0_7.length c0_7] 33 (0,0)) (by(with_reducible repeat(first|refine zn ?_ _|refine zt ?_|refine zy ?_ _));refine zqv ?_ NB104_107.out _;(with_reducible repeat(first|refine zn ?_ _|refine zt ?_|refine zy ?_ _));refine zqv ?_ NB104_107.out _;(with_reducible repeat(first|refine zn ?_ _|refine zt ?_|refine zy ?_ _));refine zqv ?_ NB104_107.out _;(with_reducible repeat(first|refine zn ?_ _|refine zt ?_|refine zy ?_ _));exact BK104.out) hb);replace BK107:=zq.mk (zf (g:=gb107) (o:=.cells #[.int .i64 ((zqh l1 x15_1).f0),.int .i64 ((zqh l1 x15_1).f1),.string ((zqh l1 x15_1).f2)] 30 (0,0)) (by(with_reducible repeat(first|refine zn ?_ _|refine zt ?_|refine zy ?_ _));refine zl (cs:=#[.int .i64 ((zqh l1 x15_1).f0),.int .i64 ((zqh l1 x15_1).f1),.string (⟨#[]⟩:ByteArray)]) ?_ 2 _ rfl;(with_reducible repeat(first|refine zn ?_ _|refine zt ?_|refine zy ?_ _));refine zl (cs:=#[.int .i64 ((zqh l1 x15_1).f0),.int .i64 0,.string (⟨#[]⟩:ByteArray)]) ?_ 1 _ rfl;(with_reducible repeat(first|refine zn ?_ _|refine zt ?_|refine zy ?_ _));refine zl (cs:=#[.int .i64 0,.int .i64 0,.string (⟨#[]⟩:ByteArray)]) ?_ 0 _ rfl;(with_reducible repeat(first|refine zn ?_ _|refine zt ?_|refine zy ?_ _));exact BK107.out) hb);replace HB:=zq.mk (zb bw hb);(try clear hb);(try clear hb2);(try clear hk);(try clear hi)))
       go_ret
       exact⟨by first|rfl|(simp [zk,zx] <;> rfl)|(simp [*,zk,zx] <;> rfl),bw⟩
      rw [if_neg c10] at H
      exact absurd H (by simp)
     rw [if_neg c9] at H
     exact absurd H (by simp)
    rw [if_neg c8] at H
    have c8b0:=decide_eq_false c8
    clear c8
    obtain rfl:=Option.some.inj H
    go_wp2
    go_ret
    exact⟨by first|rfl|(simp [zk,zx] <;> rfl)|(simp [*,zk,zx] <;> rfl),bw⟩
 replace c4:=Bool.eq_false_iff.mpr c4
 subst c4
 rw [if_neg (show ¬ (false=true) by decide)] at H
 obtain rfl:=Option.some.inj H
 go_enter Tryd.func26,Tryd.ntmps26
 go_wp2_with (first|((with_reducible refine ql (N:=2) rfl ?_);refine qh ?hg (N:=2) ?hd (cs:=#[.int .i64 a0_0,.int .i64 a0_1,.int .i64 a0_2,.string a0_3,.string a0_4,.string a0_5,.int .i64 a0_6,.slice A0_7 l0_7.length c0_7]) (t:=33) ?hr ?_;(case hd=>rfl);(case hg=>rfl);(case hr=>first|(go_simp;done)|(go_simp;rfl));intro gb104 hg w21 hbox hb;have BK104:=zq.mk (hbox);have GW104:=zq.mk ((by rw [hg];exact(zv bw):w.heap.size≤gb104));have GE104:=zq.mk ((by rw [hg];exact(zv bw):w.heap.size≤gb104));replace HB:=zq.mk (zb bw hb);clear hb hbox hg;obtain ⟨hcz22_0,hcz22_1,hcz22_2,hcz22_3,hcz22_4,hcz22_5,hcz22_6,hcz22_7,hfz22_0,hfz22_1,hfz22_2,hfz22_3,hfz22_4,hfz22_5,hfz22_6,hfz22_7⟩:=zql BK104.out)|((with_reducible refine zs (f:=45) rfl ?_);refine qo (some 11) rfl rfl Tryd.func45 (by kernel_rfl) rfl #[.agg #[.int .i64 a0_0,.int .i64 a0_1,.int .i64 a0_2,.string a0_3,.string a0_4,.string a0_5,.int .i64 a0_6,.slice A0_7 l0_7.length c0_7],.int .i64 (l1.length:Int)] rfl gs ?_;(with_reducible refine(zqy.calls k a0_0 a0_1 a0_2 a0_3 a0_4 a0_5 a0_6 _ _ l0_7 (l1.length:Int) false _ ?side1 ?side2 ?side3 A3.out).mono ?_);(case side1=>exact Kd.cu (Kd.zqe HR0_7.out HB.out));(case side2=>exact HC0_7.out);(case side3=>exact LD.below HLD.out (by first|(with_reducible exact Below.refl _ _)|((repeat(first|(with_reducible exact Below.refl _ _)|(with_reducible apply zm)|(with_reducible apply qd)|(with_reducible apply qe)));done)|exact bw));rintro e w23 ⟨rfl,hb⟩;refine⟨_,rfl,?_⟩;replace BK104:=zq.mk (zf (g:=gb104) (o:=.cells #[.int .i64 a0_0,.int .i64 a0_1,.int .i64 a0_2,.string a0_3,.string a0_4,.string a0_5,.int .i64 a0_6,.slice A0_7 l0_7.length c0_7] 33 (0,0)) (up BK104.out) hb);replace HB:=zq.mk (zb bw hb);(try clear hb);(try clear hb2);(try clear hk);(try clear hi)))
 go_ret
 exact⟨by first|rfl|(simp [zk,zx] <;> rfl)|(simp [*,zk,zx] <;> rfl),bw⟩

-- NOT PRINTED: function 27 (eval_conjuncts)

/-! ### zqz: function 31 -/
def zqz.f (k:Nat) (a0_0:Int) (a0_1:Int) (a0_2:ByteArray):Option (Int × Int):=(qi.f k a0_0 a0_1 a0_2).bind fun t110=>(if t110=0 then(if a0_0=0 then(some (1,0)) else (if a0_0=1 then(some (wrap64 (a0_1 * 2),0)) else (some (0,12)))) else (some (0,t110)))
theorem zqz.mono:∀ a0 a1 a2 k,LeO (zqz.f k a0 a1 a2) (zqz.f (k+1) a0 a1 a2):=by
 intro a0 a1 a2 k
 unfold zqz.f
 repeat' first
   | (with_reducible first|exact qi.mono _ _ _ _|exact LeO.refl _|exact LeO.none _|refine LeO.ite ?_ ?_|refine LeO.bind ?_ (fun _=>?_))
   | exact qi.mono _ _ _ _
   | exact LeO.none _
   | refine LeO.ite ?_ ?_
   | refine LeO.bind ?_ (fun _=>?_)
set_option maxHeartbeats 8000000 in
set_option maxRecDepth 100000 in
theorem zqz.calls (k:Nat) (a0_0:Int) (a0_1:Int) (a0_2:ByteArray) (r1:Int) (r2:Int) (w:World) (hL:LD w) (h:zqz.f k a0_0 a0_1 a0_2=some (r1,r2)) :
  Calls Tryd.prog 31 #[.agg #[.int .i64 a0_0,.int .i64 a0_1,.string a0_2]] w fun e w'=>e = .returned (.tuple #[.int .i64 r1,.int .i64 r2])∧Below w.heap.size w w':=by
 have hu30:=Tryd.underlying30
 have HLD:=zq.mk hL
 clear hL
 have HB:=zq.mk (Below.refl w.heap.size w)
 have H:((qi.f k a0_0 a0_1 a0_2).bind fun t110=>(if t110=0 then(if a0_0=0 then(some (1,0)) else (if a0_0=1 then(some (wrap64 (a0_1 * 2),0)) else (some (0,12)))) else (some (0,t110))))=some (r1,r2):=h
 clear h
 replace H:=Option.bind_eq_some_iff.mp H
 obtain ⟨t110,A20,H⟩:=H
 replace H:(if t110=0 then(if a0_0=0 then(some (1,0)) else (if a0_0=1 then(some (wrap64 (a0_1 * 2),0)) else (some (0,12)))) else (some (0,t110)))=some (r1,r2):=H
 have A2:=zq.mk A20
 clear A20
 by_cases c3:t110=0
 ·rw [if_pos c3] at H
  have c3b0:(t110 == 0)=true:=beq_iff_eq.mpr c3
  have c3b1:(t110 != 0)=false:=bne_eq_false_iff_eq.mpr c3
  clear c3
  by_cases c4:a0_0=0
  ·rw [if_pos c4] at H
   have c4b0:(a0_0 == 0)=true:=beq_iff_eq.mpr c4
   have c4b1:(a0_0 != 0)=false:=bne_eq_false_iff_eq.mpr c4
   clear c4
   simp only [Option.some.injEq,Prod.mk.injEq] at H
   obtain ⟨rfl,rfl⟩:=H
   go_enter Tryd.func31,Tryd.ntmps31
   go_wp2_with (first|((with_reducible refine ql (N:=1) rfl ?_);refine qh ?hg (N:=1) ?hd (cs:=#[.int .i64 a0_0,.int .i64 a0_1,.string a0_2]) (t:=30) ?hr ?_;(case hd=>rfl);(case hg=>rfl);(case hr=>first|(go_simp;done)|(go_simp;rfl));intro gb109 hg w5 hbox hb;have BK109:=zq.mk (hbox);have GW109:=zq.mk ((by rw [hg];exact(zv bw):w.heap.size≤gb109));have GE109:=zq.mk ((by rw [hg];exact(zv bw):w.heap.size≤gb109));replace HB:=zq.mk (zb bw hb);clear hb hbox hg;obtain ⟨hcz6_0,hcz6_1,hcz6_2,hfz6_0,hfz6_1,hfz6_2⟩:=zr BK109.out)|((with_reducible refine zs (f:=40) rfl ?_);refine qo (some 6) rfl rfl Tryd.func40 (by kernel_rfl) rfl #[.agg #[.int .i64 a0_0,.int .i64 a0_1,.string a0_2]] rfl gs ?_;(with_reducible refine(qi.calls k a0_0 a0_1 a0_2 t110 _ ?side1 A2.out).mono ?_);(case side1=>exact LD.below HLD.out (by first|(with_reducible exact Below.refl _ _)|((repeat(first|(with_reducible exact Below.refl _ _)|(with_reducible apply zm)|(with_reducible apply qd)|(with_reducible apply qe)));done)|exact bw));rintro e w7 ⟨rfl,hb⟩;refine⟨_,rfl,?_⟩;replace BK109:=zq.mk (zf (g:=gb109) (o:=.cells #[.int .i64 a0_0,.int .i64 a0_1,.string a0_2] 30 (0,0)) (up BK109.out) hb);replace HB:=zq.mk (zb bw hb);(try clear hb);(try clear hb2);(try clear hk);(try clear hi);obtain ⟨hcz8_0,hcz8_1,hcz8_2,hfz8_0,hfz8_1,hfz8_2⟩:=zr BK109.out))
   go_ret2
   exact⟨by first|rfl|(simp [zk,zx] <;> rfl)|(simp [*,zk,zx] <;> rfl),bw⟩
  rw [if_neg c4] at H
  have c4b0:(a0_0 == 0)=false:=beq_eq_false_iff_ne.mpr c4
  have c4b1:(a0_0 != 0)=true:=bne_iff_ne.mpr c4
  by_cases c9:a0_0=1
  ·rw [if_pos c9] at H
   have c9b0:(a0_0 == 1)=true:=beq_iff_eq.mpr c9
   have c9b1:(a0_0 != 1)=false:=bne_eq_false_iff_eq.mpr c9
   clear c9
   simp only [Option.some.injEq,Prod.mk.injEq] at H
   obtain ⟨rfl,rfl⟩:=H
   go_enter Tryd.func31,Tryd.ntmps31
   go_wp2_with (first|((with_reducible refine ql (N:=1) rfl ?_);refine qh ?hg (N:=1) ?hd (cs:=#[.int .i64 a0_0,.int .i64 a0_1,.string a0_2]) (t:=30) ?hr ?_;(case hd=>rfl);(case hg=>rfl);(case hr=>first|(go_simp;done)|(go_simp;rfl));intro gb109 hg w10 hbox hb;have BK109:=zq.mk (hbox);have GW109:=zq.mk ((by rw [hg];exact(zv bw):w.heap.size≤gb109));have GE109:=zq.mk ((by rw [hg];exact(zv bw):w.heap.size≤gb109));replace HB:=zq.mk (zb bw hb);clear hb hbox hg;obtain ⟨hcz11_0,hcz11_1,hcz11_2,hfz11_0,hfz11_1,hfz11_2⟩:=zr BK109.out)|((with_reducible refine zs (f:=40) rfl ?_);refine qo (some 6) rfl rfl Tryd.func40 (by kernel_rfl) rfl #[.agg #[.int .i64 a0_0,.int .i64 a0_1,.string a0_2]] rfl gs ?_;(with_reducible refine(qi.calls k a0_0 a0_1 a0_2 t110 _ ?side1 A2.out).mono ?_);(case side1=>exact LD.below HLD.out (by first|(with_reducible exact Below.refl _ _)|((repeat(first|(with_reducible exact Below.refl _ _)|(with_reducible apply zm)|(with_reducible apply qd)|(with_reducible apply qe)));done)|exact bw));rintro e w12 ⟨rfl,hb⟩;refine⟨_,rfl,?_⟩;replace BK109:=zq.mk (zf (g:=gb109) (o:=.cells #[.int .i64 a0_0,.int .i64 a0_1,.string a0_2] 30 (0,0)) (up BK109.out) hb);replace HB:=zq.mk (zb bw hb);(try clear hb);(try clear hb2);(try clear hk);(try clear hi);obtain ⟨hcz13_0,hcz13_1,hcz13_2,hfz13_0,hfz13_1,hfz13_2⟩:=zr BK109.out))
   go_ret2
   exact⟨by first|rfl|(simp [zk,zx] <;> rfl)|(simp [*,zk,zx] <;> rfl),bw⟩
  rw [if_neg c9] at H
  have c9b0:(a0_0 == 1)=false:=beq_eq_false_iff_ne.mpr c9
  have c9b1:(a0_0 != 1)=true:=bne_iff_ne.mpr c9
  simp only [Option.some.injEq,Prod.mk.injEq] at H
  obtain ⟨rfl,rfl⟩:=H
  go_enter Tryd.func31,Tryd.ntmps31
  go_wp2_with (first|((with_reducible refine ql (N:=1) rfl ?_);refine qh ?hg (N:=1) ?hd (cs:=#[.int .i64 a0_0,.int .i64 a0_1,.string a0_2]) (t:=30) ?hr ?_;(case hd=>rfl);(case hg=>rfl);(case hr=>first|(go_simp;done)|(go_simp;rfl));intro gb109 hg w14 hbox hb;have BK109:=zq.mk (hbox);have GW109:=zq.mk ((by rw [hg];exact(zv bw):w.heap.size≤gb109));have GE109:=zq.mk ((by rw [hg];exact(zv bw):w.heap.size≤gb109));replace HB:=zq.mk (zb bw hb);clear hb hbox hg;obtain ⟨hcz15_0,hcz15_1,hcz15_2,hfz15_0,hfz15_1,hfz15_2⟩:=zr BK109.out)|((with_reducible refine zs (f:=40) rfl ?_);refine qo (some 6) rfl rfl Tryd.func40 (by kernel_rfl) rfl #[.agg #[.int .i64 a0_0,.int .i64 a0_1,.string a0_2]] rfl gs ?_;(with_reducible refine(qi.calls k a0_0 a0_1 a0_2 t110 _ ?side1 A2.out).mono ?_);(case side1=>exact LD.below HLD.out (by first|(with_reducible exact Below.refl _ _)|((repeat(first|(with_reducible exact Below.refl _ _)|(with_reducible apply zm)|(with_reducible apply qd)|(with_reducible apply qe)));done)|exact bw));rintro e w16 ⟨rfl,hb⟩;refine⟨_,rfl,?_⟩;replace BK109:=zq.mk (zf (g:=gb109) (o:=.cells #[.int .i64 a0_0,.int .i64 a0_1,.string a0_2] 30 (0,0)) (up BK109.out) hb);replace HB:=zq.mk (zb bw hb);(try clear hb);(try clear hb2);(try clear hk);(try clear hi);obtain ⟨hcz17_0,hcz17_1,hcz17_2,hfz17_0,hfz17_1,hfz17_2⟩:=zr BK109.out))
  go_ret2
  exact⟨by first|rfl|(simp [zk,zx] <;> rfl)|(simp [*,zk,zx] <;> rfl),bw⟩
 rw [if_neg c3] at H
 have c3b0:(t110 == 0)=false:=beq_eq_false_iff_ne.mpr c3
 have c3b1:(t110 != 0)=true:=bne_iff_ne.mpr c3
 simp only [Option.some.injEq,Prod.mk.injEq] at H
 obtain ⟨rfl,rfl⟩:=H
 go_enter Tryd.func31,Tryd.ntmps31
 go_wp2_with (first|((with_reducible refine ql (N:=1) rfl ?_);refine qh ?hg (N:=1) ?hd (cs:=#[.int .i64 a0_0,.int .i64 a0_1,.string a0_2]) (t:=30) ?hr ?_;(case hd=>rfl);(case hg=>rfl);(case hr=>first|(go_simp;done)|(go_simp;rfl));intro gb109 hg w18 hbox hb;have BK109:=zq.mk (hbox);have GW109:=zq.mk ((by rw [hg];exact(zv bw):w.heap.size≤gb109));have GE109:=zq.mk ((by rw [hg];exact(zv bw):w.heap.size≤gb109));replace HB:=zq.mk (zb bw hb);clear hb hbox hg;obtain ⟨hcz19_0,hcz19_1,hcz19_2,hfz19_0,hfz19_1,hfz19_2⟩:=zr BK109.out)|((with_reducible refine zs (f:=40) rfl ?_);refine qo (some 6) rfl rfl Tryd.func40 (by kernel_rfl) rfl #[.agg #[.int .i64 a0_0,.int .i64 a0_1,.string a0_2]] rfl gs ?_;(with_reducible refine(qi.calls k a0_0 a0_1 a0_2 t110 _ ?side1 A2.out).mono ?_);(case side1=>exact LD.below HLD.out (by first|(with_reducible exact Below.refl _ _)|((repeat(first|(with_reducible exact Below.refl _ _)|(with_reducible apply zm)|(with_reducible apply qd)|(with_reducible apply qe)));done)|exact bw));rintro e w20 ⟨rfl,hb⟩;refine⟨_,rfl,?_⟩;replace BK109:=zq.mk (zf (g:=gb109) (o:=.cells #[.int .i64 a0_0,.int .i64 a0_1,.string a0_2] 30 (0,0)) (up BK109.out) hb);replace HB:=zq.mk (zb bw hb);(try clear hb);(try clear hb2);(try clear hk);(try clear hi)))
 go_ret2
 exact⟨by first|rfl|(simp [zk,zx] <;> rfl)|(simp [*,zk,zx] <;> rfl),bw⟩

/-! ### zqn: function 93 -/
def zqn.j0:Nat→Int→Int→Bool→Option (Int × Int × ByteArray × Int)
 | 0,_,_,_=>none
 | k+1,x0,x4,x5=>if x5=true then(some (1,wrap64 (Int.tdiv x0 2),(⟨#[]⟩:ByteArray),0)) else (if x4=1 then(some (0,0,(⟨#[]⟩:ByteArray),0)) else (some (0,0,(⟨#[]⟩:ByteArray),2)))
def zqn.f (k:Nat) (a0:Int):Option (Int × Int × ByteArray × Int):=if a0=0 then(zqn.j0 k a0 a0 (a0 == 0)) else (zqn.j0 k a0 a0 (a0 == 2))
theorem zqn.mono_l:∀ k,(∀ y0 y1 y2,LeO (zqn.j0 k y0 y1 y2) (zqn.j0 (k+1) y0 y1 y2))
 | 0=>fun _ _ _ r h=>by simp [zqn.j0] at h
 | k+1=>by
  have ih0:=zqn.mono_l k
  intro y0 y1 y2
  unfold zqn.j0
  repeat' first
  | (with_reducible first|exact ih0 _ _ _|exact LeO.refl _|exact LeO.none _|refine LeO.ite ?_ ?_|refine LeO.bind ?_ (fun _=>?_))
  | exact ih0 _ _ _
  | exact LeO.none _
  | refine LeO.ite ?_ ?_
  | refine LeO.bind ?_ (fun _=>?_)
theorem zqn.mono:∀ a0 k,LeO (zqn.f k a0) (zqn.f (k+1) a0):=by
 intro a0 k
 have ih0:=zqn.mono_l k
 unfold zqn.f
 repeat' first
   | (with_reducible first|exact ih0 _ _ _|exact LeO.refl _|exact LeO.none _|refine LeO.ite ?_ ?_|refine LeO.bind ?_ (fun _=>?_))
   | exact ih0 _ _ _
   | exact LeO.none _
   | refine LeO.ite ?_ ?_
   | refine LeO.bind ?_ (fun _=>?_)
set_option maxHeartbeats 8000000 in
set_option maxRecDepth 100000 in
theorem zqn.calls (k:Nat) (a0:Int) (r1:Int) (r2:Int) (r3:ByteArray) (r4:Int) (w:World) (h:zqn.f k a0=some (r1,r2,r3,r4)) :
  Calls Tryd.prog 93 #[.int .i64 a0] w fun e w'=>e = .returned (.tuple #[.agg #[.int .i64 r1,.int .i64 r2,.string r3],.int .i64 r4])∧Below w.heap.size w w':=by
 have hu30:=Tryd.underlying30
 have HB:=zq.mk (Below.refl w.heap.size w)
 have H:(if a0=0 then(zqn.j0 k a0 a0 (a0 == 0)) else (zqn.j0 k a0 a0 (a0 == 2)))=some (r1,r2,r3,r4):=h
 clear h
 have HC2:=zq.mk H
 clear H
 go_enter Tryd.func93,Tryd.ntmps93
 go_upto_if 5 with (first|((with_reducible refine ql (N:=2) rfl ?_);refine qh ?hg (N:=2) ?hd (cs:=#[.int .i64 0,.int .i64 0,.string (⟨#[]⟩:ByteArray)]) (t:=30) ?hr ?_;(case hd=>rfl);(case hg=>rfl);(case hr=>first|(go_simp;done)|(go_simp;rfl));intro gb111 hg w3 hbox hb;have BK111:=zq.mk (hbox);have GW111:=zq.mk ((by rw [hg];exact(zv bw):w.heap.size≤gb111));have GE111:=zq.mk ((by rw [hg];exact(zv bw):w.heap.size≤gb111));replace HB:=zq.mk (zb bw hb);clear hb hbox hg))
 (try simp only [Act.put,List.setIfInBounds_toArray,List.set_cons_zero,List.set_cons_succ])
 go_cut [5] (fun v5 wc => ∃ (kq:Nat) (x5_1:Bool),v5 = .bool x5_1∧zq (zqn.j0 kq a0 a0 x5_1=some (r1,r2,r3,r4))∧zq (kq≤k)∧zq (wc.heap[gb111]? = some (.cells #[.int .i64 0,.int .i64 0,.string (⟨#[]⟩:ByteArray)] 30 (0,0)))∧zq (Below w.heap.size w wc))
 case first=>
  have H:=HC2.out
  clear HC2
  by_cases c4:a0=0
  ·rw [if_pos c4] at H
   have c4b0:(a0 == 0)=true:=beq_iff_eq.mpr c4
   have c4b1:(a0 != 0)=false:=bne_eq_false_iff_eq.mpr c4
   clear c4
   (first|rw [c4b0]|(simp only [zqw,zqx];rw [c4b0])|skip)
   have H':=zq.mk H
   clear H
   go_wp2
   go_meet
   case rel=>exact⟨_,((a0 == 0)),vr,H',⟨by first|omega|exact Nat.le_refl _⟩,⟨by(with_reducible repeat(first|refine zn ?_ _|refine zt ?_|refine zy ?_ _));exact BK111.out⟩,⟨bw⟩⟩
  rw [if_neg c4] at H
  have c4b0:(a0 == 0)=false:=beq_eq_false_iff_ne.mpr c4
  have c4b1:(a0 != 0)=true:=bne_iff_ne.mpr c4
  (first|rw [c4b0]|(simp only [zqw,zqx];rw [c4b0])|skip)
  have H':=zq.mk H
  clear H
  go_wp2
  go_meet
  case rel=>exact⟨_,((a0 == 2)),vr,H',⟨by first|omega|exact Nat.le_refl _⟩,⟨by(with_reducible repeat(first|refine zn ?_ _|refine zt ?_|refine zy ?_ _));exact BK111.out⟩,⟨bw⟩⟩
 case rest=>
  clear HC2
  obtain ⟨kq,x5_1,rfl,HA,HJ1,BK111,HB⟩:=hcut
  cases kq with
  | zero=>exact absurd HA.out (by simp [zqn.j0])
  | succ kj1=>
   have H:=HA.out
   clear HA
   simp only [zqn.j0] at H
   by_cases c5:x5_1=true
   ·subst c5
    rw [if_pos rfl] at H
    simp only [Option.some.injEq,Prod.mk.injEq] at H
    obtain ⟨rfl,rfl,rfl,rfl⟩:=H
    obtain ⟨hcz6_0,hcz6_1,hcz6_2,hfz6_0,hfz6_1,hfz6_2⟩:=zr BK111.out
    go_wp2
    refine bodyPost_ret (zq8 rfl _ _ gb111 30 #[.int .i64 1,.int .i64 (wrap64 (Int.tdiv a0 2)),.string (⟨#[]⟩:ByteArray)] (0,0) _ rfl (by(with_reducible repeat(first|refine zn ?_ _|refine zt ?_|refine zy ?_ _));refine zl (cs:=#[.int .i64 1,.int .i64 (wrap64 (Int.tdiv a0 2)),.string (⟨#[]⟩:ByteArray)]) ?_ 2 _ rfl;(with_reducible repeat(first|refine zn ?_ _|refine zt ?_|refine zy ?_ _));refine zl (cs:=#[.int .i64 1,.int .i64 0,.string (⟨#[]⟩:ByteArray)]) ?_ 1 _ rfl;(with_reducible repeat(first|refine zn ?_ _|refine zt ?_|refine zy ?_ _));refine zl (cs:=#[.int .i64 0,.int .i64 0,.string (⟨#[]⟩:ByteArray)]) ?_ 0 _ rfl;(with_reducible repeat(first|refine zn ?_ _|refine zt ?_|refine zy ?_ _));exact BK111.out) Tryd.underlying30 rfl (by kernel_rfl)) rfl ?_
    exact⟨by first|rfl|(simp [zk,zx] <;> rfl)|(simp [*,zk,zx] <;> rfl),bw⟩
   replace c5:=Bool.eq_false_iff.mpr c5
   subst c5
   rw [if_neg (show ¬ (false=true) by decide)] at H
   by_cases c7:a0=1
   ·rw [if_pos c7] at H
    have c7b0:(a0 == 1)=true:=beq_iff_eq.mpr c7
    have c7b1:(a0 != 1)=false:=bne_eq_false_iff_eq.mpr c7
    clear c7
    simp only [Option.some.injEq,Prod.mk.injEq] at H
    obtain ⟨rfl,rfl,rfl,rfl⟩:=H
    obtain ⟨hcz8_0,hcz8_1,hcz8_2,hfz8_0,hfz8_1,hfz8_2⟩:=zr BK111.out
    go_wp2
    refine bodyPost_ret (zq8 rfl _ _ gb111 30 #[.int .i64 0,.int .i64 0,.string (⟨#[]⟩:ByteArray)] (0,0) _ rfl (by(with_reducible repeat(first|refine zn ?_ _|refine zt ?_|refine zy ?_ _));refine zl (cs:=#[.int .i64 0,.int .i64 0,.string (⟨#[]⟩:ByteArray)]) ?_ 2 _ rfl;(with_reducible repeat(first|refine zn ?_ _|refine zt ?_|refine zy ?_ _));refine zl (cs:=#[.int .i64 0,.int .i64 0,.string (⟨#[]⟩:ByteArray)]) ?_ 1 _ rfl;(with_reducible repeat(first|refine zn ?_ _|refine zt ?_|refine zy ?_ _));refine zl (cs:=#[.int .i64 0,.int .i64 0,.string (⟨#[]⟩:ByteArray)]) ?_ 0 _ rfl;(with_reducible repeat(first|refine zn ?_ _|refine zt ?_|refine zy ?_ _));exact BK111.out) Tryd.underlying30 rfl (by kernel_rfl)) rfl ?_
    exact⟨by first|rfl|(simp [zk,zx] <;> rfl)|(simp [*,zk,zx] <;> rfl),bw⟩
   rw [if_neg c7] at H
   have c7b0:(a0 == 1)=false:=beq_eq_false_iff_ne.mpr c7
   have c7b1:(a0 != 1)=true:=bne_iff_ne.mpr c7
   simp only [Option.some.injEq,Prod.mk.injEq] at H
   obtain ⟨rfl,rfl,rfl,rfl⟩:=H
   obtain ⟨hcz9_0,hcz9_1,hcz9_2,hfz9_0,hfz9_1,hfz9_2⟩:=zr BK111.out
   go_wp2
   refine bodyPost_ret (zq8 rfl _ _ gb111 30 #[.int .i64 0,.int .i64 0,.string (⟨#[]⟩:ByteArray)] (0,0) _ rfl (by(with_reducible repeat(first|refine zn ?_ _|refine zt ?_|refine zy ?_ _));refine zl (cs:=#[.int .i64 0,.int .i64 0,.string (⟨#[]⟩:ByteArray)]) ?_ 2 _ rfl;(with_reducible repeat(first|refine zn ?_ _|refine zt ?_|refine zy ?_ _));refine zl (cs:=#[.int .i64 0,.int .i64 0,.string (⟨#[]⟩:ByteArray)]) ?_ 1 _ rfl;(with_reducible repeat(first|refine zn ?_ _|refine zt ?_|refine zy ?_ _));refine zl (cs:=#[.int .i64 0,.int .i64 0,.string (⟨#[]⟩:ByteArray)]) ?_ 0 _ rfl;(with_reducible repeat(first|refine zn ?_ _|refine zt ?_|refine zy ?_ _));exact BK111.out) Tryd.underlying30 rfl (by kernel_rfl)) rfl ?_
   exact⟨by first|rfl|(simp [zk,zx] <;> rfl)|(simp [*,zk,zx] <;> rfl),bw⟩

/-! ### zq2: function 94 -/
def zq2.f (k:Nat) (a0:Int) (a1:Int):Option (Int × Int × ByteArray × Int):=if a1=0 then((zqn.f k a0).bind fun bt113=>(some (bt113.1,bt113.2.1,bt113.2.2.1,bt113.2.2.2))) else (some (0,0,(⟨#[]⟩:ByteArray),a1))
theorem zq2.mono:∀ a0 a1 k,LeO (zq2.f k a0 a1) (zq2.f (k+1) a0 a1):=by
 intro a0 a1 k
 unfold zq2.f
 repeat' first
   | (with_reducible first|exact zqn.mono _ _|exact LeO.refl _|exact LeO.none _|refine LeO.ite ?_ ?_|refine LeO.bind ?_ (fun _=>?_))
   | exact zqn.mono _ _
   | exact LeO.none _
   | refine LeO.ite ?_ ?_
   | refine LeO.bind ?_ (fun _=>?_)
set_option maxHeartbeats 8000000 in
set_option maxRecDepth 100000 in
theorem zq2.calls (k:Nat) (a0:Int) (a1:Int) (r1:Int) (r2:Int) (r3:ByteArray) (r4:Int) (w:World) (h:zq2.f k a0 a1=some (r1,r2,r3,r4)) :
  Calls Tryd.prog 94 #[.int .i64 a0,.int .i64 a1] w fun e w'=>e = .returned (.tuple #[.agg #[.int .i64 r1,.int .i64 r2,.string r3],.int .i64 r4])∧Below w.heap.size w w':=by
 have hu30:=Tryd.underlying30
 have HB:=zq.mk (Below.refl w.heap.size w)
 have H:(if a1=0 then((zqn.f k a0).bind fun bt113=>(some (bt113.1,bt113.2.1,bt113.2.2.1,bt113.2.2.2))) else (some (0,0,(⟨#[]⟩:ByteArray),a1)))=some (r1,r2,r3,r4):=h
 clear h
 by_cases c3:a1=0
 ·rw [if_pos c3] at H
  have c3b0:(a1 == 0)=true:=beq_iff_eq.mpr c3
  have c3b1:(a1 != 0)=false:=bne_eq_false_iff_eq.mpr c3
  clear c3
  replace H:=Option.bind_eq_some_iff.mp H
  obtain ⟨⟨t113,t114,t115,t116⟩,A40,H⟩:=H
  replace H:(some (t113,t114,t115,t116))=some (r1,r2,r3,r4):=H
  have A4:=zq.mk A40
  clear A40
  simp only [Option.some.injEq,Prod.mk.injEq] at H
  obtain ⟨rfl,rfl,rfl,rfl⟩:=H
  go_enter Tryd.func94,Tryd.ntmps94
  go_wp2_with (first|((with_reducible refine ql (N:=4) rfl ?_);refine qh ?hg (N:=4) ?hd (cs:=#[.int .i64 0,.int .i64 0,.string (⟨#[]⟩:ByteArray)]) (t:=30) ?hr ?_;(case hd=>rfl);(case hg=>rfl);(case hr=>first|(go_simp;done)|(go_simp;rfl));intro gb112 hg w5 hbox hb;have BK112:=zq.mk (hbox);have GW112:=zq.mk ((by rw [hg];exact(zv bw):w.heap.size≤gb112));have GE112:=zq.mk ((by rw [hg];exact(zv bw):w.heap.size≤gb112));replace HB:=zq.mk (zb bw hb);clear hb hbox hg)|((with_reducible refine zs (f:=93) rfl ?_);refine qo (some 11) rfl rfl Tryd.func93 (by kernel_rfl) rfl #[.int .i64 a0] rfl gs ?_;(with_reducible refine(zqn.calls k a0 t113 t114 t115 t116 _ A4.out).mono ?_);rintro e w6 ⟨rfl,hb⟩;refine⟨_,rfl,?_⟩;replace BK112:=zq.mk (zf (g:=gb112) (o:=.cells #[.int .i64 0,.int .i64 0,.string (⟨#[]⟩:ByteArray)] 30 (0,0)) (up BK112.out) hb);replace HB:=zq.mk (zb bw hb);(try clear hb);(try clear hb2);(try clear hk);(try clear hi);obtain ⟨hcz7_0,hcz7_1,hcz7_2,hfz7_0,hfz7_1,hfz7_2⟩:=zr BK112.out))
  refine bodyPost_ret (zq8 rfl _ _ gb112 30 #[.int .i64 t113,.int .i64 t114,.string t115] (0,0) _ rfl (by(with_reducible repeat(first|refine zn ?_ _|refine zt ?_|refine zy ?_ _));refine zl (cs:=#[.int .i64 t113,.int .i64 t114,.string (⟨#[]⟩:ByteArray)]) ?_ 2 _ rfl;(with_reducible repeat(first|refine zn ?_ _|refine zt ?_|refine zy ?_ _));refine zl (cs:=#[.int .i64 t113,.int .i64 0,.string (⟨#[]⟩:ByteArray)]) ?_ 1 _ rfl;(with_reducible repeat(first|refine zn ?_ _|refine zt ?_|refine zy ?_ _));refine zl (cs:=#[.int .i64 0,.int .i64 0,.string (⟨#[]⟩:ByteArray)]) ?_ 0 _ rfl;(with_reducible repeat(first|refine zn ?_ _|refine zt ?_|refine zy ?_ _));exact BK112.out) Tryd.underlying30 rfl (by kernel_rfl)) rfl ?_
  exact⟨by first|rfl|(simp [zk,zx] <;> rfl)|(simp [*,zk,zx] <;> rfl),bw⟩
 rw [if_neg c3] at H
 have c3b0:(a1 == 0)=false:=beq_eq_false_iff_ne.mpr c3
 have c3b1:(a1 != 0)=true:=bne_iff_ne.mpr c3
 simp only [Option.some.injEq,Prod.mk.injEq] at H
 obtain ⟨rfl,rfl,rfl,rfl⟩:=H
 go_enter Tryd.func94,Tryd.ntmps94
 go_wp2_with (first|((with_reducible refine ql (N:=4) rfl ?_);refine qh ?hg (N:=4) ?hd (cs:=#[.int .i64 0,.int .i64 0,.string (⟨#[]⟩:ByteArray)]) (t:=30) ?hr ?_;(case hd=>rfl);(case hg=>rfl);(case hr=>first|(go_simp;done)|(go_simp;rfl));intro gb112 hg w8 hbox hb;have BK112:=zq.mk (hbox);have GW112:=zq.mk ((by rw [hg];exact(zv bw):w.heap.size≤gb112));have GE112:=zq.mk ((by rw [hg];exact(zv bw):w.heap.size≤gb112));replace HB:=zq.mk (zb bw hb);clear hb hbox hg;obtain ⟨hcz9_0,hcz9_1,hcz9_2,hfz9_0,hfz9_1,hfz9_2⟩:=zr BK112.out))
 refine bodyPost_ret (zq8 rfl _ _ gb112 30 #[.int .i64 0,.int .i64 0,.string (⟨#[]⟩:ByteArray)] (0,0) _ rfl (by(with_reducible repeat(first|refine zn ?_ _|refine zt ?_|refine zy ?_ _));refine zl (cs:=#[.int .i64 0,.int .i64 0,.string (⟨#[]⟩:ByteArray)]) ?_ 2 _ rfl;(with_reducible repeat(first|refine zn ?_ _|refine zt ?_|refine zy ?_ _));refine zl (cs:=#[.int .i64 0,.int .i64 0,.string (⟨#[]⟩:ByteArray)]) ?_ 1 _ rfl;(with_reducible repeat(first|refine zn ?_ _|refine zt ?_|refine zy ?_ _));refine zl (cs:=#[.int .i64 0,.int .i64 0,.string (⟨#[]⟩:ByteArray)]) ?_ 0 _ rfl;(with_reducible repeat(first|refine zn ?_ _|refine zt ?_|refine zy ?_ _));exact BK112.out) Tryd.underlying30 rfl (by kernel_rfl)) rfl ?_
 exact⟨by first|rfl|(simp [zk,zx] <;> rfl)|(simp [*,zk,zx] <;> rfl),bw⟩

/-! ### zq5: function 60 -/
def zq5.f (k:Nat) (a0_0:Int) (a0_1:Int) (a0_2:ByteArray) (a1_0:Int) (a1_1:Int) (a1_2:ByteArray):Option (Int):=(qi.f k a0_0 a0_1 a0_2).bind fun t119=>(if t119=0 then((qi.f k a1_0 a1_1 a1_2).bind fun t120=>(some t120)) else (some t119))
theorem zq5.mono:∀ a0 a1 a2 a3 a4 a5 k,LeO (zq5.f k a0 a1 a2 a3 a4 a5) (zq5.f (k+1) a0 a1 a2 a3 a4 a5):=by
 intro a0 a1 a2 a3 a4 a5 k
 unfold zq5.f
 repeat' first
   | (with_reducible first|exact qi.mono _ _ _ _|exact LeO.refl _|exact LeO.none _|refine LeO.ite ?_ ?_|refine LeO.bind ?_ (fun _=>?_))
   | exact qi.mono _ _ _ _
   | exact LeO.none _
   | refine LeO.ite ?_ ?_
   | refine LeO.bind ?_ (fun _=>?_)
set_option maxHeartbeats 8000000 in
set_option maxRecDepth 100000 in
theorem zq5.calls (k:Nat) (a0_0:Int) (a0_1:Int) (a0_2:ByteArray) (a1_0:Int) (a1_1:Int) (a1_2:ByteArray) (r:Int) (w:World) (hL:LD w) (h:zq5.f k a0_0 a0_1 a0_2 a1_0 a1_1 a1_2=some r) :
  Calls Tryd.prog 60 #[.agg #[.int .i64 a0_0,.int .i64 a0_1,.string a0_2],.agg #[.int .i64 a1_0,.int .i64 a1_1,.string a1_2]] w fun e w'=>e = .returned (.int .i64 r)∧Below w.heap.size w w':=by
 have hu30:=Tryd.underlying30
 have HLD:=zq.mk hL
 clear hL
 have HB:=zq.mk (Below.refl w.heap.size w)
 have H:((qi.f k a0_0 a0_1 a0_2).bind fun t119=>(if t119=0 then((qi.f k a1_0 a1_1 a1_2).bind fun t120=>(some t120)) else (some t119)))=some r:=h
 clear h
 replace H:=Option.bind_eq_some_iff.mp H
 obtain ⟨t119,A30,H⟩:=H
 replace H:(if t119=0 then((qi.f k a1_0 a1_1 a1_2).bind fun t120=>(some t120)) else (some t119))=some r:=H
 have A3:=zq.mk A30
 clear A30
 by_cases c4:t119=0
 ·rw [if_pos c4] at H
  have c4b0:(t119 == 0)=true:=beq_iff_eq.mpr c4
  have c4b1:(t119 != 0)=false:=bne_eq_false_iff_eq.mpr c4
  clear c4
  replace H:=Option.bind_eq_some_iff.mp H
  obtain ⟨t120,A50,H⟩:=H
  replace H:(some t120)=some r:=H
  have A5:=zq.mk A50
  clear A50
  obtain rfl:=Option.some.inj H
  go_enter Tryd.func60,Tryd.ntmps60
  go_wp2_with (first|((with_reducible refine ql (N:=2) rfl ?_);refine qh ?hg (N:=2) ?hd (cs:=#[.int .i64 a0_0,.int .i64 a0_1,.string a0_2]) (t:=30) ?hr ?_;(case hd=>rfl);(case hg=>rfl);(case hr=>first|(go_simp;done)|(go_simp;rfl));intro gb117 hg w6 hbox hb;have BK117:=zq.mk (hbox);have GW117:=zq.mk ((by rw [hg];exact(zv bw):w.heap.size≤gb117));have GE117:=zq.mk ((by rw [hg];exact(zv bw):w.heap.size≤gb117));replace HB:=zq.mk (zb bw hb);clear hb hbox hg)|((with_reducible refine ql (N:=3) rfl ?_);refine qh ?hg (N:=3) ?hd (cs:=#[.int .i64 a1_0,.int .i64 a1_1,.string a1_2]) (t:=30) ?hr ?_;(case hd=>rfl);(case hg=>rfl);(case hr=>first|(go_simp;done)|(go_simp;rfl));intro gb118 hg w7 hbox hb;have BK118:=zq.mk (hbox);have GW118:=zq.mk ((by rw [hg];exact(zv bw):w.heap.size≤gb118));have GE118:=zq.mk ((by rw [hg];exact(zv bw):w.heap.size≤gb118));replace HB:=zq.mk (zb bw hb);have NB117_118:=zq.mk ((by rw [hg];exact Nat.ne_of_lt (qf (g:=gb117) (o:=.cells #[.int .i64 a0_0,.int .i64 a0_1,.string a0_2] 30 (0,0)) (up BK117.out)):gb117≠gb118));have NB118_117:=zq.mk ((by rw [hg];exact Nat.ne_of_gt (qf (g:=gb117) (o:=.cells #[.int .i64 a0_0,.int .i64 a0_1,.string a0_2] 30 (0,0)) (up BK117.out)):gb118≠gb117));replace BK117:=zq.mk (zf (g:=gb117) (o:=.cells #[.int .i64 a0_0,.int .i64 a0_1,.string a0_2] 30 (0,0)) (up BK117.out) hb);clear hb hbox hg;have hnb8:=NB117_118.out;have hnc8:=NB118_117.out;obtain ⟨hcz9_0,hcz9_1,hcz9_2,hfz9_0,hfz9_1,hfz9_2⟩:=zr BK117.out)|((with_reducible refine zs (f:=40) rfl ?_);refine qo (some 7) rfl rfl Tryd.func40 (by kernel_rfl) rfl #[.agg #[.int .i64 a0_0,.int .i64 a0_1,.string a0_2]] rfl gs ?_;(with_reducible refine(qi.calls k a0_0 a0_1 a0_2 t119 _ ?side1 A3.out).mono ?_);(case side1=>exact LD.below HLD.out (by first|(with_reducible exact Below.refl _ _)|((repeat(first|(with_reducible exact Below.refl _ _)|(with_reducible apply zm)|(with_reducible apply qd)|(with_reducible apply qe)));done)|exact bw));rintro e w10 ⟨rfl,hb⟩;refine⟨_,rfl,?_⟩;replace BK117:=zq.mk (zf (g:=gb117) (o:=.cells #[.int .i64 a0_0,.int .i64 a0_1,.string a0_2] 30 (0,0)) (up BK117.out) hb);replace BK118:=zq.mk (zf (g:=gb118) (o:=.cells #[.int .i64 a1_0,.int .i64 a1_1,.string a1_2] 30 (0,0)) (up BK118.out) hb);replace HB:=zq.mk (zb bw hb);(try clear hb);(try clear hb2);(try clear hk);(try clear hi);obtain ⟨hcz11_0,hcz11_1,hcz11_2,hfz11_0,hfz11_1,hfz11_2⟩:=zr BK118.out)|((with_reducible refine zs (f:=40) rfl ?_);refine qo (some 12) rfl rfl Tryd.func40 (by kernel_rfl) rfl #[.agg #[.int .i64 a1_0,.int .i64 a1_1,.string a1_2]] rfl gs ?_;(with_reducible refine(qi.calls k a1_0 a1_1 a1_2 t120 _ ?side1 A5.out).mono ?_);(case side1=>exact LD.below HLD.out (by first|(with_reducible exact Below.refl _ _)|((repeat(first|(with_reducible exact Below.refl _ _)|(with_reducible apply zm)|(with_reducible apply qd)|(with_reducible apply qe)));done)|exact bw));rintro e w12 ⟨rfl,hb⟩;refine⟨_,rfl,?_⟩;replace BK117:=zq.mk (zf (g:=gb117) (o:=.cells #[.int .i64 a0_0,.int .i64 a0_1,.string a0_2] 30 (0,0)) (up BK117.out) hb);replace BK118:=zq.mk (zf (g:=gb118) (o:=.cells #[.int .i64 a1_0,.int .i64 a1_1,.string a1_2] 30 (0,0)) (up BK118.out) hb);replace HB:=zq.mk (zb bw hb);(try clear hb);(try clear hb2);(try clear hk);(try clear hi)))
  go_ret
  exact⟨by first|rfl|(simp [zk,zx] <;> rfl)|(simp [*,zk,zx] <;> rfl),bw⟩
 rw [if_neg c4] at H
 have c4b0:(t119 == 0)=false:=beq_eq_false_iff_ne.mpr c4
 have c4b1:(t119 != 0)=true:=bne_iff_ne.mpr c4
 obtain rfl:=Option.some.inj H
 go_enter Tryd.func60,Tryd.ntmps60
 go_wp2_with (first|((with_reducible refine ql (N:=2) rfl ?_);refine qh ?hg (N:=2) ?hd (cs:=#[.int .i64 a0_0,.int .i64 a0_1,.string a0_2]) (t:=30) ?hr ?_;(case hd=>rfl);(case hg=>rfl);(case hr=>first|(go_simp;done)|(go_simp;rfl));intro gb117 hg w13 hbox hb;have BK117:=zq.mk (hbox);have GW117:=zq.mk ((by rw [hg];exact(zv bw):w.heap.size≤gb117));have GE117:=zq.mk ((by rw [hg];exact(zv bw):w.heap.size≤gb117));replace HB:=zq.mk (zb bw hb);clear hb hbox hg)|((with_reducible refine ql (N:=3) rfl ?_);refine qh ?hg (N:=3) ?hd (cs:=#[.int .i64 a1_0,.int .i64 a1_1,.string a1_2]) (t:=30) ?hr ?_;(case hd=>rfl);(case hg=>rfl);(case hr=>first|(go_simp;done)|(go_simp;rfl));intro gb118 hg w14 hbox hb;have BK118:=zq.mk (hbox);have GW118:=zq.mk ((by rw [hg];exact(zv bw):w.heap.size≤gb118));have GE118:=zq.mk ((by rw [hg];exact(zv bw):w.heap.size≤gb118));replace HB:=zq.mk (zb bw hb);have NB117_118:=zq.mk ((by rw [hg];exact Nat.ne_of_lt (qf (g:=gb117) (o:=.cells #[.int .i64 a0_0,.int .i64 a0_1,.string a0_2] 30 (0,0)) (up BK117.out)):gb117≠gb118));have NB118_117:=zq.mk ((by rw [hg];exact Nat.ne_of_gt (qf (g:=gb117) (o:=.cells #[.int .i64 a0_0,.int .i64 a0_1,.string a0_2] 30 (0,0)) (up BK117.out)):gb118≠gb117));replace BK117:=zq.mk (zf (g:=gb117) (o:=.cells #[.int .i64 a0_0,.int .i64 a0_1,.string a0_2] 30 (0,0)) (up BK117.out) hb);clear hb hbox hg;have hnb15:=NB117_118.out;have hnc15:=NB118_117.out;obtain ⟨hcz16_0,hcz16_1,hcz16_2,hfz16_0,hfz16_1,hfz16_2⟩:=zr BK117.out)|((with_reducible refine zs (f:=40) rfl ?_);refine qo (some 7) rfl rfl Tryd.func40 (by kernel_rfl) rfl #[.agg #[.int .i64 a0_0,.int .i64 a0_1,.string a0_2]] rfl gs ?_;(with_reducible refine(qi.calls k a0_0 a0_1 a0_2 t119 _ ?side1 A3.out).mono ?_);(case side1=>exact LD.below HLD.out (by first|(with_reducible exact Below.refl _ _)|((repeat(first|(with_reducible exact Below.refl _ _)|(with_reducible apply zm)|(with_reducible apply qd)|(with_reducible apply qe)));done)|exact bw));rintro e w17 ⟨rfl,hb⟩;refine⟨_,rfl,?_⟩;replace BK117:=zq.mk (zf (g:=gb117) (o:=.cells #[.int .i64 a0_0,.int .i64 a0_1,.string a0_2] 30 (0,0)) (up BK117.out) hb);replace BK118:=zq.mk (zf (g:=gb118) (o:=.cells #[.int .i64 a1_0,.int .i64 a1_1,.string a1_2] 30 (0,0)) (up BK118.out) hb);replace HB:=zq.mk (zb bw hb);(try clear hb);(try clear hb2);(try clear hk);(try clear hi)))
 go_ret
 exact⟨by first|rfl|(simp [zk,zx] <;> rfl)|(simp [*,zk,zx] <;> rfl),bw⟩

end Go.Proofs.YtmfpaeajibeikaaDoor.PEvalHolds
