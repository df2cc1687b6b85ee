-- Written by wip/pp of this repo (over the kit's print, with additions of this session); Lean checks every line.
import Derived.Test.YthhejedfjgikdaaDoorPRowReadsx19
namespace Go.Proofs.YthhejedfjgikdaaDoor.PRowReads
open Go.RowKit Go.Proofs.YthhejedfjgikdaaDoorW.PrintWords Go.Proofs.YthhejedfjgikdaaDoorW.PrintLast Go.Proofs.YthhejedfjgikdaaDoorW.PrintMore
attribute [local go_sem] zjo zjm zjw zjv zja zq9 zjn zjl   -- for this text's walks alone
set_option linter.unusedVariables false
set_option linter.unusedSimpArgs false

/-! ### zx: function 63, by hand -/
-- HAND rounds=1 making=1 after=99 imports=Derived.Laws.Cover3,Derived.Deep.RegionLaw
-- INFO 5
def zx.faults (k:Nat):List S38→Option Int
 | []=>some 0
 | x :: r=>(zc.f k x.f0 x.f1 x.f2).bind fun e=>if e=0 then zx.faults k r else some e
def zx.encs (l:List S38):List Int:=l.flatMap fun x=>qv.enc x.f0 x.f1 x.f2
def zx.f (k:Nat) (l:List S38):Option (List Int × Int):=if(l.length:Int) > 14 then some ([],1) else (zx.faults k l).bind fun e=>if e=0 then(if(zx.encs l).length<140737488355328 then some (zx.encs l,0) else none) else some ([],e)
theorem zx.zv6:∀ (l:List S38) (k:Nat),LeO (zx.faults k l) (zx.faults (k+1) l)
 | [],_=>LeO.refl _
 | x :: r,k=>by
  intro q h
  unfold zx.faults at h ⊢
  obtain ⟨e,he,h⟩:=Option.bind_eq_some_iff.1 h
  rw [zc.mono _ _ _ _ _ he,Option.bind_some]
  split at h
  ·rename_i h0
   rw [if_pos h0]
   exact zx.zv6 r k _ h
  rename_i h0
  rw [if_neg h0]
  exact h
theorem zx.mono:∀ a0 k,LeO (zx.f k a0) (zx.f (k+1) a0):=by
 intro l k
 unfold zx.f
 split
 ·exact LeO.refl _
 intro q h
 obtain ⟨e,he,h⟩:=Option.bind_eq_some_iff.1 h
 rw [zx.zv6 _ _ _ he,Option.bind_some]
 exact h
theorem zx.encs_take (l:List S38) (j:Nat) (h:j<l.length):zx.encs (l.take (j+1))=zx.encs (l.take j) ++ qv.enc l[j].f0 l[j].f1 l[j].f2:=by
 rw [List.take_succ_eq_append_getElem h,zx.encs,List.flatMap_append]
 simp [zx.encs]
theorem zx.encs_le (l:List S38) (j:Nat):(zx.encs (l.take j)).length≤(zx.encs l).length:=by
 have h:(zx.encs (l.take j) ++ zx.encs (l.drop j)).length=(zx.encs l).length:=by
  unfold zx.encs
  rw [← List.flatMap_append,List.take_append_drop]
 rw [List.length_append] at h
 omega
def zx.dv (n:Int):Nat→Int
 | 0=>n
 | j+1=>zx.dv n j / 256
theorem zx.dv_at (n:Int):∀ j,zx.dv n j=n / 256 ^ j
 | 0=>by simp [zx.dv]
 | j+1=>by
  rw [zx.dv,zx.dv_at n j,Int.ediv_ediv_of_nonneg (Int.pow_nonneg (by omega)),Int.pow_succ]
theorem zx.dv_pos {n:Int} (h:0≤n) (j:Nat):0≤zx.dv n j:=by
 rw [zx.dv_at]
 exact Int.ediv_nonneg h (Int.pow_nonneg (by omega))
theorem zx.zku {n:Int} (h:0≤n) (h1:n<18446744073709551616) (j:Nat):IntKind.u64.wrap ((zx.dv n j).tdiv 256)=zx.dv n (j+1):=by
 have hp:=zx.dv_pos h j
 have hl:zx.dv n j≤n:=by
  rw [zx.dv_at]
  exact Int.ediv_le_self _ h
 rw [Int.tdiv_eq_ediv_of_nonneg hp,IntKind.wrap_u64,zx.dv]
 omega
theorem zx.lits {w:World} {b t:Nat} {fr:Nat × Nat} {cs:List Int} (h:w.heap[b]? = some (.cells (cs.map (Value.int .u8)).toArray t fr)) (hl:cs.length≤9223372036854775807:=by simp) :
  zxa ((Kd.int .u8).K w) (Kd.int .u8).sz w (some ⟨b,0,none⟩) cs.length cs:=by
 refine⟨rfl,hl,fun _=>⟨_,rfl,fun j q hq=>⟨[.int .u8 q],rfl,rfl,fun i u hu=>?_⟩⟩⟩
 obtain rfl:i=0:=by
  rcases i with _|i
  ·rfl
  simp at hu
 obtain rfl:Value.int .u8 q=u:=by simpa using hu
 rw [show(⟨b,0,none⟩:Addr).add (j * (Kd.int .u8).sz+0)=⟨b,j,none⟩ from by rw [add_plain];show(⟨_,j * 1+0,none⟩:Addr)=_;simp]
 simp [World.cell?,h,hq]
def zx.digs (n:Int):Nat→Array Value
 | 0=>#[.int .u8 0,.int .u8 0,.int .u8 0,.int .u8 0,.int .u8 0,.int .u8 0,.int .u8 0,.int .u8 0]
 | 1=>#[.int .u8 0,.int .u8 0,.int .u8 0,.int .u8 0,.int .u8 0,.int .u8 0,.int .u8 0,.int .u8 (zx.dv n 0 % 256)]
 | 2=>#[.int .u8 0,.int .u8 0,.int .u8 0,.int .u8 0,.int .u8 0,.int .u8 0,.int .u8 (zx.dv n 1 % 256),.int .u8 (zx.dv n 0 % 256)]
 | 3=>#[.int .u8 0,.int .u8 0,.int .u8 0,.int .u8 0,.int .u8 0,.int .u8 (zx.dv n 2 % 256),.int .u8 (zx.dv n 1 % 256),.int .u8 (zx.dv n 0 % 256)]
 | 4=>#[.int .u8 0,.int .u8 0,.int .u8 0,.int .u8 0,.int .u8 (zx.dv n 3 % 256),.int .u8 (zx.dv n 2 % 256),.int .u8 (zx.dv n 1 % 256),.int .u8 (zx.dv n 0 % 256)]
 | 5=>#[.int .u8 0,.int .u8 0,.int .u8 0,.int .u8 (zx.dv n 4 % 256),.int .u8 (zx.dv n 3 % 256),.int .u8 (zx.dv n 2 % 256),.int .u8 (zx.dv n 1 % 256),.int .u8 (zx.dv n 0 % 256)]
 | 6=>#[.int .u8 0,.int .u8 0,.int .u8 (zx.dv n 5 % 256),.int .u8 (zx.dv n 4 % 256),.int .u8 (zx.dv n 3 % 256),.int .u8 (zx.dv n 2 % 256),.int .u8 (zx.dv n 1 % 256),.int .u8 (zx.dv n 0 % 256)]
 | 7=>#[.int .u8 0,.int .u8 (zx.dv n 6 % 256),.int .u8 (zx.dv n 5 % 256),.int .u8 (zx.dv n 4 % 256),.int .u8 (zx.dv n 3 % 256),.int .u8 (zx.dv n 2 % 256),.int .u8 (zx.dv n 1 % 256),.int .u8 (zx.dv n 0 % 256)]
 | _=>#[.int .u8 (zx.dv n 7 % 256),.int .u8 (zx.dv n 6 % 256),.int .u8 (zx.dv n 5 % 256),.int .u8 (zx.dv n 4 % 256),.int .u8 (zx.dv n 3 % 256),.int .u8 (zx.dv n 2 % 256),.int .u8 (zx.dv n 1 % 256),.int .u8 (zx.dv n 0 % 256)]
theorem zx.bytes8 (n:Int):qv.bytes n 8 = [zx.dv n 7 % 256,zx.dv n 6 % 256,zx.dv n 5 % 256,zx.dv n 4 % 256,zx.dv n 3 % 256,zx.dv n 2 % 256,zx.dv n 1 % 256,zx.dv n 0 % 256]:=by
 simp only [qv.bytes,zx.dv_at]
 simp [List.range_succ,qv.byte]
theorem zx.at_alloc (w:World) (o1 o2:Obj):((w.alloc o1).alloc o2).heap[w.heap.size+1]? = some o2:=by
 have h:((w.heap.push o1).push o2)[w.heap.size+1]? = some o2:=by
  rw [show w.heap.size+1=(w.heap.push o1).size by simp,Array.getElem?_push_size]
 exact h
theorem zx.at_old (w:World) (o:Obj) (j:Nat) (hj:j<w.heap.size):(w.alloc o).heap[j]? = w.heap[j]? := by
 have h:(w.heap.push o)[j]? = w.heap[j]? := by
  rw [Array.getElem?_push,if_neg (by omega)]
 exact h
theorem zx.at_alloc1 (w:World) (o1:Obj):(w.alloc o1).heap[w.heap.size]? = some o1:=by
 have h:(w.heap.push o1)[w.heap.size]? = some o1:=by simp
 exact h
theorem zx.xor63 (m:Nat) (h:m<9223372036854775808):9223372036854775808+m=9223372036854775808 ^^^ m:=by
 have e:=Nat.two_pow_add_eq_or_of_lt (i:=63) (b:=m) (by simpa using h)
 have e1:=e 1
 rw [show(2:Nat) ^ 63=9223372036854775808 from rfl,Nat.mul_one] at e1
 rw [e1]
 apply Nat.eq_of_testBit_eq
 intro i
 rw [Nat.testBit_or,Nat.testBit_xor,show(9223372036854775808:Nat)=2 ^ 63 from rfl,Nat.testBit_two_pow]
 by_cases hi:63=i
 ·subst hi
  rw [Nat.testBit_lt_two_pow (by simpa using h)]
  simp
 simp [hi]
theorem zx.xor_add (m:Int) (h0:0≤m) (h1:m<18446744073709551616):Go.bits .xor .u64 m 9223372036854775808=IntKind.u64.wrap (m+9223372036854775808):=by
 rw [IntKind.wrap_u64 (m+9223372036854775808)]
 obtain ⟨n,rfl⟩:=Int.eq_ofNat_of_zero_le h0
 show IntKind.u64.wrap ((BitVec.ofInt 64 ((n:Nat):Int) ^^^ BitVec.ofInt 64 ((9223372036854775808:Nat):Int)).toNat:Int)=_
 rw [BitVec.ofInt_natCast,BitVec.ofInt_natCast,BitVec.toNat_xor,BitVec.toNat_ofNat,BitVec.toNat_ofNat,Nat.mod_eq_of_lt (by omega),Nat.mod_eq_of_lt (by omega)]
 by_cases hn:n<9223372036854775808
 ·rw [Nat.xor_comm, ← zx.xor63 n hn,IntKind.wrap_u64]
  omega
 obtain ⟨m,rfl⟩:∃ m,n=9223372036854775808+m:=⟨n - 9223372036854775808,by omega⟩
 rw [zx.xor63 m (by omega),Nat.xor_comm, ← Nat.xor_assoc,Nat.xor_self,Nat.zero_xor, ← zx.xor63 m (by omega),IntKind.wrap_u64]
 omega
theorem zx.at_ {w:World} {A:Option Addr} {l:List S38} (h:Kd.C k38 w A l.length l) (h0:0<l.length):∃ b o,A=some ⟨b,o,none⟩ ∧ ∀ (i:Nat) (hi:i<l.length),
  w.cell? ⟨b,o+i * 3,none⟩=some (.int .i64 l[i].f0)∧w.cell? ⟨b,o+i * 3+1,none⟩=some (.int .i64 l[i].f1)∧w.cell? ⟨b,o+i * 3+2,none⟩=some (.string l[i].f2):=by
 obtain ⟨ad,rfl,g0,_⟩:=zxq h 0 (by omega) (by omega)
 have hs:ad.spot=none:=by
  cases hsp:ad.spot with
  | none=>rfl
  | some s=>
   exfalso
   rw [show ad.add ((0:Int).toNat * 3)=ad from by simp [Addr.add]] at g0
   unfold World.cell? at g0
   split at g0
   ·rw [hsp] at g0
    simp at g0
   cases g0
 obtain ⟨b,o,sp⟩:=ad
 dsimp only at hs
 subst hs
 refine⟨b,o,rfl,fun i hi=>?_⟩
 obtain ⟨ad,e,g0,g1,g2⟩:=zxq h (i:Int) (by omega) (by omega)
 cases e
 have ee:qf l (i:Int)=l[i]:=by simp [qf,List.getD_eq_getElem?_getD,hi]
 have ha:(⟨b,o,none⟩:Addr).add ((i:Int).toNat * 3)=⟨b,o+i * 3,none⟩:=by rw [Int.toNat_natCast];unfold Addr.add;split <;> simp_all
 rw [ee] at g0 g1 g2
 rw [ha] at g0 g1 g2
 exact⟨g0,g1,g2⟩
set_option maxRecDepth 100000 in
set_option maxHeartbeats 8000000 in
theorem zx.calls (k:Nat) (A0:Option Addr) (c0:Nat) (l0:List S38) (r1:List Int) (r2:Int) (w:World) (hr0:Kd.C k38 w A0 l0.length l0) (hc0:l0.length≤c0) (h:zx.f k l0=some (r1,r2)) :
  Calls Tryd.prog 63 #[.slice A0 l0.length c0] w fun e w' => ∃ v0_:Value,e = .returned (.tuple #[v0_,.int .i64 r2])∧Kd.R (Kd.int .u8) 5 w' w.heap.size (fun _=>True) v0_ r1∧Below w.heap.size w w':=by
 have hm:=hr0.2.1
 have HR:=zq.mk hr0
 clear hr0
 unfold zx.f at h
 by_cases hbig:(l0.length:Int) > 14
 ·rw [if_pos hbig] at h
  obtain ⟨rfl,rfl⟩:r1 = []∧r2=1:=by simpa [eq_comm] using h
  clear h
  go_enter Tryd.func63,Tryd.ntmps63
  go_wp2
  go_ret2
  exact⟨_,rfl,Kd.zxf _ _ _ _ _,Below.refl _ _⟩
 rw [if_neg hbig] at h
 obtain ⟨e0,hf,h⟩:=Option.bind_eq_some_iff.1 h
 have HF:=zq.mk hf
 have HG:=zq.mk h
 clear hf h
 go_enter Tryd.func63,Tryd.ntmps63
 go_wp2
 go_loopw [5,6,19] (fun _ _ i wr => ∃ j:Nat,j≤l0.length∧i = .int .i64 j∧zq (zx.faults k (l0.drop j)=some e0)∧zq (Below w.heap.size w wr)) (fun _ _ i _=>l0.length - (intOf i).toNat)
 case atStart=>exact⟨0,by omega,rfl,HF,⟨Below.refl _ _⟩⟩
 case round=>
  clear HF
  obtain ⟨j,hj,rfl,HS,HB⟩:=hrel
  by_cases hlt:j<l0.length
  ·obtain ⟨b,o,rfl,hcs⟩:=zx.at_ HR.out (by omega)
   obtain ⟨p0,p1,p2⟩:=hcs j hlt
   have hg:=HS.out
   rw [List.drop_eq_getElem_cons hlt,zx.faults] at hg
   obtain ⟨c,hck,hg2⟩:=Option.bind_eq_some_iff.1 hg
   clear hg HS hcs
   generalize l0[j]=x at *
   replace p0:=zqw HB.out p0
   replace p1:=zqw HB.out p1
   replace p2:=zqw HB.out p2
   have HCK:=zq.mk hck
   clear hck
   by_cases hc:c=0
   ·subst hc
    rw [if_pos rfl] at hg2
    have HS:=zq.mk hg2
    clear hg2
    go_wp2_with (go_at_call 61;refine(zc.calls k x.f0 x.f1 x.f2 0 _ HCK.out).mono ?_;rintro e w1 ⟨rfl,hb⟩;have HB1:=zq.mk ((zl HB.out _).trans (hb.mono (zl HB.out _).size));clear hb)
    go_roundw
    case rel=>exact⟨j+1,by omega,by go_num,HS,HB1⟩
    case measure=>simp [intOf];omega
   rw [if_neg hc] at hg2
   obtain rfl:=Option.some.inj hg2
   have hh:=HG.out
   rw [if_neg hc] at hh
   obtain ⟨rfl,rfl⟩:r1 = []∧r2=c:=by simpa [eq_comm] using hh
   have hq:(r2 != 0)=true:=by simpa using hc
   clear hg2 hh
   go_wp2_with (go_at_call 61;refine(zc.calls k x.f0 x.f1 x.f2 r2 _ HCK.out).mono ?_;rintro e w1 ⟨rfl,hb⟩;have HB1:=zq.mk ((zl HB.out _).trans (hb.mono (zl HB.out _).size));clear hb)
   go_ret2
   exact⟨_,rfl,Kd.zxf _ _ _ _ _,HB1.out⟩
  obtain rfl:j=l0.length:=by omega
  have hg:=HS.out
  rw [List.drop_length,zx.faults] at hg
  obtain rfl:=Option.some.inj hg
  clear hg HS
  have hh:=HG.out
  rw [if_pos rfl] at hh
  split at hh
  case isFalse=>cases hh
  rename_i hlm
  obtain ⟨rfl,rfl⟩:r1=zx.encs l0∧r2=0:=by simpa [eq_comm] using hh
  have LM:=zq.mk hlm
  clear hh hlm HG
  go_wp2
  go_loopw [7,9,10,11,12,13,32] (fun o _ _ _ _ _ i wr => ∃ j:Nat,j≤l0.length∧i = .int .i64 j∧zq (Kd.R (Kd.int .u8) 5 wr w.heap.size (fun _=>True) o (zx.encs (l0.take j)))∧zq (Below w.heap.size w wr)) (fun _ _ _ _ _ _ i _=>l0.length - (intOf i).toNat)
  case atStart=>exact⟨0,by omega,rfl,⟨⟨fun _ _=>trivial, [],World.ownsRow_made wr #[] 0 (zw HB.out) (Nat.zero_le _) (by simp),Reps.none _ _⟩⟩,⟨zl HB.out _⟩⟩
  case round=>
   clear HB
   obtain ⟨j,hj,rfl,HO,HB⟩:=hrel
   by_cases hlt:j<l0.length
   ·obtain ⟨b,o,rfl,hcs⟩:=zx.at_ HR.out (by omega)
    obtain ⟨p0,p1,p2⟩:=hcs j hlt
    clear hcs
    have hes:=zx.encs_take l0 j hlt
    have hle:=zx.encs_le l0 (j+1)
    rw [hes,List.length_append] at hle
    have LX:=zq.mk (show(zx.encs (l0.take j)).length+(qv.enc l0[j].f0 l0[j].f1 l0[j].f2).length<140737488355328 by have h_:=LM.out;omega)
    have HES:=zq.mk hes
    clear hes hle
    generalize l0[j]=x at *
    generalize zx.encs (l0.take j)=ys at *
    replace p0:=zqw HB.out p0
    replace p1:=zqw HB.out p1
    replace p2:=zqw HB.out p2
    by_cases h0:x.f0=0
    ·have he:qv.enc x.f0 x.f1 x.f2 = [1]:=by rw [h0];rfl
     rw [he] at LX HES
     rw [h0] at p0
     have LY:=zq.mk (show ys.length+1<140737488355328 from LX.out)
     clear LX he
     go_wp2_with (at_builtin;refine Kd.zjj (Kd.int .u8) (w0:=w) w.heap.size rfl _ _ 30 5 (.int .u8 0) 1 rfl Tryd.underlying30 zxr rfl (by decide) (by omega) u7 (ys) ?np1 _ (fun _=>True) (fun _=>False) rfl ?hx ?aP (fun _ hk=>hk.elim) ?aF ?aO ?aB ?aS ?aL ?_;(case aP=>exact rfl);(case hx=>first|exact rfl|(simp [go_sem];done));(case aO=>(with_reducible repeat(first|apply Kd.zq5|apply Kd.zq7|apply Kd.zjf));exact HO.out);(case aB=>exact bw);(case aF=>exact(fun _ _=>trivial));(case aS=>exact(zw bw));(case aL=>have:=LY.out;omega);intro v1 w1 ho hb hg hat;have n0_:=zq.mk hb;have n1_:=zq.mk ho;clear HB HO;have HB:=n0_;have HO:=n1_;clear n0_ n1_ ho hb hg hat)
     go_roundw
     case rel=>exact⟨j+1,by omega,by go_num,⟨by rw [HES.out];exact HO.out⟩,HB⟩
     case measure=>simp [intOf];omega
    by_cases h1:x.f0=1
    ·have he:qv.enc x.f0 x.f1 x.f2 = [(2+x.f1) % 256]:=by rw [h1];rfl
     rw [he] at LX HES
     rw [h1] at p0
     have LY:=zq.mk (show ys.length+1<140737488355328 from LX.out)
     clear LX he
     go_wp2_with (at_builtin;refine Kd.zjj (Kd.int .u8) (w0:=w) w.heap.size rfl _ _ 30 5 (.int .u8 0) 1 rfl Tryd.underlying30 zxr rfl (by decide) (by omega) u7 (ys) ?np2 _ (fun _=>True) (fun _=>False) rfl ?hx ?aP (fun _ hk=>hk.elim) ?aF ?aO ?aB ?aS ?aL ?_;(case aP=>exact rfl);(case hx=>first|exact rfl|(simp [go_sem];done));(case aO=>(with_reducible repeat(first|apply Kd.zq5|apply Kd.zq7|apply Kd.zjf));exact HO.out);(case aB=>exact bw);(case aF=>exact(fun _ _=>trivial));(case aS=>exact(zw bw));(case aL=>have:=LY.out;omega);intro v2 w2 ho hb hg hat;have n0_:=zq.mk hb;have n1_:=zq.mk ho;clear HB HO;have HB:=n0_;have HO:=n1_;clear n0_ n1_ ho hb hg hat)
     go_roundw
     case rel=>exact⟨j+1,by omega,by go_num,⟨by rw [HES.out,show(2+x.f1) % 256=wrap64 (2+x.f1) % 256 by unfold wrap64;omega];exact HO.out⟩,HB⟩
     case measure=>simp [intOf];omega
    by_cases h2:x.f0=2
    ·have he:qv.enc x.f0 x.f1 x.f2=4 :: qv.bytes (IntKind.u64.wrap (IntKind.u64.wrap x.f1+9223372036854775808)) 8:=by rw [h2, ← zx.xor_add _ (by rw [IntKind.wrap_u64];omega) (by rw [IntKind.wrap_u64];omega)];rfl
     rw [he] at LX HES
     rw [h2] at p0
     have LY:=zq.mk (show ys.length+9<140737488355328 by have h_:=LX.out;rw [List.length_cons,qv.zjx] at h_;exact h_)
     clear LX he
     have hn0:=wrap_u64_nonneg (IntKind.u64.wrap x.f1+9223372036854775808)
     have hn1:IntKind.u64.wrap (IntKind.u64.wrap x.f1+9223372036854775808)<18446744073709551616:=by rw [IntKind.wrap_u64 (IntKind.u64.wrap x.f1+9223372036854775808)];omega
     go_wp2
     generalize hN:IntKind.u64.wrap (IntKind.u64.wrap x.f1+9223372036854775808)=n at *
     go_loopw [10,12] (fun nn i W => ∃ q:Nat,q≤8∧i = .int .i64 (7 - (q:Int))∧nn = .int .u64 (zx.dv n q)∧zq (W=(wr.alloc (.cells #[.int .i64 2,.int .i64 x.f1,.string x.f2] 38)).alloc (.cells (zx.digs n q) 127))) (fun _ i _=>(intOf i+1).toNat)
     case atStart=>exact⟨0,by omega,rfl,rfl,⟨rfl⟩⟩
     case round=>
      obtain ⟨q,hq,rfl,rfl,HW⟩:=hrel
      obtain rfl:=HW.out
      clear HW
      have hdq:=zx.dv_pos hn0 q
      have hq':q=0∨q=1∨q=2∨q=3∨q=4∨q=5∨q=6∨q=7∨q=8:=by omega
      rcases hq' with rfl|rfl|rfl|rfl|rfl|rfl|rfl|rfl|rfl
      ·go_wp2
       go_roundw
       case rel=>exact⟨1,by omega,by go_num,by rw [zx.zku hn0 hn1],⟨by simp [go_sem,zx.digs]⟩⟩
       case measure=>simp [intOf]
      ·go_wp2
       go_roundw
       case rel=>exact⟨2,by omega,by go_num,by rw [zx.zku hn0 hn1],⟨by simp [go_sem,zx.digs]⟩⟩
       case measure=>simp [intOf]
      ·go_wp2
       go_roundw
       case rel=>exact⟨3,by omega,by go_num,by rw [zx.zku hn0 hn1],⟨by simp [go_sem,zx.digs]⟩⟩
       case measure=>simp [intOf]
      ·go_wp2
       go_roundw
       case rel=>exact⟨4,by omega,by go_num,by rw [zx.zku hn0 hn1],⟨by simp [go_sem,zx.digs]⟩⟩
       case measure=>simp [intOf]
      ·go_wp2
       go_roundw
       case rel=>exact⟨5,by omega,by go_num,by rw [zx.zku hn0 hn1],⟨by simp [go_sem,zx.digs]⟩⟩
       case measure=>simp [intOf]
      ·go_wp2
       go_roundw
       case rel=>exact⟨6,by omega,by go_num,by rw [zx.zku hn0 hn1],⟨by simp [go_sem,zx.digs]⟩⟩
       case measure=>simp [intOf]
      ·go_wp2
       go_roundw
       case rel=>exact⟨7,by omega,by go_num,by rw [zx.zku hn0 hn1],⟨by simp [go_sem,zx.digs]⟩⟩
       case measure=>simp [intOf]
      ·go_wp2
       go_roundw
       case rel=>exact⟨8,by omega,by go_num,by rw [zx.zku hn0 hn1],⟨by simp [go_sem,zx.digs]⟩⟩
       case measure=>simp [intOf]
      have HD:((wr.alloc (.cells #[.int .i64 2,.int .i64 x.f1,.string x.f2] 38)).alloc (.cells (zx.digs n 8) 127)).heap[wr.heap.size+1]? = some (.cells ((qv.bytes n 8).map (Value.int .u8)).toArray 127 (0,0)):=by rw [zx.bytes8];exact zx.at_alloc wr _ _
      have HO2:=zq.mk (Kd.zqy (Kd.zxc (Kd.zq5 (Kd.zq5 (Kd.zqy (Kd.zxc HO.out) (fun k hk=>show k≠wr.heap.size+1 by have:=hk.2.2.1;omega)) (.cells #[.int .i64 2,.int .i64 x.f1,.string x.f2] 38)) (.cells (zx.digs n 8) 127))) (fun k hk=>hk.1))
      have HB2:=zq.mk (zl (zl HB.out (.cells #[.int .i64 2,.int .i64 x.f1,.string x.f2] 38)) (.cells (zx.digs n 8) 127))
      have GT:wr.heap.size+1<((wr.alloc (.cells #[.int .i64 2,.int .i64 x.f1,.string x.f2] 38)).alloc (.cells (zx.digs n 8) 127)).heap.size:=by simp
      generalize hW:(wr.alloc (.cells #[.int .i64 2,.int .i64 x.f1,.string x.f2] 38)).alloc (.cells (zx.digs n 8) 127)=W at *
      have HDA:=zq.mk HD
      have GTA:=zq.mk GT
      clear hW HD GT HO HB
      go_wp2
      go_region_law (first
       | (refine Kd.zkh (Kd.int .u8) (w0:=w) w.heap.size (by simp [Region.wanted]) (.tmp 70) (.tmp 71) 30 5 (.int .u8 0) 1 rfl Tryd.underlying30 zxr rfl (by decide) (by omega) u7 ys [4] (some ⟨W.heap.size,0,none⟩) 1 1 (fun k_=>k_≠wr.heap.size+1) (fun _=>False) rfl ?hx ?aO ?aR (fun _ _ h=>h) (fun _ h=>h.elim) ?aF ?aB ?aS ?aL ?_;(case hx=>first|exact rfl|(simp [go_sem];done));(case aO=>(with_reducible repeat(first|apply Kd.zq5|apply Kd.zq7|apply Kd.zjf));exact HO2.out);(case aR=>exact zx.lits (cs := [4]) (t:=5) (fr:=(0,0)) (zx.at_alloc1 W (.cells #[.int .u8 4] 5)));(case aB=>exact(by repeat(first|(with_reducible first|exact HB2.out|apply zl|apply zr|apply qx)|exact HB2.out)));(case aF=>intro k_ h_;have h1_:=GTA.out;simp at h_;omega);(case aS=>exact zw (by repeat(first|(with_reducible first|exact HB2.out|apply zl|apply zr|apply qx)|exact HB2.out)));(case aL=>have:=LY.out;omega);intro v3 w3 ho hb hg hat;have HD3:=zq.mk ((hg.block (wr.heap.size+1) (by have h_:=GTA.out;simp;omega) (fun e_=>HO2.out.1 _ e_.symm rfl)).trans ((zx.at_old W (.cells #[.int .u8 4] 5) _ GTA.out).trans HDA.out));have HO3:=zq.mk ho;have HB3:=zq.mk hb;clear ho hb hg hat)
       | (refine Kd.zkh (Kd.int .u8) (w0:=w) w.heap.size (by simp [Region.wanted]) (.tmp 72) (.tmp 73) 30 5 (.int .u8 0) 1 rfl Tryd.underlying30 zxr rfl (by decide) (by omega) v3 (ys ++ [4]) (qv.bytes n 8) (some ⟨wr.heap.size+1,0,none⟩) 8 8 (fun _=>True) (fun _=>False) rfl ?hx ?aO ?aR (fun _ _ h=>h) (fun _ h=>h.elim) (fun _ _=>trivial) ?aB ?aS ?aL ?_;(case hx=>first|exact rfl|(simp [go_sem];done));(case aO=>first|exact Kd.zqy HO3.out (fun _ _=>trivial)|exact Kd.zjf (Kd.zqy HO3.out (fun _ _=>trivial)));(case aR=>exact zx.lits HD3.out (by rw [qv.zjx];decide));(case aB=>first|exact HB3.out|exact qx HB3.out);(case aS=>first|exact zw HB3.out|(have h_:=zw HB3.out;simpa using h_));(case aL=>have:=LY.out;simp only [List.length_append,List.length_cons,List.length_nil];omega);intro v4 w4 ho hb hg hat;have HO4:=zq.mk ho;have HB4:=zq.mk hb;clear ho hb hg hat))
      go_wp2
      go_roundw
      case rel=>exact⟨j+1,by omega,by go_num,⟨by rw [HES.out];have h_:=HO4.out;rw [List.append_assoc] at h_;exact h_⟩,HB4⟩
      case measure=>simp [intOf];omega
    have he:qv.enc x.f0 x.f1 x.f2=5 :: (qv.esc (bytesOf x.f2) ++ [0,1]):=by unfold qv.enc;rw [if_neg h0,if_neg h1,if_neg h2]
    rw [he] at LX HES
    have LZ:=zq.mk (show ys.length+(qv.esc (bytesOf x.f2)).length+3<140737488355328 by have h_:=LX.out;rw [List.length_cons,List.length_append] at h_;simp at h_;omega)
    have hs:x.f2.size≤140737488355328:=by
     have h_:=qv.esc_ge (bytesOf x.f2)
     rw [bytesOf_length] at h_
     have:=LZ.out
     omega
    have q0:(x.f0 == 0)=false:=by simpa using h0
    have q1:(x.f0 == 1)=false:=by simpa using h1
    have q2:(x.f0 == 2)=false:=by simpa using h2
    have HO1:=zq.mk (Kd.zqy (Kd.zxc HO.out) (fun k hk=>show k≠wr.heap.size from Nat.ne_of_lt hk.2.2.1))
    clear LX he HO
    have HO:=HO1
    clear HO1
    generalize x.f2=s at *
    go_wp2_with (at_builtin;refine Kd.zjj (Kd.int .u8) (w0:=w) w.heap.size rfl _ _ 30 5 (.int .u8 0) 1 rfl Tryd.underlying30 zxr rfl (by decide) (by omega) u7 (ys) ?np5 _ (fun k_=>k_≠wr.heap.size) (fun _=>False) rfl ?hx ?aP (fun _ hk=>hk.elim) ?aF ?aO ?aB ?aS ?aL ?_;(case aP=>exact rfl);(case hx=>first|exact rfl|(simp [go_sem];done));(case aO=>(with_reducible repeat(first|apply Kd.zq5|apply Kd.zq7|apply Kd.zjf));exact HO.out);(case aB=>exact bw);(case aF=>exact(fun k_ h_=>by simp at h_;omega));(case aS=>exact(zw bw));(case aL=>have:=LZ.out;omega);intro v5 w5 ho hb hg hat;have hx1:w5.cell? ⟨wr.heap.size,2,none⟩=some (.string s):=(hg.cell_far ⟨wr.heap.size,2,none⟩ (by simp [go_sem]) (fun e_=>HO.out.1 _ e_.symm rfl)).trans (by simp [go_sem]);have GS:=zq.mk (show wr.heap.size<w5.heap.size by have h_:=hg.size;simp at h_;omega);have n0_:=zq.mk hb;have n1_:=zq.mk ho;clear HB HO;have HB:=n0_;have HO:=n1_;clear n0_ n1_ ho hb hg hat)
    obtain ⟨wo,rfl⟩:∃ wo:World,wo=wr:=⟨_,rfl⟩
    go_loopw [7,13] (fun o i W => ∃ q:Nat,q≤s.size∧i = .int .i64 q∧W.cell? ⟨wo.heap.size,2,none⟩=some (.string s)∧zq (Kd.R (Kd.int .u8) 5 W w.heap.size (fun k_=>k_≠wo.heap.size) o (ys ++ [5] ++ qv.esc ((bytesOf s).take q)))∧zq (Below w.heap.size w W)∧zq (wo.heap.size<W.heap.size)) (fun _ i _=>s.size - (intOf i).toNat)
    case atStart=>exact⟨0,by omega,rfl,hx1,⟨by rw [List.take_zero,show qv.esc [] = [] from rfl,List.append_nil];exact HO.out⟩,HB,GS⟩
    case round=>
     clear HO HB GS hx1
     obtain ⟨q,hq,rfl,hx1,HO,HB,GT⟩:=hrel
     by_cases hlq:q<s.size
     ·have hbl:q<(bytesOf s).length:=by rw [bytesOf_length];exact hlq
      have hxc:∀ h:q<s.size,((s[q]'h).toNat:Int)=(bytesOf s)[q]:=by
       intro h
       simp [bytesOf]
       rfl
      have hes:=qv.esc_take (bytesOf s) q hbl
      have hle:=qv.esc_le (bytesOf s) (q+1)
      generalize (bytesOf s)[q]=y at *
      by_cases hx0:y=0
      ·subst hx0
       rw [if_pos rfl] at hes
       rw [hes,List.length_append] at hle
       have HE2:=zq.mk hes
       have LY:=zq.mk (show ys.length+(qv.esc ((bytesOf s).take q)).length+5<140737488355328 by have h_:=LZ.out;simp at hle;omega)
       clear hes hle
       generalize qv.esc ((bytesOf s).take q)=z at *
       go_wp2_with (at_builtin;refine Kd.zka (Kd.int .u8) (w0:=w) w.heap.size rfl _ _ 30 5 (.int .u8 0) 1 rfl Tryd.underlying30 zxr rfl (by decide) (by omega) u7 (ys ++ [5] ++ z) [0,255] _ _ _ (fun k_=>k_≠wo.heap.size) (fun _=>False) rfl rfl ?aO ?aR (fun _ _ h=>h) (fun _ h=>h.elim) ?aF ?aB ?aS ?aL ?_;(case aO=>(with_reducible repeat(first|apply Kd.zq5|apply Kd.zq7|apply Kd.zjf));exact HO.out);(case aR=>exact qv.lit2 (by simp [go_sem]) (by simp [go_sem]));(case aB=>exact bw);(case aF=>exact(fun k_ h_=>by simp at h_;have:=GT.out;omega));(case aS=>exact(zw bw));(case aL=>simp only [List.length_append,List.length_cons,List.length_nil];have:=LY.out;omega);intro v30 w30 ho hb hg hat;have hx2:w30.cell? ⟨wo.heap.size,2,none⟩=some (.string s):=(hg.cell_far ⟨wo.heap.size,2,none⟩ (by have h_:=GT.out;first|exact h_|(simp;omega)) (fun e_=>HO.out.1 _ e_.symm rfl)).trans (by first|exact hx1|exact(World.cell?_alloc_past _ _ _ GT.out).trans hx1);have GT_:=zq.mk (Nat.lt_of_lt_of_le GT.out (show wr.heap.size≤w30.heap.size by have h_:=hg.size;first|exact h_|(simp at h_;omega)));clear GT;have GT:=GT_;clear GT_;have n0_:=zq.mk hb;have n1_:=zq.mk ho;clear HB HO;have HB:=n0_;have HO:=n1_;clear n0_ n1_ ho hb hg hat)
       go_roundw
       case rel=>exact⟨q+1,by omega,by go_num,hx2,⟨by rw [HE2.out];have h_:=HO.out;rw [List.append_assoc (ys ++ [5])] at h_;exact h_⟩,HB,GT⟩
       case measure=>simp [intOf];omega
      rw [if_neg hx0] at hes
      rw [hes,List.length_append] at hle
      have HE2:=zq.mk hes
      have LY:=zq.mk (show ys.length+(qv.esc ((bytesOf s).take q)).length+4<140737488355328 by have h_:=LZ.out;simp at hle;omega)
      clear hes hle
      generalize qv.esc ((bytesOf s).take q)=z at *
      have hq0:(y == 0)=false:=by simpa using hx0
      go_wp2_with (at_builtin;refine Kd.zjj (Kd.int .u8) (w0:=w) w.heap.size rfl _ _ 30 5 (.int .u8 0) 1 rfl Tryd.underlying30 zxr rfl (by decide) (by omega) u7 (ys ++ [5] ++ z) ?np6 _ (fun k_=>k_≠wo.heap.size) (fun _=>False) rfl ?hx ?aP (fun _ hk=>hk.elim) ?aF ?aO ?aB ?aS ?aL ?_;(case aP=>exact rfl);(case hx=>first|exact rfl|(simp [go_sem];done));(case aO=>(with_reducible repeat(first|apply Kd.zq5|apply Kd.zq7|apply Kd.zjf));exact HO.out);(case aB=>exact bw);(case aF=>exact(fun k_ h_=>Nat.ne_of_gt (Nat.lt_of_lt_of_le GT.out h_)));(case aS=>exact(zw bw));(case aL=>simp only [List.length_append,List.length_cons,List.length_nil];have:=LY.out;omega);intro v6 w6 ho hb hg hat;have hx2:w6.cell? ⟨wo.heap.size,2,none⟩=some (.string s):=(hg.cell_far ⟨wo.heap.size,2,none⟩ (by have h_:=GT.out;first|exact h_|(simp;omega)) (fun e_=>HO.out.1 _ e_.symm rfl)).trans (by first|exact hx1|exact(World.cell?_alloc_past _ _ _ GT.out).trans hx1);have GT_:=zq.mk (Nat.lt_of_lt_of_le GT.out (show wr.heap.size≤w6.heap.size by have h_:=hg.size;first|exact h_|(simp at h_;omega)));clear GT;have GT:=GT_;clear GT_;have n0_:=zq.mk hb;have n1_:=zq.mk ho;clear HB HO;have HB:=n0_;have HO:=n1_;clear n0_ n1_ ho hb hg hat)
      go_roundw
      case rel=>exact⟨q+1,by omega,by go_num,hx2,⟨by rw [HE2.out];have h_:=HO.out;rw [List.append_assoc (ys ++ [5])] at h_;exact h_⟩,HB,GT⟩
      case measure=>simp [intOf];omega
     obtain rfl:q=s.size:=by omega
     rw [show(bytesOf s).take s.size=bytesOf s from by rw [← bytesOf_length,List.take_length]] at HO
     go_wp2_with (at_builtin;refine Kd.zka (Kd.int .u8) (w0:=w) w.heap.size rfl _ _ 30 5 (.int .u8 0) 1 rfl Tryd.underlying30 zxr rfl (by decide) (by omega) u7 (ys ++ [5] ++ qv.esc (bytesOf s)) [0,1] _ _ _ (fun k_=>k_≠wo.heap.size) (fun _=>False) rfl rfl ?aO ?aR (fun _ _ h=>h) (fun _ h=>h.elim) ?aF ?aB ?aS ?aL ?_;(case aO=>(with_reducible repeat(first|apply Kd.zq5|apply Kd.zq7|apply Kd.zjf));exact HO.out);(case aR=>exact qv.lit2 (by simp [go_sem]) (by simp [go_sem]));(case aB=>exact bw);(case aF=>exact(fun k_ h_=>by simp at h_;have:=GT.out;omega));(case aS=>exact(zw bw));(case aL=>simp only [List.length_append,List.length_cons,List.length_nil];have:=LZ.out;omega);intro v30 w30 ho hb hg hat;have n0_:=zq.mk hb;have n1_:=zq.mk ho;clear HB HO;have HB:=n0_;have HO:=n1_;clear n0_ n1_ ho hb hg hat)
     go_roundw
     case rel=>exact⟨j+1,by omega,by go_num,⟨by rw [HES.out];have h_:=Kd.zqy HO.out (fun _ _=>trivial);rw [List.append_assoc,List.append_assoc] at h_;exact h_⟩,HB⟩
     case measure=>simp [intOf];omega
   obtain rfl:j=l0.length:=by omega
   rw [List.take_length] at HO
   go_wp2
   go_ret2
   exact⟨_,rfl,HO.out,HB.out⟩

end Go.Proofs.YthhejedfjgikdaaDoor.PRowReads
