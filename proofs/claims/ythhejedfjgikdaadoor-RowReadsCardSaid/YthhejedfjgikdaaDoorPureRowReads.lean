/- row.Read answers as its reference does, at every list of tables, number and entry. No condition beyond the statement's own. -/
import Derived.Test.YthhejedfjgikdaaDoorPRowReadsx24
import Derived.Test.YthhejedfjgikdaaDoorBig
import Derived.Lib.ValidLaws
import Derived.Lib.BytesEntry
import Derived.Laws.Strings
import Derived.Lib.Strings
namespace Go.Proofs.YthhejedfjgikdaaDoor.Pure.RowReadsOf
open Go Go.RowKit Go.Proofs.YthhejedfjgikdaaDoor.PRowReads Go.Proofs.YthhejedfjgikdaaDoorW.PrintWords Go.Proofs.YthhejedfjgikdaaDoorW.PrintLast Go.Proofs.YthhejedfjgikdaaDoor.Bg
set_option linter.unusedVariables false
set_option linter.unusedSimpArgs false
def by8 (t:ByteArray) (i:Nat):Nat:=(t.data.toList.getD i 0).toNat
theorem yx7 (t:ByteArray) (i:Nat):by8 t i<256:=(t.data.toList.getD i 0).toNat_lt
theorem ykx (t:ByteArray) (i:Nat) (h:i<t.size):bt t (i:Int)=(by8 t i:Int):=by
 rw [bt_at' t i h]
 unfold by8
 have:t.data.toList.getD i 0=t[i]:=by
  rw [List.getD_eq_getElem?_getD,List.getElem?_eq_getElem (by simpa using h)]
  simp
  rfl
 rw [this]
def fin3 (code:Int):Int:=if code<2048 then 0 else if 55296≤code∧code≤57343 then 0 else 3
def fin4 (code:Int):Int:=if code<65536 then 0 else if code > 1114111 then 0 else 4
theorem yk8 (t:ByteArray) (code:Int):Big (fun k=>zb.l0 k t 2 code 2) 2:=by
 refine Big.succ ?_
 simp only [zb.l0]
 simp only [if_neg (show ¬ (2:Int)<2 by omega),if_neg (show ¬ (2:Int)=3 by omega),if_neg (show ¬ (2:Int)=4 by omega)]
 exact Big.of _
theorem yk7 (t:ByteArray) (code:Int):Big (fun k=>zb.l0 k t 3 code 3) (fin3 code):=by
 refine Big.succ ?_
 simp only [zb.l0]
 simp only [if_neg (show ¬ (3:Int)<3 by omega),if_true,if_neg (show ¬ (3:Int)=4 by omega)]
 unfold fin3
 by_cases h1:code<2048
 ·simp only [if_pos h1];exact Big.of _
 simp only [if_neg h1]
 by_cases h2:code ≥ 55296
 ·simp only [if_pos h2]
  by_cases h3:code≤57343
  ·simp only [if_pos h3,if_pos (show 55296≤code∧code≤57343 from ⟨h2,h3⟩)];exact Big.of _
  simp only [if_neg h3,if_neg (show ¬ (55296≤code∧code≤57343) by omega)];exact Big.of _
 simp only [if_neg h2,if_neg (show ¬ (55296≤code∧code≤57343) by omega)];exact Big.of _
theorem yk6 (t:ByteArray) (code:Int):Big (fun k=>zb.l0 k t 4 code 4) (fin4 code):=by
 refine Big.succ ?_
 simp only [zb.l0]
 simp only [if_neg (show ¬ (4:Int)<4 by omega),if_neg (show ¬ (4:Int)=3 by omega),if_true]
 unfold fin4
 by_cases h1:code<65536
 ·simp only [if_pos h1];exact Big.of _
 simp only [if_neg h1]
 by_cases h2:code > 1114111
 ·simp only [if_pos h2];exact Big.of _
 simp only [if_neg h2];exact Big.of _
theorem and63:∀ b:Nat,b<256→Go.bits .and .u8 (b:Int) 63=((b % 64:Nat):Int):=by decide +kernel
theorem and31:∀ b:Nat,b<256→Go.bits .and .i64 (b:Int) 31=((b % 32:Nat):Int):=by decide +kernel
theorem and15:∀ b:Nat,b<256→Go.bits .and .i64 (b:Int) 15=((b % 16:Nat):Int):=by decide +kernel
theorem and7:∀ b:Nat,b<256→Go.bits .and .i64 (b:Int) 7=((b % 8:Nat):Int):=by decide +kernel
theorem yql (t:ByteArray) (n i code:Nat) (r:Int) (hi:i<n) (h4:n≤4) (hs:i<t.size) (hc:code≤16777216)
  (h:Big (fun k=>zb.l0 k t (n:Int) ((code * 64+by8 t i % 64:Nat):Int) ((i+1:Nat):Int)) r) :
  Big (fun k=>zb.l0 k t (n:Int) (code:Int) (i:Int)) (if by8 t i<128∨191<by8 t i then 0 else r):=by
 refine Big.succ ?_
 simp only [zb.l0]
 have hb:=yx7 t i
 simp only [if_pos (show(i:Int)<(n:Int) by omega),if_pos (show(0:Int)≤(i:Int) by omega),if_pos (show(i:Int)<(t.size:Int) by omega),ykx t i hs,and63 _ hb]
 have e1:wrap64 ((by8 t i % 64:Nat):Int)=((by8 t i % 64:Nat):Int):=w64 (by omega) (by omega)
 have e2:wrap64 ((code:Int) * 64)=(code:Int) * 64:=w64 (by omega) (by omega)
 have e3:wrap64 ((code:Int) * 64+((by8 t i % 64:Nat):Int))=((code * 64+by8 t i % 64:Nat):Int):=by rw [w64 (by omega) (by omega)];omega
 have e4:wrap64 ((i:Int)+1)=((i+1:Nat):Int):=by rw [w64 (by omega) (by omega)];omega
 simp only [e1,e2,e3,e4]
 by_cases h1:((by8 t i:Nat):Int)<128
 ·simp only [if_pos h1]
  refine(Big.of 0).cast ?_
  rw [if_pos (.inl (by omega))]
 by_cases h2:((by8 t i:Nat):Int) > 191
 ·simp only [if_neg h1,if_pos h2]
  refine(Big.of 0).cast ?_
  rw [if_pos (.inr (by omega))]
 simp only [if_neg h1,if_neg h2]
 refine h.cast ?_
 rw [if_neg (by omega)]
def rsz (n b0 b1 b2 b3:Nat):Int:=
 if b0<128 then 1
 else if 194≤b0∧b0<224 then(if n<2 then 0 else if b1<128∨191<b1 then 0 else 2)
 else if 224≤b0∧b0<240 then(if n<3 then 0 else if b1<128∨191<b1 then 0 else if b2<128∨191<b2 then 0 else fin3 (((b0 % 16 * 64+b1 % 64) * 64+b2 % 64:Nat):Int))
 else if 240≤b0∧b0<245 then(if n<4 then 0 else if b1<128∨191<b1 then 0 else if b2<128∨191<b2 then 0 else if b3<128∨191<b3 then 0 else fin4 ((((b0 % 8 * 64+b1 % 64) * 64+b2 % 64) * 64+b3 % 64:Nat):Int))
 else 0
theorem yk5 (t:ByteArray) (n code:Nat) (hn:n≤4) (h2:2≤n) (r:Int) (h:n≤t.size→Big (fun k=>zb.l0 k t (n:Int) (code:Int) 1) r) :
  Big (fun k=>zb.j2 k t (n:Int) (code:Int)) (if t.size<n then 0 else r):=by
 refine Big.succ (Big.succ ?_)
 simp only [zb.j2,zb.j3]
 simp only [if_neg (show ¬ (n:Int)=0 by omega)]
 by_cases hs:(t.size:Int)<(n:Int)
 ·simp only [decide_eq_true hs,if_true]
  refine(Big.of 0).cast ?_
  rw [if_pos (by omega)]
 simp only [decide_eq_false hs,if_neg (show ¬ (false=true) by decide)]
 refine(h (by omega)).cast ?_
 rw [if_neg (by omega)]
theorem yxu (t:ByteArray):Big (fun k=>zb.j2 k t 0 0) 0:=by
 refine Big.succ (Big.succ ?_)
 simp only [zb.j2,zb.j3,if_true]
 exact Big.of _
set_option maxRecDepth 100000 in
theorem rs_law (t:ByteArray) (h0:0<t.size):Big (fun k=>zb.f k t) (rsz t.size (by8 t 0) (by8 t 1) (by8 t 2) (by8 t 3)):=by
 have hb:=yx7 t 0
 have ew:wrap64 (bt t 0)=(by8 t 0:Int):=by rw [show(0:Int)=((0:Nat):Int) from rfl,ykx t 0 h0,w64 (by omega) (by omega)]
 simp only [zb.f,if_neg (show ¬ (t.size:Int)=0 by omega),if_pos (show(0:Int)<(t.size:Int) by omega),ew]
 unfold rsz
 by_cases c1:by8 t 0<128
 ·simp only [if_pos (show((by8 t 0:Nat):Int)<128 by omega),if_pos c1]
  exact Big.of _
 simp only [if_neg (show ¬ ((by8 t 0:Nat):Int)<128 by omega),if_neg c1]
 by_cases c2:194≤by8 t 0∧by8 t 0<224
 ·simp only [if_pos (show((by8 t 0:Nat):Int) ≥ 194 by omega),decide_eq_true (show((by8 t 0:Nat):Int)<224 by omega),if_pos c2]
  refine Big.succ ?_
  simp only [zb.j0,if_true,and31 _ hb]
  refine yk5 t 2 _ (by omega) (by omega) _ (fun hs=>?_)
  exact yql t 2 1 _ _ (by omega) (by omega) (by omega) (by omega) (yk8 t _)
 simp only [if_neg c2]
 by_cases c3:224≤by8 t 0∧by8 t 0<240
 ·simp only [if_pos (show((by8 t 0:Nat):Int) ≥ 194 by omega),decide_eq_false (show ¬ ((by8 t 0:Nat):Int)<224 by omega),if_pos c3]
  refine Big.succ (Big.succ ?_)
  simp only [zb.j0,zb.j1,if_neg (show ¬ (false=true) by decide),if_pos (show((by8 t 0:Nat):Int) ≥ 224 by omega),decide_eq_true (show((by8 t 0:Nat):Int)<240 by omega),if_true,and15 _ hb]
  refine yk5 t 3 _ (by omega) (by omega) _ (fun hs=>?_)
  exact yql t 3 1 _ _ (by omega) (by omega) (by omega) (by omega) (yql t 3 2 _ _ (by omega) (by omega) (by omega) (by omega) (yk7 t _))
 simp only [if_neg c3]
 by_cases c4:240≤by8 t 0∧by8 t 0<245
 ·simp only [if_pos (show((by8 t 0:Nat):Int) ≥ 194 by omega),decide_eq_false (show ¬ ((by8 t 0:Nat):Int)<224 by omega),if_pos c4]
  refine Big.succ (Big.succ ?_)
  simp only [zb.j0,zb.j1,if_neg (show ¬ (false=true) by decide),if_pos (show((by8 t 0:Nat):Int) ≥ 224 by omega),decide_eq_false (show ¬ ((by8 t 0:Nat):Int)<240 by omega),if_pos (show((by8 t 0:Nat):Int) ≥ 240 by omega),if_pos (show((by8 t 0:Nat):Int)<245 by omega),and7 _ hb]
  refine yk5 t 4 _ (by omega) (by omega) _ (fun hs=>?_)
  exact yql t 4 1 _ _ (by omega) (by omega) (by omega) (by omega) (yql t 4 2 _ _ (by omega) (by omega) (by omega) (by omega) (yql t 4 3 _ _ (by omega) (by omega) (by omega) (by omega) (yk6 t _)))
 simp only [if_neg c4]
 by_cases c5:((by8 t 0:Nat):Int) ≥ 194
 ·simp only [if_pos c5,decide_eq_false (show ¬ ((by8 t 0:Nat):Int)<224 by omega)]
  refine Big.succ (Big.succ ?_)
  simp only [zb.j0,zb.j1,if_neg (show ¬ (false=true) by decide),if_pos (show((by8 t 0:Nat):Int) ≥ 224 by omega),decide_eq_false (show ¬ ((by8 t 0:Nat):Int)<240 by omega),if_pos (show((by8 t 0:Nat):Int) ≥ 240 by omega),if_neg (show ¬ ((by8 t 0:Nat):Int)<245 by omega)]
  exact yxu t
 simp only [if_neg c5]
 refine Big.succ (Big.succ ?_)
 simp only [zb.j0,zb.j1,if_neg (show ¬ (false=true) by decide),if_neg (show ¬ ((by8 t 0:Nat):Int) ≥ 224 by omega),if_neg (show ¬ ((by8 t 0:Nat):Int) ≥ 240 by omega)]
 exact yxu t
theorem yxt (n b0 b1 b2 b3:Nat) (h0:128≤b0) (h0':b0<256):Lib.checkN n b1 b2 b3 (Lib.firstT b0 % 8) (Lib.accLo (Lib.firstT b0 / 16)) (Lib.accHi (Lib.firstT b0 / 16))=if rsz n b0 b1 b2 b3=0 then none else some (rsz n b0 b1 b2 b3).toNat:=by
 by_cases c0:b0<194
 ·simp [Lib.firstT,Lib.checkN,rsz,show ¬ b0<128 by omega,c0,show ¬ 194≤b0 by omega,show ¬ 224≤b0 by omega,show ¬ 240≤b0 by omega]
 by_cases c1:b0<224
 ·have e1:Lib.firstT b0=2:=by simp [Lib.firstT,show ¬ b0<128 by omega,c0,c1]
  rw [e1]
  unfold rsz Lib.checkN
  simp only [show(2:Nat) % 8=2 from rfl,show(2:Nat) / 16=0 from rfl,show Lib.accLo 0=128 by decide,show Lib.accHi 0=191 by decide,if_true,if_neg (show ¬ b0<128 by omega),if_pos (show 194≤b0∧b0<224 by omega)]
  repeat' split
  all_goals first|rfl|(exfalso;omega)
 by_cases c2:b0<240
 ·obtain ⟨e,lo,hi,he,hlo,hhi,hcase⟩:∃ e lo hi,Lib.firstT b0 % 8=3∧Lib.accLo (Lib.firstT b0 / 16)=lo∧Lib.accHi (Lib.firstT b0 / 16)=hi∧e=0∧((b0=224∧lo=160∧hi=191)∨(b0=237∧lo=128∧hi=159)∨(b0≠224∧b0≠237∧lo=128∧hi=191)):=by
   refine⟨0,Lib.accLo (Lib.firstT b0 / 16),Lib.accHi (Lib.firstT b0 / 16),?_,rfl,rfl,rfl,?_⟩
   ·by_cases d1:b0=224
    ·subst d1;decide
    by_cases d2:b0<237
    ·simp [Lib.firstT,show ¬ b0<128 by omega,c0,c1,d1,d2]
    by_cases d3:b0=237
    ·subst d3;decide
    simp [Lib.firstT,show ¬ b0<128 by omega,c0,c1,d1,d2,d3,c2]
   by_cases d1:b0=224
   ·subst d1;exact .inl ⟨rfl,by decide,by decide⟩
   by_cases d2:b0<237
   ·exact .inr (.inr ⟨d1,by omega,by simp [Lib.firstT,Lib.accLo,show ¬ b0<128 by omega,c0,c1,d1,d2],by simp [Lib.firstT,Lib.accHi,show ¬ b0<128 by omega,c0,c1,d1,d2]⟩)
   by_cases d3:b0=237
   ·subst d3;exact .inr (.inl ⟨rfl,by decide,by decide⟩)
   exact .inr (.inr ⟨d1,d3,by simp [Lib.firstT,Lib.accLo,show ¬ b0<128 by omega,c0,c1,d1,d2,d3,c2],by simp [Lib.firstT,Lib.accHi,show ¬ b0<128 by omega,c0,c1,d1,d2,d3,c2]⟩)
  obtain ⟨he0,hcase⟩:=hcase
  rw [he,hlo,hhi]
  unfold rsz Lib.checkN fin3
  simp only [if_neg (show ¬ b0<128 by omega),if_neg (show ¬ (194≤b0∧b0<224) by omega),if_pos (show 224≤b0∧b0<240 by omega),if_neg (show ¬ (3:Nat)=2 by omega),if_true]
  repeat' split
  all_goals first|rfl|(exfalso;omega)
 by_cases c3:b0<245
 ·obtain ⟨lo,hi,he,hlo,hhi,hcase⟩:∃ lo hi,Lib.firstT b0 % 8=4∧Lib.accLo (Lib.firstT b0 / 16)=lo∧Lib.accHi (Lib.firstT b0 / 16)=hi∧((b0=240∧lo=144∧hi=191)∨(b0=244∧lo=128∧hi=143)∨(b0≠240∧b0≠244∧lo=128∧hi=191)):=by
   refine⟨Lib.accLo (Lib.firstT b0 / 16),Lib.accHi (Lib.firstT b0 / 16),?_,rfl,rfl,?_⟩
   ·have:b0=240∨b0=241∨b0=242∨b0=243∨b0=244:=by omega
    rcases this with rfl|rfl|rfl|rfl|rfl <;> decide
   have:b0=240∨b0=241∨b0=242∨b0=243∨b0=244:=by omega
   rcases this with rfl|rfl|rfl|rfl|rfl <;> decide
  rw [he,hlo,hhi]
  unfold rsz Lib.checkN fin4
  simp only [if_neg (show ¬ b0<128 by omega),if_neg (show ¬ (194≤b0∧b0<224) by omega),if_neg (show ¬ (224≤b0∧b0<240) by omega),if_pos (show 240≤b0∧b0<245 by omega),if_neg (show ¬ (4:Nat)=2 by omega),if_neg (show ¬ (4:Nat)=3 by omega),if_true]
  repeat' split
  all_goals first|rfl|(exfalso;omega)
 have e1:Lib.firstT b0 % 8=1:=by
  have h:=h0'
  simp [Lib.firstT,show ¬ b0<128 by omega,c0,c1,show ¬ b0=224 by omega,show ¬ b0<237 by omega,show ¬ b0=237 by omega,c2,show ¬ b0=240 by omega,show ¬ b0<244 by omega,show ¬ b0=244 by omega]
 rw [e1]
 unfold rsz Lib.checkN
 simp only [if_neg (show ¬ b0<128 by omega),if_neg (show ¬ (194≤b0∧b0<224) by omega),if_neg (show ¬ (224≤b0∧b0<240) by omega),if_neg (show ¬ (240≤b0∧b0<245) by omega),if_neg (show ¬ (1:Nat)=2 by omega),if_neg (show ¬ (1:Nat)=3 by omega),if_neg (show ¬ (1:Nat)=4 by omega),if_true]
theorem rsz_le (n b0 b1 b2 b3:Nat) (h1:1≤n):0≤rsz n b0 b1 b2 b3∧rsz n b0 b1 b2 b3≤n:=by
 unfold rsz fin3 fin4
 repeat' split
 all_goals omega
theorem yxp (t:ByteArray) (h0:0<t.size):Lib.validD t.data.toList=if rsz t.size (by8 t 0) (by8 t 1) (by8 t 2) (by8 t 3)=0 then false else Lib.validD (t.data.toList.drop (rsz t.size (by8 t 0) (by8 t 1) (by8 t 2) (by8 t 3)).toNat):=by
 have hl:t.data.toList.length=t.size:=by simp
 have hne:t.data.toList ≠ []:=fun h=>by rw [h] at hl;simp at hl;omega
 by_cases hb:by8 t 0<128
 ·have e:rsz t.size (by8 t 0) (by8 t 1) (by8 t 2) (by8 t 3)=1:=by unfold rsz;rw [if_pos hb]
  rw [e,if_neg (by omega)]
  unfold by8 at hb
  obtain ⟨b,r,hbr⟩:=List.exists_cons_of_ne_nil hne
  rw [hbr] at hb ⊢
  exact Lib.validD_cons b r (by simpa using hb)
 rw [Lib.validD_lead _ hne (by unfold by8 at hb;omega),hl]
 have h:=yxt t.size (by8 t 0) (by8 t 1) (by8 t 2) (by8 t 3) (by omega) (yx7 t 0)
 unfold by8 at h ⊢
 rw [h]
 split
 ·rename_i h2
  by_cases hz:rsz t.size (t.data.toList.getD 0 0).toNat (t.data.toList.getD 1 0).toNat (t.data.toList.getD 2 0).toNat (t.data.toList.getD 3 0).toNat=0
  ·rw [if_pos hz]
  rw [if_neg hz] at h2;cases h2
 rename_i k h2
 by_cases hz:rsz t.size (t.data.toList.getD 0 0).toNat (t.data.toList.getD 1 0).toNat (t.data.toList.getD 2 0).toNat (t.data.toList.getD 3 0).toNat=0
 ·rw [if_pos hz] at h2;cases h2
 rw [if_neg hz] at h2 ⊢
 injection h2 with h2
 rw [h2]
theorem yko (s:ByteArray) (i:Nat):(s.extract i s.size).data.toList=s.data.toList.drop i:=by
 simp [ByteArray.data_extract,Array.toList_extract,List.extract]
 rw [List.take_of_length_le (by simp)]
theorem yxr (s:ByteArray) (hs:s.size≤4611686018427387904) (d:Nat):∀ i:Nat,i≤s.size→s.size - i≤d→Big (fun k=>zu.l0 k s (i:Int)) (Lib.validD (s.data.toList.drop i)):=by
 induction d with
 | zero=>
  intro i hi hd
  refine Big.succ ?_
  simp only [zu.l0,if_neg (show ¬ (i:Int)<(s.size:Int) by omega)]
  refine(Big.of true).cast ?_
  rw [List.drop_eq_nil_of_le (by simp;omega)]
  rfl
 | succ d ih=>
  intro i hi hd
  by_cases hlt:i<s.size
  ·refine Big.succ ?_
   simp only [zu.l0,if_pos (show(i:Int)<(s.size:Int) by omega),if_pos (show(0:Int)≤(i:Int) by omega),if_pos (show(i:Int)≤(s.size:Int) by omega),Int.toNat_natCast]
   obtain ⟨t,ht⟩:∃ t,s.extract i s.size=t:=⟨_,rfl⟩
   have hsz:t.size=s.size - i:=by rw [← ht];simp
   have hdr:s.data.toList.drop i=t.data.toList:=by rw [← ht,yko]
   rw [hdr]
   simp only [ht]
   refine Big.bind (rs_law t (by omega)) ?_
   rw [yxp t (by omega)]
   have hle:=rsz_le t.size (by8 t 0) (by8 t 1) (by8 t 2) (by8 t 3) (by omega)
   generalize rsz t.size (by8 t 0) (by8 t 1) (by8 t 2) (by8 t 3)=z at *
   by_cases hz:z=0
   ·simp only [if_pos hz]
    exact Big.of _
   simp only [if_neg hz]
   obtain ⟨zn,rfl⟩:∃ zn:Nat,z=(zn:Int):=⟨z.toNat,by omega⟩
   have ew:wrap64 ((i:Int)+(zn:Int))=((i+zn:Nat):Int):=by rw [w64 (by omega) (by omega)];omega
   simp only [ew]
   refine(ih (i+zn) (by omega) (by omega)).cast ?_
   rw [← hdr,List.drop_drop]
   simp
  refine Big.succ ?_
  simp only [zu.l0,if_neg (show ¬ (i:Int)<(s.size:Int) by omega)]
  refine(Big.of true).cast ?_
  rw [List.drop_eq_nil_of_le (by simp;omega)]
  rfl
theorem yjm (s:ByteArray) (hs:s.size≤4611686018427387904):Big (fun k=>zu.f k s) (Lib.validD s.data.toList):=by
 simpa [zu.f] using yxr s hs s.size 0 (by omega) (by omega)
/-! ### Tokens -/
def ltB (c:Int):Bool:=decide (c=95) || (decide (97≤c) && decide (c≤122))
def dgB (c:Int):Bool:=decide (48≤c) && decide (c≤57)
theorem yq8 (c:Int):zxx.f c=some (ltB c):=by
 unfold zxx.f ltB
 by_cases h1:c=95
 ·rw [if_pos h1];simp [h1]
 rw [if_neg h1]
 by_cases h2:97≤c
 ·rw [if_pos h2];simp [h1,h2]
 rw [if_neg h2];simp [h1,h2]
theorem yjb (c:Int):zxo.f c=some (dgB c):=by
 unfold zxo.f dgB
 by_cases h:48≤c
 ·rw [if_pos h];simp [h]
 rw [if_neg h];simp [h]
def yq9 (s:ByteArray):Nat→Nat→Bool
 | 0,_=>true
 | d+1,i=>(ltB (bt s (i:Int)) || dgB (bt s (i:Int))) && yq9 s d (i+1)
theorem yxm (s:ByteArray) (hs:s.size≤140737488351232):∀ (d i:Nat),s.size - i=d→i≤s.size→Big (fun k=>zqu.l0 k s (s.size:Int) (i:Int)) (yq9 s d i):=by
 intro d
 induction d with
 | zero=>
  intro i hd hi
  refine Big.succ (Big.eq fun k=>?_)
  simp only [zqu.l0]
  rw [if_neg (by omega)]
  rfl
 | succ d ih=>
  intro i hd hi
  have h:=ih (i+1) (by omega) (by omega)
  have hw:wrap64 ((i:Int)+1)=((i+1:Nat):Int):=w64 (by omega) (by omega)
  rw [yq9]
  cases h1:ltB (bt s (i:Int)) with
  | true=>
   refine Big.succ (Big.congr (h.cast (by simp)) fun k=>?_)
   simp only [zqu.l0]
   rw [if_pos (by omega),if_pos (by omega),if_pos (by omega),yq8,h1,Option.bind_some,if_pos rfl,hw]
  | false=>
   cases h2:dgB (bt s (i:Int)) with
   | true=>
    refine Big.succ (Big.congr (h.cast (by simp)) fun k=>?_)
    simp only [zqu.l0]
    rw [if_pos (by omega),if_pos (by omega),if_pos (by omega),yq8,h1,Option.bind_some,if_neg (by decide),yjb,h2,Option.bind_some,if_pos rfl,hw]
   | false=>
    refine Big.succ ((Big.eq (r:=false) fun k=>?_).cast (by simp))
    simp only [zqu.l0]
    rw [if_pos (by omega),if_pos (by omega),if_pos (by omega),yq8,h1,Option.bind_some,if_neg (by decide),yjb,h2,Option.bind_some,if_neg (by decide)]
def yj8 (s:ByteArray):Bool:=decide (1≤s.size) && decide (s.size≤12) && !dgB (bt s 0) && yq9 s s.size 0
theorem yqz (s:ByteArray):s.toList = [] ↔ s.size=0:=by
 rw [ByteArray.toList_eq]
 constructor
 ·intro h
  have:=congrArg List.length h
  simpa using this
 intro h
 apply List.eq_nil_of_length_eq_zero
 simpa using h
theorem yke (s:ByteArray) (hs:s.size≤140737488351232):Big (fun k=>zqu.f k s) (yj8 s):=by
 have jt:Big (fun k=>zqu.j0 k s true) false:=Big.succ (Big.eq fun k=>by simp only [zqu.j0];rw [if_pos trivial])
 unfold zqu.f yj8
 by_cases h0:s.toList = []
 ·have:=(yqz s).1 h0
  refine(Big.congr jt fun k=>by rw [if_pos h0]).cast ?_
  simp [this]
 have h0':s.size≠0:=fun h=>h0 ((yqz s).2 h)
 by_cases h1:(s.size:Int) > 12
 ·refine(Big.congr jt fun k=>by rw [if_neg h0,if_pos h1]).cast ?_
  have:¬ s.size≤12:=by omega
  simp [this]
 cases h2:dgB (bt s 0) with
 | true=>
  refine(Big.congr jt fun k=>?_).cast (by simp)
  rw [if_neg h0,if_neg h1,if_pos (by omega),yjb,h2,Option.bind_some]
 | false=>
  have hw:=yxm s hs s.size 0 (by omega) (by omega)
  refine(Big.congr (g':=fun k=>zqu.j0 k s false) (Big.succ (Big.congr hw fun k=>?_)) fun k=>?_).cast ?_
  ·simp only [zqu.j0]
   rw [if_neg (by decide)]
   rfl
  ·rw [if_neg h0,if_neg h1,if_pos (by omega),yjb,h2,Option.bind_some]
  have a1:1≤s.size:=by omega
  have a2:s.size≤12:=by omega
  simp [a1,a2]
theorem nest (c:Int) (X:Option Bool) (pos:Prop) [Decidable pos]:(if c ≥ 48 then(if c ≥ 97 then(if c≤122 then X else (if c=95 then X else (if c≤57 then(if pos then X else some false) else some false))) else (if c=95 then X else (if c≤57 then(if pos then X else some false) else some false))) else (if c ≥ 97 then(if c≤122 then X else (if c=95 then X else some false)) else (if c=95 then X else some false)))=if(ltB c || (dgB c && decide pos))=true then X else some false:=by
 have h:(ltB c || (dgB c && decide pos))=true ↔ (c=95∨(97≤c∧c≤122))∨((48≤c∧c≤57)∧pos):=by simp [ltB,dgB]
 by_cases hp:pos
 ·by_cases hg:(c=95∨(97≤c∧c≤122))∨((48≤c∧c≤57)∧pos)
  ·rw [if_pos (h.2 hg)]
   simp only [if_pos hp]
   repeat' split
   all_goals first|rfl|(exfalso;omega)
  rw [if_neg (fun e=>hg (h.1 e))]
  simp only [if_pos hp]
  have hg':¬ ((c=95∨(97≤c∧c≤122))∨(48≤c∧c≤57)):=fun e=>hg (e.imp id fun e=>⟨e,hp⟩)
  repeat' split
  all_goals first|rfl|(exfalso;omega)
 by_cases hg:(c=95∨(97≤c∧c≤122))
 ·rw [if_pos (h.2 (.inl hg))]
  simp only [if_neg hp]
  repeat' split
  all_goals first|rfl|(exfalso;omega)
 rw [if_neg (fun e=>(h.1 e).elim hg fun e=>hp e.2)]
 simp only [if_neg hp]
 repeat' split
 all_goals first|rfl|(exfalso;omega)
theorem yje (K I:Int) (s:ByteArray) (hs:s.size≤140737488351232):∀ (d i:Nat),s.size - i=d→1≤i→i≤s.size→Big (fun k=>qz.l0 k (i:Int) K I s) (yq9 s d i):=by
 intro d
 induction d with
 | zero=>
  intro i hd h1 hi
  refine Big.succ (Big.eq fun k=>?_)
  simp only [qz.l0]
  rw [if_neg (by omega)]
  rfl
 | succ d ih=>
  intro i hd h1 hi
  have h:=ih (i+1) (by omega) (by omega) (by omega)
  have hw:wrap64 ((i:Int)+1)=((i+1:Nat):Int):=w64 (by omega) (by omega)
  have hp:decide ((i:Int) > 0)=true:=decide_eq_true (by omega)
  rw [yq9]
  cases hg:(ltB (bt s (i:Int)) || dgB (bt s (i:Int))) with
  | true=>
   refine Big.succ (Big.congr (h.cast (by simp)) fun k=>?_)
   simp only [qz.l0]
   rw [if_pos (by omega),if_pos (by omega),nest,hp,Bool.and_true,hg,if_pos rfl,hw]
  | false=>
   refine Big.succ ((Big.eq (r:=false) fun k=>?_).cast (by simp))
   simp only [qz.l0]
   rw [if_pos (by omega),if_pos (by omega),nest,hp,Bool.and_true,hg,if_neg (by decide)]
theorem yjp (K I:Int) (s:ByteArray) (hs:s.size≤140737488351232) (h1:1≤s.size):Big (fun k=>qz.l0 k 0 K I s) (!dgB (bt s 0) && yq9 s s.size 0):=by
 obtain ⟨d,hd⟩:∃ d,s.size=d+1:=⟨s.size - 1,by omega⟩
 have h:=yje K I s hs d 1 (by omega) (by omega) (by omega)
 have hx:¬ (ltB (bt s 0)=true∧dgB (bt s 0)=true):=by
  simp only [ltB,dgB,Bool.or_eq_true,Bool.and_eq_true,decide_eq_true_eq]
  omega
 rw [hd,yq9]
 show Big _ (!dgB (bt s 0) && ((ltB (bt s 0) || dgB (bt s 0)) && yq9 s d 1))
 cases hg:ltB (bt s 0) with
 | true=>
  have hdg:dgB (bt s 0)=false:=by
   cases e:dgB (bt s 0) with
   | false=>rfl
   | true=>exact(hx ⟨hg,e⟩).elim
  refine Big.succ (Big.congr (h.cast (by simp [hdg])) fun k=>?_)
  simp only [qz.l0]
  rw [if_pos (by omega),if_pos (by omega),nest,hg,Bool.true_or,if_pos rfl,w64 (by omega) (by omega)]
  rfl
 | false=>
  refine Big.succ ((Big.eq (r:=false) fun k=>?_).cast (by cases dgB (bt s 0) <;> simp))
  simp only [qz.l0]
  rw [if_pos (by omega),if_pos (by omega),nest,hg,decide_eq_false (show ¬ ((0:Int) > 0) by omega),Bool.and_false,Bool.or_false,if_neg (by decide)]

/-! ### Marks -/
def yjr (s:ByteArray):Bool := !(s.toList == ([]:List UInt8)) && decide (s.toList ∈ zqs.bytes)
theorem yjq (s m:ByteArray):∃ b,strings_HasPrefix.f s m=some b:=by
 unfold strings_HasPrefix.f stringslite_HasPrefix.f
 by_cases h:(s.size:Int) ≥ (m.size:Int)
 ·rw [if_pos h,if_pos (by omega),if_pos (by omega)]
  exact⟨_,rfl⟩
 rw [if_neg h]
 exact⟨_,rfl⟩
theorem yx0 (s:ByteArray):∀ l,∃ r,zqs.go s l=some r∧(r ∈ l∨r=⟨#[]⟩)
 | []=>⟨_,rfl,.inr rfl⟩
 | m :: l=>by
  obtain ⟨b,hb⟩:=yjq s m
  rw [zqs.go,hb,Option.bind_some]
  cases b with
  | true=>exact⟨m,by rw [if_pos rfl],.inl (List.mem_cons_self ..)⟩
  | false=>
   obtain ⟨r,h1,h2⟩:=yx0 s l
   refine⟨r,by rw [if_neg (by decide)];exact h1,?_⟩
   rcases h2 with h|h
   ·exact .inl (List.mem_cons_of_mem _ h)
   exact .inr h
theorem ykk (l:List UInt8):(⟨l.toArray⟩:ByteArray).toList=l:=by rw [ByteArray.toList_eq]
theorem yvc (s:ByteArray):s=⟨s.toList.toArray⟩:=by
 rw [ByteArray.toList_eq]
theorem yxy:∀ i:Fin 16,zqs.f ⟨(zqs.bytes.getD i.1 []).toArray⟩=some ⟨(zqs.bytes.getD i.1 []).toArray⟩:=by decide +kernel
theorem ykj (s:ByteArray) (h0:¬ s.toList = []):∃ m,zqs.f s=some m∧(m.toList == s.toList)=yjr s:=by
 by_cases h:s.toList ∈ zqs.bytes
 ·obtain ⟨i,hi,he⟩:=List.getElem_of_mem h
  have hm:=yxy ⟨i,hi⟩
  dsimp only at hm
  rw [List.getD_eq_getElem?_getD,List.getElem?_eq_getElem hi,Option.getD_some,he, ← yvc] at hm
  refine⟨s,hm,?_⟩
  simp [yjr,h,h0]
 obtain ⟨r,h1,h2⟩:=yx0 s zqs.marks
 refine⟨r,h1,?_⟩
 have hne:¬ r.toList=s.toList:=by
  intro e
  rcases h2 with h2|h2
  ·obtain ⟨l,hl,rfl⟩:=List.mem_map.1 h2
   rw [ykk] at e
   exact h (e ▸ hl)
  subst h2
  rw [ByteArray.toList_eq] at e
  exact h0 e.symm
 simp [yjr,h,hne]
theorem yxf (s:ByteArray):zjr.f s=some (yjr s):=by
 unfold yjr
 by_cases h:s.toList ∈ zqs.bytes
 ·simp only [zqs.bytes,List.mem_cons,List.not_mem_nil,or_false] at h
  rcases h with h|h|h|h|h|h|h|h|h|h|h|h|h|h|h|h <;> simp [zjr.f,h,zqs.bytes]
 have h':=h
 simp only [zqs.bytes,List.mem_cons,List.not_mem_nil,or_false,not_or] at h
 simp [zjr.f,h,h']
def tokB (K I:Int) (T:ByteArray):Bool:=
 if K=1 then decide (I=0) && yj8 T else if K=2 then decide (0≤I) && (T.toList == ([]:List UInt8)) else if K=3 then decide (I=0) && decide (T.size≤40) && Lib.validD T.data.toList else if K=4 then decide (I=0) && yjr T else false
theorem yk2 (K I:Int) (T:ByteArray) (hs:T.size≤140737488351232):Big (fun k=>zxy.f k K I T) (tokB K I T):=by
 unfold zxy.f tokB
 by_cases h1:K=1
 ·simp only [if_pos h1]
  by_cases hi:I=0
  ·simp only [if_pos hi]
   refine(Big.bind (yke T hs) (Big.of _)).cast (by simp [hi])
  simp only [if_neg hi]
  exact(Big.of false).cast (by simp [hi])
 simp only [if_neg h1]
 by_cases h2:K=2
 ·simp only [if_pos h2]
  by_cases hi:I ≥ 0
  ·simp only [if_pos hi]
   exact(Big.of _).cast (by simp [show 0≤I from hi])
  simp only [if_neg hi]
  exact(Big.of false).cast (by simp;intro h;omega)
 simp only [if_neg h2]
 by_cases h3:K=3
 ·simp only [if_pos h3]
  by_cases hi:I=0
  ·simp only [if_pos hi]
   by_cases hz:(T.size:Int)≤40
   ·simp only [if_pos hz]
    refine(Big.bind1 (r:=Lib.validD T.data.toList) (by unfold utf8_ValidString.f;rw [if_pos (by omega)]) (Big.of _)).cast ?_
    simp [hi,show T.size≤40 by omega]
   simp only [if_neg hz]
   exact(Big.of false).cast (by simp [show ¬ T.size≤40 by omega])
  simp only [if_neg hi]
  exact(Big.of false).cast (by simp [hi])
 simp only [if_neg h3]
 by_cases h4:K=4
 ·simp only [if_pos h4]
  by_cases hi:I=0
  ·simp only [if_pos hi]
   by_cases ht:T.toList = []
   ·simp only [if_pos ht]
    exact(Big.of false).cast (by simp [yjr,ht])
   simp only [if_neg ht]
   obtain ⟨m,hm,he⟩:=ykj T ht
   refine(Big.bind1 hm (Big.of (m.toList == T.toList))).cast ?_
   rw [he]
   simp [hi]
  simp only [if_neg hi]
  exact(Big.of false).cast (by simp [hi])
 simp only [if_neg h4]
 exact Big.of _
theorem yxc (K I:Int) (T:ByteArray) (hs:T.size≤140737488351232):Big (fun k=>qz.f k K I T) (tokB K I T):=by
 have jt:Big (fun k=>qz.j0 k true K I T) false:=Big.succ (Big.eq fun k=>by simp only [qz.j0];rw [if_pos trivial])
 unfold qz.f tokB
 by_cases h2:K=2
 ·have h1:¬ K=1:=by omega
  simp only [if_pos h2,if_neg h1]
  by_cases hi:I ≥ 0
  ·simp only [if_pos hi]
   exact(Big.of _).cast (by simp [show 0≤I from hi])
  simp only [if_neg hi]
  exact(Big.of false).cast (by simp;intro h;omega)
 simp only [if_neg h2]
 by_cases hi:I=0
 ·simp only [if_pos hi]
  by_cases h3:K=3
  ·have h1:¬ K=1:=by omega
   simp only [if_pos h3,if_neg h1]
   by_cases hz:(T.size:Int)≤40
   ·simp only [if_pos hz]
    refine(Big.bind (yjm T (by omega)) (Big.of _)).cast ?_
    simp [hi,show T.size≤40 by omega]
   simp only [if_neg hz]
   exact(Big.of false).cast (by simp [show ¬ T.size≤40 by omega])
  simp only [if_neg h3]
  by_cases h4:K=4
  ·have h1:¬ K=1:=by omega
   simp only [if_pos h4,if_neg h1,yxf,Option.bind_some]
   exact(Big.of _).cast (by simp [hi])
  simp only [if_neg h4]
  by_cases h1:K=1
  ·simp only [if_pos h1]
   by_cases hz:(T.size:Int)<1
   ·simp only [if_pos hz]
    exact jt.cast (by simp [yj8,show ¬ 1≤T.size by omega])
   simp only [if_neg hz]
   by_cases hb:(T.size:Int) > 12
   ·simp only [decide_eq_true hb]
    exact jt.cast (by simp [yj8,show ¬ T.size≤12 by omega])
   simp only [decide_eq_false hb]
   refine(Big.succ (Big.congr (yjp K I T hs (by omega)) fun k=>?_)).cast ?_
   ·simp only [qz.j0]
    rw [if_neg (by decide)]
   simp [hi,yj8,show 1≤T.size by omega,show T.size≤12 by omega]
  simp only [if_neg h1]
  exact jt.cast rfl
 simp only [if_neg hi]
 refine(Big.of false).cast ?_
 simp [hi]
theorem yvf (l:List UInt8):(⟨l.toArray⟩:ByteArray).toList=l:=by rw [ByteArray.toList_eq]
theorem yqn:∀ x y:List UInt8,Op.bytesLess x y=true→Op.bytesLess y x=false
 | [], [],h=>by simp [Op.bytesLess] at h
 | _ :: _, [],h=>by simp [Op.bytesLess] at h
 | [],_ :: _,_=>by simp [Op.bytesLess]
 | a :: x,b :: y,h=>by
  simp only [Op.bytesLess,Bool.or_eq_true,decide_eq_true_eq,Bool.and_eq_true,beq_iff_eq] at h
  simp only [Op.bytesLess,Bool.or_eq_false_iff,decide_eq_false_iff_not,Bool.and_eq_false_iff,beq_eq_false_iff_ne]
  rcases h with h|⟨rfl,h⟩
  ·refine⟨fun h'=>?_,.inl fun e=>?_⟩
   ·have h1:=UInt8.lt_iff_toNat_lt.1 h
    have h2:=UInt8.lt_iff_toNat_lt.1 h'
    omega
   subst e
   have h1:=UInt8.lt_iff_toNat_lt.1 h
   omega
  refine⟨fun h'=>?_,.inr (yqn x y h)⟩
  have h1:=UInt8.lt_iff_toNat_lt.1 h'
  omega
theorem ykl (x:List UInt8):Op.bytesLess x x=false:=by
 cases h:Op.bytesLess x x with
 | false=>rfl
 | true=>
  have:=yqn x x h
  rw [h] at this
  cases this
theorem yqx:∀ a b:Fin 35,a<b→Op.bytesLess (zq6.bytes.getD a.1 []) (zq6.bytes.getD b.1 [])=true:=by decide +kernel
theorem ykt (a b:ByteArray):cmp_Less_string.f a b=some (Op.bytesLess a.toList b.toList):=by
 unfold cmp_Less_string.f cmp_isNaN_string.f
 simp
theorem nan_f (a:ByteArray):slices_isNaN_string.f a=some false:=by
 unfold slices_isNaN_string.f
 simp
theorem yxn (i:Nat) (h:i<35):(rdOf ByteArray.empty zq6.words (i:Int)).toList=zq6.bytes.getD i []:=by
 have hl:i<zq6.bytes.length:=h
 unfold rdOf zq6.words
 rw [Int.toNat_natCast,List.getD_eq_getElem?_getD,List.getElem?_map,List.getElem?_eq_getElem hl,List.getD_eq_getElem?_getD,List.getElem?_eq_getElem hl]
 exact yvf _
theorem yqe:zq6.words.length=35:=rfl
theorem yjs (s:ByteArray):∀ (d i j:Nat),j - i=d→i≤j→j≤35→(∀ a,a<35→zq6.bytes.getD a []=s.toList→i≤a∧a≤j) →
  ∃ r,Big (fun k=>qq.l0 k zq6.words s 35 (i:Int) (j:Int)) (r,decide (∃ a:Fin 35,zq6.bytes.getD a.1 []=s.toList)):=by
 intro d
 induction d using Nat.strongRecOn with
 | _ d ih=>
  intro i j hd hij hj hinv
  by_cases hlt:i<j
  ·have hm:wrap64 (IntKind.u64.wrap (wrap64 ((i:Int)+(j:Int))) / 2)=(((i+j) / 2:Nat):Int):=by
    rw [w64 (x:=(i:Int)+j) (by omega) (by omega),show IntKind.u64.wrap ((i:Int)+j)=(i:Int)+j by simp [IntKind.wrap,IntKind.bits,IntKind.signed];omega,w64 (by omega) (by omega)]
    omega
   have hw:=yxn ((i+j) / 2) (by omega)
   cases hl:Op.bytesLess (zq6.bytes.getD ((i+j) / 2) []) s.toList with
   | true=>
    obtain ⟨r,hr⟩:=ih (j - ((i+j) / 2+1)) (by omega) ((i+j) / 2+1) j rfl (by omega) hj (fun a ha e=>by
     obtain ⟨h1,h2⟩:=hinv a ha e
     refine⟨?_,h2⟩
     rcases Nat.lt_trichotomy a ((i+j) / 2) with h|h|h
     ·have:=yqn _ _ (yqx ⟨a,ha⟩ ⟨(i+j) / 2,by omega⟩ h)
      dsimp only at this
      rw [e,hl] at this
      cases this
     ·subst h
      rw [e,ykl] at hl
      cases hl
     omega)
    refine⟨r,Big.succ (Big.congr hr fun k=>?_)⟩
    simp only [qq.l0]
    rw [if_pos (by omega),hm,if_pos (by omega),yqe,if_pos (by omega),ykt,hw,hl,Option.bind_some,if_pos rfl,w64 (by omega) (by omega)]
    rfl
   | false=>
    obtain ⟨r,hr⟩:=ih ((i+j) / 2 - i) (by omega) i ((i+j) / 2) rfl (by omega) (by omega) (fun a ha e=>by
     obtain ⟨h1,h2⟩:=hinv a ha e
     refine⟨h1,?_⟩
     rcases Nat.lt_or_ge ((i+j) / 2) a with h|h
     ·have:=yqx ⟨(i+j) / 2,by omega⟩ ⟨a,ha⟩ h
      dsimp only at this
      rw [e,hl] at this
      cases this
     exact h)
    refine⟨r,Big.succ (Big.congr hr fun k=>?_)⟩
    simp only [qq.l0]
    rw [if_pos (by omega),hm,if_pos (by omega),yqe,if_pos (by omega),ykt,hw,hl,Option.bind_some,if_neg (by decide)]
  obtain rfl:i=j:=by omega
  by_cases h35:i<35
  ·have hw:=yxn i h35
   by_cases he:zq6.bytes.getD i []=s.toList
   ·refine⟨(i:Int),Big.succ (Big.eq fun k=>?_)⟩
    simp only [qq.l0]
    rw [if_neg (by omega),if_pos (by omega),if_pos (by omega),yqe,if_pos (by omega),hw,if_pos he,decide_eq_true ⟨⟨i,h35⟩,he⟩]
   refine⟨(i:Int),Big.succ (Big.eq fun k=>?_)⟩
   simp only [qq.l0]
   rw [if_neg (by omega),if_pos (by omega),if_pos (by omega),yqe,if_pos (by omega),hw,if_neg he,nan_f,Option.bind_some,if_neg (by decide),decide_eq_false]
   rintro ⟨a,ha⟩
   have:=hinv a.1 a.2 ha
   exact he (by rw [show i=a.1 by omega];exact ha)
  refine⟨(i:Int),Big.succ (Big.eq fun k=>?_)⟩
  simp only [qq.l0]
  rw [if_neg (by omega),if_neg (by omega),decide_eq_false]
  rintro ⟨a,ha⟩
  have:=hinv a.1 a.2 ha
  have:=a.2
  omega
theorem ykm (l:List UInt8):(∃ a:Fin 35,zq6.bytes.getD a.1 []=l) ↔ l ∈ zq6.bytes:=by
 constructor
 ·rintro ⟨a,rfl⟩
  have hl:a.1<zq6.bytes.length:=a.2
  rw [List.getD_eq_getElem?_getD,List.getElem?_eq_getElem hl]
  exact List.getElem_mem hl
 intro h
 obtain ⟨i,hi,rfl⟩:=List.getElem_of_mem h
 refine⟨⟨i,hi⟩,?_⟩
 rw [List.getD_eq_getElem?_getD,List.getElem?_eq_getElem hi]
 rfl
theorem yvj (s:ByteArray):Big (fun k=>zq6.f k s) (decide (s.toList ∈ zq6.bytes)):=by
 obtain ⟨r,h⟩:=yjs s 35 0 35 rfl (by omega) (by omega) (fun a ha _=>by omega)
 have e:decide (∃ a:Fin 35,zq6.bytes.getD a.1 []=s.toList)=decide (s.toList ∈ zq6.bytes):=decide_eq_decide.2 (ykm _)
 rw [e] at h
 obtain ⟨k0,h⟩:=h
 refine⟨k0,fun k hk=>?_⟩
 unfold zq6.f qq.f
 have:=h k hk
 rw [yqe]
 show Option.map _ (qq.l0 k zq6.words s 35 0 35)=_
 rw [show qq.l0 k zq6.words s 35 0 35=some (r,decide (s.toList ∈ zq6.bytes)) from this]
 rfl
theorem yju (s:ByteArray):Big (fun k=>zd.f k s) (decide (s.toList ∈ zq6.bytes)):=by
 refine⟨0+1+1,fun k hk=>at_rounds (fun k=>zd.mono s k) hk ?_⟩
 by_cases h:s.toList ∈ zq6.bytes
 ·rw [decide_eq_true h]
  simp only [zq6.bytes,List.mem_cons,List.not_mem_nil,or_false] at h
  rcases h with h|h|h|h|h|h|h|h|h|h|h|h|h|h|h|h|h|h|h|h|h|h|h|h|h|h|h|h|h|h|h|h|h|h|h <;> simp [zd.f,zd.j0,zd.j1,h]
 rw [decide_eq_false h]
 simp only [zq6.bytes,List.mem_cons,List.not_mem_nil,or_false,not_or] at h
 simp [zd.f,zd.j0,zd.j1,h]
/-! ### Names -/
def yqj (s:ByteArray):Bool:=tokB 1 0 s && !decide (s.toList ∈ zq6.bytes)
theorem nm_law (s:ByteArray) (hs:s.size≤140737488351232):Big (fun k=>zjd.f k s) (yqj s):=by
 unfold zjd.f yqj
 refine Big.bind (yk2 1 0 s hs) ?_
 cases tokB 1 0 s with
 | true=>
  simp only [if_true]
  exact(Big.bind (yvj s) (Big.of (!decide (s.toList ∈ zq6.bytes)))).cast (by simp)
 | false=>exact(Big.of false).congr fun k=>by rw [if_neg (by decide)]
theorem yqt (s:ByteArray) (hs:s.size≤140737488351232):Big (fun k=>zf.f k s) (yqj s):=by
 unfold zf.f yqj
 refine Big.bind (yxc 1 0 s hs) ?_
 cases tokB 1 0 s with
 | true=>
  simp only [if_true]
  exact(Big.bind (yju s) (Big.of (!decide (s.toList ∈ zq6.bytes)))).cast (by simp)
 | false=>exact(Big.of false).congr fun k=>by rw [if_neg (by decide)]
def yqa (g:Nat→Option Bool) (P:Prop):Prop := ∃ b:Bool,Big g b∧(b=true ↔ P)
theorem yqa.no {P:Prop} (h:¬ P):yqa (fun _=>some false) P:=⟨false,Big.of _,by simp [h]⟩
theorem yqa.yes {P:Prop} (h:P):yqa (fun _=>some true) P:=⟨true,Big.of _,by simp [h]⟩
theorem yqa.dec {P:Prop} [Decidable P]:yqa (fun _=>some (decide P)) P:=⟨decide P,Big.of _,by simp⟩
theorem yqa.succ {g:Nat→Option Bool} {P:Prop} : yqa (fun k=>g (k+1)) P→yqa g P:=fun ⟨b,h,e⟩=>⟨b,Big.succ h,e⟩
theorem yqa.iff {g:Nat→Option Bool} {P Q:Prop} (e:P ↔ Q):yqa g P→yqa g Q:=fun ⟨b,h,f⟩=>⟨b,h,f.trans e⟩
theorem yqa.congr {g g':Nat→Option Bool} {P:Prop} (e:∀ k,g k=g' k):yqa g' P→yqa g P:=fun ⟨b,h,f⟩=>⟨b,h.congr e,f⟩
theorem yqa.bindE {α:Type} {g:Nat→Option α} {f:Nat→α→Option Bool} {r:α} {P:Prop} (hg:Big g r):yqa (fun k=>f k r) P→yqa (fun k=>(g k).bind (f k)) P:=fun ⟨b,h,e⟩=>⟨b,Big.bind hg h,e⟩
theorem yqa.bind {g:Nat→Option Bool} {f:Nat→Bool→Option Bool} {P Q:Prop} (hg:yqa g P) (hT:P→yqa (fun k=>f k true) Q) (hF:¬ P→yqa (fun k=>f k false) Q):yqa (fun k=>(g k).bind (f k)) Q:=by
 obtain ⟨b,h,e⟩:=hg
 cases b with
 | true=>exact yqa.bindE h (hT (e.1 rfl))
 | false=>exact yqa.bindE h (hF (fun x=>by simpa using e.2 x))
theorem yqa.of {g:Nat→Option Bool} {b:Bool} (h:Big g b):yqa g (b=true):=⟨b,h,Iff.rfl⟩
theorem yqb {n i:Nat} {P:Nat→Prop} (hi:i<n):(∀ j,i≤j→j<n→P j) ↔ P i ∧ ∀ j,i+1≤j→j<n→P j:=by
 constructor
 ·intro h
  exact⟨h i (Nat.le_refl _) hi,fun j h1 h2=>h j (by omega) h2⟩
 intro h j h1 h2
 rcases Nat.lt_or_ge i j with h3|h3
 ·exact h.2 j (by omega) h2
 obtain rfl:j=i:=by omega
 exact h.1
theorem yqg {n i:Nat} {P:Nat→Prop} (hi:n≤i):(∀ j,i≤j→j<n→P j) ↔ True:=⟨fun _=>trivial,fun _ j h1 h2=>by omega⟩
theorem yqo {α:Type} {l:List α} {rdx:List α→Nat→α} (h:∀ i (hi:i<l.length),rdx l i=l[i]):l.Nodup ↔ ∀ j,0≤j→j<l.length → ∀ m,m<j→rdx l m≠rdx l j:=by
 unfold List.Nodup
 rw [List.pairwise_iff_getElem]
 constructor
 ·intro q j _ hj m hm
  rw [h m (by omega),h j hj]
  exact q m j (by omega) hj hm
 intro q i j hi hj hij
 have:=q j (Nat.zero_le _) hj i hij
 rwa [h i hi,h j hj] at this
theorem toL {a b:ByteArray} : a.toList=b.toList ↔ a=b:=by
 constructor
 ·intro h
  rw [Lib.toList_data,Lib.toList_data] at h
  exact ByteArray.ext (Array.ext' h)
 rintro rfl;rfl
def rn (l:List ByteArray) (j:Nat):ByteArray:=rdOf ByteArray.empty l (j:Int)
def ri (l:List Int) (j:Nat):Int:=rd l (j:Int)
def rt (l:List S61) (j:Nat):S61:=zt l (j:Int)
def rc (l:List S90) (j:Nat):S90:=qg l (j:Int)
def rx (l:List S96) (j:Nat):S96:=zqi l (j:Int)
theorem yjo (l:List ByteArray) (i:Nat) (h:i<l.length):rn l i=l[i]:=by simp [rn,rdOf,List.getD_eq_getElem?_getD,h]
theorem ri_at (l:List Int) (i:Nat) (h:i<l.length):ri l i=l[i]:=by simp [ri,rd,List.getD_eq_getElem?_getD,h]
theorem yk4 (l:List S61) (i:Nat) (h:i<l.length):rt l i=l[i]:=by simp [rt,zt,List.getD_eq_getElem?_getD,h]
theorem rc_at (l:List S90) (i:Nat) (h:i<l.length):rc l i=l[i]:=by simp [rc,qg,List.getD_eq_getElem?_getD,h]
theorem yxs (l:List S96) (i:Nat) (h:i<l.length):rx l i=l[i]:=by simp [rx,zqi,List.getD_eq_getElem?_getD,h]
theorem up1 {i n:Nat} (h:i<n) (hn:n≤9223372036854775807):wrap64 ((i:Int)+1)=((i+1:Nat):Int):=by rw [w64 (by omega) (by omega)];omega
def plc (l:List Int) (n:Int):Prop:=(∀ j,0≤j→j<l.length→0≤ri l j∧ri l j<n)∧1≤l.length∧l.length≤3∧l.Nodup
def yq1 (l:List Int):Prop:=l.length≤9223372036854775807 ∧ ∀ x ∈ l, -9223372036854775808≤x∧x≤9223372036854775807
theorem yx8 (l:List Int) (h:yq1 l):yqa (fun _=>zqg.f l) l.Nodup:=by
 have e:zqg.f l=some (decide l.Nodup):=by unfold zqg.f;rw [if_pos ⟨h.2,h.1⟩]
 exact yqa.congr (fun _=>e) yqa.dec
theorem yqu (l:List Int) (n:Int) (h:yq1 l):∀ (d i:Nat),l.length - i=d→i≤l.length→yqa (fun k=>zqa.l0 k l n l (l.length:Int) (i:Int)) ((∀ j,i≤j→j<l.length→0≤ri l j∧ri l j<n)∧1≤l.length∧l.length≤3∧l.Nodup)
 | 0,i,hd,hi=>by
  obtain rfl:i=l.length:=by omega
  refine yqa.succ ?_
  simp only [zqa.l0,if_neg (show ¬ (l.length:Int)<(l.length:Int) by omega)]
  refine yqa.iff (P:=1≤l.length∧l.length≤3∧l.Nodup) (by rw [yqg (Nat.le_refl _)];simp) ?_
  by_cases h1:(l.length:Int) > 0
  ·simp only [if_pos h1]
   by_cases h3:(l.length:Int)≤3
   ·simp only [if_pos h3]
    refine yqa.bind (yx8 l h) (fun q=>yqa.yes ⟨by omega,by omega,q⟩) (fun q=>yqa.no (fun x=>q x.2.2))
   simp only [if_neg h3];exact yqa.no (fun x=>by omega)
  simp only [if_neg h1];exact yqa.no (fun x=>by omega)
 | d+1,i,hd,hi=>by
  have hlt:i<l.length:=by omega
  have hL:=h.1
  refine yqa.succ ?_
  simp only [zqa.l0,if_pos (show(i:Int)<(l.length:Int) by omega),if_pos (show(0:Int)≤(i:Int) by omega),up1 hlt hL]
  refine yqa.iff (P:=(0≤ri l i∧ri l i<n)∧(∀ j,i+1≤j→j<l.length→0≤ri l j∧ri l j<n)∧1≤l.length∧l.length≤3∧l.Nodup) (by rw [yqb hlt];exact⟨fun x=>⟨⟨x.1,x.2.1⟩,x.2.2⟩,fun x=>⟨x.1.1,x.1.2,x.2⟩⟩) ?_
  show yqa (fun k=>if ri l i<0 then _ else if ri l i ≥ n then _ else _) _
  by_cases h1:ri l i<0
  ·simp only [if_pos h1];exact yqa.no (fun x=>by have:=x.1.1;omega)
  by_cases h2:ri l i ≥ n
  ·simp only [if_neg h1,if_pos h2];exact yqa.no (fun x=>by have:=x.1.2;omega)
  simp only [if_neg h1,if_neg h2]
  exact yqa.iff ⟨fun x=>⟨⟨by omega,by omega⟩,x⟩,fun x=>x.2⟩ (yqu l n h d (i+1) (by omega) (by omega))
theorem yq0 (l:List Int) (n:Int) (h:yq1 l):yqa (fun k=>zqa.f k l n) (plc l n):=by
 unfold zqa.f plc
 exact yqu l n h _ 0 rfl (Nat.zero_le _)
theorem yks (l:List Int) (n:Int) (hL:l.length≤9223372036854775807) (i:Nat) (hi:i<l.length) (Q:Prop) (hq:yqa (fun k=>zh.l0 k l n ((i+1:Nat):Int)) Q):∀ (d m:Nat),i - m=d→m≤i→yqa (fun k=>zh.l1 k l n (i:Int) (m:Int)) ((∀ j,m≤j→j<i→ri l j≠ri l i)∧Q)
 | 0,m,hd,hm=>by
  obtain rfl:m=i:=by omega
  refine yqa.succ ?_
  simp only [zh.l1,if_neg (show ¬ (m:Int)<(m:Int) by omega),up1 hi hL]
  exact yqa.iff (by rw [yqg (Nat.le_refl _)];simp) hq
 | d+1,m,hd,hm=>by
  have hlt:m<i:=by omega
  refine yqa.succ ?_
  simp only [zh.l1,if_pos (show(m:Int)<(i:Int) by omega),if_pos (show(0:Int)≤(m:Int) by omega),if_pos (show(m:Int)<(l.length:Int) by omega),if_pos (show(0:Int)≤(i:Int) by omega),if_pos (show(i:Int)<(l.length:Int) by omega),up1 (show m<l.length by omega) hL]
  refine yqa.iff (P:=ri l m≠ri l i∧(∀ j,m+1≤j→j<i→ri l j≠ri l i)∧Q) (by rw [yqb hlt];exact⟨fun x=>⟨⟨x.1,x.2.1⟩,x.2.2⟩,fun x=>⟨x.1.1,x.1.2,x.2⟩⟩) ?_
  show yqa (fun k=>if ri l m=ri l i then _ else _) _
  by_cases h1:ri l m=ri l i
  ·simp only [if_pos h1];exact yqa.no (fun x=>x.1 h1)
  simp only [if_neg h1]
  exact yqa.iff ⟨fun x=>⟨h1,x⟩,fun x=>x.2⟩ (yks l n hL i hi Q hq d (m+1) (by omega) (by omega))
theorem yj0 (l:List Int) (n:Int) (hL:l.length≤9223372036854775807):∀ (d i:Nat),l.length - i=d→i≤l.length→yqa (fun k=>zh.l0 k l n (i:Int)) (∀ j,i≤j→j<l.length→(0≤ri l j∧ri l j<n) ∧ ∀ m,0≤m→m<j→ri l m≠ri l j)
 | 0,i,hd,hi=>by
  obtain rfl:i=l.length:=by omega
  refine yqa.succ ?_
  simp only [zh.l0,if_neg (show ¬ (l.length:Int)<(l.length:Int) by omega)]
  exact yqa.yes (fun j h1 h2=>by omega)
 | d+1,i,hd,hi=>by
  have hlt:i<l.length:=by omega
  refine yqa.succ ?_
  simp only [zh.l0,if_pos (show(i:Int)<(l.length:Int) by omega),if_pos (show(0:Int)≤(i:Int) by omega)]
  refine yqa.iff (yqb hlt).symm ?_
  show yqa (fun k=>if ri l i<0 then _ else zh.j2 k l n (i:Int) (decide (ri l i ≥ n))) _
  by_cases h1:ri l i<0
  ·simp only [if_pos h1]
   refine yqa.succ ?_
   simp only [zh.j2,if_true]
   exact yqa.no (fun x=>by have:=x.1.1.1;omega)
  simp only [if_neg h1]
  refine yqa.succ ?_
  simp only [zh.j2]
  by_cases h2:ri l i ≥ n
  ·simp only [decide_eq_true h2,if_true];exact yqa.no (fun x=>by have:=x.1.1.2;omega)
  simp only [decide_eq_false h2,if_neg (show ¬ (false=true) by decide)]
  exact yqa.iff ⟨fun x=>⟨⟨⟨by omega,by omega⟩,x.1⟩,x.2⟩,fun x=>⟨x.1.2,x.2⟩⟩ (yks l n hL i hlt _ (yj0 l n hL d (i+1) (by omega) (by omega)) _ 0 rfl (Nat.zero_le _))
theorem yxx (l:List Int) (n:Int) (hL:l.length≤9223372036854775807):yqa (fun k=>zh.f k l n) (plc l n):=by
 unfold zh.f
 by_cases h1:(l.length:Int)<1
 ·simp only [if_pos h1]
  refine yqa.succ ?_
  simp only [zh.j0,if_true]
  exact yqa.no (fun x=>by have:=x.2.1;omega)
 simp only [if_neg h1]
 refine yqa.succ ?_
 simp only [zh.j0]
 by_cases h3:(l.length:Int) > 3
 ·simp only [decide_eq_true h3,if_true];exact yqa.no (fun x=>by have:=x.2.2.1;omega)
 simp only [decide_eq_false h3,if_neg (show ¬ (false=true) by decide)]
 refine yqa.iff ?_ (yj0 l n hL _ 0 rfl (Nat.zero_le _))
 unfold plc
 rw [yqo (rdx:=ri) (ri_at l)]
 constructor
 ·intro q
  exact⟨fun j a b=>(q j a b).1,by omega,by omega,fun j a b m hm=>(q j a b).2 m (Nat.zero_le _) hm⟩
 intro q j a b
 exact⟨q.1 j a b,fun m _ hm=>q.2.2.2 j a b m hm⟩
/-! ### Names -/
def yqm (l:List ByteArray):Prop:=l.length≤9223372036854775807 ∧ ∀ x ∈ l,x.size≤140737488351232
def nms (l:List ByteArray):Prop:=(∀ j,0≤j→j<l.length→yqj (rn l j)=true)∧l.Nodup
theorem yxk (l:List ByteArray) (h:yqm l):yqa (fun _=>qa.f l) l.Nodup:=by
 have e:qa.f l=some (decide l.Nodup):=by
  unfold qa.f
  rw [if_pos ⟨fun x hx=>Nat.le_trans (h.2 x hx) (by omega),h.1⟩]
 exact yqa.congr (fun _=>e) yqa.dec
theorem yq3 (l:List ByteArray) (h:yqm l):∀ (d i:Nat),l.length - i=d→i≤l.length→yqa (fun k=>qo.l0 k l l (l.length:Int) (i:Int)) ((∀ j,i≤j→j<l.length→yqj (rn l j)=true)∧l.Nodup)
 | 0,i,hd,hi=>by
  obtain rfl:i=l.length:=by omega
  refine yqa.succ ?_
  simp only [qo.l0,if_neg (show ¬ (l.length:Int)<(l.length:Int) by omega)]
  refine yqa.iff (P:=l.Nodup) (by rw [yqg (Nat.le_refl _)];simp) ?_
  exact yqa.bind (yxk l h) (fun q=>yqa.yes q) (fun q=>yqa.no q)
 | d+1,i,hd,hi=>by
  have hlt:i<l.length:=by omega
  refine yqa.succ ?_
  simp only [qo.l0,if_pos (show(i:Int)<(l.length:Int) by omega),if_pos (show(0:Int)≤(i:Int) by omega),up1 hlt h.1]
  refine yqa.iff (P:=yqj (rn l i)=true∧(∀ j,i+1≤j→j<l.length→yqj (rn l j)=true)∧l.Nodup) (by rw [yqb hlt];exact⟨fun x=>⟨⟨x.1,x.2.1⟩,x.2.2⟩,fun x=>⟨x.1.1,x.1.2,x.2⟩⟩) ?_
  have hs:(rn l i).size≤140737488351232:=by rw [yjo l i hlt];exact h.2 _ (List.getElem_mem hlt)
  refine yqa.bind (yqa.of (nm_law (rn l i) hs)) (fun q=>?_) (fun q=>?_)
  ·simp only [if_true]
   exact yqa.iff ⟨fun x=>⟨q,x⟩,fun x=>x.2⟩ (yq3 l h d (i+1) (by omega) (by omega))
  simp only [if_neg (show ¬ (false=true) by decide)]
  exact yqa.no (fun x=>q x.1)
theorem yqw (l:List ByteArray) (h:yqm l):yqa (fun k=>qo.f k l) (nms l):=by
 unfold qo.f nms
 exact yq3 l h _ 0 rfl (Nat.zero_le _)
/-! ### Tables -/
def okCol (c:S90):Prop:=c.f0.size≤140737488351232
def okIdx (x:S96):Prop:=x.f0.size≤140737488351232∧yq1 x.f1
def yqi (t:S61):Prop:=t.f0.size≤140737488351232∧(t.f1.length * 32≤140737488351232 ∧ ∀ c ∈ t.f1,okCol c)∧yq1 t.f2∧(t.f3.length * 40≤140737488351232 ∧ ∀ x ∈ t.f3,okIdx x)
def typ (c:S90):Prop:=1≤c.f1∧c.f1≤3
def fit (t:S61):Prop:=(1≤t.f1.length∧t.f1.length≤6∧t.f3.length≤2)∧plc t.f2 (t.f1.length:Int)∧(∀ j,0≤j→j<t.f1.length→typ (rc t.f1 j))∧(∀ j,0≤j→j<t.f2.length→(qg t.f1 (ri t.f2 j)).f2=true)∧(∀ j,0≤j→j<t.f3.length→plc (rx t.f3 j).f1 (t.f1.length:Int))∧nms (t.f1.map (·.f0))∧nms (t.f3.map (·.f0))
theorem yq2 (t:S61) (h:yqi t):yqm (t.f1.map (·.f0))∧zj1.f t.f1=some (t.f1.map (·.f0)):=by
 have h1:=h.2.1.1
 refine⟨⟨by rw [List.length_map];omega,fun x hx=>?_⟩,by unfold zj1.f;rw [if_pos (by omega)]⟩
 obtain ⟨c,hc,rfl⟩:=List.mem_map.1 hx
 exact h.2.1.2 c hc
theorem yjg (t:S61) (h:yqi t):yqm (t.f3.map (·.f0))∧zj9.f t.f3=some (t.f3.map (·.f0)):=by
 have h1:=h.2.2.2.1
 refine⟨⟨by rw [List.length_map];omega,fun x hx=>?_⟩,by unfold zj9.f;rw [if_pos (by omega)]⟩
 obtain ⟨c,hc,rfl⟩:=List.mem_map.1 hx
 exact(h.2.2.2.2 c hc).1
theorem yx1 (t:S61) (h:yqi t):∀ (d i:Nat),t.f3.length - i=d→i≤t.f3.length→yqa (fun k=>qc.l2 k (t.f1.length:Int) t.f3 (t.f3.length:Int) (i:Int) t.f0 t.f1 t.f2 t.f3) ((∀ j,i≤j→j<t.f3.length→plc (rx t.f3 j).f1 (t.f1.length:Int))∧nms (t.f1.map (·.f0))∧nms (t.f3.map (·.f0)))
 | 0,i,hd,hi=>by
  obtain rfl:i=t.f3.length:=by omega
  refine yqa.succ ?_
  simp only [qc.l2,if_neg (show ¬ (t.f3.length:Int)<(t.f3.length:Int) by omega),(yq2 t h).2,(yjg t h).2,Option.bind_some]
  refine yqa.iff (P:=nms (t.f1.map (·.f0))∧nms (t.f3.map (·.f0))) (by rw [yqg (Nat.le_refl _)];simp) ?_
  refine yqa.bind (yqw _ (yq2 t h).1) (fun q=>?_) (fun q=>?_)
  ·simp only [if_true]
   exact yqa.bind (yqw _ (yjg t h).1) (fun q2=>yqa.yes ⟨q,q2⟩) (fun q2=>yqa.no (fun x=>q2 x.2))
  simp only [if_neg (show ¬ (false=true) by decide)]
  exact yqa.no (fun x=>q x.1)
 | d+1,i,hd,hi=>by
  have hlt:i<t.f3.length:=by omega
  have hL:=h.2.2.2.1
  refine yqa.succ ?_
  simp only [qc.l2,if_pos (show(i:Int)<(t.f3.length:Int) by omega),if_pos (show(0:Int)≤(i:Int) by omega),up1 hlt (by omega)]
  refine yqa.iff (P:=plc (rx t.f3 i).f1 (t.f1.length:Int)∧(∀ j,i+1≤j→j<t.f3.length→plc (rx t.f3 j).f1 (t.f1.length:Int))∧nms (t.f1.map (·.f0))∧nms (t.f3.map (·.f0))) (by rw [yqb hlt];exact⟨fun x=>⟨⟨x.1,x.2.1⟩,x.2.2⟩,fun x=>⟨x.1.1,x.1.2,x.2⟩⟩) ?_
  have hs:yq1 (rx t.f3 i).f1:=by rw [yxs _ i hlt];exact(h.2.2.2.2 _ (List.getElem_mem hlt)).2
  refine yqa.bind (yq0 _ _ hs) (fun q=>?_) (fun q=>?_)
  ·simp only [if_true]
   exact yqa.iff ⟨fun x=>⟨q,x⟩,fun x=>x.2⟩ (yx1 t h d (i+1) (by omega) (by omega))
  simp only [if_neg (show ¬ (false=true) by decide)]
  exact yqa.no (fun x=>q x.1)
theorem yx2 (t:S61) (h:yqi t) (hp:plc t.f2 (t.f1.length:Int)):∀ (d i:Nat),t.f2.length - i=d→i≤t.f2.length→yqa (fun k=>qc.l1 k (t.f1.length:Int) t.f2 (t.f2.length:Int) (i:Int) t.f0 t.f1 t.f2 t.f3) ((∀ j,i≤j→j<t.f2.length→(qg t.f1 (ri t.f2 j)).f2=true)∧(∀ j,0≤j→j<t.f3.length→plc (rx t.f3 j).f1 (t.f1.length:Int))∧nms (t.f1.map (·.f0))∧nms (t.f3.map (·.f0)))
 | 0,i,hd,hi=>by
  obtain rfl:i=t.f2.length:=by omega
  refine yqa.succ ?_
  simp only [qc.l1,if_neg (show ¬ (t.f2.length:Int)<(t.f2.length:Int) by omega)]
  exact yqa.iff (by rw [yqg (Nat.le_refl _)];simp) (yx1 t h _ 0 rfl (Nat.zero_le _))
 | d+1,i,hd,hi=>by
  have hlt:i<t.f2.length:=by omega
  have hL:=h.2.2.1.1
  obtain ⟨p0,p1⟩:=hp.1 i (Nat.zero_le _) hlt
  refine yqa.succ ?_
  simp only [qc.l1,if_pos (show(i:Int)<(t.f2.length:Int) by omega),if_pos (show(0:Int)≤(i:Int) by omega),up1 hlt hL]
  show yqa (fun k=>if 0≤ri t.f2 i then if ri t.f2 i<(t.f1.length:Int) then if(qg t.f1 (ri t.f2 i)).f2=true then _ else _ else _ else _) _
  simp only [if_pos p0,if_pos p1]
  refine yqa.iff (P:=(qg t.f1 (ri t.f2 i)).f2=true∧(∀ j,i+1≤j→j<t.f2.length→(qg t.f1 (ri t.f2 j)).f2=true)∧(∀ j,0≤j→j<t.f3.length→plc (rx t.f3 j).f1 (t.f1.length:Int))∧nms (t.f1.map (·.f0))∧nms (t.f3.map (·.f0))) (by rw [yqb hlt];exact⟨fun x=>⟨⟨x.1,x.2.1⟩,x.2.2⟩,fun x=>⟨x.1.1,x.1.2,x.2⟩⟩) ?_
  by_cases q:(qg t.f1 (ri t.f2 i)).f2=true
  ·simp only [if_pos q]
   exact yqa.iff ⟨fun x=>⟨q,x⟩,fun x=>x.2⟩ (yx2 t h hp d (i+1) (by omega) (by omega))
  simp only [if_neg q]
  exact yqa.no (fun x=>q x.1)
theorem yx3 (t:S61) (h:yqi t) (hp:plc t.f2 (t.f1.length:Int)):∀ (d i:Nat),t.f1.length - i=d→i≤t.f1.length→yqa (fun k=>qc.l0 k (t.f1.length:Int) t.f1 (t.f1.length:Int) (i:Int) t.f0 t.f1 t.f2 t.f3) ((∀ j,i≤j→j<t.f1.length→typ (rc t.f1 j))∧(∀ j,0≤j→j<t.f2.length→(qg t.f1 (ri t.f2 j)).f2=true)∧(∀ j,0≤j→j<t.f3.length→plc (rx t.f3 j).f1 (t.f1.length:Int))∧nms (t.f1.map (·.f0))∧nms (t.f3.map (·.f0)))
 | 0,i,hd,hi=>by
  obtain rfl:i=t.f1.length:=by omega
  refine yqa.succ ?_
  simp only [qc.l0,if_neg (show ¬ (t.f1.length:Int)<(t.f1.length:Int) by omega)]
  exact yqa.iff (by rw [yqg (Nat.le_refl t.f1.length)];simp) (yx2 t h hp _ 0 rfl (Nat.zero_le _))
 | d+1,i,hd,hi=>by
  have hlt:i<t.f1.length:=by omega
  have hL:=h.2.1.1
  refine yqa.succ ?_
  simp only [qc.l0,if_pos (show(i:Int)<(t.f1.length:Int) by omega),if_pos (show(0:Int)≤(i:Int) by omega),up1 hlt (by omega)]
  show yqa (fun k=>if(rc t.f1 i).f1<1 then _ else if(rc t.f1 i).f1 > 3 then _ else _) _
  refine yqa.iff (P:=typ (rc t.f1 i)∧(∀ j,i+1≤j→j<t.f1.length→typ (rc t.f1 j))∧(∀ j,0≤j→j<t.f2.length→(qg t.f1 (ri t.f2 j)).f2=true)∧(∀ j,0≤j→j<t.f3.length→plc (rx t.f3 j).f1 (t.f1.length:Int))∧nms (t.f1.map (·.f0))∧nms (t.f3.map (·.f0))) (by rw [yqb hlt];exact⟨fun x=>⟨⟨x.1,x.2.1⟩,x.2.2⟩,fun x=>⟨x.1.1,x.1.2,x.2⟩⟩) ?_
  by_cases q1:(rc t.f1 i).f1<1
  ·simp only [if_pos q1];exact yqa.no (fun x=>by have:=x.1.1;omega)
  by_cases q2:(rc t.f1 i).f1 > 3
  ·simp only [if_neg q1,if_pos q2];exact yqa.no (fun x=>by have:=x.1.2;omega)
  simp only [if_neg q1,if_neg q2]
  exact yqa.iff ⟨fun x=>⟨⟨by omega,by omega⟩,x⟩,fun x=>x.2⟩ (yx3 t h hp d (i+1) (by omega) (by omega))
theorem ykn (t:S61) (h:yqi t):yqa (fun k=>qc.f k t.f0 t.f1 t.f2 t.f3) (fit t):=by
 have no:∀ P:Prop,¬ P→yqa (fun k=>qc.j0 k (t.f1.length:Int) true t.f0 t.f1 t.f2 t.f3) P:=fun P hP=>by
  refine yqa.succ ?_
  simp only [qc.j0,if_true]
  exact yqa.no hP
 unfold qc.f
 by_cases h1:(t.f1.length:Int)<1
 ·simp only [if_pos h1];exact no _ (fun x=>by have:=x.1.1;omega)
 by_cases h2:(t.f1.length:Int) > 6
 ·simp only [if_neg h1,if_pos h2];exact no _ (fun x=>by have:=x.1.2.1;omega)
 by_cases h3:(t.f3.length:Int) > 2
 ·simp only [if_neg h1,if_neg h2,if_pos h3];exact no _ (fun x=>by have:=x.1.2.2;omega)
 simp only [if_neg h1,if_neg h2,if_neg h3]
 refine yqa.bind (yq0 t.f2 _ h.2.2.1) (fun q=>?_) (fun q=>?_)
 ·refine yqa.succ ?_
  simp only [qc.j0,Bool.not_true,if_neg (show ¬ (false=true) by decide)]
  exact yqa.iff ⟨fun x=>⟨⟨by omega,by omega,by omega⟩,q,x⟩,fun x=>x.2.2⟩ (yx3 t h q _ 0 rfl (Nat.zero_le _))
 simp only [Bool.not_false]
 exact no _ (fun x=>q x.2.1)
def cat (l:List S61):Prop:=l.length≤4∧(∀ j,0≤j→j<l.length→fit (rt l j))∧nms (l.map (·.f0))
theorem yjl (l:List S61) (h:∀ t ∈ l,yqi t) (hl:l.length≤4):∀ (d i:Nat),l.length - i=d→i≤l.length→yqa (fun k=>zqo.l0 k l l (l.length:Int) (i:Int)) ((∀ j,i≤j→j<l.length→fit (rt l j))∧nms (l.map (·.f0)))
 | 0,i,hd,hi=>by
  obtain rfl:i=l.length:=by omega
  have ho:yqm (l.map (·.f0)):=⟨by rw [List.length_map];omega,fun x hx=>by obtain ⟨c,hc,rfl⟩:=List.mem_map.1 hx;exact(h c hc).1⟩
  have hn:zxe.f l=some (l.map (·.f0)):=by unfold zxe.f;rw [if_pos (by omega)]
  refine yqa.succ ?_
  simp only [zqo.l0,if_neg (show ¬ (l.length:Int)<(l.length:Int) by omega),hn,Option.bind_some]
  refine yqa.iff (P:=nms (l.map (·.f0))) (by rw [yqg (Nat.le_refl _)];simp) ?_
  exact yqa.bind (yqw _ ho) (fun q=>yqa.yes q) (fun q=>yqa.no q)
 | d+1,i,hd,hi=>by
  have hlt:i<l.length:=by omega
  refine yqa.succ ?_
  simp only [zqo.l0,if_pos (show(i:Int)<(l.length:Int) by omega),if_pos (show(0:Int)≤(i:Int) by omega),up1 hlt (by omega)]
  refine yqa.iff (P:=fit (rt l i)∧(∀ j,i+1≤j→j<l.length→fit (rt l j))∧nms (l.map (·.f0))) (by rw [yqb hlt];exact⟨fun x=>⟨⟨x.1,x.2.1⟩,x.2.2⟩,fun x=>⟨x.1.1,x.1.2,x.2⟩⟩) ?_
  have hs:yqi (rt l i):=by rw [yk4 _ i hlt];exact h _ (List.getElem_mem hlt)
  refine yqa.bind (ykn _ hs) (fun q=>?_) (fun q=>?_)
  ·simp only [if_true]
   exact yqa.iff ⟨fun x=>⟨q,x⟩,fun x=>x.2⟩ (yjl l h hl d (i+1) (by omega) (by omega))
  simp only [if_neg (show ¬ (false=true) by decide)]
  exact yqa.no (fun x=>q x.1)
theorem ykq (l:List S61) (h:∀ t ∈ l,yqi t):yqa (fun k=>zqo.f k l) (cat l):=by
 unfold zqo.f cat
 by_cases h4:(l.length:Int) > 4
 ·simp only [if_pos h4];exact yqa.no (fun x=>by have:=x.1;omega)
 simp only [if_neg h4]
 exact yqa.iff ⟨fun x=>⟨by omega,x⟩,fun x=>x.2⟩ (yjl l h (by omega) _ 0 rfl (Nat.zero_le _))
/-! ### The reference -/
theorem yku (t:S61) (h:yqi t) (i:Nat) (hi:i<t.f3.length) (Q:Prop) (hq:yqa (fun k=>zv.l3 k (t.f1.length:Int) t.f3 (t.f3.length:Int) ((i+1:Nat):Int) t.f0 t.f1 t.f2 t.f3) Q) (y:List Int):∀ (d m:Nat),i - m=d→m≤i→yqa (fun k=>zv.l4 k (t.f1.length:Int) (i:Int) (m:Int) t.f3 (t.f3.length:Int) (i:Int) t.f0 t.f1 t.f2 t.f3 (rx t.f3 i).f0 y) ((∀ j,m≤j→j<i→(rx t.f3 j).f0≠(rx t.f3 i).f0)∧Q)
 | 0,m,hd,hm=>by
  obtain rfl:m=i:=by omega
  have hL:=h.2.2.2.1
  refine yqa.succ ?_
  simp only [zv.l4,if_neg (show ¬ (m:Int)<(m:Int) by omega),up1 hi (by omega)]
  exact yqa.iff (by rw [yqg (Nat.le_refl _)];simp) hq
 | d+1,m,hd,hm=>by
  have hlt:m<i:=by omega
  have hL:=h.2.2.2.1
  refine yqa.succ ?_
  simp only [zv.l4,if_pos (show(m:Int)<(i:Int) by omega),if_pos (show(0:Int)≤(m:Int) by omega),if_pos (show(m:Int)<(t.f3.length:Int) by omega),up1 (show m<t.f3.length by omega) (by omega),toL]
  refine yqa.iff (P:=(rx t.f3 m).f0≠(rx t.f3 i).f0∧(∀ j,m+1≤j→j<i→(rx t.f3 j).f0≠(rx t.f3 i).f0)∧Q) (by rw [yqb hlt];exact⟨fun x=>⟨⟨x.1,x.2.1⟩,x.2.2⟩,fun x=>⟨x.1.1,x.1.2,x.2⟩⟩) ?_
  show yqa (fun k=>if(rx t.f3 m).f0=(rx t.f3 i).f0 then _ else _) _
  by_cases h1:(rx t.f3 m).f0=(rx t.f3 i).f0
  ·simp only [if_pos h1];exact yqa.no (fun x=>x.1 h1)
  simp only [if_neg h1]
  exact yqa.iff ⟨fun x=>⟨h1,x⟩,fun x=>x.2⟩ (yku t h i hi Q hq y d (m+1) (by omega) (by omega))
theorem yj2 (t:S61) (h:yqi t):∀ (d i:Nat),t.f3.length - i=d→i≤t.f3.length→yqa (fun k=>zv.l3 k (t.f1.length:Int) t.f3 (t.f3.length:Int) (i:Int) t.f0 t.f1 t.f2 t.f3) (∀ j,i≤j→j<t.f3.length→(yqj (rx t.f3 j).f0=true∧plc (rx t.f3 j).f1 (t.f1.length:Int)) ∧ ∀ m,0≤m→m<j→(rx t.f3 m).f0≠(rx t.f3 j).f0)
 | 0,i,hd,hi=>by
  obtain rfl:i=t.f3.length:=by omega
  refine yqa.succ ?_
  simp only [zv.l3,if_neg (show ¬ (t.f3.length:Int)<(t.f3.length:Int) by omega)]
  exact yqa.yes (fun j h1 h2=>by omega)
 | d+1,i,hd,hi=>by
  have hlt:i<t.f3.length:=by omega
  have hx:okIdx (rx t.f3 i):=by rw [yxs _ i hlt];exact h.2.2.2.2 _ (List.getElem_mem hlt)
  refine yqa.succ ?_
  simp only [zv.l3,if_pos (show(i:Int)<(t.f3.length:Int) by omega),if_pos (show(0:Int)≤(i:Int) by omega)]
  refine yqa.iff (yqb hlt).symm ?_
  refine yqa.bind (yqa.of (yqt (rx t.f3 i).f0 hx.1)) (fun q=>?_) (fun q=>?_)
  ·simp only [if_true]
   refine yqa.bind (yxx (rx t.f3 i).f1 _ hx.2.1) (fun q2=>?_) (fun q2=>?_)
   ·refine yqa.succ ?_
    simp only [zv.j6,Bool.not_true,if_neg (show ¬ (false=true) by decide)]
    exact yqa.iff ⟨fun x=>⟨⟨⟨q,q2⟩,x.1⟩,x.2⟩,fun x=>⟨x.1.2,x.2⟩⟩ (yku t h i hlt _ (yj2 t h d (i+1) (by omega) (by omega)) _ _ 0 rfl (Nat.zero_le _))
   refine yqa.succ ?_
   simp only [zv.j6,Bool.not_false,if_true]
   exact yqa.no (fun x=>q2 x.1.1.2)
  simp only [if_neg (show ¬ (false=true) by decide)]
  refine yqa.succ ?_
  simp only [zv.j6,if_true]
  exact yqa.no (fun x=>q x.1.1.1)
theorem yj1 (t:S61) (h:yqi t) (hp:plc t.f2 (t.f1.length:Int)):∀ (d i:Nat),t.f2.length - i=d→i≤t.f2.length→yqa (fun k=>zv.l2 k (t.f1.length:Int) (i:Int) t.f0 t.f1 t.f2 t.f3) ((∀ j,i≤j→j<t.f2.length→(qg t.f1 (ri t.f2 j)).f2=true)∧(∀ j,0≤j→j<t.f3.length→(yqj (rx t.f3 j).f0=true∧plc (rx t.f3 j).f1 (t.f1.length:Int)) ∧ ∀ m,0≤m→m<j→(rx t.f3 m).f0≠(rx t.f3 j).f0))
 | 0,i,hd,hi=>by
  obtain rfl:i=t.f2.length:=by omega
  refine yqa.succ ?_
  simp only [zv.l2,if_neg (show ¬ (t.f2.length:Int)<(t.f2.length:Int) by omega)]
  exact yqa.iff (by rw [yqg (Nat.le_refl t.f2.length)];simp) (yj2 t h _ 0 rfl (Nat.zero_le _))
 | d+1,i,hd,hi=>by
  have hlt:i<t.f2.length:=by omega
  have hL:=h.2.2.1.1
  obtain ⟨p0,p1⟩:=hp.1 i (Nat.zero_le _) hlt
  refine yqa.succ ?_
  simp only [zv.l2,if_pos (show(i:Int)<(t.f2.length:Int) by omega),if_pos (show(0:Int)≤(i:Int) by omega),up1 hlt hL]
  show yqa (fun k=>if 0≤ri t.f2 i then if ri t.f2 i<(t.f1.length:Int) then if(qg t.f1 (ri t.f2 i)).f2=true then _ else _ else _ else _) _
  simp only [if_pos p0,if_pos p1]
  refine yqa.iff (P:=(qg t.f1 (ri t.f2 i)).f2=true∧(∀ j,i+1≤j→j<t.f2.length→(qg t.f1 (ri t.f2 j)).f2=true)∧(∀ j,0≤j→j<t.f3.length→(yqj (rx t.f3 j).f0=true∧plc (rx t.f3 j).f1 (t.f1.length:Int)) ∧ ∀ m,0≤m→m<j→(rx t.f3 m).f0≠(rx t.f3 j).f0)) (by rw [yqb hlt];exact⟨fun x=>⟨⟨x.1,x.2.1⟩,x.2.2⟩,fun x=>⟨x.1.1,x.1.2,x.2⟩⟩) ?_
  by_cases q:(qg t.f1 (ri t.f2 i)).f2=true
  ·simp only [if_pos q]
   exact yqa.iff ⟨fun x=>⟨q,x⟩,fun x=>x.2⟩ (yj1 t h hp d (i+1) (by omega) (by omega))
  simp only [if_neg q]
  exact yqa.no (fun x=>q x.1)
def rest (t:S61):Prop:=plc t.f2 (t.f1.length:Int)∧(∀ j,0≤j→j<t.f2.length→(qg t.f1 (ri t.f2 j)).f2=true)∧(∀ j,0≤j→j<t.f3.length→(yqj (rx t.f3 j).f0=true∧plc (rx t.f3 j).f1 (t.f1.length:Int)) ∧ ∀ m,0≤m→m<j→(rx t.f3 m).f0≠(rx t.f3 j).f0)
theorem ykv (t:S61) (h:yqi t) (i:Nat) (hi:i<t.f1.length) (Q:Prop) (hq:yqa (fun k=>zv.l0 k (t.f1.length:Int) t.f1 (t.f1.length:Int) ((i+1:Nat):Int) t.f0 t.f1 t.f2 t.f3) Q) (y:Int) (z:Bool):∀ (d m:Nat),i - m=d→m≤i→yqa (fun k=>zv.l1 k (t.f1.length:Int) (i:Int) (m:Int) t.f1 (t.f1.length:Int) (i:Int) t.f0 t.f1 t.f2 t.f3 (rc t.f1 i).f0 y z) ((∀ j,m≤j→j<i→(rc t.f1 j).f0≠(rc t.f1 i).f0)∧Q)
 | 0,m,hd,hm=>by
  obtain rfl:m=i:=by omega
  have hL:=h.2.1.1
  refine yqa.succ ?_
  simp only [zv.l1,if_neg (show ¬ (m:Int)<(m:Int) by omega),up1 hi (by omega)]
  exact yqa.iff (by rw [yqg (Nat.le_refl _)];simp) hq
 | d+1,m,hd,hm=>by
  have hlt:m<i:=by omega
  have hL:=h.2.1.1
  refine yqa.succ ?_
  simp only [zv.l1,if_pos (show(m:Int)<(i:Int) by omega),if_pos (show(0:Int)≤(m:Int) by omega),if_pos (show(m:Int)<(t.f1.length:Int) by omega),up1 (show m<t.f1.length by omega) (by omega),toL]
  refine yqa.iff (P:=(rc t.f1 m).f0≠(rc t.f1 i).f0∧(∀ j,m+1≤j→j<i→(rc t.f1 j).f0≠(rc t.f1 i).f0)∧Q) (by rw [yqb hlt];exact⟨fun x=>⟨⟨x.1,x.2.1⟩,x.2.2⟩,fun x=>⟨x.1.1,x.1.2,x.2⟩⟩) ?_
  show yqa (fun k=>if(rc t.f1 m).f0=(rc t.f1 i).f0 then _ else _) _
  by_cases h1:(rc t.f1 m).f0=(rc t.f1 i).f0
  ·simp only [if_pos h1];exact yqa.no (fun x=>x.1 h1)
  simp only [if_neg h1]
  exact yqa.iff ⟨fun x=>⟨h1,x⟩,fun x=>x.2⟩ (ykv t h i hi Q hq y z d (m+1) (by omega) (by omega))
theorem yj4 (t:S61) (h:yqi t):∀ (d i:Nat),t.f1.length - i=d→i≤t.f1.length→yqa (fun k=>zv.l0 k (t.f1.length:Int) t.f1 (t.f1.length:Int) (i:Int) t.f0 t.f1 t.f2 t.f3) ((∀ j,i≤j→j<t.f1.length→(yqj (rc t.f1 j).f0=true∧typ (rc t.f1 j)) ∧ ∀ m,0≤m→m<j→(rc t.f1 m).f0≠(rc t.f1 j).f0)∧rest t)
 | 0,i,hd,hi=>by
  obtain rfl:i=t.f1.length:=by omega
  refine yqa.succ ?_
  simp only [zv.l0,if_neg (show ¬ (t.f1.length:Int)<(t.f1.length:Int) by omega)]
  refine yqa.iff (P:=rest t) (by rw [yqg (Nat.le_refl t.f1.length)];simp) ?_
  refine yqa.bind (yxx t.f2 _ h.2.2.1.1) (fun q=>?_) (fun q=>?_)
  ·simp only [if_true]
   exact yqa.iff ⟨fun x=>⟨q,x⟩,fun x=>x.2⟩ (yj1 t h q _ 0 rfl (Nat.zero_le _))
  simp only [if_neg (show ¬ (false=true) by decide)]
  exact yqa.no (fun x=>q x.1)
 | d+1,i,hd,hi=>by
  have hlt:i<t.f1.length:=by omega
  have hx:okCol (rc t.f1 i):=by rw [rc_at _ i hlt];exact h.2.1.2 _ (List.getElem_mem hlt)
  refine yqa.succ ?_
  simp only [zv.l0,if_pos (show(i:Int)<(t.f1.length:Int) by omega),if_pos (show(0:Int)≤(i:Int) by omega)]
  refine yqa.iff (P:=((yqj (rc t.f1 i).f0=true∧typ (rc t.f1 i)) ∧ ∀ m,0≤m→m<i→(rc t.f1 m).f0≠(rc t.f1 i).f0)∧(∀ j,i+1≤j→j<t.f1.length→(yqj (rc t.f1 j).f0=true∧typ (rc t.f1 j)) ∧ ∀ m,0≤m→m<j→(rc t.f1 m).f0≠(rc t.f1 j).f0)∧rest t) (by rw [yqb hlt];exact⟨fun x=>⟨⟨x.1,x.2.1⟩,x.2.2⟩,fun x=>⟨x.1.1,x.1.2,x.2⟩⟩) ?_
  have go:∀ (q:yqj (rc t.f1 i).f0=true) (q1:typ (rc t.f1 i)),yqa (fun k=>zv.j2 k (t.f1.length:Int) (i:Int) t.f1 (t.f1.length:Int) (i:Int) false t.f0 t.f1 t.f2 t.f3 (rc t.f1 i).f0 (rc t.f1 i).f1 (rc t.f1 i).f2) (((yqj (rc t.f1 i).f0=true∧typ (rc t.f1 i)) ∧ ∀ m,0≤m→m<i→(rc t.f1 m).f0≠(rc t.f1 i).f0)∧(∀ j,i+1≤j→j<t.f1.length→(yqj (rc t.f1 j).f0=true∧typ (rc t.f1 j)) ∧ ∀ m,0≤m→m<j→(rc t.f1 m).f0≠(rc t.f1 j).f0)∧rest t):=fun q q1=>by
   refine yqa.succ ?_
   simp only [zv.j2,if_neg (show ¬ (false=true) by decide)]
   exact yqa.iff ⟨fun x=>⟨⟨⟨q,q1⟩,x.1⟩,x.2⟩,fun x=>⟨x.1.2,x.2⟩⟩ (ykv t h i hlt _ (yj4 t h d (i+1) (by omega) (by omega)) _ _ _ 0 rfl (Nat.zero_le _))
  have no:∀ P:Prop,¬ P→yqa (fun k=>zv.j2 k (t.f1.length:Int) (i:Int) t.f1 (t.f1.length:Int) (i:Int) true t.f0 t.f1 t.f2 t.f3 (rc t.f1 i).f0 (rc t.f1 i).f1 (rc t.f1 i).f2) P:=fun P hP=>by
   refine yqa.succ ?_
   simp only [zv.j2,if_true]
   exact yqa.no hP
  refine yqa.bind (yqa.of (yqt (rc t.f1 i).f0 hx)) (fun q=>?_) (fun q=>?_)
  ·simp only [if_true]
   show yqa (fun k=>if(rc t.f1 i).f1=1 then _ else if(rc t.f1 i).f1=2 then _ else zv.j2 k _ _ _ _ _ ((rc t.f1 i).f1 != 3) _ _ _ _ _ _ _) _
   by_cases e1:(rc t.f1 i).f1=1
   ·simp only [if_pos e1];exact go q ⟨by omega,by omega⟩
   by_cases e2:(rc t.f1 i).f1=2
   ·simp only [if_neg e1,if_pos e2];exact go q ⟨by omega,by omega⟩
   by_cases e3:(rc t.f1 i).f1=3
   ·simp only [if_neg e1,if_neg e2,show((rc t.f1 i).f1 != 3)=false from by simpa using e3];exact go q ⟨by omega,by omega⟩
   simp only [if_neg e1,if_neg e2,show((rc t.f1 i).f1 != 3)=true from by simpa using e3]
   exact no _ (fun x=>by have h1:=x.1.1.2.1;have h2:=x.1.1.2.2;omega)
  simp only [if_neg (show ¬ (false=true) by decide)]
  exact no _ (fun x=>q x.1.1.1)
theorem ykd (t:S61) (h:yqi t):yqa (fun k=>zv.f k t.f0 t.f1 t.f2 t.f3) (yqj t.f0=true∧fit t):=by
 have no:∀ P:Prop,¬ P→yqa (fun k=>zv.j0 k (t.f1.length:Int) true t.f0 t.f1 t.f2 t.f3) P:=fun P hP=>by
  refine yqa.succ ?_
  simp only [zv.j0,if_true]
  exact yqa.no hP
 unfold zv.f
 refine yqa.bind (yqa.of (yqt t.f0 h.1)) (fun q=>?_) (fun q=>?_)
 rotate_left
 ·simp only [if_neg (show ¬ (false=true) by decide)]
  exact no _ (fun x=>q x.1)
 simp only [if_true]
 by_cases h1:(t.f1.length:Int)=0
 ·simp only [if_pos h1];exact no _ (fun x=>by have:=x.2.1.1;omega)
 by_cases h2:(t.f1.length:Int) > 6
 ·simp only [if_neg h1,if_pos h2];exact no _ (fun x=>by have:=x.2.1.2.1;omega)
 simp only [if_neg h1,if_neg h2]
 refine yqa.succ ?_
 simp only [zv.j0]
 by_cases h3:(t.f3.length:Int) > 2
 ·simp only [decide_eq_true h3,if_true];exact yqa.no (fun x=>by have:=x.2.1.2.2;omega)
 simp only [decide_eq_false h3,if_neg (show ¬ (false=true) by decide)]
 refine yqa.iff ?_ (yj4 t h _ 0 rfl (Nat.zero_le _))
 have mc:∀ j,j<t.f1.length→rn (t.f1.map (·.f0)) j=(rc t.f1 j).f0:=fun j hj=>by rw [yjo _ j (by rw [List.length_map];exact hj),rc_at _ j hj];simp
 have mx:∀ j,j<t.f3.length→rn (t.f3.map (·.f0)) j=(rx t.f3 j).f0:=fun j hj=>by rw [yjo _ j (by rw [List.length_map];exact hj),yxs _ j hj];simp
 unfold rest fit nms
 rw [yqo (rdx:=rn) (yjo _),yqo (rdx:=rn) (yjo _)]
 simp only [List.length_map]
 constructor
 ·intro x
  refine⟨q,⟨by omega,by omega,by omega⟩,x.2.1,fun j a b=>(x.1 j a b).1.2,x.2.2.1,fun j a b=>(x.2.2.2 j a b).1.2,⟨fun j a b=>by rw [mc j b];exact(x.1 j a b).1.1,fun j a b m hm=>by rw [mc j b,mc m (by omega)];exact(x.1 j a b).2 m (Nat.zero_le _) hm⟩,fun j a b=>by rw [mx j b];exact(x.2.2.2 j a b).1.1,fun j a b m hm=>by rw [mx j b,mx m (by omega)];exact(x.2.2.2 j a b).2 m (Nat.zero_le _) hm⟩
 rintro ⟨_,_,x2,x3,x4,x5,⟨x6,x7⟩,x8,x9⟩
 refine⟨fun j a b=>⟨⟨by rw [← mc j b];exact x6 j a b,x3 j a b⟩,fun m _ hm=>by rw [← mc j b, ← mc m (by omega)];exact x7 j a b m hm⟩,x2,x4,fun j a b=>⟨⟨by rw [← mx j b];exact x8 j a b,x5 j a b⟩,fun m _ hm=>by rw [← mx j b, ← mx m (by omega)];exact x9 j a b m hm⟩⟩
theorem ykw (l:List S61) (hL:l.length≤4) (i:Nat) (hi:i<l.length) (Q:Prop) (hq:yqa (fun k=>zi.l0 k l ((i+1:Nat):Int)) Q):∀ (d m:Nat),i - m=d→m≤i→yqa (fun k=>zi.l1 k l (i:Int) (m:Int)) ((∀ j,m≤j→j<i→(rt l j).f0≠(rt l i).f0)∧Q)
 | 0,m,hd,hm=>by
  obtain rfl:m=i:=by omega
  refine yqa.succ ?_
  simp only [zi.l1,if_neg (show ¬ (m:Int)<(m:Int) by omega),up1 hi (by omega)]
  exact yqa.iff (by rw [yqg (Nat.le_refl _)];simp) hq
 | d+1,m,hd,hm=>by
  have hlt:m<i:=by omega
  refine yqa.succ ?_
  simp only [zi.l1,if_pos (show(m:Int)<(i:Int) by omega),if_pos (show(0:Int)≤(m:Int) by omega),if_pos (show(m:Int)<(l.length:Int) by omega),if_pos (show(0:Int)≤(i:Int) by omega),if_pos (show(i:Int)<(l.length:Int) by omega),up1 (show m<l.length by omega) (by omega),toL]
  refine yqa.iff (P:=(rt l m).f0≠(rt l i).f0∧(∀ j,m+1≤j→j<i→(rt l j).f0≠(rt l i).f0)∧Q) (by rw [yqb hlt];exact⟨fun x=>⟨⟨x.1,x.2.1⟩,x.2.2⟩,fun x=>⟨x.1.1,x.1.2,x.2⟩⟩) ?_
  show yqa (fun k=>if(rt l m).f0=(rt l i).f0 then _ else _) _
  by_cases h1:(rt l m).f0=(rt l i).f0
  ·simp only [if_pos h1];exact yqa.no (fun x=>x.1 h1)
  simp only [if_neg h1]
  exact yqa.iff ⟨fun x=>⟨h1,x⟩,fun x=>x.2⟩ (ykw l hL i hi Q hq d (m+1) (by omega) (by omega))
theorem yj5 (l:List S61) (h:∀ t ∈ l,yqi t) (hL:l.length≤4):∀ (d i:Nat),l.length - i=d→i≤l.length→yqa (fun k=>zi.l0 k l (i:Int)) (∀ j,i≤j→j<l.length→(yqj (rt l j).f0=true∧fit (rt l j)) ∧ ∀ m,0≤m→m<j→(rt l m).f0≠(rt l j).f0)
 | 0,i,hd,hi=>by
  obtain rfl:i=l.length:=by omega
  refine yqa.succ ?_
  simp only [zi.l0,if_neg (show ¬ (l.length:Int)<(l.length:Int) by omega)]
  exact yqa.yes (fun j h1 h2=>by omega)
 | d+1,i,hd,hi=>by
  have hlt:i<l.length:=by omega
  have hs:yqi (rt l i):=by rw [yk4 _ i hlt];exact h _ (List.getElem_mem hlt)
  refine yqa.succ ?_
  simp only [zi.l0,if_pos (show(i:Int)<(l.length:Int) by omega),if_pos (show(0:Int)≤(i:Int) by omega)]
  refine yqa.iff (yqb hlt).symm ?_
  refine yqa.bind (ykd _ hs) (fun q=>?_) (fun q=>?_)
  ·simp only [if_true]
   exact yqa.iff ⟨fun x=>⟨⟨q,x.1⟩,x.2⟩,fun x=>⟨x.1.2,x.2⟩⟩ (ykw l hL i hlt _ (yj5 l h hL d (i+1) (by omega) (by omega)) _ 0 rfl (Nat.zero_le _))
  simp only [if_neg (show ¬ (false=true) by decide)]
  exact yqa.no (fun x=>q x.1.1)
theorem yvk (l:List S61) (h:∀ t ∈ l,yqi t):yqa (fun k=>zi.f k l) (cat l):=by
 unfold zi.f
 by_cases h4:(l.length:Int) > 4
 ·simp only [if_pos h4];exact yqa.no (fun x=>by have:=x.1;omega)
 simp only [if_neg h4]
 refine yqa.iff ?_ (yj5 l h (by omega) _ 0 rfl (Nat.zero_le _))
 have mc:∀ j,j<l.length→rn (l.map (·.f0)) j=(rt l j).f0:=fun j hj=>by rw [yjo _ j (by rw [List.length_map];exact hj),yk4 _ j hj];simp
 unfold cat nms
 rw [yqo (rdx:=rn) (yjo _)]
 simp only [List.length_map]
 constructor
 ·intro x
  exact⟨by omega,fun j a b=>(x j a b).1.2,fun j a b=>by rw [mc j b];exact(x j a b).1.1,fun j a b m hm=>by rw [mc j b,mc m (by omega)];exact(x j a b).2 m (Nat.zero_le _) hm⟩
 rintro ⟨_,x1,x2,x3⟩ j a b
 exact⟨⟨by rw [← mc j b];exact x2 j a b,x1 j a b⟩,fun m _ hm=>by rw [← mc j b, ← mc m (by omega)];exact x3 j a b m hm⟩
theorem or_one (x:Int) (h : -9223372036854775808≤x∧x≤9223372036854775807):Go.bits .or .i64 x 1=1 ↔ (x=0∨x=1):=by
 have key:Go.bits .or .i64 x 1=IntKind.i64.wrap (((x % 18446744073709551616).toNat ||| 1:Nat):Int):=by
  show IntKind.i64.wrap ((BitVec.ofInt 64 x ||| BitVec.ofInt 64 1).toNat:Int)=_
  rw [BitVec.toNat_or,BitVec.toNat_ofInt,BitVec.toNat_ofInt]
  rfl
 rw [key,IntKind.wrap_i64]
 obtain ⟨a,ha⟩:∃ a,(x % 18446744073709551616).toNat=a:=⟨_,rfl⟩
 rw [ha]
 have hlt:a ||| 1<2 ^ 64:=Nat.or_lt_two_pow (by omega) (by omega)
 have hle:a≤a ||| 1:=Nat.left_le_or
 constructor
 ·intro h1
  have:(a ||| 1)=1:=by omega
  omega
 rintro (rfl|rfl)
 ·have:a=0:=by omega
  subst this;decide
 have:a=1:=by omega
 subst this;decide
def yqf (K I:Int) (T:ByteArray):Int:=
 if K<0∨3<K then 3 else if 40<T.size then 1
 else if(K=0∧I=0∧T.toList = [])∨(K=1∧(I=0∨I=1)∧T.toList = [])∨(K=2∧T.toList = [])∨(K=3∧I=0∧Lib.validD T.data.toList=true) then 0 else 4
theorem yjj (K I:Int) (T:ByteArray) (hI : -9223372036854775808≤I∧I≤9223372036854775807):Big (fun k=>zql.f k K I T) (yqf K I T):=by
 have ho:=or_one I hI
 simp only [zql.f]
 unfold yqf
 by_cases h0:K<0
 ·simp only [if_pos h0]
  refine Big.succ ?_
  simp only [zql.j0,if_true]
  exact(Big.of 3).cast (by rw [if_pos (.inl h0)])
 simp only [if_neg h0]
 refine Big.succ ?_
 by_cases h3:K > 3
 ·simp only [zql.j0,decide_eq_true h3,if_true]
  exact(Big.of 3).cast (by rw [if_pos (.inr h3)])
 simp only [zql.j0,decide_eq_false h3,if_neg (show ¬ (false=true) by decide)]
 rw [if_neg (show ¬ (K<0∨3<K) by omega)]
 by_cases h40:(T.size:Int) > 40
 ·simp only [if_pos h40]
  exact(Big.of 1).cast (by rw [if_pos (by omega)])
 simp only [if_neg h40]
 rw [if_neg (show ¬ 40<T.size by omega)]
 by_cases k0:K=0
 ·simp only [if_pos k0]
  by_cases hz:(K == 0 && (I == 0 && (T.toList == ([]:List UInt8))))=true
  ·simp only [if_pos hz]
   refine(Big.of 0).cast ?_
   simp only [Bool.and_eq_true,beq_iff_eq] at hz
   rw [if_pos (.inl hz)]
  simp only [if_neg hz]
  refine(Big.of 4).cast ?_
  simp only [Bool.and_eq_true,beq_iff_eq] at hz
  rw [if_neg]
  rintro (h|⟨h,_⟩|⟨h,_⟩|⟨h,_⟩)
  ·exact hz h
  all_goals omega
 simp only [if_neg k0]
 by_cases k1:K=1
 ·simp only [if_pos k1]
  by_cases hb:Go.bits .or .i64 I 1=1
  ·simp only [if_pos hb]
   by_cases ht:T.toList = []
   ·simp only [if_pos ht]
    exact(Big.of 0).cast (by rw [if_pos (.inr (.inl ⟨k1,ho.1 hb,ht⟩))])
   simp only [if_neg ht]
   refine(Big.of 4).cast ?_
   rw [if_neg]
   rintro (⟨_,_,h⟩|⟨_,_,h⟩|⟨_,h⟩|⟨h,_⟩)
   ·exact ht h
   ·exact ht h
   ·exact ht h
   omega
  simp only [if_neg hb]
  refine(Big.of 4).cast ?_
  rw [if_neg]
  rintro (⟨h,_⟩|⟨_,h,_⟩|⟨h,_⟩|⟨h,_⟩)
  ·exact k0 h
  ·exact hb (ho.2 h)
  ·omega
  omega
 simp only [if_neg k1]
 by_cases k2:K=2
 ·simp only [if_pos k2]
  by_cases ht:T.toList = []
  ·simp only [if_pos ht]
   exact(Big.of 0).cast (by rw [if_pos (.inr (.inr (.inl ⟨k2,ht⟩)))])
  simp only [if_neg ht]
  refine(Big.of 4).cast ?_
  rw [if_neg]
  rintro (⟨_,_,h⟩|⟨_,_,h⟩|⟨_,h⟩|⟨h,_⟩)
  ·exact ht h
  ·exact ht h
  ·exact ht h
  omega
 have k3:K=3:=by omega
 simp only [if_neg k2,if_pos k3]
 by_cases i0:I=0
 ·simp only [if_pos i0]
  refine Big.bind1 (r:=Lib.validD T.data.toList) (by unfold utf8_ValidString.f;rw [if_pos (by omega)]) ?_
  by_cases hv:Lib.validD T.data.toList=true
  ·simp only [if_pos hv]
   exact(Big.of 0).cast (by rw [if_pos (.inr (.inr (.inr ⟨k3,i0,hv⟩)))])
  simp only [if_neg hv]
  refine(Big.of 4).cast ?_
  rw [if_neg]
  rintro (⟨h,_⟩|⟨h,_⟩|⟨h,_⟩|⟨_,_,h⟩)
  ·omega
  ·omega
  ·omega
  exact hv h
 simp only [if_neg i0]
 refine(Big.of 4).cast ?_
 rw [if_neg]
 rintro (⟨h,_⟩|⟨h,_⟩|⟨h,_⟩|⟨_,h,_⟩)
 ·omega
 ·omega
 ·omega
 exact i0 h
theorem yqp (K I:Int) (T:ByteArray) (b:Bool) (hb:b=true ↔ ((K≠3∧T.toList ≠ [])∨((K=0∨K=3)∧I≠0))) (hK:0≤K∧K≤3) (h40:T.size≤40) :
  Big (fun k=>zc.j1 k b K I T) (yqf K I T):=by
 unfold yqf
 rw [if_neg (show ¬ (K<0∨3<K) by omega),if_neg (show ¬ 40<T.size by omega)]
 refine Big.succ ?_
 simp only [zc.j1]
 have sg:Big (fun k=>(zu.f k T).bind fun t=>if t=true then some (0:Int) else some 4) (if Lib.validD T.data.toList=true then 0 else 4):=by
  refine Big.bind (yjm T (by omega)) ?_
  by_cases hv:Lib.validD T.data.toList=true
  ·simp only [if_pos hv];exact Big.of _
  simp only [if_neg hv];exact Big.of _
 cases b with
 | true=>
  have hb:=hb.1 rfl
  simp only [if_true]
  refine(Big.of 4).cast ?_
  rw [if_neg]
  rintro (⟨h,hi,ht⟩|⟨h,_,ht⟩|⟨h,ht⟩|⟨h,hi,_⟩)
  ·rcases hb with ⟨_,h2⟩|⟨_,h2⟩
   ·exact h2 ht
   exact h2 hi
  ·rcases hb with ⟨_,h2⟩|⟨h2,_⟩
   ·exact h2 ht
   omega
  ·rcases hb with ⟨_,h2⟩|⟨h2,_⟩
   ·exact h2 ht
   omega
  rcases hb with ⟨h2,_⟩|⟨_,h2⟩
  ·exact h2 h
  exact h2 hi
 | false=>
  have hb:¬ ((K≠3∧T.toList ≠ [])∨((K=0∨K=3)∧I≠0)):=fun h=>by have:=hb.2 h;cases this
  simp only [not_or,not_and,Decidable.not_not] at hb
  obtain ⟨b1,b2⟩:=hb
  simp only [if_neg (show ¬ (false=true) by decide)]
  by_cases k1:K=1
  ·have ht:T.toList = []:=b1 (by omega)
   simp only [if_pos k1,if_neg (show ¬ K=3 by omega)]
   by_cases i0:I=0
   ·simp only [if_pos i0]
    exact(Big.of 0).cast (by rw [if_pos (.inr (.inl ⟨k1,.inl i0,ht⟩))])
   by_cases i1:I=1
   ·simp only [if_neg i0,if_pos i1]
    exact(Big.of 0).cast (by rw [if_pos (.inr (.inl ⟨k1,.inr i1,ht⟩))])
   simp only [if_neg i0,if_neg i1]
   refine(Big.of 4).cast ?_
   rw [if_neg]
   rintro (⟨h,_⟩|⟨_,h,_⟩|⟨h,_⟩|⟨h,_⟩)
   ·omega
   ·rcases h with h|h
    ·exact i0 h
    exact i1 h
   ·omega
   omega
  simp only [if_neg k1]
  by_cases k3:K=3
  ·simp only [if_pos k3]
   refine sg.cast ?_
   have i0:=b2 (.inr k3)
   by_cases hv:Lib.validD T.data.toList=true
   ·rw [if_pos hv,if_pos (.inr (.inr (.inr ⟨k3,i0,hv⟩)))]
   rw [if_neg hv,if_neg]
   rintro (⟨h,_⟩|⟨h,_⟩|⟨h,_⟩|⟨_,_,h⟩)
   ·omega
   ·omega
   ·omega
   exact hv h
  simp only [if_neg k3]
  have ht:T.toList = []:=b1 k3
  refine(Big.of 0).cast ?_
  rw [if_pos]
  by_cases k0:K=0
  ·exact .inl ⟨k0,b2 (.inl k0),ht⟩
  exact .inr (.inr (.inl ⟨by omega,ht⟩))
theorem yqq (K I:Int) (T:ByteArray) (hK:0≤K∧K≤3):Big (fun k=>zc.j0 k false K I T) (yqf K I T):=by
 refine Big.succ ?_
 simp only [zc.j0,if_neg (show ¬ (false=true) by decide)]
 by_cases h40:(T.size:Int) > 40
 ·simp only [if_pos h40]
  refine(Big.of 1).cast ?_
  unfold yqf
  rw [if_neg (show ¬ (K<0∨3<K) by omega),if_pos (by omega)]
 simp only [if_neg h40]
 by_cases k3:K=3
 ·simp only [if_pos k3,if_neg (show ¬ K=0 by omega)]
  exact yqp K I T _ (by simp [k3]) hK (by omega)
 simp only [if_neg k3]
 by_cases ht:T.toList = []
 ·simp only [if_pos ht]
  by_cases k0:K=0
  ·simp only [if_pos k0]
   exact yqp K I T _ (by simp [k0,ht]) hK (by omega)
  simp only [if_neg k0]
  exact yqp K I T _ (by simp [k0,k3,ht]) hK (by omega)
 simp only [if_neg ht]
 exact yqp K I T _ (by simp [k3,ht]) hK (by omega)
theorem yji (K I:Int) (T:ByteArray):Big (fun k=>zc.f k K I T) (yqf K I T):=by
 simp only [zc.f]
 by_cases k0:K=0
 ·simp only [if_pos k0]
  exact yqq K I T (by omega)
 by_cases k1:K=1
 ·simp only [if_neg k0,if_pos k1]
  exact yqq K I T (by omega)
 by_cases k2:K=2
 ·simp only [if_neg k0,if_neg k1,if_pos k2]
  exact yqq K I T (by omega)
 simp only [if_neg k0,if_neg k1,if_neg k2]
 by_cases k3:K=3
 ·have:(K != 3)=false:=by simp [k3]
  simp only [this]
  exact yqq K I T (by omega)
 have:(K != 3)=true:=by simp [k3]
 simp only [this]
 refine Big.succ ?_
 simp only [zc.j0,if_true]
 refine(Big.of 3).cast ?_
 unfold yqf
 rw [if_pos (by omega)]
theorem yvi (l:List Int):(qv.esc l).length≤2 * l.length:=by
 induction l with
 | nil=>exact Nat.le_refl _
 | cons x r ih=>
  have e:qv.esc (x :: r)=(if x=0 then [0,255] else [x]) ++ qv.esc r:=by simp [qv.esc]
  rw [e,List.length_append,List.length_cons]
  split <;> simp <;> omega
theorem yx6 (K I:Int) (T:ByteArray) (h:yqf K I T=0):(qv.enc K I T).length≤90:=by
 have hT:T.size≤40:=by
  unfold yqf at h
  split at h
  ·omega
  split at h
  ·omega
  omega
 unfold qv.enc
 split
 ·simp
 split
 ·simp
 split
 ·rw [List.length_cons,qv.zjx];omega
 have:=yvi (bytesOf T)
 rw [bytesOf_length] at this
 simp
 omega
def bad:List S38→Int
 | []=>0
 | x :: r=>if yqf x.f0 x.f1 x.f2=0 then bad r else yqf x.f0 x.f1 x.f2
def yqh (l:List S38):List Int × Int:=if(l.length:Int) > 14 then([],1) else if bad l=0 then(zx.encs l,0) else ([],bad l)
theorem ykp (l:List S38) (h:bad l=0):(zx.encs l).length≤90 * l.length:=by
 induction l with
 | nil=>simp [zx.encs]
 | cons x r ih=>
  unfold bad at h
  split at h
  ·rename_i h0
   have:=yx6 _ _ _ h0
   have h2:=ih h
   have e:zx.encs (x :: r)=qv.enc x.f0 x.f1 x.f2 ++ zx.encs r:=by simp [zx.encs]
   rw [e,List.length_append,List.length_cons]
   omega
  rename_i h0
  exact absurd h h0
theorem yk3 (l:List S38) (hw:∀ x ∈ l,(Lit.int .i64 x.f1).wf=true):∀ ys:List Int,ys.length+90 * l.length<140737488355328→Big (fun k=>zq1.run k l ys) (if bad l=0 then(ys ++ zx.encs l,0) else ([],bad l)):=by
 induction l with
 | nil=>
  intro ys _
  refine Big.eq fun k=>?_
  simp [zq1.run,bad,zx.encs]
 | cons x r ih=>
  intro ys hl
  have hx:=hw x List.mem_cons_self
  simp only [zq1.run]
  refine Big.bind (yjj _ _ _ (bounds_i64 hx)) ?_
  by_cases h0:yqf x.f0 x.f1 x.f2=0
  ·have hn:=yx6 _ _ _ h0
   have e:zx.encs (x :: r)=qv.enc x.f0 x.f1 x.f2 ++ zx.encs r:=by simp [zx.encs]
   rw [List.length_cons] at hl
   have h2:=ih (fun y hy=>hw y (List.mem_cons_of_mem _ hy)) (ys ++ qv.enc x.f0 x.f1 x.f2) (by rw [List.length_append];omega)
   simp only [h0,if_true,bad,e]
   rw [List.append_assoc] at h2
   exact h2.congr (fun k=>by rw [if_pos (by omega)])
  simp only [if_neg h0,bad]
  exact Big.of _
theorem yxi (l:List S38) (hw:∀ x ∈ l,(Lit.int .i64 x.f1).wf=true):Big (fun k=>zq1.f k l) (yqh l):=by
 unfold zq1.f yqh
 by_cases h:(l.length:Int) > 14
 ·simp only [if_pos h]
  exact Big.of _
 simp only [if_neg h]
 exact yk3 l hw [] (by simp;omega)
theorem yxg (l:List S38):Big (fun k=>zx.faults k l) (bad l):=by
 induction l with
 | nil=>exact Big.of _
 | cons x r ih=>
  simp only [zx.faults]
  refine Big.bind (yji _ _ _) ?_
  by_cases h0:yqf x.f0 x.f1 x.f2=0
  ·simp only [h0,if_true,bad]
   exact ih
  simp only [if_neg h0,bad]
  exact Big.of _
theorem yjh (l:List S38):Big (fun k=>zx.f k l) (yqh l):=by
 unfold zx.f yqh
 by_cases h:(l.length:Int) > 14
 ·simp only [if_pos h]
  exact Big.of _
 simp only [if_neg h]
 refine Big.bind (yxg l) ?_
 by_cases h0:bad l=0
 ·have:=ykp l h0
  simp only [h0,if_true]
  exact Big.eq fun k=>by rw [if_pos (by omega)]
 simp only [if_neg h0]
 exact Big.of _
/-! Rows -/
def rv (l:List S38) (j:Nat):S38:=qf l (j:Int)
theorem rv_at (l:List S38) (i:Nat) (h:i<l.length):rv l i=l[i]:=by simp [rv,qf,List.getD_eq_getElem?_getD,h]
def vals (row:List S38) (ps:List Int):List S38:=ps.map (fun p=>qf row p)
def yqy (row:List S38) (ps:List Int):Prop := ∀ j,j<ps.length→0≤ri ps j∧ri ps j<(row.length:Int)
theorem yqs (row:List S38) (ps:List Int) (i:Nat) (h:i<ps.length):vals row (ps.take i) ++ [qf row (rd ps (i:Int))]=vals row (ps.take (i+1)):=by
 have e:rd ps (i:Int)=ps[i]:=by simp [rd,List.getD_eq_getElem?_getD,h]
 rw [e,List.take_succ_eq_append_getElem h]
 unfold vals
 rw [List.map_append,List.map_cons,List.map_nil]
theorem yqr (row:List S38) (ps:List Int) (hp:yqy row ps) (hn:ps.length≤1000):∀ (d i:Nat),ps.length - i=d→i≤ps.length→Big (fun k=>zq0.l0 k row (vals row (ps.take i)) ps (ps.length:Int) (i:Int)) (vals row ps)
 | 0,i,hd,hi=>by
  obtain rfl:i=ps.length:=by omega
  refine Big.succ (Big.eq fun k=>?_)
  simp only [zq0.l0]
  rw [if_neg (by omega),List.take_length]
 | d+1,i,hd,hi=>by
  have h1:=hp i (by omega)
  have hl:(vals row (ps.take i)).length<4398046511104:=by simp [vals];omega
  refine Big.succ ?_
  simp only [zq0.l0]
  simp only [if_pos (show(i:Int)<(ps.length:Int) by omega),if_pos (show(0:Int)≤(i:Int) by omega),if_pos (show 0≤rd ps (i:Int) from h1.1),if_pos (show rd ps (i:Int)<(row.length:Int) from h1.2),if_pos hl,yqs row ps i (by omega),up1 (show i<ps.length by omega) (by omega)]
  exact yqr row ps hp hn d (i+1) (by omega) (by omega)
theorem yj9 (row:List S38) (ps:List Int) (hp:yqy row ps) (hn:ps.length≤1000):Big (fun k=>zq0.f k row ps) (vals row ps):=yqr row ps hp hn _ 0 rfl (Nat.zero_le _)
def num2 (n:Int):S38:=⟨2,n,⟨#[]⟩⟩
def yqd (a i:Int) (row:List S38) (ls:List (List Int)):List S38 := [num2 a,num2 i] ++ ls.flatMap (vals row)
def wfV (l:List S38):Prop := ∀ x ∈ l,(Lit.int .i64 x.f1).wf=true
theorem yk0 {row:List S38} (h:wfV row) (ps:List Int) (hp:yqy row ps):wfV (vals row ps):=by
 intro x hx
 obtain ⟨p,hp',rfl⟩:=List.mem_map.1 hx
 obtain ⟨j,hj,rfl⟩:=List.getElem_of_mem hp'
 have h1:=hp j hj
 rw [ri_at ps j hj] at h1
 have e:qf row ps[j]=row[ps[j].toNat]'(by omega):=by simp [qf,List.getD_eq_getElem?_getD,show ps[j].toNat<row.length by omega]
 rw [e]
 exact h _ (List.getElem_mem _)
theorem ykf {a i:Int} {row:List S38} (ha:(Lit.int .i64 a).wf=true) (hi:(Lit.int .i64 i).wf=true) (h:wfV row) (ls:List (List Int)) (hl:∀ l ∈ ls,yqy row l):wfV (yqd a i row ls):=by
 intro x hx
 simp only [yqd,List.mem_append,List.mem_cons,List.not_mem_nil,or_false,List.mem_flatMap] at hx
 rcases hx with (rfl|rfl)|⟨l,hl',hx⟩
 ·exact ha
 ·exact hi
 exact yk0 h l (hl l hl') x hx
theorem rd_L (ls:List (List Int)) (i:Nat) (h:i<ls.length):rd_L4 ls (i:Int)=ls[i]:=by simp [rd_L4,List.getD_eq_getElem?_getD,h]
theorem yq5 (a i:Int) (row:List S38) (ls:List (List Int)) (hw:wfV (yqd a i row ls)) (hp:∀ l ∈ ls,yqy row l∧l.length≤1000) (hn:ls.length≤2):∀ (d j:Nat),ls.length - j=d→j≤ls.length→Big (fun k=>zqx.l0 k row ([num2 a,num2 i] ++ (ls.take j).flatMap (vals row)) ls (ls.length:Int) (j:Int)) ((yqh (yqd a i row ls)).1, [])
 | 0,j,hd,hj=>by
  obtain rfl:j=ls.length:=by omega
  refine Big.succ ?_
  simp only [zqx.l0]
  simp only [if_neg (show ¬ (ls.length:Int)<(ls.length:Int) by omega),List.take_length]
  exact Big.bind (yxi _ hw) (Big.of _)
 | d+1,j,hd,hj=>by
  have hx:=hp _ (List.getElem_mem (show j<ls.length by omega))
  have hlen:([num2 a,num2 i] ++ (ls.take j).flatMap (vals row)).length+(vals row ls[j]).length<4398046511104:=by
   have h1:∀ m:List (List Int),m.length≤2→(∀ l ∈ m,l.length≤1000)→(m.flatMap (vals row)).length≤1000 * m.length:=by
    intro m
    induction m with
    | nil=>intro _ _;simp
    | cons x m ih=>
     intro h2 h3
     have h4:=ih (by simp at h2;omega) (fun l hl=>h3 l (List.mem_cons_of_mem _ hl))
     have h5:=h3 x (by simp)
     simp only [List.flatMap_cons,List.length_append,List.length_cons,vals,List.length_map] at h4 ⊢
     omega
   have h2:=h1 (ls.take j) (by simp;omega) (fun l hl=>(hp l (List.mem_of_mem_take hl)).2)
   have h3:(vals row ls[j]).length≤1000:=by simp [vals];exact hx.2
   simp only [List.length_append,List.length_cons,List.length_nil,List.length_take] at h2 ⊢
   omega
  refine Big.succ ?_
  simp only [zqx.l0]
  simp only [if_pos (show(j:Int)<(ls.length:Int) by omega),if_pos (show(0:Int)≤(j:Int) by omega),rd_L ls j (by omega)]
  refine Big.bind (yj9 row ls[j] hx.1 hx.2) ?_
  simp only [if_pos hlen,up1 (show j<ls.length by omega) (by omega)]
  have e : [num2 a,num2 i] ++ (ls.take j).flatMap (vals row) ++ vals row ls[j] = [num2 a,num2 i] ++ (ls.take (j+1)).flatMap (vals row):=by
   rw [List.take_succ_eq_append_getElem (show j<ls.length by omega),List.flatMap_append]
   simp
  rw [e]
  exact yq5 a i row ls hw hp hn d (j+1) (by omega) (by omega)
theorem yx5 (a i:Int) (row:List S38) (ls:List (List Int)) (hw:wfV (yqd a i row ls)) (hp:∀ l ∈ ls,yqy row l∧l.length≤1000) (hn:ls.length≤2):Big (fun k=>zqx.f k a i row ls) ((yqh (yqd a i row ls)).1, []):=by
 unfold zqx.f
 simp only [zxg.f,Option.bind_some]
 have h:=yq5 a i row ls hw hp hn _ 0 rfl (Nat.zero_le _)
 simpa [num2] using h
def yxh (a:Int) (row:List S38) (key:List Int):List S96→Nat→List S32
 | [],_ => []
 | x :: r,i=>⟨(yqh (yqd a (i+1:Nat) row [x.f1,key])).1, []⟩ :: yxh a row key r (i+1)
def ents (a:Int) (row:List S38) (t:S61):List S32:=⟨(yqh (yqd a 0 row [t.f2])).1,(yqh row).1⟩ :: yxh a row t.f2 t.f3 0
def yvb (t:S61) (row:List S38):Prop:=yqy row t.f2∧t.f2.length≤1000∧t.f3.length≤2 ∧ ∀ x ∈ t.f3,yqy row x.f1∧x.f1.length≤1000
/-! The reference's -/
theorem yxw (a:Int) (row:List S38) (out:List S32) (i:Int) (vs:List S38) (t:S61) (r:List S32) (hp:yqy row t.f2) (hn:t.f2.length≤1000) (hv:vs.length≤10000) (ho:out.length≤1000)
  (h:Big (fun k=>zp.l0 k a row (out ++ [⟨(yqh (vs ++ vals row t.f2)).1,if i=0 then(yqh row).1 else []⟩]) (wrap64 (i+1)) t.f0 t.f1 t.f2 t.f3) r):∀ (d j:Nat),t.f2.length - j=d→j≤t.f2.length→Big (fun k=>zp.l2 k a row out i (vs ++ vals row (t.f2.take j)) t.f2 (t.f2.length:Int) (j:Int) t.f0 t.f1 t.f2 t.f3) r
 | 0,j,hd,hj=>by
  obtain rfl:j=t.f2.length:=by omega
  refine Big.succ ?_
  simp only [zp.l2]
  simp only [if_neg (show ¬ (t.f2.length:Int)<(t.f2.length:Int) by omega),List.take_length]
  refine Big.bind (yjh _) ?_
  by_cases hi:i=0
  ·simp only [if_pos hi] at h ⊢
   refine Big.bind (yjh _) ?_
   simp only [if_pos (show out.length<2932031007402 by omega)]
   exact h
  simp only [if_neg hi] at h ⊢
  simp only [if_pos (show out.length<2932031007402 by omega)]
  exact h
 | d+1,j,hd,hj=>by
  have h1:=hp j (by omega)
  have hl:(vs ++ vals row (t.f2.take j)).length<4398046511104:=by simp [vals];omega
  refine Big.succ ?_
  simp only [zp.l2]
  simp only [if_pos (show(j:Int)<(t.f2.length:Int) by omega),if_pos (show(0:Int)≤(j:Int) by omega),if_pos (show 0≤rd t.f2 (j:Int) from h1.1),if_pos (show rd t.f2 (j:Int)<(row.length:Int) from h1.2),if_pos hl,List.append_assoc,yqs row t.f2 j (by omega),up1 (show j<t.f2.length by omega) (by omega)]
  exact yxw a row out i vs t r hp hn hv ho h d (j+1) (by omega) (by omega)
theorem ykr (a:Int) (row:List S38) (out:List S32) (i:Int) (vs:List S38) (ps:List Int) (t:S61) (r:List S32) (hp:yqy row ps) (hn:ps.length≤1000) (hv:vs.length≤10)
  (h:Big (fun k=>zp.j2 k a row out i (vs ++ vals row ps) t.f0 t.f1 t.f2 t.f3) r):∀ (d j:Nat),ps.length - j=d→j≤ps.length→Big (fun k=>zp.l1 k a row out i (vs ++ vals row (ps.take j)) ps (ps.length:Int) (j:Int) t.f0 t.f1 t.f2 t.f3) r
 | 0,j,hd,hj=>by
  obtain rfl:j=ps.length:=by omega
  refine Big.succ ?_
  simp only [zp.l1]
  simp only [if_neg (show ¬ (ps.length:Int)<(ps.length:Int) by omega),List.take_length]
  exact h
 | d+1,j,hd,hj=>by
  have h1:=hp j (by omega)
  have hl:(vs ++ vals row (ps.take j)).length<4398046511104:=by simp [vals];omega
  refine Big.succ ?_
  simp only [zp.l1]
  simp only [if_pos (show(j:Int)<(ps.length:Int) by omega),if_pos (show(0:Int)≤(j:Int) by omega),if_pos (show 0≤rd ps (j:Int) from h1.1),if_pos (show rd ps (j:Int)<(row.length:Int) from h1.2),if_pos hl,List.append_assoc,yqs row ps j (by omega),up1 (show j<ps.length by omega) (by omega)]
  exact ykr a row out i vs ps t r hp hn hv h d (j+1) (by omega) (by omega)
theorem yjy (a:Int) (row:List S38) (t:S61) (hok:yvb t row):∀ (d i:Nat) (out:List S32),t.f3.length - i=d→i≤t.f3.length→out.length=i+1→Big (fun k=>zp.l0 k a row out ((i+1:Nat):Int) t.f0 t.f1 t.f2 t.f3) (out ++ yxh a row t.f2 (t.f3.drop i) i)
 | 0,i,out,hd,hi,ho=>by
  refine Big.succ (Big.eq fun k=>?_)
  simp only [zp.l0]
  rw [if_neg (by omega),List.drop_eq_nil_of_le (by omega)]
  simp [yxh]
 | d+1,i,out,hd,hi,ho=>by
  obtain ⟨h1,h2,h3,h4⟩:=hok
  have hx:=h4 _ (List.getElem_mem (show i<t.f3.length by omega))
  have ew:wrap64 (((i+1:Nat):Int) - 1)=(i:Int):=by rw [w64 (by omega) (by omega)];omega
  refine Big.succ ?_
  simp only [zp.l0]
  simp only [if_pos (show((i+1:Nat):Int)≤(t.f3.length:Int) by omega),zjh.f,Option.bind_some,if_pos (show((i+1:Nat):Int) > 0 by omega),ew,if_pos (show(0:Int)≤(i:Int) by omega),if_pos (show(i:Int)<(t.f3.length:Int) by omega)]
  rw [show zqi t.f3 (i:Int)=t.f3[i] from yxs t.f3 i (by omega)]
  rw [List.drop_eq_getElem_cons (show i<t.f3.length by omega),yxh]
  have hr:=yjy a row t ⟨h1,h2,h3,h4⟩ d (i+1) (out ++ [⟨(yqh (yqd a ((i+1:Nat):Int) row [t.f3[i].f1,t.f2])).1, []⟩]) (by omega) (by omega) (by simp;omega)
  have e0:∀ v:List S38, [num2 a,num2 ((i+1:Nat):Int)] ++ vals row t.f3[i].f1 ++ vals row t.f2=yqd a ((i+1:Nat):Int) row [t.f3[i].f1,t.f2]:=fun _=>by simp [yqd]
  have q2:=yxw a row out ((i+1:Nat):Int) ([num2 a,num2 ((i+1:Nat):Int)] ++ vals row t.f3[i].f1) t h1 h2 (by simp [vals];omega) (by omega) (r:=out ++ (⟨(yqh (yqd a ((i+1:Nat):Int) row [t.f3[i].f1,t.f2])).1, []⟩ :: yxh a row t.f2 (t.f3.drop (i+1)) (i+1))) (by
   rw [e0 [],if_neg (by omega),show wrap64 (((i+1:Nat):Int)+1)=((i+1+1:Nat):Int) from by rw [w64 (by omega) (by omega)];omega]
   exact hr.cast (by simp)) _ 0 rfl (Nat.zero_le _)
  have q1:=ykr a row out ((i+1:Nat):Int) [num2 a,num2 ((i+1:Nat):Int)] t.f3[i].f1 t _ hx.1 hx.2 (by simp) (Big.succ (by
   simp only [zp.j2]
   simpa [vals] using q2)) _ 0 rfl (Nat.zero_le _)
  simpa [vals,num2] using q1
theorem yja (l:List S61) (a:Nat) (row:List S38) (hal:a<l.length) (hok:yvb (rt l a) row):Big (fun k=>zp.f k l (a:Int) row) (ents (a:Int) row (rt l a)):=by
 unfold zp.f
 simp only [if_pos (show(0:Int)≤(a:Int) by omega),if_pos (show(a:Int)<(l.length:Int) by omega)]
 show Big (fun k=>zp.l0 k (a:Int) row [] 0 (rt l a).f0 (rt l a).f1 (rt l a).f2 (rt l a).f3) _
 generalize rt l a=t at *
 have hr:=yjy (a:Int) row t hok _ 0 [⟨(yqh (yqd (a:Int) 0 row [t.f2])).1,(yqh row).1⟩] rfl (Nat.zero_le _) rfl
 obtain ⟨h1,h2,h3,h4⟩:=hok
 refine Big.succ ?_
 simp only [zp.l0]
 simp only [if_pos (show(0:Int)≤(t.f3.length:Int) by omega),zjh.f,Option.bind_some,if_neg (show ¬ (0:Int) > 0 by decide)]
 refine Big.succ ?_
 simp only [zp.j2]
 have q2:=yxw (a:Int) row [] 0 [num2 (a:Int),num2 0] t h1 h2 (by simp) (by simp) (r:=ents (a:Int) row t) (by
  rw [if_pos rfl,show wrap64 (0+1)=((0+1:Nat):Int) from by rw [w64 (by omega) (by omega)];omega]
  refine(Big.congr hr fun k=>?_).cast (by simp [ents])
  simp [yqd]) _ 0 rfl (Nat.zero_le _)
 simpa [vals,num2] using q2
/-! What is refused of a row -/
def rf (row:List S38) (cs:List S90):Nat→Nat→Int
 | 0,_=>0
 | d+1,i=>if yqf (rv row i).f0 (rv row i).f1 (rv row i).f2≠0 then yqf (rv row i).f0 (rv row i).f1 (rv row i).f2 else if(rv row i).f0=0∧(rc cs i).f2=true then 13 else if(rv row i).f0≠0∧(rv row i).f0≠(rc cs i).f1 then 12 else rf row cs d (i+1)
def rowF (t:S61) (row:List S38):Int:=if row.length=t.f1.length then rf row t.f1 row.length 0 else 1
theorem yq4 (row:List S38) (cs:List S90) (hw:wfV row) (hl:row.length=cs.length) (hn:cs.length≤1000):∀ (d i:Nat),i+d=cs.length→Big (fun k=>zqr.l0 k row cs (cs.length:Int) (i:Int)) (rf row cs d i)
 | 0,i,hd=>by
  refine Big.succ (Big.eq fun k=>?_)
  simp only [zqr.l0]
  rw [if_neg (by omega)]
  rfl
 | d+1,i,hd=>by
  have ih:=yq4 row cs hw hl hn d (i+1) (by omega)
  have hwi:(Lit.int .i64 (rv row i).f1).wf=true:=by rw [rv_at row i (by omega)];exact hw _ (List.getElem_mem _)
  refine Big.succ ?_
  simp only [zqr.l0]
  simp only [if_pos (show(i:Int)<(cs.length:Int) by omega),if_pos (show(0:Int)≤(i:Int) by omega),if_pos (show(i:Int)<(row.length:Int) by omega)]
  show Big (fun k=>(zql.f k (rv row i).f0 (rv row i).f1 (rv row i).f2).bind _) _
  refine Big.bind (yjj _ _ _ (bounds_i64 hwi)) ?_
  rw [rf]
  by_cases h0:yqf (rv row i).f0 (rv row i).f1 (rv row i).f2=0
  ·simp only [if_pos h0,if_neg (show ¬ yqf (rv row i).f0 (rv row i).f1 (rv row i).f2≠0 from fun q=>q h0)]
   show Big (fun k=>if(rv row i).f0=0 then zqr.j1 k row cs (cs.length:Int) (i:Int) (rc cs i).f2 (rc cs i).f0 (rc cs i).f1 (rc cs i).f2 (rv row i).f0 (rv row i).f1 (rv row i).f2 else zqr.j1 k row cs (cs.length:Int) (i:Int) false (rc cs i).f0 (rc cs i).f1 (rc cs i).f2 (rv row i).f0 (rv row i).f1 (rv row i).f2) _
   have hj:∀ b:Bool,Big (fun k=>zqr.j1 k row cs (cs.length:Int) (i:Int) b (rc cs i).f0 (rc cs i).f1 (rc cs i).f2 (rv row i).f0 (rv row i).f1 (rv row i).f2) (if b=true then 13 else if(rv row i).f0≠0∧(rv row i).f0≠(rc cs i).f1 then 12 else rf row cs d (i+1)):=by
    intro b
    refine Big.succ ?_
    simp only [zqr.j1,up1 (show i<cs.length by omega) (by omega)]
    by_cases hb:b=true
    ·simp only [if_pos hb];exact Big.of _
    simp only [if_neg hb]
    by_cases hz:(rv row i).f0=0
    ·simp only [if_pos hz,if_neg (show ¬ ((rv row i).f0≠0∧(rv row i).f0≠(rc cs i).f1) from fun q=>q.1 hz)];exact ih
    simp only [if_neg hz]
    by_cases hc:(rv row i).f0=(rc cs i).f1
    ·simp only [if_pos hc,if_neg (show ¬ ((rv row i).f0≠0∧(rv row i).f0≠(rc cs i).f1) from fun q=>q.2 hc)];exact ih
    simp only [if_neg hc,if_pos (show(rv row i).f0≠0∧(rv row i).f0≠(rc cs i).f1 from ⟨hz,hc⟩)];exact Big.of _
   by_cases hz:(rv row i).f0=0
   ·simp only [if_pos hz]
    refine(hj _).cast ?_
    simp [hz]
   simp only [if_neg hz]
   refine(hj _).cast ?_
   simp [hz]
  simp only [if_neg h0,if_pos (show yqf (rv row i).f0 (rv row i).f1 (rv row i).f2≠0 from h0)]
  exact Big.of _
theorem yqk (t:S61) (row:List S38) (hl:row.length=t.f1.length) (hn:t.f1.length≤1000):∀ (d i:Nat),i+d=row.length→Big (fun k=>qj.l0 k row (i:Int) t.f0 t.f1 t.f2 t.f3) (rf row t.f1 d i)
 | 0,i,hd=>by
  refine Big.succ (Big.eq fun k=>?_)
  simp only [qj.l0]
  rw [if_neg (by omega)]
  rfl
 | d+1,i,hd=>by
  have ih:=yqk t row hl hn d (i+1) (by omega)
  refine Big.succ ?_
  simp only [qj.l0]
  simp only [if_pos (show(i:Int)<(row.length:Int) by omega),if_pos (show(0:Int)≤(i:Int) by omega)]
  show Big (fun k=>(zc.f k (rv row i).f0 (rv row i).f1 (rv row i).f2).bind _) _
  refine Big.bind (yji _ _ _) ?_
  rw [rf]
  by_cases h0:yqf (rv row i).f0 (rv row i).f1 (rv row i).f2=0
  ·simp only [if_pos h0,if_neg (show ¬ yqf (rv row i).f0 (rv row i).f1 (rv row i).f2≠0 from fun q=>q h0),if_pos (show(i:Int)<(t.f1.length:Int) by omega)]
   show Big (fun k=>if(rv row i).f0=0 then qj.j1 k row (i:Int) false t.f0 t.f1 t.f2 t.f3 else qj.j1 k row (i:Int) ((rv row i).f0 != (rc t.f1 i).f1) t.f0 t.f1 t.f2 t.f3) _
   have hj:∀ b:Bool,Big (fun k=>qj.j1 k row (i:Int) b t.f0 t.f1 t.f2 t.f3) (if b=true then 12 else if(rv row i).f0=0∧(rc t.f1 i).f2=true then 13 else rf row t.f1 d (i+1)):=by
    intro b
    refine Big.succ ?_
    simp only [qj.j1,up1 (show i<row.length by omega) (by omega)]
    by_cases hb:b=true
    ·simp only [if_pos hb];exact Big.of _
    simp only [if_neg hb,if_pos (show(0:Int)≤(i:Int) by omega),if_pos (show(i:Int)<(row.length:Int) by omega),if_pos (show(i:Int)<(t.f1.length:Int) by omega)]
    show Big (fun k=>if(rv row i).f0=0 then(if(rc t.f1 i).f2=true then some 13 else qj.l0 k row ((i+1:Nat):Int) t.f0 t.f1 t.f2 t.f3) else qj.l0 k row ((i+1:Nat):Int) t.f0 t.f1 t.f2 t.f3) _
    by_cases hz:(rv row i).f0=0
    ·by_cases hc:(rc t.f1 i).f2=true
     ·simp only [if_pos hz,if_pos hc,if_pos (show(rv row i).f0=0∧(rc t.f1 i).f2=true from ⟨hz,hc⟩)];exact Big.of _
     simp only [if_pos hz,if_neg hc,if_neg (show ¬ ((rv row i).f0=0∧(rc t.f1 i).f2=true) from fun q=>hc q.2)];exact ih
    simp only [if_neg hz,if_neg (show ¬ ((rv row i).f0=0∧(rc t.f1 i).f2=true) from fun q=>hz q.1)];exact ih
   by_cases hz:(rv row i).f0=0
   ·simp only [if_pos hz]
    refine(hj false).cast ?_
    simp [hz]
   simp only [if_neg hz]
   refine(hj _).cast ?_
   by_cases hc:(rv row i).f0=(rc t.f1 i).f1
   ·simp [hz,hc]
   simp [hz,hc]
  simp only [if_neg h0,if_pos (show yqf (rv row i).f0 (rv row i).f1 (rv row i).f2≠0 from h0)]
  exact Big.of _
theorem yx4 (t:S61) (row:List S38) (hw:wfV row) (hn:t.f1.length≤1000):Big (fun k=>zqr.f k t.f0 t.f1 t.f2 t.f3 row) (rowF t row):=by
 unfold zqr.f rowF
 by_cases h:row.length=t.f1.length
 ·simp only [if_pos h,if_pos (show(row.length:Int)=(t.f1.length:Int) by omega)]
  exact yq4 row t.f1 hw h hn row.length 0 (by omega)
 simp only [if_neg h,if_neg (show ¬ (row.length:Int)=(t.f1.length:Int) by omega)]
 exact Big.of _
theorem yjd (t:S61) (row:List S38) (hn:t.f1.length≤1000):Big (fun k=>qj.f k t.f0 t.f1 t.f2 t.f3 row) (rowF t row):=by
 unfold qj.f rowF
 by_cases h:row.length=t.f1.length
 ·simp only [if_pos h,if_pos (show(row.length:Int)=(t.f1.length:Int) by omega)]
  exact yqk t row h hn row.length 0 (by omega)
 simp only [if_neg h,if_neg (show ¬ (row.length:Int)=(t.f1.length:Int) by omega)]
 exact Big.of _
theorem ok_row {t:S61} (hf:fit t) {row:List S38} (h:row.length=t.f1.length):yvb t row:=by
 obtain ⟨⟨_,_,h3⟩,hk,_,_,hi,_,_⟩:=hf
 refine⟨fun j hj=>?_,by have:=hk.2.2.1;omega,h3,fun x hx=>?_⟩
 ·have:=hk.1 j (Nat.zero_le _) hj
  omega
 obtain ⟨j,hj,rfl⟩:=List.getElem_of_mem hx
 have h1:=hi j (Nat.zero_le _) hj
 rw [yxs t.f3 j hj] at h1
 refine⟨fun m hm=>?_,by have:=h1.2.2.1;omega⟩
 have:=h1.1 m (Nat.zero_le _) hm
 omega
theorem yjx {t:S61} {row:List S38} (h:rowF t row=0):row.length=t.f1.length:=by
 unfold rowF at h
 by_cases q:row.length=t.f1.length
 ·exact q
 rw [if_neg q] at h;omega

theorem yxo (l:List S61) (a:Int) (ho:∀ t ∈ l,yqi t):Big (fun k=>zxb.f k l a) (open Classical in if cat l then(if 0≤a∧a<(l.length:Int) then((zt l a).f0,(zt l a).f1,(zt l a).f2,(zt l a).f3,0) else (⟨#[]⟩, [], [], [],2)) else (⟨#[]⟩, [], [], [],4)):=by
 obtain ⟨b,h1,h2⟩:=ykq l ho
 unfold zxb.f
 refine Big.bind h1 ?_
 cases b with
 | false=>simp only [if_neg (show ¬ cat l from fun q=>by simpa using h2.2 q),Bool.false_eq_true,if_false];exact Big.of _
 | true=>
  simp only [if_pos (h2.1 rfl),if_true]
  by_cases h3:a<0
  ·simp only [if_pos h3,if_neg (show ¬ (0≤a∧a<(l.length:Int)) by omega)];exact Big.of _
  by_cases h4:a ≥ (l.length:Int)
  ·simp only [if_neg h3,if_pos h4,if_neg (show ¬ (0≤a∧a<(l.length:Int)) by omega)];exact Big.of _
  simp only [if_neg h3,if_neg h4,if_pos (show 0≤a by omega),if_pos (show a<(l.length:Int) by omega),if_pos (show 0≤a∧a<(l.length:Int) by omega)];exact Big.of _
theorem ykz (m:Nat) (h:m<9223372036854775808):9223372036854775808+m=9223372036854775808 ^^^ m:=by
 have e:=Nat.two_pow_add_eq_or_of_lt (i:=63) (b:=m) (by simpa using h)
 have e1:=e 1
 rw [show(2:Nat) ^ 63=9223372036854775808 from rfl,Nat.mul_one] at e1
 rw [e1]
 apply Nat.eq_of_testBit_eq
 intro i
 rw [Nat.testBit_or,Nat.testBit_xor,show(9223372036854775808:Nat)=2 ^ 63 from rfl,Nat.testBit_two_pow]
 by_cases hi:63=i
 ·subst hi
  rw [Nat.testBit_lt_two_pow (by simpa using h)]
  simp
 simp [hi]
theorem yxl (m:Int) (h0:0≤m) (h1:m<18446744073709551616):Go.bits .xor .u64 m 9223372036854775808=IntKind.u64.wrap (m+9223372036854775808):=by
 rw [IntKind.wrap_u64 (m+9223372036854775808)]
 obtain ⟨n,rfl⟩:=Int.eq_ofNat_of_zero_le h0
 show IntKind.u64.wrap ((BitVec.ofInt 64 ((n:Nat):Int) ^^^ BitVec.ofInt 64 ((9223372036854775808:Nat):Int)).toNat:Int)=_
 rw [BitVec.ofInt_natCast,BitVec.ofInt_natCast,BitVec.toNat_xor,BitVec.toNat_ofNat,BitVec.toNat_ofNat,Nat.mod_eq_of_lt (by omega),Nat.mod_eq_of_lt (by omega)]
 by_cases hn:n<9223372036854775808
 ·rw [Nat.xor_comm, ← ykz n hn,IntKind.wrap_u64]
  omega
 obtain ⟨m,rfl⟩:∃ m,n=9223372036854775808+m:=⟨n - 9223372036854775808,by omega⟩
 rw [ykz m (by omega),Nat.xor_comm, ← Nat.xor_assoc,Nat.xor_self,Nat.zero_xor, ← ykz m (by omega),IntKind.wrap_u64]
 omega

def b8 (l:List Int):Prop := ∀ x ∈ l,0≤x∧x≤255
theorem yxe {l:List Int} (h:b8 l) (i:Nat) (hi:i<l.length):0≤rd l (i:Int)∧rd l (i:Int)≤255:=by rw [rd_at l i hi];exact h _ (List.getElem_mem hi)
theorem yq6 (l:List Int) (a j:Nat):rd (l.drop a) (j:Int)=rd l ((a+j:Nat):Int):=by rw [rd,rd,Int.toNat_natCast,Int.toNat_natCast];simp [List.getD_eq_getElem?_getD]
theorem yqv (l:List Int) (a:Nat) (hn:l.length≤1200) (ha:a<l.length):zqj.f l (a:Int)=some (rd l (a:Int),true,((a+1:Nat):Int)):=by
 have e1:wrap64 ((a:Int)+1)=((a+1:Nat):Int):=by rw [w64 (by omega) (by omega)];omega
 have e2:wrap64 (((a+1:Nat):Int) - 1)=(a:Int):=by rw [w64 (by omega) (by omega)];omega
 unfold zqj.f
 rw [if_neg (by omega),e1,e2,if_pos (by omega),if_pos (by omega)]
theorem yq7 (l:List Int):zqj.f l (l.length:Int)=some (0,false,(l.length:Int)):=by
 unfold zqj.f
 rw [if_pos rfl]
def yqc (l:List Int) (a:Nat) (g f:Nat→Option (Int × Int × ByteArray × Int × Int)):Prop:=
 (∃ e:Int,e≠0∧(∃ x0 x1 x2 x3,Big g (x0,x1,x2,e,x3)) ∧ ∃ y0 y1 y2 y3,Big f (y0,y1,y2,y3,e)) ∨
 ∃ (v0 v1:Int) (v2:ByteArray) (c:Nat),0<c∧a+c≤l.length∧Big g (v0,v1,v2,0,((a+c:Nat):Int))∧Big f (v0,v1,v2,(c:Int),0)∧(l.drop a).take c=qv.enc v0 v1 v2∧(Lit.int .i64 v1).wf=true
theorem yqc.bad {l:List Int} {a:Nat} {g f:Nat→Option (Int × Int × ByteArray × Int × Int)} (e:Int) (he:e≠0) {x0 x1:Int} {x2:ByteArray} {x3:Int} {y0 y1:Int} {y2:ByteArray} {y3:Int} (hg:Big g (x0,x1,x2,e,x3)) (hf:Big f (y0,y1,y2,y3,e)):yqc l a g f:=.inl ⟨e,he,⟨_,_,_,_,hg⟩,⟨_,_,_,_,hf⟩⟩
theorem yqc.step {l:List Int} {a:Nat} {g f g' f':Nat→Option (Int × Int × ByteArray × Int × Int)} (hg:∀ k,g (k+1)=g' k) (hf:∀ k,f (k+1)=f' k) (h:yqc l a g' f'):yqc l a g f:=by
 have G:∀ {r},Big g' r→Big g r:=fun hr=>Big.succ (Big.congr hr hg)
 have F:∀ {r},Big f' r→Big f r:=fun hr=>Big.succ (Big.congr hr hf)
 rcases h with ⟨e,he,⟨_,_,_,_,h1⟩,_,_,_,_,h2⟩|⟨v0,v1,v2,c,hc,hl,h1,h2,h3⟩
 ·exact .inl ⟨e,he,⟨_,_,_,_,G h1⟩,_,_,_,_,F h2⟩
 exact .inr ⟨v0,v1,v2,c,hc,hl,G h1,F h2,h3⟩
theorem yqc.stepf {l:List Int} {a:Nat} {g f f':Nat→Option (Int × Int × ByteArray × Int × Int)} (hf:∀ k,f (k+1)=f' k) (h:yqc l a g f'):yqc l a g f:=by
 have F:∀ {r},Big f' r→Big f r:=fun hr=>Big.succ (Big.congr hr hf)
 rcases h with ⟨e,he,h1,_,_,_,_,h2⟩|⟨v0,v1,v2,c,hc,hl,h1,h2,h3⟩
 ·exact .inl ⟨e,he,h1,_,_,_,_,F h2⟩
 exact .inr ⟨v0,v1,v2,c,hc,hl,h1,F h2,h3⟩
theorem yjw (acc:List Int) (x:Int):strOfNums acc ++ strOfNums [x]=strOfNums (acc ++ [x]):=by
 apply ByteArray.ext
 simp [strOfNums]
theorem zvd (m:List Int) (i:Nat) (h:i<m.length):(m.take (i+1)).drop i = [rd m (i:Int)]:=by
 rw [rd_at m i h,List.drop_take,show i+1 - i=1 by omega,List.take_one,List.head?_drop,List.getElem?_eq_getElem h]
 rfl
theorem l1_end (m:List Int) (s:ByteArray) (i:Nat) (h:m.length≤i) (k:Nat):zo.l1 (k+1+1) m s (i:Int)=some (0,0,(⟨#[]⟩:ByteArray),0,5):=by
 simp only [zo.l1,zo.j2,if_pos (show(i:Int) ≥ (m.length:Int) by omega),if_true]
theorem l1_put (m:List Int) (acc:List Int) (i:Nat) (hn:m.length≤1200) (ha:acc.length≤1200) (h:i<m.length) (hz:rd m (i:Int)≠0) (k:Nat):zo.l1 (k+1+1) m (strOfNums acc) (i:Int)=zo.l1 k m (strOfNums (acc ++ [rd m (i:Int)])) ((i+1:Nat):Int):=by
 have e1:wrap64 ((i:Int)+1)=((i+1:Nat):Int):=by rw [w64 (by omega) (by omega)];omega
 have hs:(strOfNums acc).size=acc.length:=strOfNums_size acc
 have hs1:(strOfNums [rd m (i:Int)]).size=1:=strOfNums_size _
 simp only [zo.l1,zo.j2,if_neg (show ¬ ((i:Int) ≥ (m.length:Int)) by omega),if_pos (show(0:Int)≤(i:Int) by omega),if_pos (show(i:Int)<(m.length:Int) by omega),if_neg hz,if_neg (show ¬ (false=true) by decide),e1,Int.toNat_natCast,zvd m i h,if_pos (show(i:Int)≤((i+1:Nat):Int) by omega),if_pos (show((i+1:Nat):Int)≤(m.length:Int) by omega),hs,hs1,if_pos (show acc.length+1≤9223372036854775807 by omega),yjw]
theorem yvh (m:List Int) (s:ByteArray) (i:Nat) (hn:m.length≤1200) (h:i+1=m.length) (hz:rd m (i:Int)=0) (k:Nat):zo.l1 (k+1+1) m s (i:Int)=some (0,0,(⟨#[]⟩:ByteArray),0,5):=by
 have e1:wrap64 ((i:Int)+1)=((i+1:Nat):Int):=by rw [w64 (by omega) (by omega)];omega
 simp only [zo.l1,zo.j2,if_neg (show ¬ ((i:Int) ≥ (m.length:Int)) by omega),if_pos (show(0:Int)≤(i:Int) by omega),if_pos (show(i:Int)<(m.length:Int) by omega),if_pos hz,e1,show decide (((i+1:Nat):Int) ≥ (m.length:Int))=true from decide_eq_true (by omega),if_true]
theorem yvg (m:List Int) (acc:List Int) (i:Nat) (hn:m.length≤1200) (ha:acc.length≤1200) (h:i+1<m.length) (hz:rd m (i:Int)=0) (k:Nat):zo.l1 (k+1+1) m (strOfNums acc) (i:Int)=if rd m ((i+1:Nat):Int)=1 then(if((strOfNums acc).size:Int) > 40 then some (0,0,(⟨#[]⟩:ByteArray),0,1) else (zu.f k (strOfNums acc)).bind fun t=>if t=true then some (3,0,strOfNums acc,((i+2:Nat):Int),0) else some (0,0,(⟨#[]⟩:ByteArray),0,4)) else if rd m ((i+1:Nat):Int)=255 then zo.l1 k m (strOfNums (acc ++ [0])) ((i+2:Nat):Int) else some (0,0,(⟨#[]⟩:ByteArray),0,4):=by
 have e1:wrap64 ((i:Int)+1)=((i+1:Nat):Int):=by rw [w64 (by omega) (by omega)];omega
 have e2:wrap64 ((i:Int)+2)=((i+2:Nat):Int):=by rw [w64 (by omega) (by omega)];omega
 have hs:(strOfNums acc).size=acc.length:=strOfNums_size acc
 have hs1:(strOfNums [(0:Int)]).size=1:=strOfNums_size _
 simp only [zo.l1,zo.j2,if_neg (show ¬ ((i:Int) ≥ (m.length:Int)) by omega),if_pos (show(0:Int)≤(i:Int) by omega),if_pos (show(i:Int)<(m.length:Int) by omega),if_pos hz,e1,e2,show decide (((i+1:Nat):Int) ≥ (m.length:Int))=false from decide_eq_false (by omega),if_neg (show ¬ (false=true) by decide),Int.toNat_natCast,zvd m i (by omega),hz,if_pos (show(i:Int)≤((i+1:Nat):Int) by omega),if_pos (show((i+1:Nat):Int)≤(m.length:Int) by omega),if_pos (show(0:Int)≤((i+1:Nat):Int) by omega),if_pos (show((i+1:Nat):Int)<(m.length:Int) by omega),hs,hs1,if_pos (show acc.length+1≤9223372036854775807 by omega),yjw,if_true]
theorem or8 (x b:Int) (hx:0≤x∧x<18446744073709551616) (hb:0≤b∧b≤255):Go.bits .or .u64 (IntKind.u64.wrap (x * 256)) (IntKind.u64.wrap b)=IntKind.u64.wrap (IntKind.u64.wrap (x * 256)+IntKind.u64.wrap b)∧0≤IntKind.u64.wrap (IntKind.u64.wrap (x * 256)+IntKind.u64.wrap b)∧IntKind.u64.wrap (IntKind.u64.wrap (x * 256)+IntKind.u64.wrap b)<18446744073709551616:=by
 rw [IntKind.wrap_u64 (x * 256),IntKind.wrap_u64 b,IntKind.wrap_u64 (_+_)]
 have eb:b % 18446744073709551616=b:=by omega
 obtain ⟨m,hm,hm2⟩:∃ m:Nat,x * 256 % 18446744073709551616=((m * 256:Nat):Int)∧m * 256<18446744073709551616:=⟨(x * 256 % 18446744073709551616 / 256).toNat,by omega,by omega⟩
 obtain ⟨n,rfl⟩:=Int.eq_ofNat_of_zero_le hb.1
 rw [eb,hm]
 refine⟨?_,by omega,by omega⟩
 have e:=Go.u64_or_nat (m * 256) n hm2 (by omega)
 rw [e]
 have h2:=Nat.two_pow_add_eq_or_of_lt (i:=8) (b:=n) (by omega) m
 rw [show(2:Nat) ^ 8=256 from rfl,Nat.mul_comm] at h2
 rw [← h2]
 omega
def U64 (x:Int):Prop:=0≤x∧x<18446744073709551616
theorem or8' (x b:Int) (hx:U64 x) (hb:0≤b∧b≤255):Go.bits .or .u64 (IntKind.u64.wrap (x * 256)) (IntKind.u64.wrap b)=IntKind.u64.wrap (IntKind.u64.wrap (x * 256)+IntKind.u64.wrap b)∧U64 (IntKind.u64.wrap (IntKind.u64.wrap (x * 256)+IntKind.u64.wrap b)):=by
 obtain ⟨h1,h2,h3⟩:=or8 x b hx hb
 exact⟨h1,h2,h3⟩
theorem end8 (x:Int) (hx:U64 x):wrap64 (Go.bits .xor .u64 x 9223372036854775808)=wrap64 (IntKind.u64.wrap (x - 9223372036854775808)):=by
 rw [yxl x hx.1 hx.2,IntKind.wrap_u64,IntKind.wrap_u64]
 congr 1
 omega
theorem yjf (l:List Int) (hn:l.length≤1200):∀ (d i a:Nat) (x:Int),l.length - a=d→a≤l.length→i<8→l.length<a+(8 - i)→Big (fun k=>zqd.l0 k x (i:Int) l (a:Int)) (0,0,(⟨#[]⟩:ByteArray),5,(l.length:Int))
 | 0,i,a,x,hd,ha,hi,hs=>by
  obtain rfl:a=l.length:=by omega
  refine Big.succ ?_
  simp only [zqd.l0,if_pos (show(i:Int)<8 by omega),yq7,Option.bind_some,if_neg (show ¬ (false=true) by decide)]
  exact Big.of _
 | d+1,i,a,x,hd,ha,hi,hs=>by
  refine Big.succ ?_
  have e1:wrap64 ((i:Int)+1)=((i+1:Nat):Int):=by rw [w64 (by omega) (by omega)];omega
  simp only [zqd.l0,if_pos (show(i:Int)<8 by omega),yqv l a hn (by omega),Option.bind_some,if_true,e1]
  exact yjf l hn d (i+1) (a+1) _ (by omega) (by omega) (by omega) (by omega)
theorem take_one (m:List Int) (i:Nat) (h:i<m.length):m.take (i+1)=m.take i ++ [rd m (i:Int)]:=by rw [List.take_succ_eq_append_getElem h,rd_at m i h]
theorem yjv (m:List Int) (i:Nat) (h:i+1<m.length):m.take (i+2)=m.take i ++ [rd m (i:Int),rd m ((i+1:Nat):Int)]:=by
 rw [show i+2=i+1+1 from rfl,take_one m (i+1) h,take_one m i (by omega),List.append_assoc]
 rfl
theorem yj3 (l:List Int) (x:Int):qv.esc (l ++ [x])=qv.esc l ++ (if x=0 then [0,255] else [x]):=by simp [qv.esc]
theorem yxj (l:List Int) (h:b8 l):bytesOf (strOfNums l)=l:=by
 unfold bytesOf strOfNums
 have e:∀ x ∈ l,((UInt8.ofNat x.toNat).toNat:Int)=x:=fun x hx=>by
  have:=h x hx
  rw [UInt8.toNat_ofNat']
  omega
 simp only [List.toList_toArray,List.map_map,Function.comp_def]
 exact(List.map_congr_left e).trans (List.map_id l)
def acc8 (l:List Int) (p:Nat):Nat→Int
 | 0=>0
 | i+1=>acc8 l p i * 256+rd l ((p+i:Nat):Int)
theorem yky (l:List Int) (p:Nat):acc8 l p 0=0:=rfl
theorem yka (l:List Int) (p i:Nat):acc8 l p (i+1)=acc8 l p i * 256+rd l ((p+i:Nat):Int):=rfl
attribute [irreducible] acc8
theorem yjt {l:List Int} (hb:b8 l) (p:Nat):∀ i,p+i≤l.length→0≤acc8 l p i∧acc8 l p i<256 ^ i
 | 0,_=>by rw [yky];exact⟨Int.le_refl _,by decide⟩
 | i+1,h=>by
  have h1:=yjt hb p i (by omega)
  have h2:=yxe hb (p+i) (by omega)
  rw [yka,Int.pow_succ]
  omega
theorem ykc {l:List Int} (hb:b8 l) (p i:Nat) (h:p+i≤l.length) (hi:i<8):0≤acc8 l p i∧acc8 l p i<72057594037927936:=by
 have h1:=yjt hb p i h
 have h2:i=0∨i=1∨i=2∨i=3∨i=4∨i=5∨i=6∨i=7:=by omega
 rcases h2 with rfl|rfl|rfl|rfl|rfl|rfl|rfl|rfl <;> simp only [Int.reducePow] at h1 <;> omega
theorem ykb {l:List Int} (hb:b8 l) (p:Nat) (h:p+8≤l.length):U64 (acc8 l p 8):=by
 have h1:=yjt hb p 8 h
 simp only [Int.reducePow] at h1
 exact h1
theorem yx9 {l:List Int} (hb:b8 l) (p i:Nat) (h:p+i<l.length) (hi:i<8):IntKind.u64.wrap (IntKind.u64.wrap (acc8 l p i * 256)+IntKind.u64.wrap (rd l ((p+i:Nat):Int)))=acc8 l p (i+1):=by
 have h1:=ykc hb p i (by omega) hi
 have h2:=yxe hb (p+i) h
 rw [IntKind.wrap_u64,IntKind.wrap_u64,IntKind.wrap_u64,yka]
 omega
theorem yjk {l:List Int} (hb:b8 l) (p:Nat):∀ i,p+i≤l.length → ∀ j,j<i→acc8 l p i / 256 ^ (i - 1 - j) % 256=rd l ((p+j:Nat):Int)
 | 0,_,j,hj=>absurd hj (Nat.not_lt_zero _)
 | i+1,h,j,hj=>by
  have h2:=yxe hb (p+i) (by omega)
  have e:acc8 l p (i+1)=acc8 l p i * 256+rd l ((p+i:Nat):Int):=yka l p i
  by_cases hi:j=i
  ·subst hi
   rw [show j+1 - 1 - j=0 by omega,Int.pow_zero,Int.ediv_one,e]
   omega
  have e2:acc8 l p (i+1) / 256=acc8 l p i:=by rw [e];omega
  rw [show i+1 - 1 - j=(i - 1 - j)+1 by omega,Int.pow_succ,Int.mul_comm, ← Int.ediv_ediv_of_nonneg (by decide),e2]
  exact yjk hb p i (by omega) j (by omega)
theorem pow8 (j:Nat) (h:j<8):(2:Int) ^ (56 - 8 * j)=256 ^ (8 - 1 - j):=by
 have h2:j=0∨j=1∨j=2∨j=3∨j=4∨j=5∨j=6∨j=7:=by omega
 rcases h2 with rfl|rfl|rfl|rfl|rfl|rfl|rfl|rfl <;> simp only [Nat.reduceSub,Nat.reduceMul,Int.reducePow]
theorem byte8 {l:List Int} (hb:b8 l) (p:Nat) (h:p+8≤l.length):qv.bytes (acc8 l p 8) 8=(l.drop p).take 8:=by
 apply List.ext_getElem
 ·rw [qv.zjx,List.length_take,List.length_drop];omega
 intro j h1 h2
 rw [qv.zjx] at h1
 have e:=yjk hb p 8 h j h1
 rw [rd_at l (p+j) (by omega), ← pow8 j h1] at e
 rw [List.getElem_take,List.getElem_drop, ← e]
 show((List.range 8).map (qv.byte (acc8 l p 8)))[j]'(by simpa using h1)=qv.byte (acc8 l p 8) j
 rw [List.getElem_map,List.getElem_range]
def num8 (l:List Int) (p:Nat):Int:=wrap64 (IntKind.u64.wrap (acc8 l p 8 - 9223372036854775808))
theorem yve (l:List Int) (p:Nat):(Lit.int .i64 (num8 l p)).wf=true:=WalkArith.wf_i64 (by rw [num8];unfold wrap64;omega)
theorem yki {l:List Int} (hb:b8 l) (p:Nat) (h:p+8≤l.length):qv.enc 2 (num8 l p) ⟨#[]⟩=4 :: (l.drop p).take 8:=by
 have h1:=ykb hb p h
 have e:IntKind.u64.wrap (IntKind.u64.wrap (num8 l p)+9223372036854775808)=acc8 l p 8:=by
  have h2:=h1.1
  have h3:=h1.2
  rw [num8]
  unfold wrap64
  rw [IntKind.wrap_u64,IntKind.wrap_u64,IntKind.wrap_u64]
  omega
 rw [← byte8 hb p h, ← e, ← yxl _ (by rw [IntKind.wrap_u64];omega) (by rw [IntKind.wrap_u64];omega)]
 rfl
theorem ykh (l:List Int) (hn:l.length≤1200) (a i:Nat) (x:Int) (hi:i<8) (ha:a<l.length) (k:Nat):zqd.l0 (k+1) x (i:Int) l (a:Int)=zqd.l0 k (Go.bits .or .u64 (IntKind.u64.wrap (x * 256)) (IntKind.u64.wrap (rd l (a:Int)))) ((i+1:Nat):Int) l ((a+1:Nat):Int):=by
 have e1:wrap64 ((i:Int)+1)=((i+1:Nat):Int):=by rw [w64 (by omega) (by omega)];omega
 simp only [zqd.l0,if_pos (show(i:Int)<8 by omega),yqv l a hn ha,Option.bind_some,if_true,e1]
theorem ykg (m:List Int) (hn:m.length≤1200) (i:Nat) (x:Int) (hi:i<8) (ha:i+1<m.length) (k:Nat):zo.l0 (k+1) m x ((i+1:Nat):Int)=zo.l0 k m (IntKind.u64.wrap (IntKind.u64.wrap (x * 256)+IntKind.u64.wrap (rd m ((i+1:Nat):Int)))) ((i+1+1:Nat):Int):=by
 have e1:wrap64 (((i+1:Nat):Int)+1)=((i+1+1:Nat):Int):=by rw [w64 (by omega) (by omega)];omega
 simp only [zo.l0,if_pos (show((i+1:Nat):Int)<9 by omega),if_pos (show(0:Int)≤((i+1:Nat):Int) by omega),if_pos (show((i+1:Nat):Int)<(m.length:Int) by omega),e1]
theorem yvd (l:List Int) (a x:Int) (hx:U64 x) (k:Nat):zqd.l0 (k+1) x ((8:Nat):Int) l a=some (2,wrap64 (IntKind.u64.wrap (x - 9223372036854775808)),(⟨#[]⟩:ByteArray),0,a):=by
 simp only [zqd.l0,if_neg (show ¬ (((8:Nat):Int)<8) by omega)]
 rw [end8 x hx]
theorem yva (m:List Int) (x:Int) (k:Nat):zo.l0 (k+1) m x ((8+1:Nat):Int)=some (2,wrap64 (IntKind.u64.wrap (x - 9223372036854775808)),(⟨#[]⟩:ByteArray),9,0):=by
 simp only [zo.l0,if_neg (show ¬ (((8+1:Nat):Int)<9) by omega)]
theorem yjz (l:List Int) (hb:b8 l) (hn:l.length≤1200) (a0:Nat) (h9:a0+9≤l.length):∀ (d i:Nat),8 - i=d→i≤8→Big (fun k=>zqd.l0 k (acc8 l (a0+1) i) (i:Int) l ((a0+1+i:Nat):Int)) (2,num8 l (a0+1),(⟨#[]⟩:ByteArray),0,((a0+9:Nat):Int))∧Big (fun k=>zo.l0 k (l.drop a0) (acc8 l (a0+1) i) ((i+1:Nat):Int)) (2,num8 l (a0+1),(⟨#[]⟩:ByteArray),9,0)
 | 0,i,hd,hi=>by
  obtain rfl:i=8:=by omega
  have e0:wrap64 (IntKind.u64.wrap (acc8 l (a0+1) 8 - 9223372036854775808))=num8 l (a0+1):=by rw [num8]
  exact⟨Big.succ (Big.eq fun k=>by rw [yvd l _ _ (ykb hb (a0+1) (by omega)),e0]),Big.succ (Big.eq fun k=>by rw [yva,e0])⟩
 | d+1,i,hd,hi=>by
  have hi8:i<8:=by omega
  have hl:(l.drop a0).length=l.length - a0:=List.length_drop
  have h5:=ykc hb (a0+1) i (by omega) hi8
  obtain ⟨e2, -⟩:=or8' (acc8 l (a0+1) i) (rd l ((a0+1+i:Nat):Int)) ⟨h5.1,by omega⟩ (yxe hb _ (by omega))
  have e3:=yx9 hb (a0+1) i (by omega) hi8
  obtain ⟨h1,h2⟩:=yjz l hb hn a0 h9 d (i+1) (by omega) (by omega)
  refine⟨Big.succ (Big.congr h1 fun k=>?_),Big.succ (Big.congr h2 fun k=>?_)⟩
  ·rw [ykh l hn (a0+1+i) i _ hi8 (by omega),e2,e3]
   rfl
  rw [ykg (l.drop a0) (by omega) i _ hi8 (by omega),yq6,show a0+(i+1)=a0+1+i by omega,e3]
theorem yk1 (acc:List Int) (h:b8 acc):qk.f acc=some (Lib.validD (strOfNums acc).data.toList):=by
 unfold qk.f
 rw [if_pos (show ∀ x ∈ acc,0≤x∧x≤255 from h)]
 rfl
theorem yxq (l:List Int) (hb:b8 l) (hn:l.length≤1200) (a0:Nat):∀ (d i:Nat) (acc:List Int),l.length - (a0+i)≤d→1≤i→a0+i≤l.length→acc.length≤i→b8 acc→(l.drop a0).take i=5 :: qv.esc acc→yqc l a0 (fun k=>zqc.l0 k acc l ((a0+i:Nat):Int)) (fun k=>zo.l1 k (l.drop a0) (strOfNums acc) (i:Int)):=by
 intro d
 induction d with
 | zero=>
  intro i acc hd h1 hi ha hab htk
  have hl:(l.drop a0).length=l.length - a0:=List.length_drop
  have hg:∀ k,zqc.l0 (k+1) acc l ((a0+i:Nat):Int)=some (0,0,(⟨#[]⟩:ByteArray),5,(l.length:Int)):=by
   intro k
   rw [show a0+i=l.length by omega]
   simp only [zqc.l0,yq7,Option.bind_some,if_neg (show ¬ (false=true) by decide)]
  exact yqc.bad 5 (by decide) (Big.succ (Big.eq hg)) (Big.succ (Big.succ (Big.eq fun k=>l1_end _ _ i (by omega) k)))
 | succ d ih=>
  intro i acc hd h1 hi ha hab htk
  have hl:(l.drop a0).length=l.length - a0:=List.length_drop
  by_cases he:a0+i=l.length
  ·exact ih i acc (by omega) h1 hi ha hab htk
  have hnx:=yqv l (a0+i) hn (by omega)
  have hdr:rd (l.drop a0) (i:Int)=rd l ((a0+i:Nat):Int):=yq6 l a0 i
  have hr:=yxe hb (a0+i) (by omega)
  by_cases hz:rd l ((a0+i:Nat):Int)=0
  ·by_cases hlast:a0+i+1=l.length
   ·have hg:∀ k,zqc.l0 (k+1) acc l ((a0+i:Nat):Int)=some (0,0,(⟨#[]⟩:ByteArray),5,(l.length:Int)):=by
     intro k
     simp only [zqc.l0,hnx,Option.bind_some,if_true,if_pos hz,hlast,yq7,if_neg (show ¬ (false=true) by decide)]
    exact yqc.bad 5 (by decide) (Big.succ (Big.eq hg)) (Big.succ (Big.succ (Big.eq fun k=>yvh _ _ i (by omega) (by omega) (hdr.trans hz) k)))
   have hnx2:=yqv l (a0+i+1) hn (by omega)
   have hdr2:rd (l.drop a0) ((i+1:Nat):Int)=rd l ((a0+i+1:Nat):Int):=yq6 l a0 (i+1)
   have hsz:(strOfNums acc).size=acc.length:=strOfNums_size acc
   have hg:∀ k,zqc.l0 (k+1) acc l ((a0+i:Nat):Int)=if rd l ((a0+i+1:Nat):Int)=255 then zqc.l0 k (acc ++ [0]) l ((a0+(i+2):Nat):Int) else if rd l ((a0+i+1:Nat):Int)=1 then(if(acc.length:Int) > 40 then some (0,0,(⟨#[]⟩:ByteArray),1,((a0+(i+2):Nat):Int)) else if Lib.validD (strOfNums acc).data.toList=true then some (3,0,strOfNums acc,0,((a0+(i+2):Nat):Int)) else some (0,0,(⟨#[]⟩:ByteArray),4,((a0+(i+2):Nat):Int))) else some (0,0,(⟨#[]⟩:ByteArray),4,((a0+(i+2):Nat):Int)):=by
    intro k
    simp only [zqc.l0,hnx,hnx2,Option.bind_some,if_true,if_pos hz,if_pos (show acc.length<140737488355328 by omega),yk1 acc hab,show a0+i+1+1=a0+(i+2) by omega]
   refine yqc.step hg (fun _=>rfl) (yqc.stepf (fun k=>yvg (l.drop a0) acc i (by omega) (by omega) (by omega) (hdr.trans hz) k) ?_)
   rw [hdr2,hsz]
   by_cases h255:rd l ((a0+i+1:Nat):Int)=255
   ·simp only [if_pos h255,if_neg (show ¬ rd l ((a0+i+1:Nat):Int)=1 by omega)]
    exact ih (i+2) _ (by omega) (by omega) (by omega) (by rw [List.length_append];exact Nat.le_succ_of_le (Nat.succ_le_succ ha)) (by intro x hx;rcases List.mem_append.1 hx with h|h;exact hab x h;rw [List.mem_singleton.1 h];exact⟨by decide,by decide⟩) (by rw [yjv _ _ (by omega),htk,hdr,hdr2,hz,h255,yj3];rfl)
   by_cases h01:rd l ((a0+i+1:Nat):Int)=1
   ·simp only [if_neg h255,if_pos h01]
    by_cases h40:(acc.length:Int) > 40
    ·simp only [if_pos h40]
     exact yqc.bad 1 (by decide) (Big.of _) (Big.of _)
    simp only [if_neg h40]
    have hsg:=yjm (strOfNums acc) (by rw [hsz];omega)
    cases hv:Lib.validD (strOfNums acc).data.toList with
    | true=>
     rw [hv] at hsg
     exact .inr ⟨3,0,strOfNums acc,i+2,by omega,by omega,Big.of _,Big.bind hsg (Big.of _),by rw [yjv _ _ (by omega),htk,hdr,hdr2,hz,h01];show _=5 :: (qv.esc (bytesOf (strOfNums acc)) ++ [0,1]);rw [yxj acc hab];rfl,by decide⟩
    | false=>
     rw [hv] at hsg
     exact yqc.bad 4 (by decide) (Big.of _) (Big.bind hsg (Big.of _))
   simp only [if_neg h255,if_neg h01]
   exact yqc.bad 4 (by decide) (Big.of _) (Big.of _)
  have hg:∀ k,zqc.l0 (k+1) acc l ((a0+i:Nat):Int)=zqc.l0 k (acc ++ [rd l ((a0+i:Nat):Int)]) l ((a0+(i+1):Nat):Int):=by
   intro k
   simp only [zqc.l0,hnx,Option.bind_some,if_true,if_neg hz,if_pos (show acc.length<140737488355328 by omega),show a0+i+1=a0+(i+1) by omega]
  refine yqc.step hg (fun _=>rfl) (yqc.stepf (fun k=>l1_put (l.drop a0) acc i (by omega) (by omega) (by omega) (by rw [hdr];exact hz) k) ?_)
  rw [hdr]
  exact ih (i+1) _ (by omega) (by omega) (by omega) (by rw [List.length_append];exact Nat.succ_le_succ ha) (by intro x hx;rcases List.mem_append.1 hx with h|h;exact hab x h;rw [List.mem_singleton.1 h];exact hr) (by rw [take_one _ _ (by omega),htk,hdr,yj3,if_neg hz];rfl)
theorem yqc.stepg {l:List Int} {a:Nat} {g f g':Nat→Option (Int × Int × ByteArray × Int × Int)} (hg:∀ k,g (k+1)=g' k) (h:yqc l a g' f):yqc l a g f:=by
 have G:∀ {r},Big g' r→Big g r:=fun hr=>Big.succ (Big.congr hr hg)
 rcases h with ⟨e,he,⟨_,_,_,_,h1⟩,h2⟩|⟨v0,v1,v2,c,hc,hl,h1,h2,h3⟩
 ·exact .inl ⟨e,he,⟨_,_,_,_,G h1⟩,h2⟩
 exact .inr ⟨v0,v1,v2,c,hc,hl,G h1,h2,h3⟩
theorem yj6 (o:Option (Int × Int × ByteArray × Int × Int)):(o.bind fun t=>some (t.1,t.2.1,t.2.2.1,t.2.2.2.1,t.2.2.2.2))=o:=by cases o <;> rfl
theorem yxa (l:List Int) (hb:b8 l) (hn:l.length≤1200) (a:Nat) (ha:a<l.length) (n:Int) (hn14:n≠14):yqc l a (fun k=>zqh.f k l (a:Int) n) (fun k=>zo.f k (l.drop a)):=by
 have hl:(l.drop a).length=l.length - a:=List.length_drop
 have hnx:=yqv l a hn ha
 have hdr:rd (l.drop a) (0:Int)=rd l (a:Int):=yq6 l a 0
 have hr:=yxe hb a ha
 simp only [zqh.f,zo.f,if_neg hn14,hnx,Option.bind_some,hdr,if_pos (show(0:Int)<((l.drop a).length:Int) by omega)]
 have hd0:rd (l.drop a) ((0:Nat):Int)=rd l (a:Int):=hdr
 generalize hc:rd l (a:Int)=c
 by_cases h1:c=1
 ·subst h1
  simp only [if_true]
  exact .inr ⟨0,0,_,1,by omega,by omega,Big.of _,Big.of _,by rw [take_one _ 0 (by omega),hd0,hc];rfl,by decide⟩
 by_cases h2:c=2
 ·subst h2
  simp only [Int.reduceEq,if_false,if_true]
  exact yqc.step (g':=fun _=>some (1,0,(⟨#[]⟩:ByteArray),0,((a+1:Nat):Int))) (fun k=>by simp [zqh.j0]) (fun _=>rfl) (.inr ⟨1,0,_,1,by omega,by omega,Big.of _,Big.of _,by rw [take_one _ 0 (by omega),hd0,hc];rfl,by decide⟩)
 by_cases h3:c=3
 ·subst h3
  simp only [Int.reduceEq,if_false,if_true]
  exact yqc.step (g':=fun _=>some (1,1,(⟨#[]⟩:ByteArray),0,((a+1:Nat):Int))) (fun k=>by simp [zqh.j0]) (fun _=>rfl) (.inr ⟨1,1,_,1,by omega,by omega,Big.of _,Big.of _,by rw [take_one _ 0 (by omega),hd0,hc];rfl,by decide⟩)
 simp only [if_neg h1,if_neg h2,if_neg h3,show(c == 3)=false from beq_eq_false_iff_ne.2 h3]
 by_cases h4:c=4
 ·subst h4
  have hg:∀ k,zqh.j0 (k+1) 4 4 false l ((a+1:Nat):Int)=zqd.l0 k 0 0 l ((a+1:Nat):Int):=by
   intro k
   simp only [zqh.j0,zqd.f,yj6,Int.reduceEq,if_false,if_true,if_neg (show ¬ (false=true) by decide)]
  simp only [Int.reduceEq,if_false,if_true]
  by_cases h9:a+9≤l.length
  ·simp only [if_neg (show ¬ ((l.drop a).length:Int)<9 by omega)]
   obtain ⟨g1,g2⟩:=yjz l hb hn a h9 8 0 rfl (by omega)
   rw [yky] at g1 g2
   refine yqc.stepg hg (.inr ⟨2,num8 l (a+1),_,9,by omega,h9,g1,g2,?_,yve _ _⟩)
   rw [yki hb (a+1) (by omega),List.drop_eq_getElem_cons (show a<l.length by omega),List.take_succ_cons, ← rd_at l a (by omega),hc]
  simp only [if_pos (show((l.drop a).length:Int)<9 by omega)]
  exact yqc.stepg hg (yqc.bad 5 (by decide) (yjf l hn _ 0 (a+1) 0 rfl (by omega) (by omega) (by omega)) (Big.of _))
 by_cases h5:c=5
 ·subst h5
  have hg:∀ k,zqh.j0 (k+1) 5 5 false l ((a+1:Nat):Int)=zqc.l0 k [] l ((a+1:Nat):Int):=by
   intro k
   simp only [zqh.j0,zqc.f,yj6,Int.reduceEq,if_false,if_true,if_neg (show ¬ (false=true) by decide)]
  simp only [Int.reduceEq,if_false,if_true]
  exact yqc.stepg hg (yxq l hb hn a _ 1 [] (Nat.le_refl _) (Nat.le_refl _) (by omega) (Nat.zero_le _) (by intro x hx;cases hx) (by rw [take_one _ 0 (by omega),hd0,hc];rfl))
 simp only [if_neg h4,if_neg h5]
 refine yqc.step (g':=fun _=>some (0,0,(⟨#[]⟩:ByteArray),3,((a+1:Nat):Int))) (fun k=>?_) (fun _=>rfl) (yqc.bad 3 (by decide) (Big.of _) (Big.of _))
 simp only [zqh.j0,if_neg h4,if_neg h5,if_neg (show ¬ (false=true) by decide)]
theorem yxz (l:List Int) (hb:b8 l) (hn:l.length≤1200):∀ (d a:Nat) (acc:List S38),l.length - a≤d→a≤l.length→acc.length≤14→wfV acc → ∃ (r:List S38 × Int × Int) (K:Nat),(∀ k m,K≤k→K≤m→zq2.l k l m (a:Int) acc=some r)∧Big (fun k=>qt.l0 k l acc (a:Int)) r∧r.1.length≤14∧wfV r.1∧(r.2.2=0→zx.encs r.1=zx.encs acc ++ l.drop a):=by
 intro d
 induction d with
 | zero=>
  intro a acc hd ha hc hwa
  refine⟨(acc,0,0),1,?_,?_,hc,hwa,fun _=>by rw [List.drop_eq_nil_of_le (by omega),List.append_nil]⟩
  ·intro k m hk hm
   obtain ⟨m,rfl⟩:∃ m',m=m'+1:=⟨m - 1,by omega⟩
   simp only [zq2.l,if_neg (show ¬ (a:Int)<(l.length:Int) by omega)]
  refine Big.succ ?_
  simp only [qt.l0,if_neg (show ¬ (a:Int)<(l.length:Int) by omega)]
  exact Big.of _
 | succ d ih=>
  intro a acc hd ha hc hwa
  by_cases he:a=l.length
  ·exact ih a acc (by omega) ha hc hwa
  have hal:(a:Int)<(l.length:Int):=by omega
  by_cases h14:acc.length=14
  ·refine⟨([],(a:Int),1),1,?_,?_,Nat.zero_le _,fun x hx=>(List.not_mem_nil hx).elim,fun h=>absurd h (show ¬ (1:Int)=0 by decide)⟩
   ·intro k m hk hm
    obtain ⟨m,rfl⟩:∃ m',m=m'+1:=⟨m - 1,by omega⟩
    simp only [zq2.l,if_pos hal,zqh.f,h14,show((14:Nat):Int)=14 from rfl,if_true,Option.bind_some,if_neg (show ¬ (1:Int)=0 by decide)]
   refine Big.succ ?_
   simp only [qt.l0,if_pos hal,if_pos (show(acc.length:Int) ≥ 14 by omega)]
   exact Big.of _
  have hn14:(acc.length:Int)≠14:=by omega
  rcases yxa l hb hn a (by omega) (acc.length:Int) hn14 with ⟨e,he0,⟨_,_,_,_,K,h1⟩,_,_,_,_,h2⟩|⟨v0,v1,v2,c,hc0,hl,⟨K,h1⟩,h2,htk,hwf⟩
  ·refine⟨([],(a:Int),e),K+1,?_,?_,Nat.zero_le _,fun x hx=>(List.not_mem_nil hx).elim,fun h=>absurd h he0⟩
   ·intro k m hk hm
    obtain ⟨m,rfl⟩:∃ m',m=m'+1:=⟨m - 1,by omega⟩
    simp only [zq2.l,if_pos hal,h1 k (by omega),Option.bind_some,if_neg he0]
   refine Big.succ ?_
   simp only [qt.l0,if_pos hal,if_neg (show ¬ (acc.length:Int) ≥ 14 by omega),if_pos (show(0:Int)≤(a:Int) by omega),if_pos (show(a:Int)≤(l.length:Int) by omega),Int.toNat_natCast]
   refine Big.bind h2 ?_
   simp only [if_neg he0]
   exact Big.of _
  obtain ⟨r,K2,r1,r2,r3,r4,r5⟩:=ih (a+c) (acc ++ [⟨v0,v1,v2⟩]) (by omega) (by omega) (by rw [List.length_append];simp;omega) (by intro x hx;rcases List.mem_append.1 hx with h|h;exact hwa x h;rw [List.mem_singleton.1 h];exact hwf)
  refine⟨r,K+K2+1,?_,?_,r3,r4,fun h0=>?_⟩
  rotate_left 2
  ·rw [r5 h0,show l.drop a=(l.drop a).take c ++ (l.drop a).drop c from (List.take_append_drop _ _).symm,htk,List.drop_drop, ← List.append_assoc]
   simp [zx.encs]
  ·intro k m hk hm
   obtain ⟨m,rfl⟩:∃ m',m=m'+1:=⟨m - 1,by omega⟩
   simp only [zq2.l,if_pos hal,h1 k (by omega),Option.bind_some,if_true,if_pos (show acc.length<100000 by omega)]
   exact r1 k m (by omega) (by omega)
  refine Big.succ ?_
  simp only [qt.l0,if_pos hal,if_neg (show ¬ (acc.length:Int) ≥ 14 by omega),if_pos (show(0:Int)≤(a:Int) by omega),if_pos (show(a:Int)≤(l.length:Int) by omega),Int.toNat_natCast]
  refine Big.bind h2 ?_
  have e1:wrap64 ((a:Int)+(c:Int))=((a+c:Nat):Int):=by rw [w64 (by omega) (by omega)];omega
  simp only [if_true,if_pos (show acc.length<4398046511104 by omega),e1]
  exact r2
theorem yxb (l:List Int) (hb:b8 l):∃ r:List S38 × Int × Int,Big (fun k=>zq2.f k l) r∧Big (fun k=>qt.f k l) r∧r.1.length≤14∧wfV r.1∧(r.2.2=0→zx.encs r.1=l):=by
 by_cases hn:l.length≤1200
 ·obtain ⟨r,K,h1,h2,h3,h4,h5⟩:=yxz l hb hn l.length 0 [] (by omega) (by omega) (Nat.zero_le _) (fun x hx=>(List.not_mem_nil hx).elim)
  exact⟨r,⟨K,fun k hk=>by show zq2.f k l=some r;unfold zq2.f;rw [if_neg (by omega)];exact h1 k k hk hk⟩,Big.congr h2 (fun k=>by show qt.f k l=_;unfold qt.f;rw [if_neg (by omega)];rfl),h3,h4,fun h0=>(h5 h0).trans (by simp [zx.encs])⟩
 exact⟨([],0,1),Big.eq (fun k=>by show zq2.f k l=_;unfold zq2.f;rw [if_pos (by omega)]),Big.eq (fun k=>by show qt.f k l=_;unfold qt.f;rw [if_pos (by omega)]),Nat.zero_le _,fun x hx=>(List.not_mem_nil hx).elim,fun h=>absurd h (show ¬ (1:Int)=0 by decide)⟩
theorem yj7:∀ (l:List S38),(∀ x ∈ l,yqf x.f0 x.f1 x.f2=0)→bad l=0
 | [],_=>rfl
 | x :: r,h=>by rw [bad,if_pos (h x (by simp))];exact yj7 r (fun y hy=>h y (by simp [hy]))
theorem yxv (row:List S38) (cs:List S90):∀ (d i:Nat),rf row cs d i=0 → ∀ j,i≤j→j<i+d→yqf (rv row j).f0 (rv row j).f1 (rv row j).f2=0
 | 0,i,_,j,h1,h2=>by omega
 | d+1,i,h,j,h1,h2=>by
  rw [rf] at h
  by_cases h0:yqf (rv row i).f0 (rv row i).f1 (rv row i).f2=0
  ·rw [if_neg (fun q=>q h0)] at h
   by_cases h3:(rv row i).f0=0∧(rc cs i).f2=true
   ·rw [if_pos h3] at h;omega
   rw [if_neg h3] at h
   by_cases h4:(rv row i).f0≠0∧(rv row i).f0≠(rc cs i).f1
   ·rw [if_pos h4] at h;omega
   rw [if_neg h4] at h
   by_cases hj:j=i
   ·rw [hj];exact h0
   exact yxv row cs d (i+1) h j (by omega) (by omega)
  rw [if_pos h0] at h;exact absurd h h0
theorem yk9 {t:S61} {row:List S38} (h:rowF t row=0) (hn:row.length≤14):(yqh row).1=zx.encs row:=by
 have hl:=yjx h
 have h':rf row t.f1 row.length 0=0:=by unfold rowF at h;rwa [if_pos hl] at h
 have hb:bad row=0:=yj7 row (fun x hx=>by
  obtain ⟨j,hj,rfl⟩:=List.getElem_of_mem hx
  have:=yxv row t.f1 row.length 0 h' j (Nat.zero_le _) (by omega)
  rwa [rv_at row j hj] at this)
 unfold yqh
 rw [if_neg (by omega),if_pos hb]
theorem yjc (m:List S38) (hm:m.length≤14):∀ (d i:Nat),m.length - i≤d→i≤m.length→Big (fun k=>qp.l0 k m m (i:Int)) true:=by
 intro d
 induction d with
 | zero=>
  intro i hd hi
  refine Big.succ ?_
  simp only [qp.l0,if_neg (show ¬ (i:Int)<(m.length:Int) by omega)]
  exact Big.of _
 | succ d ih=>
  intro i hd hi
  by_cases he:i=m.length
  ·exact ih i (by omega) hi
  refine Big.succ ?_
  have e1:wrap64 ((i:Int)+1)=((i+1:Nat):Int):=by rw [w64 (by omega) (by omega)];omega
  simp only [qp.l0,if_pos (show(i:Int)<(m.length:Int) by omega),if_pos (show(0:Int)≤(i:Int) by omega),beq_self_eq_true,Bool.not_true,Bool.or_self,if_neg (show ¬ (false=true) by decide),e1]
  exact ih (i+1) (by omega) (by omega)
theorem yjn (m:List S38) (hm:m.length≤14):Big (fun k=>qp.f k m m) true:=by
 refine Big.congr (yjc m hm m.length 0 (by omega) (by omega)) (fun k=>?_)
 unfold qp.f
 rw [if_pos rfl]
 rfl
theorem yxd (l:List S61) (a:Int) (ky vl:List Int) (ho:∀ t ∈ l,yqi t) (ha:(Lit.int .i64 a).wf=true) (hv:b8 vl):∃ r:List S38 × Int,Big (fun k=>zxn.f k l a ky vl) r∧Big (fun k=>qy.f k l a ky vl) r∧r.1.length≤14:=by
 obtain ⟨b,h1,h2⟩:=yvk l ho
 have hwh:=yxo l a ho
 cases b with
 | false=>
  have hc:¬ cat l:=fun q=>by simpa using h2.2 q
  rw [if_neg hc] at hwh
  refine⟨([],4),?_,?_,by simp⟩
  ·unfold zxn.f
   refine Big.bind hwh ?_
   simp only [if_neg (show ¬ (4:Int)=0 by decide)]
   exact Big.of _
  unfold qy.f
  refine Big.bind h1 ?_
  simp only [Bool.false_eq_true,if_false]
  exact Big.of _
 | true=>
  have hc:cat l:=h2.1 rfl
  rw [if_pos hc] at hwh
  by_cases hr:0≤a∧a<(l.length:Int)
  ·rw [if_pos hr] at hwh
   obtain ⟨m,rfl⟩:=Int.eq_ofNat_of_zero_le hr.1
   have hm:m<l.length:=by omega
   have hfit:=hc.2.1 m (Nat.zero_le _) hm
   have hcols:(rt l m).f1.length≤6:=hfit.1.2.1
   obtain ⟨u,d1,d2,d3,d4,d5⟩:=yxb vl hv
   have p1:=yx4 (rt l m) u.1 d4 (by omega)
   have p2:=yjd (rt l m) u.1 (by omega)
   have prog:∀ {r:List S38 × Int},Big (fun k=>zjg.f k (rt l m).f0 (rt l m).f1 (rt l m).f2 (rt l m).f3 (m:Int) ky vl) r→Big (fun k=>zxn.f k l (m:Int) ky vl) r:=fun {r} h=>by
    unfold zxn.f
    refine Big.bind hwh ?_
    simp only [if_true]
    exact Big.bind h (Big.of _)
   have refj:∀ {r:List S38 × Int},Big (fun k=>qy.j0 k l (m:Int) false ky vl) r→Big (fun k=>qy.f k l (m:Int) ky vl) r:=fun {r} h=>by
    unfold qy.f
    refine Big.bind h1 ?_
    simp only [if_true,if_neg (show ¬ (m:Int)<0 by omega),decide_eq_false (show ¬ (m:Int) ≥ (l.length:Int) by omega)]
    exact h
   have bad4:∀ x,Big (fun k=>qy.j1 k l (m:Int) x true ky vl) ([],4):=fun x=>Big.succ (Big.eq fun k=>by simp only [qy.j1,if_true])
   by_cases hu:u.2.2=0
   ·by_cases hf:rowF (rt l m) u.1=0
    ·have hok:=ok_row hfit (yjx hf)
     have hkey:=yk9 hf d3
     have hent:=yja l m u.1 hm hok
     have pe:=yx5 (m:Int) 0 u.1 [(rt l m).f2] (ykf ha (by decide) d4 _ (fun x hx=>by simp only [List.mem_cons,List.not_mem_nil,or_false] at hx;rw [hx];exact hok.1)) (fun x hx=>by simp only [List.mem_cons,List.not_mem_nil,or_false] at hx;rw [hx];exact⟨hok.1,hok.2.1⟩) (by simp)
     refine⟨if((strOfNums (yqh (yqd (m:Int) 0 u.1 [(rt l m).f2])).1).toList == (strOfNums ky).toList)=true then(u.1,0) else ([],4),prog ?_,refj ?_,by split <;> simp [d3]⟩
     ·unfold zjg.f
      refine Big.bind d1 ?_
      simp only [if_pos hu]
      refine Big.bind p1 ?_
      simp only [if_pos hf]
      refine Big.bind pe ?_
      simp only [bytes_Equal.f,Option.bind_some]
      generalize ((strOfNums (yqh (yqd (m:Int) 0 u.1 [(rt l m).f2])).1).toList == (strOfNums ky).toList)=q
      cases q
      ·exact Big.of _
      exact Big.of _
     refine Big.succ ?_
     simp only [qy.j0,Bool.false_eq_true,if_false]
     refine Big.bind d2 ?_
     simp only [if_pos hu,if_pos (show(0:Int)≤(m:Int) by omega),if_pos (show(m:Int)<(l.length:Int) by omega)]
     refine Big.bind p2 ?_
     simp only [hf]
     refine Big.succ ?_
     simp only [qy.j1]
     refine Big.bind hent ?_
     have hh:zjq (ents (m:Int) u.1 (rt l m)) 0=(⟨(yqh (yqd (m:Int) 0 u.1 [(rt l m).f2])).1,(yqh u.1).1⟩:S32):=rfl
     simp only [if_pos (show(0:Int)<((ents (m:Int) u.1 (rt l m)).length:Int) by simp [ents]),hh,hkey,d5 hu,zqm.f,Option.bind_some,beq_self_eq_true,if_true]
     generalize ((strOfNums (yqh (yqd (m:Int) 0 u.1 [(rt l m).f2])).1).toList == (strOfNums ky).toList)=q
     cases q
     ·exact Big.of _
     exact Big.of _
    refine⟨([],4),prog ?_,refj ?_,by simp⟩
    ·unfold zjg.f
     refine Big.bind d1 ?_
     simp only [if_pos hu]
     refine Big.bind p1 ?_
     simp only [if_neg hf]
     exact Big.of _
    refine Big.succ ?_
    simp only [qy.j0,Bool.false_eq_true,if_false]
    refine Big.bind d2 ?_
    simp only [if_pos hu,if_pos (show(0:Int)≤(m:Int) by omega),if_pos (show(m:Int)<(l.length:Int) by omega)]
    refine Big.bind p2 ?_
    simp only [show(rowF (rt l m) u.1 != 0)=true from bne_iff_ne.2 hf]
    exact bad4 _
   refine⟨([],4),prog ?_,refj ?_,by simp⟩
   ·unfold zjg.f
    refine Big.bind d1 ?_
    simp only [if_neg hu]
    exact Big.of _
   refine Big.succ ?_
   simp only [qy.j0,Bool.false_eq_true,if_false]
   refine Big.bind d2 ?_
   simp only [if_neg hu]
   exact bad4 _
  rw [if_neg hr] at hwh
  refine⟨([],2),?_,?_,by simp⟩
  ·unfold zxn.f
   refine Big.bind hwh ?_
   simp only [if_neg (show ¬ (2:Int)=0 by decide)]
   exact Big.of _
  unfold qy.f
  refine Big.bind h1 ?_
  simp only [if_true]
  have hj:Big (fun k=>qy.j0 k l a true ky vl) ([],2):=Big.succ (Big.eq fun k=>by simp only [qy.j0,if_true])
  by_cases h3:a<0
  ·simp only [if_pos h3];exact hj
  simp only [if_neg h3,decide_eq_true (show a ≥ (l.length:Int) by omega)];exact hj

end Go.Proofs.YthhejedfjgikdaaDoor.Pure.RowReadsOf
namespace Go.Proofs.YthhejedfjgikdaaDoor.Pure
open Go Go.RowKit Go.Proofs.YthhejedfjgikdaaDoor.PRowReads Go.Proofs.YthhejedfjgikdaaDoorW.PrintWords Go.Proofs.YthhejedfjgikdaaDoorW.PrintLast Go.Proofs.YthhejedfjgikdaaDoor.Bg RowReadsOf
theorem RowReads:commonholdlaw_RowReads.Pure:=by
 intro l a row hl ha hrow hz hzr
 have ho:∀ t ∈ l,yqi t:=fun t ht=>by
  have g:=hl.2 t ht
  have z:=hz.2 t ht
  exact⟨z.1,⟨z.2.1.1,fun c hc=>(z.2.1.2 c hc).1⟩,⟨g.2.2.1.1,fun x hx=>bounds_i64 (g.2.2.1.2 x hx)⟩,⟨z.2.2.2.1,fun x hx=>⟨(z.2.2.2.2 x hx).1,(g.2.2.2.2 x hx).2.1,fun y hy=>bounds_i64 ((g.2.2.2.2 x hx).2.2 y hy)⟩⟩⟩
 have hv:b8 row.f1:=fun x hx=>bounds_u8 (hrow.2.2 x hx)
 obtain ⟨r,h1,h2,h3⟩:=yxd l a row.f0 row.f1 ho ha hv
 refine Big.to ?_
 unfold commonholdlaw_RowReads.f
 refine Big.bind h1 (Big.bind h2 (Big.bind (yjn r.1 h3) ?_))
 simp only [if_true,beq_self_eq_true]
 exact Big.of true
end Go.Proofs.YthhejedfjgikdaaDoor.Pure
