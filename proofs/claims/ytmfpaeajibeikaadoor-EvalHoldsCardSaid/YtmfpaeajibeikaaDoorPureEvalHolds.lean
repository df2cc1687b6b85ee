/- eval.Holds answers as its reference does, at every expression and row. No condition beyond the statement's own. -/
import Derived.Test.YtmfpaeajibeikaaDoorPEvalHoldsx18
import Derived.Test.YtmfpaeajibeikaaDoorBig
import Derived.Lib.ValidLaws
import Derived.Lib.BytesEntry
import Derived.Laws.Strings
namespace Go.Proofs.YtmfpaeajibeikaaDoor.Pure.EvalHoldsOf
open Go Go.RowKit Go.Proofs.YtmfpaeajibeikaaDoor.PEvalHolds Go.Proofs.YtmfpaeajibeikaaDoorW.PrintWords Go.Proofs.YtmfpaeajibeikaaDoorW.PrintLast Go.Proofs.YtmfpaeajibeikaaDoorW.PrintMore Go.Proofs.YtmfpaeajibeikaaDoor.Bg
set_option linter.unusedVariables false
set_option linter.unusedSimpArgs false
def by8 (t:ByteArray) (i:Nat):Nat:=(t.data.toList.getD i 0).toNat
theorem yxs (t:ByteArray) (i:Nat):by8 t i<256:=(t.data.toList.getD i 0).toNat_lt
theorem ykj (t:ByteArray) (i:Nat) (h:i<t.size):bt t (i:Int)=(by8 t i:Int):=by
 rw [bt_at' t i h]
 unfold by8
 have:t.data.toList.getD i 0=t[i]:=by
  rw [List.getD_eq_getElem?_getD,List.getElem?_eq_getElem (by simpa using h)]
  simp
  rfl
 rw [this]
def fin3 (code:Int):Int:=if code<2048 then 0 else if 55296≤code∧code≤57343 then 0 else 3
def fin4 (code:Int):Int:=if code<65536 then 0 else if code > 1114111 then 0 else 4
theorem yku (t:ByteArray) (code:Int):Big (fun k=>zd.l0 k t 2 code 2) 2:=by
 refine Big.succ ?_
 simp only [zd.l0]
 simp only [if_neg (show ¬ (2:Int)<2 by omega),if_neg (show ¬ (2:Int)=3 by omega),if_neg (show ¬ (2:Int)=4 by omega)]
 exact Big.of _
theorem ykt (t:ByteArray) (code:Int):Big (fun k=>zd.l0 k t 3 code 3) (fin3 code):=by
 refine Big.succ ?_
 simp only [zd.l0]
 simp only [if_neg (show ¬ (3:Int)<3 by omega),if_true,if_neg (show ¬ (3:Int)=4 by omega)]
 unfold fin3
 by_cases h1:code<2048
 ·simp only [if_pos h1];exact Big.of _
 simp only [if_neg h1]
 by_cases h2:code ≥ 55296
 ·simp only [if_pos h2]
  by_cases h3:code≤57343
  ·simp only [if_pos h3,if_pos (show 55296≤code∧code≤57343 from ⟨h2,h3⟩)];exact Big.of _
  simp only [if_neg h3,if_neg (show ¬ (55296≤code∧code≤57343) by omega)];exact Big.of _
 simp only [if_neg h2,if_neg (show ¬ (55296≤code∧code≤57343) by omega)];exact Big.of _
theorem yks (t:ByteArray) (code:Int):Big (fun k=>zd.l0 k t 4 code 4) (fin4 code):=by
 refine Big.succ ?_
 simp only [zd.l0]
 simp only [if_neg (show ¬ (4:Int)<4 by omega),if_neg (show ¬ (4:Int)=3 by omega),if_true]
 unfold fin4
 by_cases h1:code<65536
 ·simp only [if_pos h1];exact Big.of _
 simp only [if_neg h1]
 by_cases h2:code > 1114111
 ·simp only [if_pos h2];exact Big.of _
 simp only [if_neg h2];exact Big.of _
theorem and63:∀ b:Nat,b<256→Go.bits .and .u8 (b:Int) 63=((b % 64:Nat):Int):=by decide +kernel
theorem and31:∀ b:Nat,b<256→Go.bits .and .i64 (b:Int) 31=((b % 32:Nat):Int):=by decide +kernel
theorem and15:∀ b:Nat,b<256→Go.bits .and .i64 (b:Int) 15=((b % 16:Nat):Int):=by decide +kernel
theorem and7:∀ b:Nat,b<256→Go.bits .and .i64 (b:Int) 7=((b % 8:Nat):Int):=by decide +kernel
theorem yqt (t:ByteArray) (n i code:Nat) (r:Int) (hi:i<n) (h4:n≤4) (hs:i<t.size) (hc:code≤16777216)
  (h:Big (fun k=>zd.l0 k t (n:Int) ((code * 64+by8 t i % 64:Nat):Int) ((i+1:Nat):Int)) r) :
  Big (fun k=>zd.l0 k t (n:Int) (code:Int) (i:Int)) (if by8 t i<128∨191<by8 t i then 0 else r):=by
 refine Big.succ ?_
 simp only [zd.l0]
 have hb:=yxs t i
 simp only [if_pos (show(i:Int)<(n:Int) by omega),if_pos (show(0:Int)≤(i:Int) by omega),if_pos (show(i:Int)<(t.size:Int) by omega),ykj t i hs,and63 _ hb]
 have e1:wrap64 ((by8 t i % 64:Nat):Int)=((by8 t i % 64:Nat):Int):=w64 (by omega) (by omega)
 have e2:wrap64 ((code:Int) * 64)=(code:Int) * 64:=w64 (by omega) (by omega)
 have e3:wrap64 ((code:Int) * 64+((by8 t i % 64:Nat):Int))=((code * 64+by8 t i % 64:Nat):Int):=by rw [w64 (by omega) (by omega)];omega
 have e4:wrap64 ((i:Int)+1)=((i+1:Nat):Int):=by rw [w64 (by omega) (by omega)];omega
 simp only [e1,e2,e3,e4]
 by_cases h1:((by8 t i:Nat):Int)<128
 ·simp only [if_pos h1]
  refine(Big.of 0).cast ?_
  rw [if_pos (.inl (by omega))]
 by_cases h2:((by8 t i:Nat):Int) > 191
 ·simp only [if_neg h1,if_pos h2]
  refine(Big.of 0).cast ?_
  rw [if_pos (.inr (by omega))]
 simp only [if_neg h1,if_neg h2]
 refine h.cast ?_
 rw [if_neg (by omega)]
def rsz (n b0 b1 b2 b3:Nat):Int:=
 if b0<128 then 1
 else if 194≤b0∧b0<224 then(if n<2 then 0 else if b1<128∨191<b1 then 0 else 2)
 else if 224≤b0∧b0<240 then(if n<3 then 0 else if b1<128∨191<b1 then 0 else if b2<128∨191<b2 then 0 else fin3 (((b0 % 16 * 64+b1 % 64) * 64+b2 % 64:Nat):Int))
 else if 240≤b0∧b0<245 then(if n<4 then 0 else if b1<128∨191<b1 then 0 else if b2<128∨191<b2 then 0 else if b3<128∨191<b3 then 0 else fin4 ((((b0 % 8 * 64+b1 % 64) * 64+b2 % 64) * 64+b3 % 64:Nat):Int))
 else 0
theorem ykr (t:ByteArray) (n code:Nat) (hn:n≤4) (h2:2≤n) (r:Int) (h:n≤t.size→Big (fun k=>zd.l0 k t (n:Int) (code:Int) 1) r) :
  Big (fun k=>zd.j2 k t (n:Int) (code:Int)) (if t.size<n then 0 else r):=by
 refine Big.succ (Big.succ ?_)
 simp only [zd.j2,zd.j3]
 simp only [if_neg (show ¬ (n:Int)=0 by omega)]
 by_cases hs:(t.size:Int)<(n:Int)
 ·simp only [decide_eq_true hs,if_true]
  refine(Big.of 0).cast ?_
  rw [if_pos (by omega)]
 simp only [decide_eq_false hs,if_neg (show ¬ (false=true) by decide)]
 refine(h (by omega)).cast ?_
 rw [if_neg (by omega)]
theorem yj9 (t:ByteArray):Big (fun k=>zd.j2 k t 0 0) 0:=by
 refine Big.succ (Big.succ ?_)
 simp only [zd.j2,zd.j3,if_true]
 exact Big.of _
set_option maxRecDepth 100000 in
theorem rs_law (t:ByteArray) (h0:0<t.size):Big (fun k=>zd.f k t) (rsz t.size (by8 t 0) (by8 t 1) (by8 t 2) (by8 t 3)):=by
 have hb:=yxs t 0
 have ew:wrap64 (bt t 0)=(by8 t 0:Int):=by rw [show(0:Int)=((0:Nat):Int) from rfl,ykj t 0 h0,w64 (by omega) (by omega)]
 simp only [zd.f,if_neg (show ¬ (t.size:Int)=0 by omega),if_pos (show(0:Int)<(t.size:Int) by omega),ew]
 unfold rsz
 by_cases c1:by8 t 0<128
 ·simp only [if_pos (show((by8 t 0:Nat):Int)<128 by omega),if_pos c1]
  exact Big.of _
 simp only [if_neg (show ¬ ((by8 t 0:Nat):Int)<128 by omega),if_neg c1]
 by_cases c2:194≤by8 t 0∧by8 t 0<224
 ·simp only [if_pos (show((by8 t 0:Nat):Int) ≥ 194 by omega),decide_eq_true (show((by8 t 0:Nat):Int)<224 by omega),if_pos c2]
  refine Big.succ ?_
  simp only [zd.j0,if_true,and31 _ hb]
  refine ykr t 2 _ (by omega) (by omega) _ (fun hs=>?_)
  exact yqt t 2 1 _ _ (by omega) (by omega) (by omega) (by omega) (yku t _)
 simp only [if_neg c2]
 by_cases c3:224≤by8 t 0∧by8 t 0<240
 ·simp only [if_pos (show((by8 t 0:Nat):Int) ≥ 194 by omega),decide_eq_false (show ¬ ((by8 t 0:Nat):Int)<224 by omega),if_pos c3]
  refine Big.succ (Big.succ ?_)
  simp only [zd.j0,zd.j1,if_neg (show ¬ (false=true) by decide),if_pos (show((by8 t 0:Nat):Int) ≥ 224 by omega),decide_eq_true (show((by8 t 0:Nat):Int)<240 by omega),if_true,and15 _ hb]
  refine ykr t 3 _ (by omega) (by omega) _ (fun hs=>?_)
  exact yqt t 3 1 _ _ (by omega) (by omega) (by omega) (by omega) (yqt t 3 2 _ _ (by omega) (by omega) (by omega) (by omega) (ykt t _))
 simp only [if_neg c3]
 by_cases c4:240≤by8 t 0∧by8 t 0<245
 ·simp only [if_pos (show((by8 t 0:Nat):Int) ≥ 194 by omega),decide_eq_false (show ¬ ((by8 t 0:Nat):Int)<224 by omega),if_pos c4]
  refine Big.succ (Big.succ ?_)
  simp only [zd.j0,zd.j1,if_neg (show ¬ (false=true) by decide),if_pos (show((by8 t 0:Nat):Int) ≥ 224 by omega),decide_eq_false (show ¬ ((by8 t 0:Nat):Int)<240 by omega),if_pos (show((by8 t 0:Nat):Int) ≥ 240 by omega),if_pos (show((by8 t 0:Nat):Int)<245 by omega),and7 _ hb]
  refine ykr t 4 _ (by omega) (by omega) _ (fun hs=>?_)
  exact yqt t 4 1 _ _ (by omega) (by omega) (by omega) (by omega) (yqt t 4 2 _ _ (by omega) (by omega) (by omega) (by omega) (yqt t 4 3 _ _ (by omega) (by omega) (by omega) (by omega) (yks t _)))
 simp only [if_neg c4]
 by_cases c5:((by8 t 0:Nat):Int) ≥ 194
 ·simp only [if_pos c5,decide_eq_false (show ¬ ((by8 t 0:Nat):Int)<224 by omega)]
  refine Big.succ (Big.succ ?_)
  simp only [zd.j0,zd.j1,if_neg (show ¬ (false=true) by decide),if_pos (show((by8 t 0:Nat):Int) ≥ 224 by omega),decide_eq_false (show ¬ ((by8 t 0:Nat):Int)<240 by omega),if_pos (show((by8 t 0:Nat):Int) ≥ 240 by omega),if_neg (show ¬ ((by8 t 0:Nat):Int)<245 by omega)]
  exact yj9 t
 simp only [if_neg c5]
 refine Big.succ (Big.succ ?_)
 simp only [zd.j0,zd.j1,if_neg (show ¬ (false=true) by decide),if_neg (show ¬ ((by8 t 0:Nat):Int) ≥ 224 by omega),if_neg (show ¬ ((by8 t 0:Nat):Int) ≥ 240 by omega)]
 exact yj9 t
theorem yj8 (n b0 b1 b2 b3:Nat) (h0:128≤b0) (h0':b0<256):Lib.checkN n b1 b2 b3 (Lib.firstT b0 % 8) (Lib.accLo (Lib.firstT b0 / 16)) (Lib.accHi (Lib.firstT b0 / 16))=if rsz n b0 b1 b2 b3=0 then none else some (rsz n b0 b1 b2 b3).toNat:=by
 by_cases c0:b0<194
 ·simp [Lib.firstT,Lib.checkN,rsz,show ¬ b0<128 by omega,c0,show ¬ 194≤b0 by omega,show ¬ 224≤b0 by omega,show ¬ 240≤b0 by omega]
 by_cases c1:b0<224
 ·have e1:Lib.firstT b0=2:=by simp [Lib.firstT,show ¬ b0<128 by omega,c0,c1]
  rw [e1]
  unfold rsz Lib.checkN
  simp only [show(2:Nat) % 8=2 from rfl,show(2:Nat) / 16=0 from rfl,show Lib.accLo 0=128 by decide,show Lib.accHi 0=191 by decide,if_true,if_neg (show ¬ b0<128 by omega),if_pos (show 194≤b0∧b0<224 by omega)]
  repeat' split
  all_goals first|rfl|(exfalso;omega)
 by_cases c2:b0<240
 ·obtain ⟨e,lo,hi,he,hlo,hhi,hcase⟩:∃ e lo hi,Lib.firstT b0 % 8=3∧Lib.accLo (Lib.firstT b0 / 16)=lo∧Lib.accHi (Lib.firstT b0 / 16)=hi∧e=0∧((b0=224∧lo=160∧hi=191)∨(b0=237∧lo=128∧hi=159)∨(b0≠224∧b0≠237∧lo=128∧hi=191)):=by
   refine⟨0,Lib.accLo (Lib.firstT b0 / 16),Lib.accHi (Lib.firstT b0 / 16),?_,rfl,rfl,rfl,?_⟩
   ·by_cases d1:b0=224
    ·subst d1;decide
    by_cases d2:b0<237
    ·simp [Lib.firstT,show ¬ b0<128 by omega,c0,c1,d1,d2]
    by_cases d3:b0=237
    ·subst d3;decide
    simp [Lib.firstT,show ¬ b0<128 by omega,c0,c1,d1,d2,d3,c2]
   by_cases d1:b0=224
   ·subst d1;exact .inl ⟨rfl,by decide,by decide⟩
   by_cases d2:b0<237
   ·exact .inr (.inr ⟨d1,by omega,by simp [Lib.firstT,Lib.accLo,show ¬ b0<128 by omega,c0,c1,d1,d2],by simp [Lib.firstT,Lib.accHi,show ¬ b0<128 by omega,c0,c1,d1,d2]⟩)
   by_cases d3:b0=237
   ·subst d3;exact .inr (.inl ⟨rfl,by decide,by decide⟩)
   exact .inr (.inr ⟨d1,d3,by simp [Lib.firstT,Lib.accLo,show ¬ b0<128 by omega,c0,c1,d1,d2,d3,c2],by simp [Lib.firstT,Lib.accHi,show ¬ b0<128 by omega,c0,c1,d1,d2,d3,c2]⟩)
  obtain ⟨he0,hcase⟩:=hcase
  rw [he,hlo,hhi]
  unfold rsz Lib.checkN fin3
  simp only [if_neg (show ¬ b0<128 by omega),if_neg (show ¬ (194≤b0∧b0<224) by omega),if_pos (show 224≤b0∧b0<240 by omega),if_neg (show ¬ (3:Nat)=2 by omega),if_true]
  repeat' split
  all_goals first|rfl|(exfalso;omega)
 by_cases c3:b0<245
 ·obtain ⟨lo,hi,he,hlo,hhi,hcase⟩:∃ lo hi,Lib.firstT b0 % 8=4∧Lib.accLo (Lib.firstT b0 / 16)=lo∧Lib.accHi (Lib.firstT b0 / 16)=hi∧((b0=240∧lo=144∧hi=191)∨(b0=244∧lo=128∧hi=143)∨(b0≠240∧b0≠244∧lo=128∧hi=191)):=by
   refine⟨Lib.accLo (Lib.firstT b0 / 16),Lib.accHi (Lib.firstT b0 / 16),?_,rfl,rfl,?_⟩
   ·have:b0=240∨b0=241∨b0=242∨b0=243∨b0=244:=by omega
    rcases this with rfl|rfl|rfl|rfl|rfl <;> decide
   have:b0=240∨b0=241∨b0=242∨b0=243∨b0=244:=by omega
   rcases this with rfl|rfl|rfl|rfl|rfl <;> decide
  rw [he,hlo,hhi]
  unfold rsz Lib.checkN fin4
  simp only [if_neg (show ¬ b0<128 by omega),if_neg (show ¬ (194≤b0∧b0<224) by omega),if_neg (show ¬ (224≤b0∧b0<240) by omega),if_pos (show 240≤b0∧b0<245 by omega),if_neg (show ¬ (4:Nat)=2 by omega),if_neg (show ¬ (4:Nat)=3 by omega),if_true]
  repeat' split
  all_goals first|rfl|(exfalso;omega)
 have e1:Lib.firstT b0 % 8=1:=by
  have h:=h0'
  simp [Lib.firstT,show ¬ b0<128 by omega,c0,c1,show ¬ b0=224 by omega,show ¬ b0<237 by omega,show ¬ b0=237 by omega,c2,show ¬ b0=240 by omega,show ¬ b0<244 by omega,show ¬ b0=244 by omega]
 rw [e1]
 unfold rsz Lib.checkN
 simp only [if_neg (show ¬ b0<128 by omega),if_neg (show ¬ (194≤b0∧b0<224) by omega),if_neg (show ¬ (224≤b0∧b0<240) by omega),if_neg (show ¬ (240≤b0∧b0<245) by omega),if_neg (show ¬ (1:Nat)=2 by omega),if_neg (show ¬ (1:Nat)=3 by omega),if_neg (show ¬ (1:Nat)=4 by omega),if_true]
theorem rsz_le (n b0 b1 b2 b3:Nat) (h1:1≤n):0≤rsz n b0 b1 b2 b3∧rsz n b0 b1 b2 b3≤n:=by
 unfold rsz fin3 fin4
 repeat' split
 all_goals omega
theorem yjz (t:ByteArray) (h0:0<t.size):Lib.validD t.data.toList=if rsz t.size (by8 t 0) (by8 t 1) (by8 t 2) (by8 t 3)=0 then false else Lib.validD (t.data.toList.drop (rsz t.size (by8 t 0) (by8 t 1) (by8 t 2) (by8 t 3)).toNat):=by
 have hl:t.data.toList.length=t.size:=by simp
 have hne:t.data.toList ≠ []:=fun h=>by rw [h] at hl;simp at hl;omega
 by_cases hb:by8 t 0<128
 ·have e:rsz t.size (by8 t 0) (by8 t 1) (by8 t 2) (by8 t 3)=1:=by unfold rsz;rw [if_pos hb]
  rw [e,if_neg (by omega)]
  unfold by8 at hb
  obtain ⟨b,r,hbr⟩:=List.exists_cons_of_ne_nil hne
  rw [hbr] at hb ⊢
  exact Lib.validD_cons b r (by simpa using hb)
 rw [Lib.validD_lead _ hne (by unfold by8 at hb;omega),hl]
 have h:=yj8 t.size (by8 t 0) (by8 t 1) (by8 t 2) (by8 t 3) (by omega) (yxs t 0)
 unfold by8 at h ⊢
 rw [h]
 split
 ·rename_i h2
  by_cases hz:rsz t.size (t.data.toList.getD 0 0).toNat (t.data.toList.getD 1 0).toNat (t.data.toList.getD 2 0).toNat (t.data.toList.getD 3 0).toNat=0
  ·rw [if_pos hz]
  rw [if_neg hz] at h2;cases h2
 rename_i k h2
 by_cases hz:rsz t.size (t.data.toList.getD 0 0).toNat (t.data.toList.getD 1 0).toNat (t.data.toList.getD 2 0).toNat (t.data.toList.getD 3 0).toNat=0
 ·rw [if_pos hz] at h2;cases h2
 rw [if_neg hz] at h2 ⊢
 injection h2 with h2
 rw [h2]
theorem yx7 (s:ByteArray) (i:Nat):(s.extract i s.size).data.toList=s.data.toList.drop i:=by
 simp [ByteArray.data_extract,Array.toList_extract,List.extract]
 rw [List.take_of_length_le (by simp)]
theorem yj6 (s:ByteArray) (hs:s.size≤4611686018427387904) (d:Nat):∀ i:Nat,i≤s.size→s.size - i≤d→Big (fun k=>qg.l0 k s (i:Int)) (Lib.validD (s.data.toList.drop i)):=by
 induction d with
 | zero=>
  intro i hi hd
  refine Big.succ ?_
  simp only [qg.l0,if_neg (show ¬ (i:Int)<(s.size:Int) by omega)]
  refine(Big.of true).cast ?_
  rw [List.drop_eq_nil_of_le (by simp;omega)]
  rfl
 | succ d ih=>
  intro i hi hd
  by_cases hlt:i<s.size
  ·refine Big.succ ?_
   simp only [qg.l0,if_pos (show(i:Int)<(s.size:Int) by omega),if_pos (show(0:Int)≤(i:Int) by omega),if_pos (show(i:Int)≤(s.size:Int) by omega),Int.toNat_natCast]
   obtain ⟨t,ht⟩:∃ t,s.extract i s.size=t:=⟨_,rfl⟩
   have hsz:t.size=s.size - i:=by rw [← ht];simp
   have hdr:s.data.toList.drop i=t.data.toList:=by rw [← ht,yx7]
   rw [hdr]
   simp only [ht]
   refine Big.bind (rs_law t (by omega)) ?_
   rw [yjz t (by omega)]
   have hle:=rsz_le t.size (by8 t 0) (by8 t 1) (by8 t 2) (by8 t 3) (by omega)
   generalize rsz t.size (by8 t 0) (by8 t 1) (by8 t 2) (by8 t 3)=z at *
   by_cases hz:z=0
   ·simp only [if_pos hz]
    exact Big.of _
   simp only [if_neg hz]
   obtain ⟨zn,rfl⟩:∃ zn:Nat,z=(zn:Int):=⟨z.toNat,by omega⟩
   have ew:wrap64 ((i:Int)+(zn:Int))=((i+zn:Nat):Int):=by rw [w64 (by omega) (by omega)];omega
   simp only [ew]
   refine(ih (i+zn) (by omega) (by omega)).cast ?_
   rw [← hdr,List.drop_drop]
   simp
  refine Big.succ ?_
  simp only [qg.l0,if_neg (show ¬ (i:Int)<(s.size:Int) by omega)]
  refine(Big.of true).cast ?_
  rw [List.drop_eq_nil_of_le (by simp;omega)]
  rfl
theorem ykq (s:ByteArray) (hs:s.size≤4611686018427387904):Big (fun k=>qg.f k s) (Lib.validD s.data.toList):=by
 simpa [qg.f] using yj6 s hs s.size 0 (by omega) (by omega)
theorem or_one (x:Int) (h : -9223372036854775808≤x∧x≤9223372036854775807):Go.bits .or .i64 x 1=1 ↔ (x=0∨x=1):=by
 have key:Go.bits .or .i64 x 1=IntKind.i64.wrap (((x % 18446744073709551616).toNat ||| 1:Nat):Int):=by
  show IntKind.i64.wrap ((BitVec.ofInt 64 x ||| BitVec.ofInt 64 1).toNat:Int)=_
  rw [BitVec.toNat_or,BitVec.toNat_ofInt,BitVec.toNat_ofInt]
  rfl
 rw [key,IntKind.wrap_i64]
 obtain ⟨a,ha⟩:∃ a,(x % 18446744073709551616).toNat=a:=⟨_,rfl⟩
 rw [ha]
 have hlt:a ||| 1<2 ^ 64:=Nat.or_lt_two_pow (by omega) (by omega)
 have hle:a≤a ||| 1:=Nat.left_le_or
 constructor
 ·intro h1
  have:(a ||| 1)=1:=by omega
  omega
 rintro (rfl|rfl)
 ·have:a=0:=by omega
  subst this;decide
 have:a=1:=by omega
 subst this;decide
def yqb (K I:Int) (T:ByteArray):Int:=
 if K<0∨3<K then 3 else if 40<T.size then 1
 else if(K=0∧I=0∧T.toList = [])∨(K=1∧(I=0∨I=1)∧T.toList = [])∨(K=2∧T.toList = [])∨(K=3∧I=0∧Lib.validD T.data.toList=true) then 0 else 4
theorem yqn (K I:Int) (T:ByteArray) (hI : -9223372036854775808≤I∧I≤9223372036854775807):Big (fun k=>qi.f k K I T) (yqb K I T):=by
 have ho:=or_one I hI
 simp only [qi.f]
 unfold yqb
 by_cases h0:K<0
 ·simp only [if_pos h0]
  refine Big.succ ?_
  simp only [qi.j0,if_true]
  exact(Big.of 3).cast (by rw [if_pos (.inl h0)])
 simp only [if_neg h0]
 refine Big.succ ?_
 by_cases h3:K > 3
 ·simp only [qi.j0,decide_eq_true h3,if_true]
  exact(Big.of 3).cast (by rw [if_pos (.inr h3)])
 simp only [qi.j0,decide_eq_false h3,if_neg (show ¬ (false=true) by decide)]
 rw [if_neg (show ¬ (K<0∨3<K) by omega)]
 by_cases h40:(T.size:Int) > 40
 ·simp only [if_pos h40]
  exact(Big.of 1).cast (by rw [if_pos (by omega)])
 simp only [if_neg h40]
 rw [if_neg (show ¬ 40<T.size by omega)]
 by_cases k0:K=0
 ·simp only [if_pos k0]
  by_cases hz:(K == 0 && (I == 0 && (T.toList == ([]:List UInt8))))=true
  ·simp only [if_pos hz]
   refine(Big.of 0).cast ?_
   simp only [Bool.and_eq_true,beq_iff_eq] at hz
   rw [if_pos (.inl hz)]
  simp only [if_neg hz]
  refine(Big.of 4).cast ?_
  simp only [Bool.and_eq_true,beq_iff_eq] at hz
  rw [if_neg]
  rintro (h|⟨h,_⟩|⟨h,_⟩|⟨h,_⟩)
  ·exact hz h
  all_goals omega
 simp only [if_neg k0]
 by_cases k1:K=1
 ·simp only [if_pos k1]
  by_cases hb:Go.bits .or .i64 I 1=1
  ·simp only [if_pos hb]
   by_cases ht:T.toList = []
   ·simp only [if_pos ht]
    exact(Big.of 0).cast (by rw [if_pos (.inr (.inl ⟨k1,ho.1 hb,ht⟩))])
   simp only [if_neg ht]
   refine(Big.of 4).cast ?_
   rw [if_neg]
   rintro (⟨_,_,h⟩|⟨_,_,h⟩|⟨_,h⟩|⟨h,_⟩)
   ·exact ht h
   ·exact ht h
   ·exact ht h
   omega
  simp only [if_neg hb]
  refine(Big.of 4).cast ?_
  rw [if_neg]
  rintro (⟨h,_⟩|⟨_,h,_⟩|⟨h,_⟩|⟨h,_⟩)
  ·exact k0 h
  ·exact hb (ho.2 h)
  ·omega
  omega
 simp only [if_neg k1]
 by_cases k2:K=2
 ·simp only [if_pos k2]
  by_cases ht:T.toList = []
  ·simp only [if_pos ht]
   exact(Big.of 0).cast (by rw [if_pos (.inr (.inr (.inl ⟨k2,ht⟩)))])
  simp only [if_neg ht]
  refine(Big.of 4).cast ?_
  rw [if_neg]
  rintro (⟨_,_,h⟩|⟨_,_,h⟩|⟨_,h⟩|⟨h,_⟩)
  ·exact ht h
  ·exact ht h
  ·exact ht h
  omega
 have k3:K=3:=by omega
 simp only [if_neg k2,if_pos k3]
 by_cases i0:I=0
 ·simp only [if_pos i0]
  refine Big.bind1 (r:=Lib.validD T.data.toList) (by unfold utf8_ValidString.f;rw [if_pos (by omega)]) ?_
  by_cases hv:Lib.validD T.data.toList=true
  ·simp only [if_pos hv]
   exact(Big.of 0).cast (by rw [if_pos (.inr (.inr (.inr ⟨k3,i0,hv⟩)))])
  simp only [if_neg hv]
  refine(Big.of 4).cast ?_
  rw [if_neg]
  rintro (⟨h,_⟩|⟨h,_⟩|⟨h,_⟩|⟨_,_,h⟩)
  ·omega
  ·omega
  ·omega
  exact hv h
 simp only [if_neg i0]
 refine(Big.of 4).cast ?_
 rw [if_neg]
 rintro (⟨h,_⟩|⟨h,_⟩|⟨h,_⟩|⟨_,h,_⟩)
 ·omega
 ·omega
 ·omega
 exact i0 h
theorem yqz (K I:Int) (T:ByteArray) (b:Bool) (hb:b=true ↔ ((K≠3∧T.toList ≠ [])∨((K=0∨K=3)∧I≠0))) (hK:0≤K∧K≤3) (h40:T.size≤40) :
  Big (fun k=>zw.j1 k b K I T) (yqb K I T):=by
 unfold yqb
 rw [if_neg (show ¬ (K<0∨3<K) by omega),if_neg (show ¬ 40<T.size by omega)]
 refine Big.succ ?_
 simp only [zw.j1]
 have sg:Big (fun k=>(qg.f k T).bind fun t=>if t=true then some (0:Int) else some 4) (if Lib.validD T.data.toList=true then 0 else 4):=by
  refine Big.bind (ykq T (by omega)) ?_
  by_cases hv:Lib.validD T.data.toList=true
  ·simp only [if_pos hv];exact Big.of _
  simp only [if_neg hv];exact Big.of _
 cases b with
 | true=>
  have hb:=hb.1 rfl
  simp only [if_true]
  refine(Big.of 4).cast ?_
  rw [if_neg]
  rintro (⟨h,hi,ht⟩|⟨h,_,ht⟩|⟨h,ht⟩|⟨h,hi,_⟩)
  ·rcases hb with ⟨_,h2⟩|⟨_,h2⟩
   ·exact h2 ht
   exact h2 hi
  ·rcases hb with ⟨_,h2⟩|⟨h2,_⟩
   ·exact h2 ht
   omega
  ·rcases hb with ⟨_,h2⟩|⟨h2,_⟩
   ·exact h2 ht
   omega
  rcases hb with ⟨h2,_⟩|⟨_,h2⟩
  ·exact h2 h
  exact h2 hi
 | false=>
  have hb:¬ ((K≠3∧T.toList ≠ [])∨((K=0∨K=3)∧I≠0)):=fun h=>by have:=hb.2 h;cases this
  simp only [not_or,not_and,Decidable.not_not] at hb
  obtain ⟨b1,b2⟩:=hb
  simp only [if_neg (show ¬ (false=true) by decide)]
  by_cases k1:K=1
  ·have ht:T.toList = []:=b1 (by omega)
   simp only [if_pos k1,if_neg (show ¬ K=3 by omega)]
   by_cases i0:I=0
   ·simp only [if_pos i0]
    exact(Big.of 0).cast (by rw [if_pos (.inr (.inl ⟨k1,.inl i0,ht⟩))])
   by_cases i1:I=1
   ·simp only [if_neg i0,if_pos i1]
    exact(Big.of 0).cast (by rw [if_pos (.inr (.inl ⟨k1,.inr i1,ht⟩))])
   simp only [if_neg i0,if_neg i1]
   refine(Big.of 4).cast ?_
   rw [if_neg]
   rintro (⟨h,_⟩|⟨_,h,_⟩|⟨h,_⟩|⟨h,_⟩)
   ·omega
   ·rcases h with h|h
    ·exact i0 h
    exact i1 h
   ·omega
   omega
  simp only [if_neg k1]
  by_cases k3:K=3
  ·simp only [if_pos k3]
   refine sg.cast ?_
   have i0:=b2 (.inr k3)
   by_cases hv:Lib.validD T.data.toList=true
   ·rw [if_pos hv,if_pos (.inr (.inr (.inr ⟨k3,i0,hv⟩)))]
   rw [if_neg hv,if_neg]
   rintro (⟨h,_⟩|⟨h,_⟩|⟨h,_⟩|⟨_,_,h⟩)
   ·omega
   ·omega
   ·omega
   exact hv h
  simp only [if_neg k3]
  have ht:T.toList = []:=b1 k3
  refine(Big.of 0).cast ?_
  rw [if_pos]
  by_cases k0:K=0
  ·exact .inl ⟨k0,b2 (.inl k0),ht⟩
  exact .inr (.inr (.inl ⟨by omega,ht⟩))
theorem yq0 (K I:Int) (T:ByteArray) (hK:0≤K∧K≤3):Big (fun k=>zw.j0 k false K I T) (yqb K I T):=by
 refine Big.succ ?_
 simp only [zw.j0,if_neg (show ¬ (false=true) by decide)]
 by_cases h40:(T.size:Int) > 40
 ·simp only [if_pos h40]
  refine(Big.of 1).cast ?_
  unfold yqb
  rw [if_neg (show ¬ (K<0∨3<K) by omega),if_pos (by omega)]
 simp only [if_neg h40]
 by_cases k3:K=3
 ·simp only [if_pos k3,if_neg (show ¬ K=0 by omega)]
  exact yqz K I T _ (by simp [k3]) hK (by omega)
 simp only [if_neg k3]
 by_cases ht:T.toList = []
 ·simp only [if_pos ht]
  by_cases k0:K=0
  ·simp only [if_pos k0]
   exact yqz K I T _ (by simp [k0,ht]) hK (by omega)
  simp only [if_neg k0]
  exact yqz K I T _ (by simp [k0,k3,ht]) hK (by omega)
 simp only [if_neg ht]
 exact yqz K I T _ (by simp [k3,ht]) hK (by omega)
theorem yqm (K I:Int) (T:ByteArray):Big (fun k=>zw.f k K I T) (yqb K I T):=by
 simp only [zw.f]
 by_cases k0:K=0
 ·simp only [if_pos k0]
  exact yq0 K I T (by omega)
 by_cases k1:K=1
 ·simp only [if_neg k0,if_pos k1]
  exact yq0 K I T (by omega)
 by_cases k2:K=2
 ·simp only [if_neg k0,if_neg k1,if_pos k2]
  exact yq0 K I T (by omega)
 simp only [if_neg k0,if_neg k1,if_neg k2]
 by_cases k3:K=3
 ·have:(K != 3)=false:=by simp [k3]
  simp only [this]
  exact yq0 K I T (by omega)
 have:(K != 3)=true:=by simp [k3]
 simp only [this]
 refine Big.succ ?_
 simp only [zw.j0,if_true]
 refine(Big.of 3).cast ?_
 unfold yqb
 rw [if_pos (by omega)]
theorem yq4 (K I:Int) (T:ByteArray) (h:yqb K I T=0) (h1:K=1):I=0∨I=1:=by
 unfold yqb at h
 repeat' split at h
 all_goals first|(exfalso;omega)|skip
 rename_i h4
 rcases h4 with ⟨h,_⟩|⟨_,h,_⟩|⟨h,_⟩|⟨h,_⟩
 ·omega
 ·exact h
 ·omega
 omega
def told (K I:Int) (T:ByteArray):Int × Int:=if yqb K I T=0 then(if K=0 then(1,0) else if K=1 then(I * 2,0) else (0,12)) else (0,yqb K I T)
theorem yqw (K I:Int) (T:ByteArray) (hI : -9223372036854775808≤I∧I≤9223372036854775807):Big (fun k=>zqz.f k K I T) (told K I T):=by
 simp only [zqz.f]
 refine Big.bind (yqn K I T hI) ?_
 unfold told
 by_cases h0:yqb K I T=0
 ·simp only [if_pos h0]
  by_cases k0:K=0
  ·simp only [if_pos k0];exact Big.of _
  by_cases k1:K=1
  ·have:=yq4 K I T h0 k1
   simp only [if_neg k0,if_pos k1,w64 (x:=I * 2) (by omega) (by omega)];exact Big.of _
  simp only [if_neg k0,if_neg k1];exact Big.of _
 simp only [if_neg h0];exact Big.of _
theorem yqg (K I:Int) (T:ByteArray):Big (fun k=>qw.f k K I T) (told K I T):=by
 simp only [qw.f]
 refine Big.bind (yqm K I T) ?_
 unfold told
 by_cases h0:yqb K I T=0
 ·simp only [if_pos h0]
  by_cases k0:K=0
  ·simp only [if_pos k0];exact Big.of _
  by_cases k1:K=1
  ·simp only [if_neg k0,if_pos k1]
   rcases yq4 K I T h0 k1 with h|h
   ·simp only [if_neg (show ¬ I=1 by omega),h];exact Big.of _
   simp only [if_pos h,h];exact Big.of _
  simp only [if_neg k0,if_neg k1];exact Big.of _
 simp only [if_neg h0];exact Big.of _
theorem yqv (s:ByteArray) (i:Nat) (h:i<s.size):s.data.toList.drop i=s[i] :: s.data.toList.drop (i+1):=by
 rw [List.drop_eq_getElem_cons (by simpa using h)]
 rfl
theorem yjv (s t:ByteArray) (hs:(s.size:Int)≤9223372036854775807) (_ht:(t.size:Int)≤9223372036854775807) (d:Nat):∀ i:Nat,i≤s.size→i≤t.size→s.size - i=d →
  Big (fun k=>qv.l0 k s t (i:Int)) (Lib.compareBytes (s.data.toList.drop i) (t.data.toList.drop i)):=by
 induction d with
 | zero=>
  intro i h0 h1 hd
  have hi:i=s.size:=by omega
  refine Big.succ ?_
  simp only [qv.l0]
  simp only [if_neg (show ¬ (i:Int)<(s.size:Int) by omega)]
  refine Big.succ ?_
  simp only [qv.j1]
  simp only [if_neg (show ¬ (false=true) by decide)]
  rw [List.drop_eq_nil_of_le (show s.data.toList.length≤i by simp;omega)]
  by_cases h:i<t.size
  ·simp only [if_pos (show(s.size:Int)<(t.size:Int) by omega)]
   rw [yqv t i h]
   exact Big.of _
  simp only [if_neg (show ¬ (s.size:Int)<(t.size:Int) by omega),if_neg (show ¬ (s.size:Int) > (t.size:Int) by omega)]
  rw [List.drop_eq_nil_of_le (show t.data.toList.length≤i by simp;omega)]
  exact Big.of _
 | succ d ih=>
  intro i h0 h1 hd
  have hi:i<s.size:=by omega
  refine Big.succ ?_
  simp only [qv.l0]
  simp only [if_pos (show(i:Int)<(s.size:Int) by omega)]
  refine Big.succ ?_
  simp only [qv.j1]
  rw [yqv s i hi]
  by_cases h:i<t.size
  ·simp only [decide_eq_true (show(i:Int)<(t.size:Int) by omega),if_pos (show(i:Int)<(t.size:Int) by omega),if_pos (show(i:Int)<(s.size:Int) by omega),if_pos (show(0:Int)≤(i:Int) by omega),if_true]
   rw [yqv t i h,bt_at' s i hi,bt_at' t i h]
   simp only [Lib.compareBytes]
   by_cases c1:s[i]<t[i]
   ·have c2:(s[i].toNat:Int)<(t[i].toNat:Int):=by have:=UInt8.lt_iff_toNat_lt.1 c1;omega
    simp only [if_pos c2,if_pos c1]
    exact Big.of _
   have c2:¬ (s[i].toNat:Int)<(t[i].toNat:Int):=fun hc=>c1 (UInt8.lt_iff_toNat_lt.2 (by omega))
   by_cases c3:t[i]<s[i]
   ·have c4:(s[i].toNat:Int) > (t[i].toNat:Int):=by have:=UInt8.lt_iff_toNat_lt.1 c3;omega
    simp only [if_neg c2,if_pos c4,if_neg c1,if_pos c3]
    exact Big.of _
   have c4:¬ (s[i].toNat:Int) > (t[i].toNat:Int):=fun hc=>c3 (UInt8.lt_iff_toNat_lt.2 (by omega))
   simp only [if_neg c2,if_neg c4,if_neg c1,if_neg c3]
   rw [w64 (x:=(i:Int)+1) (by omega) (by omega)]
   exact ih (i+1) (by omega) (by omega) (by omega)
  have hn:t.data.toList.drop i = []:=List.drop_eq_nil_of_le (by simp;omega)
  simp only [decide_eq_false (show ¬ (i:Int)<(t.size:Int) by omega)]
  simp only [if_neg (show ¬ (false=true) by decide),if_neg (show ¬ (s.size:Int)<(t.size:Int) by omega),if_pos (show(s.size:Int) > (t.size:Int) by omega)]
  rw [hn]
  exact Big.of _
theorem yxh (s t:ByteArray) (hs:(s.size:Int)≤9223372036854775807) (ht:(t.size:Int)≤9223372036854775807) :
  Big (fun k=>qv.f k s t) (Lib.compareBytes s.data.toList t.data.toList):=by
 have h:=yjv s t hs ht s.size 0 (by omega) (by omega) (by omega)
 simp only [List.drop_zero] at h
 exact h
theorem yjh:∀ a b:List UInt8,Lib.compareBytes a b = -1∨Lib.compareBytes a b=0∨Lib.compareBytes a b=1
 | [], []=>by simp [Lib.compareBytes]
 | [],_ :: _=>by simp [Lib.compareBytes]
 | _ :: _, []=>by simp [Lib.compareBytes]
 | a :: u,b :: v=>by
  simp only [Lib.compareBytes]
  split
  ·simp
  split
  ·simp
  exact yjh u v
theorem yjr:∀ a b:List UInt8,Lib.compareBytes b a = -Lib.compareBytes a b
 | [], []=>by simp [Lib.compareBytes]
 | [],_ :: _=>by simp [Lib.compareBytes]
 | _ :: _, []=>by simp [Lib.compareBytes]
 | a :: u,b :: v=>by
  simp only [Lib.compareBytes]
  by_cases h1:a<b
  ·have h2:¬ b<a:=fun h=>by have:=UInt8.lt_asymm h1 h;exact this
   simp [h1,h2]
  by_cases h2:b<a
  ·simp [h1,h2]
  simp only [if_neg h1,if_neg h2]
  exact yjr u v
def ordv (K I:Int) (T:ByteArray) (K2 I2:Int) (T2:ByteArray):Int:=if K<K2 then -1 else if K2<K then 1 else if I<I2 then -1 else if I2<I then 1 else Lib.compareBytes T.data.toList T2.data.toList
theorem yqu (K I:Int) (T:ByteArray) (K2 I2:Int) (T2:ByteArray):ordv K I T K2 I2 T2 = -1∨ordv K I T K2 I2 T2=0∨ordv K I T K2 I2 T2=1:=by
 have:=yjh T.data.toList T2.data.toList
 unfold ordv
 repeat' split
 all_goals first|exact this|simp
theorem yxf (K I:Int) (T:ByteArray) (K2 I2:Int) (T2:ByteArray):ordv K2 I2 T2 K I T = -ordv K I T K2 I2 T2:=by
 have:=yjr T.data.toList T2.data.toList
 unfold ordv
 repeat' split
 all_goals first|exact this|rfl|(exfalso;omega)
theorem yxg (K I:Int) (T:ByteArray) (K2 I2:Int) (T2:ByteArray):zj0.f K I T K2 I2 T2=some (ordv K I T K2 I2 T2):=by
 have hn:∀ x:Int,(x != x)=false:=fun x=>by simp
 have hc:∀ x y:Int,cmp_Compare_int.f x y=some (if x<y then -1 else if x > y then 1 else 0):=fun x y=>by
  simp only [cmp_Compare_int.f,cmp_isNaN_int.f,hn,Option.bind_some,if_neg (show ¬ (false=true) by decide)]
  repeat' split
  all_goals rfl
 simp only [zj0.f,hc,Option.bind_some,strings_Compare.f]
 unfold ordv
 by_cases h1:K<K2
 ·simp only [if_pos h1,if_neg (show ¬ (-1:Int)=0 by decide)]
 by_cases h2:K > K2
 ·simp only [if_neg h1,if_pos h2,if_neg (show ¬ (1:Int)=0 by decide),if_pos (show K2<K from h2)]
 by_cases h3:I<I2
 ·simp only [if_neg h1,if_neg h2,if_pos h3,if_true,if_neg (show ¬ (-1:Int)=0 by decide),if_neg (show ¬ K2<K from h2)]
 by_cases h4:I > I2
 ·simp only [if_neg h1,if_neg h2,if_neg h3,if_pos h4,if_true,if_neg (show ¬ (1:Int)=0 by decide),if_neg (show ¬ K2<K from h2),if_pos (show I2<I from h4)]
 simp only [if_neg h1,if_neg h2,if_neg h3,if_neg h4,if_true,if_neg (show ¬ K2<K from h2),if_neg (show ¬ I2<I from h4)]
theorem yqy (K I:Int) (T:ByteArray) (h:yqb K I T=0):T.size≤40∧0≤K∧K≤3∧(K=3→I=0)∧(K≠3→T.toList = []):=by
 unfold yqb at h
 split at h
 ·omega
 split at h
 ·omega
 split at h
 ·rename_i h1 h2 h3
  refine⟨by omega,by omega,by omega,?_,?_⟩
  ·rintro rfl
   rcases h3 with ⟨h,_⟩|⟨h,_⟩|⟨h,_⟩|⟨_,h,_⟩
   ·omega
   ·omega
   ·omega
   exact h
  intro hk
  rcases h3 with ⟨_,_,h⟩|⟨_,_,h⟩|⟨_,h⟩|⟨h,_⟩
  ·exact h
  ·exact h
  ·exact h
  exact absurd h hk
 omega
theorem yji (K I:Int) (T:ByteArray) (K2 I2:Int) (T2:ByteArray) (h1:yqb K I T=0) (h2:yqb K2 I2 T2=0):Big (fun k=>qu.f k K I T K2 I2 T2) (decide (ordv K I T K2 I2 T2<0)):=by
 obtain ⟨s1,a1,b1,c1,d1⟩:=yqy K I T h1
 obtain ⟨s2,a2,b2,c2,d2⟩:=yqy K2 I2 T2 h2
 simp only [qu.f]
 unfold ordv
 by_cases he:K=K2
 ·simp only [if_pos he,if_neg (show ¬ K<K2 by omega),if_neg (show ¬ K2<K by omega)]
  by_cases h3:K=3
  ·have i1:=c1 h3
   have i2:=c2 (by omega)
   simp only [if_pos h3,if_neg (show ¬ I<I2 by omega),if_neg (show ¬ I2<I by omega)]
   refine Big.bind (yxh T T2 (by omega) (by omega)) ?_
   exact Big.of _
  have t1:=d1 h3
  have t2:=d2 (by omega)
  have e0:Lib.compareBytes T.data.toList T2.data.toList=0:=by
   have z1:T.data.toList = []:=by rw [← Go.ByteArray.toList_eq];exact t1
   have z2:T2.data.toList = []:=by rw [← Go.ByteArray.toList_eq];exact t2
   rw [z1,z2];rfl
  simp only [if_neg h3,e0]
  refine(Big.of _).cast ?_
  by_cases hi:I<I2
  ·simp [hi]
  by_cases hi2:I2<I
  ·simp [hi,hi2]
  simp [hi,hi2]
 simp only [if_neg he]
 refine(Big.of _).cast ?_
 by_cases hk:K<K2
 ·simp [hk]
 simp [hk,show K2<K by omega]
def ykm (K I:Int) (T:ByteArray) (K2 I2:Int) (T2:ByteArray):Int × Int:=if yqb K I T=0 then(if yqb K2 I2 T2=0 then(ordv K I T K2 I2 T2,0) else (0,yqb K2 I2 T2)) else (0,yqb K I T)
theorem yjd (K I:Int) (T:ByteArray) (K2 I2:Int) (T2:ByteArray):Big (fun k=>zqc.f k K I T K2 I2 T2) (ykm K I T K2 I2 T2):=by
 simp only [zqc.f]
 refine Big.bind (yqm K I T) ?_
 unfold ykm
 by_cases h1:yqb K I T=0
 ·simp only [if_pos h1]
  refine Big.bind (yqm K2 I2 T2) ?_
  by_cases h2:yqb K2 I2 T2=0
  ·simp only [if_pos h2]
   refine Big.bind (yji K I T K2 I2 T2 h1 h2) ?_
   have hr:=yqu K I T K2 I2 T2
   have ha:=yxf K I T K2 I2 T2
   by_cases hn:ordv K I T K2 I2 T2<0
   ·simp only [decide_eq_true hn,if_true]
    exact(Big.of (-1,0)).cast (by rw [show ordv K I T K2 I2 T2 = -1 by omega])
   simp only [decide_eq_false hn,if_neg (show ¬ (false=true) by decide)]
   refine Big.bind (yji K2 I2 T2 K I T h2 h1) ?_
   by_cases hp:ordv K2 I2 T2 K I T<0
   ·simp only [decide_eq_true hp,if_true]
    exact(Big.of (1,0)).cast (by rw [show ordv K I T K2 I2 T2=1 by omega])
   simp only [decide_eq_false hp,if_neg (show ¬ (false=true) by decide)]
   exact(Big.of (0,0)).cast (by rw [show ordv K I T K2 I2 T2=0 by omega])
  simp only [if_neg h2];exact Big.of _
 simp only [if_neg h1];exact Big.of _
theorem yx9 (K I:Int) (T:ByteArray) (K2 I2:Int) (T2:ByteArray) (hI : -9223372036854775808≤I∧I≤9223372036854775807) (hI2 : -9223372036854775808≤I2∧I2≤9223372036854775807) :
  Big (fun k=>zq5.f k K I T K2 I2 T2) (if yqb K I T=0 then yqb K2 I2 T2 else yqb K I T):=by
 simp only [zq5.f]
 refine Big.bind (yqn K I T hI) ?_
 by_cases h1:yqb K I T=0
 ·simp only [if_pos h1]
  refine Big.bind (yqn K2 I2 T2 hI2) ?_
  exact Big.of _
 simp only [if_neg h1];exact Big.of _
def yja (o K I:Int) (T:ByteArray) (K2 I2:Int) (T2:ByteArray):Int × Int:=
 if o<13∨18<o then(0,3) else if yqb K I T=0 then(if yqb K2 I2 T2=0 then(if K=0∨K2=0 then(1,0) else if K=K2 then(if zjl.at o (ordv K I T K2 I2 T2)=true then(2,0) else (0,0)) else (0,12)) else (0,yqb K2 I2 T2)) else (0,yqb K I T)
theorem ykh (o K I:Int) (T:ByteArray) (K2 I2:Int) (T2:ByteArray) (b:Bool) (hb:b=true ↔ (K=0∨K2=0)) (ho:13≤o∧o≤18) :
  Big (fun k=>zqa.j1 k o b K I T K2 I2 T2) (if K=0∨K2=0 then(1,0) else if K=K2 then(if zjl.at o (ordv K I T K2 I2 T2)=true then(2,0) else (0,0)) else (0,12)):=by
 refine Big.succ ?_
 simp only [zqa.j1]
 have hr:=yqu K I T K2 I2 T2
 cases b with
 | true=>
  simp only [if_true]
  exact(Big.of _).cast (by rw [if_pos (hb.1 rfl)])
 | false=>
  have hb:¬ (K=0∨K2=0):=fun h=>by have:=hb.2 h;cases this
  simp only [if_neg (show ¬ (false=true) by decide),if_neg hb]
  by_cases he:K=K2
  ·simp only [if_pos he,yxg,Option.bind_some,zjl.f,if_pos (show 13≤o∧o≤18 ∧ -1≤ordv K I T K2 I2 T2∧ordv K I T K2 I2 T2≤1 by omega)]
   by_cases hh:zjl.at o (ordv K I T K2 I2 T2)=true
   ·simp only [if_pos hh];exact Big.of _
   simp only [if_neg hh];exact Big.of _
  simp only [if_neg he];exact Big.of _
theorem yx2 (o K I:Int) (T:ByteArray) (K2 I2:Int) (T2:ByteArray) (hI : -9223372036854775808≤I∧I≤9223372036854775807) (hI2 : -9223372036854775808≤I2∧I2≤9223372036854775807):Big (fun k=>zqa.f k o K I T K2 I2 T2) (yja o K I T K2 I2 T2):=by
 simp only [zqa.f]
 unfold yja
 by_cases h1:o<13
 ·simp only [if_pos h1]
  refine Big.succ ?_
  simp only [zqa.j0,if_true]
  exact(Big.of _).cast (by rw [if_pos (.inl h1)])
 simp only [if_neg h1]
 refine Big.succ ?_
 by_cases h2:o > 18
 ·simp only [zqa.j0,decide_eq_true h2,if_true]
  exact(Big.of _).cast (by rw [if_pos (.inr h2)])
 simp only [zqa.j0,decide_eq_false h2,if_neg (show ¬ (false=true) by decide),if_neg (show ¬ (o<13∨18<o) by omega)]
 refine Big.bind (yx9 K I T K2 I2 T2 hI hI2) ?_
 by_cases f1:yqb K I T=0
 ·simp only [if_pos f1]
  by_cases f2:yqb K2 I2 T2=0
  ·simp only [if_pos f2]
   by_cases k0:K=0
   ·simp only [if_pos k0]
    exact ykh o K I T K2 I2 T2 true (by simp [k0]) (by omega)
   simp only [if_neg k0]
   exact ykh o K I T K2 I2 T2 (K2 == 0) (by simp [k0]) (by omega)
  simp only [if_neg f2];exact Big.of _
 simp only [if_neg f1];exact Big.of _
set_option maxHeartbeats 2000000 in
theorem yjc (o K I:Int) (T:ByteArray) (K2 I2:Int) (T2:ByteArray) (b:Bool) (c:Int) (hc:c = -1∨c=0∨c=1) (hb:b=true ↔ (K=0∨K2=0)) (ho:13≤o∧o≤18) :
  Big (fun k=>ze.j1 k o c b K I T K2 I2 T2) (if K=0∨K2=0 then(1,0) else if K=K2 then(if zjl.at o c=true then(2,0) else (0,0)) else (0,12)):=by
 refine Big.succ ?_
 simp only [ze.j1]
 cases b with
 | true=>
  simp only [if_true]
  exact(Big.of _).cast (by rw [if_pos (hb.1 rfl)])
 | false=>
  have hb:¬ (K=0∨K2=0):=fun h=>by have:=hb.2 h;cases this
  simp only [if_neg (show ¬ (false=true) by decide),if_neg hb]
  by_cases he:K=K2
  ·simp only [if_pos he]
   have h0:o=13∨o=14∨o=15∨o=16∨o=17∨o=18:=by omega
   rcases h0 with rfl|rfl|rfl|rfl|rfl|rfl <;> rcases hc with rfl|rfl|rfl <;> exact⟨0,fun k _=>rfl⟩
  simp only [if_neg he];exact Big.of _
theorem yqj (o K I:Int) (T:ByteArray) (K2 I2:Int) (T2:ByteArray) (ho:13≤o∧o≤18):Big (fun k=>ze.j0 k o false K I T K2 I2 T2) (yja o K I T K2 I2 T2):=by
 refine Big.succ ?_
 simp only [ze.j0,if_neg (show ¬ (false=true) by decide)]
 refine Big.bind (yjd K I T K2 I2 T2) ?_
 unfold yja ykm
 have hr:=yqu K I T K2 I2 T2
 simp only [if_neg (show ¬ (o<13∨18<o) by omega)]
 by_cases f1:yqb K I T=0
 ·simp only [if_pos f1]
  by_cases f2:yqb K2 I2 T2=0
  ·simp only [if_pos f2,if_true]
   by_cases k0:K=0
   ·simp only [if_pos k0]
    exact yjc o K I T K2 I2 T2 true _ hr (by simp [k0]) ho
   simp only [if_neg k0]
   exact yjc o K I T K2 I2 T2 (K2 == 0) _ hr (by simp [k0]) ho
  simp only [if_neg f2];exact Big.of _
 simp only [if_neg f1];exact Big.of _
theorem yjt (o K I:Int) (T:ByteArray) (K2 I2:Int) (T2:ByteArray):Big (fun k=>ze.f k o K I T K2 I2 T2) (yja o K I T K2 I2 T2):=by
 simp only [ze.f]
 by_cases e1:o=13
 ·simp only [if_pos e1];exact yqj o K I T K2 I2 T2 (by omega)
 by_cases e2:o=14
 ·simp only [if_neg e1,if_pos e2];exact yqj o K I T K2 I2 T2 (by omega)
 by_cases e3:o=15
 ·simp only [if_neg e1,if_neg e2,if_pos e3];exact yqj o K I T K2 I2 T2 (by omega)
 by_cases e4:o=16
 ·simp only [if_neg e1,if_neg e2,if_neg e3,if_pos e4];exact yqj o K I T K2 I2 T2 (by omega)
 by_cases e5:o=17
 ·simp only [if_neg e1,if_neg e2,if_neg e3,if_neg e4,if_pos e5];exact yqj o K I T K2 I2 T2 (by omega)
 simp only [if_neg e1,if_neg e2,if_neg e3,if_neg e4,if_neg e5]
 by_cases e6:o=18
 ·have:(o != 18)=false:=by simp [e6]
  simp only [this]
  exact yqj o K I T K2 I2 T2 (by omega)
 have:(o != 18)=true:=by simp [e6]
 simp only [this]
 refine Big.succ ?_
 simp only [ze.j0,if_true]
 refine(Big.of _).cast ?_
 unfold yja
 rw [if_pos (by omega)]
def law (A B:Option (Int × Int)):Option Bool:=A.bind fun p=>B.bind fun q=>if p.1=q.1 then some (p.2 == q.2) else some false
theorem yj5 {a:Int} (h : -9223372036854775808≤a∧a≤9223372036854775807):qj.f a=some (if a<0 then -a else a):=by
 unfold qj.f
 split <;> simp only [IntKind.wrap_u64] <;> congr 1 <;> omega
theorem yqc {a:Int} (h : -9223372036854775808≤a∧a≤9223372036854775807) (h0:0≤a):qj.f a=some a:=by
 rw [yj5 h,if_neg (by omega)]
theorem yqd {a:Int} (h : -9223372036854775808≤a∧a≤9223372036854775807) (h0:a<0):qj.f a=some (-a):=by
 rw [yj5 h,if_pos h0]
theorem yqe {m:Int} (h0:0≤m) (h1:m≤9223372036854775808):zu.f m true=some (-m,0):=by
 unfold zu.f
 rw [if_pos rfl,if_neg (by omega)]
 simp only [IntKind.wrap_u64]
 congr 2
 unfold wrap64;omega
theorem yqh {m:Int} (h1:9223372036854775808<m):zu.f m true=some (0,10):=by
 unfold zu.f
 rw [if_pos rfl,if_pos (by omega)]
theorem yqa {m:Int} (h0:0≤m) (h1:m<9223372036854775808):zu.f m false=some (m,0):=by
 unfold zu.f
 rw [if_neg (by simp),if_neg (by omega)]
 congr 2
 unfold wrap64;omega
theorem yqf {m:Int} (h1:9223372036854775808≤m):zu.f m false=some (0,10):=by
 unfold zu.f
 rw [if_neg (by simp),if_pos (by omega)]
theorem yk2:∀ a b:Int,(-9223372036854775808≤a∧a≤9223372036854775807)→(-9223372036854775808≤b∧b≤9223372036854775807)→law (zx3.f a b) (zjh.f a b)=some true:=by
 intro a b wa wb
 have ha:=wa
 have hb:=wb
 unfold law zx3.f zjh.f
 by_cases h0:b=0
 ·rw [if_pos h0,if_pos h0];simp
 rw [if_neg h0,if_neg h0]
 have hs:∃ y,qj.f b=some y∧0<y∧y≤9223372036854775808∧(y=b∨y = -b):=by
  by_cases h:0≤b
  ·exact⟨b,yqc hb h,by omega,by omega,.inl rfl⟩
  exact⟨-b,yqd hb (by omega),by omega,by omega,.inr rfl⟩
 obtain ⟨y,hy,y0,y1,hyb⟩:=hs
 have ey:∀ x:Int,Int.tmod x y=Int.tmod x b:=by
  intro x
  rcases hyb with h|h
  ·rw [h]
  rw [h,Int.tmod_neg]
 rw [hy]
 have em:b = -1→Int.tmod a b=0:=by
  intro h;rw [h,Int.tmod_neg];simp
 have e1:(if b = -1 then some ((0:Int),(0:Int)) else some (Int.tmod a b,0))=some (Int.tmod a b,0):=by
  split
  ·rename_i h;rw [em h]
  rfl
 rw [e1]
 by_cases hp:0≤a
 ·rw [yqc ha hp]
  simp only [Option.bind_some]
  rw [if_neg (by omega),ey,decide_eq_false (by omega)]
  have l1:=Int.tmod_lt_of_pos a y0
  have l0:=Int.tmod_nonneg b hp
  rw [ey] at l1
  rw [yqa l0 (by omega)]
  simp
 rw [yqd ha (by omega)]
 simp only [Option.bind_some]
 rw [if_neg (by omega),ey,decide_eq_true (by omega)]
 have l1:=Int.tmod_lt_of_pos (-a) y0
 have l0:=Int.tmod_nonneg b (show 0 ≤ -a by omega)
 rw [ey] at l1
 rw [yqe l0 (by omega),Int.neg_tmod]
 simp
theorem yk0:∀ a:Int,(-9223372036854775808≤a∧a≤9223372036854775807)→law (zjz.f a) (zjj.f a)=some true:=by
 intro a wa
 have ha:=wa
 unfold law zjz.f zjj.f zjq.f zqq.f
 have el:wrap64 (1 * 9223372036854775808) = -9223372036854775808:=by decide +kernel
 simp only [el,Option.bind_some]
 by_cases hm:a = -9223372036854775808
 ·subst hm;decide +kernel
 rw [if_neg hm]
 have en:wrap64 (-a) = -a:=by unfold wrap64;omega
 rw [en]
 by_cases hp:0<a
 ·rw [yqc ha (by omega)]
  simp only [Option.bind_some]
  rw [decide_eq_true (show a > 0 from hp),yqe (by omega) (by omega)]
  simp
 by_cases hz:a=0
 ·subst hz;decide +kernel
 rw [yqd ha (by omega)]
 simp only [Option.bind_some]
 rw [decide_eq_false (show ¬ a > 0 from hp),yqa (by omega) (by omega)]
 simp
theorem yjn {a:Int} (ha : -9223372036854775808≤a∧a≤9223372036854775807):zjz.f a=if a = -9223372036854775808 then some (0,10) else some (-a,0):=by
 unfold zjz.f zjq.f zqq.f
 have el:wrap64 (1 * 9223372036854775808) = -9223372036854775808:=by decide +kernel
 simp only [el,Option.bind_some]
 by_cases hm:a = -9223372036854775808
 ·rw [if_pos hm,if_pos hm];rfl
 rw [if_neg hm,if_neg hm]
 have en:wrap64 (-a) = -a:=by unfold wrap64;omega
 rw [en];rfl
theorem div_eq {a b:Int} (ha : -9223372036854775808≤a∧a≤9223372036854775807) (h0:b≠0) (hq:b ≠ -1 → -9223372036854775808≤Int.tdiv a b∧Int.tdiv a b≤9223372036854775807) :
  zx4.f a b=if Int.tdiv a b=9223372036854775808 then some (0,10) else some (Int.tdiv a b,0):=by
 unfold zx4.f
 rw [if_neg h0]
 by_cases h1:b = -1
 ·rw [if_pos h1,yjn ha,h1,Int.tdiv_neg,Int.tdiv_one]
  by_cases hm:a = -9223372036854775808
  ·subst hm;rfl
  rw [if_neg hm,if_neg (by omega)];rfl
 rw [if_neg h1]
 have:=hq h1
 rw [if_neg (by omega)]
 congr 2
 unfold wrap64;omega
theorem ykp {x y:Int} (hx:0≤x) (hy:0<y):0≤Int.tdiv x y∧Int.tdiv x y≤x:=by
 rw [Int.tdiv_eq_ediv_of_nonneg hx]
 exact⟨Int.ediv_nonneg hx (by omega),Int.ediv_le_self _ hx⟩
theorem yj4 {x y:Int} (hx:0≤x) (hy:2≤y):2 * Int.tdiv x y≤x:=by
 rw [Int.tdiv_eq_ediv_of_nonneg hx]
 have h1:x / y≤x / 2:=by
  have h:=Int.mul_ediv_add_emod x y
  have h2:=Int.emod_nonneg x (show y≠0 by omega)
  have h3:0≤x / y:=Int.ediv_nonneg hx (by omega)
  have h4:2 * (x / y)≤y * (x / y):=Int.mul_le_mul_of_nonneg_right hy h3
  omega
 omega
theorem yk3:∀ a b:Int,(-9223372036854775808≤a∧a≤9223372036854775807)→(-9223372036854775808≤b∧b≤9223372036854775807)→law (zx4.f a b) (zq6.f a b)=some true:=by
 intro a b wa wb
 have ha:=wa
 have hb:=wb
 unfold law zq6.f
 by_cases h0:b=0
 ·subst h0;simp [zx4.f]
 rw [if_neg h0]
 have hsa:∃ x,qj.f a=some x∧0≤x∧x≤9223372036854775808∧((0≤a∧x=a)∨(a<0∧x = -a)):=by
  by_cases h:0≤a
  ·exact⟨a,yqc ha h,by omega,by omega,.inl ⟨h,rfl⟩⟩
  exact⟨-a,yqd ha (by omega),by omega,by omega,.inr ⟨by omega,rfl⟩⟩
 have hsb:∃ y,qj.f b=some y∧0<y∧y≤9223372036854775808∧((0≤b∧y=b)∨(b<0∧y = -b)):=by
  by_cases h:0≤b
  ·exact⟨b,yqc hb h,by omega,by omega,.inl ⟨h,rfl⟩⟩
  exact⟨-b,yqd hb (by omega),by omega,by omega,.inr ⟨by omega,rfl⟩⟩
 obtain ⟨x,hx,x0,x1,hxa⟩:=hsa
 obtain ⟨y,hy,y0,y1,hyb⟩:=hsb
 have hl:=ykp x0 y0
 have hh:2≤y→2 * Int.tdiv x y≤x:=fun h=>yj4 x0 h
 have hq:(decide (a<0) != decide (b<0))=false∧Int.tdiv a b=Int.tdiv x y∨(decide (a<0) != decide (b<0))=true∧Int.tdiv a b = -Int.tdiv x y:=by
  rcases hxa with ⟨p,rfl⟩|⟨p,rfl⟩ <;> rcases hyb with ⟨q,rfl⟩|⟨q,rfl⟩
  ·left;exact⟨by rw [decide_eq_false (by omega),decide_eq_false (by omega)];rfl,rfl⟩
  ·right;exact⟨by rw [decide_eq_false (by omega),decide_eq_true (by omega)];rfl,by rw [Int.tdiv_neg];omega⟩
  ·right;exact⟨by rw [decide_eq_true (by omega),decide_eq_false (by omega)];rfl,by rw [Int.neg_tdiv];omega⟩
  left;exact⟨by rw [decide_eq_true (by omega),decide_eq_true (by omega)];rfl,by rw [Int.neg_tdiv,Int.tdiv_neg];omega⟩
 have hd:zx4.f a b=if Int.tdiv a b=9223372036854775808 then some (0,10) else some (Int.tdiv a b,0):=by
  refine div_eq ha h0 fun h1=>?_
  have hy2:2≤y∨b=1:=by omega
  rcases hy2 with h2|h2
  ·have:=hh h2;omega
  subst h2;rw [Int.tdiv_one];exact ha
 rw [hd,hx,hy]
 simp only [Option.bind_some]
 rw [if_neg (show ¬ y=0 by omega)]
 have eu:IntKind.u64.wrap (Int.tdiv x y)=Int.tdiv x y:=by rw [IntKind.wrap_u64];omega
 rw [eu]
 generalize Int.tdiv x y=q at *
 generalize Int.tdiv a b=d at *
 rcases hq with ⟨e,rfl⟩|⟨e,rfl⟩
 ·rw [e]
  by_cases hm:d=9223372036854775808
  ·rw [if_pos hm,yqf (by omega)];rfl
  rw [if_neg hm,yqa (by omega) (by omega)];simp
 rw [e,if_neg (by omega),yqe (by omega) (by omega)];simp
theorem yki (v:BitVec 64):IntKind.i64.wrap (v.toNat:Int)<0 ↔ v.msb=true:=by
 have h:=v.isLt
 rw [IntKind.wrap_i64,BitVec.msb_eq_decide]
 simp only [decide_eq_true_eq]
 omega
theorem yqq {a:Int} (h : -9223372036854775808≤a∧a≤9223372036854775807):(BitVec.ofInt 64 a).msb=decide (a<0):=by
 rw [BitVec.msb_eq_decide,BitVec.toNat_ofInt]
 have:((a % ((2 ^ 64:Nat):Int)).toNat:Nat)=(a % 18446744073709551616).toNat:=by congr 1
 rw [this]
 by_cases ha:a<0
 ·rw [decide_eq_true ha,decide_eq_true];omega
 rw [decide_eq_false ha,decide_eq_false];omega
theorem yjs (x:Int) : -9223372036854775808≤IntKind.i64.wrap x∧IntKind.i64.wrap x≤9223372036854775807:=by
 rw [IntKind.wrap_i64];omega
theorem yqp (a b:Int) : -9223372036854775808≤Go.bits .xor .i64 a b∧Go.bits .xor .i64 a b≤9223372036854775807:=yjs _
theorem yq3 {a b:Int} (ha : -9223372036854775808≤a∧a≤9223372036854775807) (hb : -9223372036854775808≤b∧b≤9223372036854775807) :
  Go.bits .xor .i64 a b<0 ↔ ¬ (a<0 ↔ b<0):=by
 have e:Go.bits .xor .i64 a b=IntKind.i64.wrap ((BitVec.ofInt 64 a ^^^ BitVec.ofInt 64 b).toNat:Int):=rfl
 rw [e,yki,BitVec.msb_xor,yqq ha,yqq hb]
 by_cases h1:a<0 <;> by_cases h2:b<0 <;> simp [h1,h2]
theorem yxt {a b:Int} (ha : -9223372036854775808≤a∧a≤9223372036854775807) (hb : -9223372036854775808≤b∧b≤9223372036854775807) :
  Go.bits .and .i64 a b<0 ↔ (a<0∧b<0):=by
 have e:Go.bits .and .i64 a b=IntKind.i64.wrap ((BitVec.ofInt 64 a &&& BitVec.ofInt 64 b).toNat:Int):=rfl
 rw [e,yki,BitVec.msb_and,yqq ha,yqq hb]
 by_cases h1:a<0 <;> by_cases h2:b<0 <;> simp [h1,h2]
theorem yq9 (x:Int) : -9223372036854775808≤wrap64 x∧wrap64 x≤9223372036854775807:=by
 unfold wrap64;omega
theorem ykk {a b:Int} (ha : -9223372036854775808≤a∧a≤9223372036854775807) (hb : -9223372036854775808≤b∧b≤9223372036854775807) :
  zx5.f a b=if -9223372036854775808≤a+b∧a+b≤9223372036854775807 then some (a+b,0) else some (0,10):=by
 unfold zx5.f zqq.f
 have hc:=yq9 (a+b)
 have h1:=yq3 ha hc
 have h2:=yq3 hb hc
 have h3:=yxt (yqp a (wrap64 (a+b))) (yqp b (wrap64 (a+b)))
 rw [h1,h2] at h3
 generalize Go.bits .and .i64 (Go.bits .xor .i64 a (wrap64 (a+b))) (Go.bits .xor .i64 b (wrap64 (a+b)))=t at h3
 by_cases hr : -9223372036854775808≤a+b∧a+b≤9223372036854775807
 ·have e:wrap64 (a+b)=a+b:=by unfold wrap64;omega
  rw [e] at h3 ⊢
  rw [if_pos hr,decide_eq_true (by omega)];rfl
 have e:wrap64 (a+b)=a+b - 18446744073709551616∧0<a+b∨wrap64 (a+b)=a+b+18446744073709551616∧a+b<0:=by unfold wrap64;omega
 rw [if_neg hr,decide_eq_false (by omega)];rfl
theorem yk4:∀ a b:Int,(-9223372036854775808≤a∧a≤9223372036854775807)→(-9223372036854775808≤b∧b≤9223372036854775807)→law (zx5.f a b) (zjk.f a b)=some true:=by
 intro a b wa wb
 have ha:=wa
 have hb:=wb
 unfold law zjk.f
 rw [ykk ha hb]
 by_cases pa:0≤a <;> by_cases pb:0≤b
 ·rw [yqc ha pa,yqc hb pb,decide_eq_false (show ¬ a<0 by omega),decide_eq_false (show ¬ b<0 by omega)]
  simp only [Option.bind_some,IntKind.wrap_u64]
  rw [if_pos (show(false == false)=true from rfl),if_neg (show ¬ (a+b) % 18446744073709551616<a by omega)]
  rw [show(a+b) % 18446744073709551616=a+b from by omega]
  by_cases h:a+b≤9223372036854775807
  ·rw [if_pos (show -9223372036854775808≤a+b∧a+b≤9223372036854775807 by omega),yqa (by omega) (by omega)];simp
  rw [if_neg (show ¬ (-9223372036854775808≤a+b∧a+b≤9223372036854775807) by omega),yqf (by omega)];simp
 ·rw [yqc ha pa,yqd hb (by omega),decide_eq_false (show ¬ a<0 by omega),decide_eq_true (show b<0 by omega)]
  simp only [Option.bind_some,IntKind.wrap_u64]
  rw [if_neg (show ¬ (false == true)=true by simp),if_pos (show -9223372036854775808≤a+b∧a+b≤9223372036854775807 by omega)]
  by_cases h:a ≥ -b
  ·rw [if_pos h,show(a - -b) % 18446744073709551616=a+b from by omega,yqa (by omega) (by omega)];simp
  rw [if_neg h,show(-b - a) % 18446744073709551616 = -(a+b) from by omega,yqe (by omega) (by omega)];simp
 ·rw [yqd ha (by omega),yqc hb pb,decide_eq_true (show a<0 by omega),decide_eq_false (show ¬ b<0 by omega)]
  simp only [Option.bind_some,IntKind.wrap_u64]
  rw [if_neg (show ¬ (true == false)=true by simp),if_pos (show -9223372036854775808≤a+b∧a+b≤9223372036854775807 by omega)]
  by_cases h : -a ≥ b
  ·rw [if_pos h,show(-a - b) % 18446744073709551616 = -(a+b) from by omega,yqe (by omega) (by omega)];simp
  rw [if_neg h,show(b - -a) % 18446744073709551616=a+b from by omega,yqa (by omega) (by omega)];simp
 rw [yqd ha (by omega),yqd hb (by omega),decide_eq_true (show a<0 by omega),decide_eq_true (show b<0 by omega)]
 simp only [Option.bind_some,IntKind.wrap_u64]
 rw [if_pos (show(true == true)=true from rfl)]
 by_cases hm:a+b = -18446744073709551616
 ·rw [if_pos (show(-a + -b) % 18446744073709551616 < -a by omega),if_neg (show ¬ (-9223372036854775808≤a+b∧a+b≤9223372036854775807) by omega)];simp
 rw [if_neg (show ¬ (-a + -b) % 18446744073709551616 < -a by omega),show(-a + -b) % 18446744073709551616 = -(a+b) from by omega]
 by_cases h : -9223372036854775808≤a+b
 ·rw [if_pos (show -9223372036854775808≤a+b∧a+b≤9223372036854775807 by omega),yqe (by omega) (by omega)];simp
 rw [if_neg (show ¬ (-9223372036854775808≤a+b∧a+b≤9223372036854775807) by omega),yqh (by omega)];simp
theorem ykc {a b:Int} (ha : -9223372036854775808≤a∧a≤9223372036854775807) (hb : -9223372036854775808≤b∧b≤9223372036854775807) :
  zx2.f a b=if -9223372036854775808≤a - b∧a - b≤9223372036854775807 then some (a - b,0) else some (0,10):=by
 unfold zx2.f zqq.f
 have hc:=yq9 (a - b)
 have h1:=yq3 ha hb
 have h2:=yq3 ha hc
 have h3:=yxt (yqp a b) (yqp a (wrap64 (a - b)))
 rw [h1,h2] at h3
 generalize Go.bits .and .i64 (Go.bits .xor .i64 a b) (Go.bits .xor .i64 a (wrap64 (a - b)))=t at h3
 by_cases hr : -9223372036854775808≤a - b∧a - b≤9223372036854775807
 ·have e:wrap64 (a - b)=a - b:=by unfold wrap64;omega
  rw [e] at h3 ⊢
  rw [if_pos hr,decide_eq_true (by omega)];rfl
 have e:wrap64 (a - b)=a - b - 18446744073709551616∧0<a - b∨wrap64 (a - b)=a - b+18446744073709551616∧a - b<0:=by unfold wrap64;omega
 rw [if_neg hr,decide_eq_false (by omega)];rfl
theorem ykz:∀ a b:Int,(-9223372036854775808≤a∧a≤9223372036854775807)→(-9223372036854775808≤b∧b≤9223372036854775807)→law (zx2.f a b) (zji.f a b)=some true:=by
 intro a b wa wb
 have ha:=wa
 have hb:=wb
 unfold law zji.f
 rw [ykc ha hb]
 by_cases pa:0≤a <;> by_cases pb:0≤b
 ·rw [yqc ha pa,yqc hb pb,decide_eq_false (show ¬ a<0 by omega),decide_eq_false (show ¬ b<0 by omega),decide_eq_true (show a ≥ 0 by omega)]
  simp only [Option.bind_some,IntKind.wrap_u64]
  rw [if_neg (show ¬ (false != false)=true by simp),if_pos (show -9223372036854775808≤a - b∧a - b≤9223372036854775807 by omega)]
  by_cases h:a ≥ b
  ·rw [if_pos h,show(a - b) % 18446744073709551616=a - b from by omega,yqa (by omega) (by omega)];simp
  rw [if_neg h,show(b - a) % 18446744073709551616 = -(a - b) from by omega,yqe (by omega) (by omega)];simp
 ·rw [yqc ha pa,yqd hb (by omega),decide_eq_false (show ¬ a<0 by omega),decide_eq_true (show b<0 by omega)]
  simp only [Option.bind_some,IntKind.wrap_u64]
  rw [if_pos (show(false != true)=true from rfl),if_neg (show ¬ (a + -b) % 18446744073709551616<a by omega)]
  rw [show(a + -b) % 18446744073709551616=a - b from by omega]
  by_cases h:a - b≤9223372036854775807
  ·rw [if_pos (show -9223372036854775808≤a - b∧a - b≤9223372036854775807 by omega),yqa (by omega) (by omega)];simp
  rw [if_neg (show ¬ (-9223372036854775808≤a - b∧a - b≤9223372036854775807) by omega),yqf (by omega)];simp
 ·rw [yqd ha (by omega),yqc hb pb,decide_eq_true (show a<0 by omega),decide_eq_false (show ¬ b<0 by omega)]
  simp only [Option.bind_some,IntKind.wrap_u64]
  rw [if_pos (show(true != false)=true from rfl),if_neg (show ¬ (-a+b) % 18446744073709551616 < -a by omega),show(-a+b) % 18446744073709551616 = -(a - b) from by omega]
  by_cases h : -9223372036854775808≤a - b
  ·rw [if_pos (show -9223372036854775808≤a - b∧a - b≤9223372036854775807 by omega),yqe (by omega) (by omega)];simp
  rw [if_neg (show ¬ (-9223372036854775808≤a - b∧a - b≤9223372036854775807) by omega),yqh (by omega)];simp
 rw [yqd ha (by omega),yqd hb (by omega),decide_eq_true (show a<0 by omega),decide_eq_true (show b<0 by omega),decide_eq_false (show ¬ a ≥ 0 by omega)]
 simp only [Option.bind_some,IntKind.wrap_u64]
 rw [if_neg (show ¬ (true != true)=true by simp),if_pos (show -9223372036854775808≤a - b∧a - b≤9223372036854775807 by omega)]
 by_cases h : -a ≥ -b
 ·rw [if_pos h,show(-a - -b) % 18446744073709551616 = -(a - b) from by omega,yqe (by omega) (by omega)];simp
 rw [if_neg h,show(-b - -a) % 18446744073709551616=a - b from by omega,yqa (by omega) (by omega)];simp
theorem yxl {x:Int} (h0:0≤x) (h1:x<18446744073709551616):Go.bits .and .u64 x 4294967295=x % 4294967296:=
 bits_mask .u64 64 (by decide) (fun n a b=>by rw [IntKind.wrap_u64];omega) 32 (by decide) x h0 h1
theorem yqo {a b:Int} (a0:0≤a) (a1:a≤4294967295) (b0:0≤b) (b1:b≤4294967295):0≤a * b∧a * b≤18446744065119617025:=by
 have h:=Int.mul_nonneg a0 b0
 have k:=Int.mul_le_mul a1 b1 b0 (by omega)
 exact⟨h,by omega⟩
theorem yxe (a b c d:Int):(4294967296 * a+b) * (4294967296 * c+d)=18446744073709551616 * (a * c)+4294967296 * (a * d+b * c)+b * d:=by
 grind
theorem yx0 {x y:Int} (hx0:0≤x) (hx1:x<18446744073709551616) (hy0:0≤y) (hy1:y<18446744073709551616) :
  bits_Mul64.f x y=some (x * y / 18446744073709551616,x * y % 18446744073709551616):=by
 unfold bits_Mul64.f
 rw [yxl hx0 hx1,yxl hy0 hy1]
 have ex:x=4294967296 * (x / 4294967296)+x % 4294967296:=by omega
 have ey:y=4294967296 * (y / 4294967296)+y % 4294967296:=by omega
 have exy:x * y=(4294967296 * (x / 4294967296)+x % 4294967296) * (4294967296 * (y / 4294967296)+y % 4294967296):=by rw [← ex, ← ey]
 rw [yxe] at exy
 have ax:0≤x / 4294967296∧x / 4294967296≤4294967295:=by omega
 have ay:0≤y / 4294967296∧y / 4294967296≤4294967295:=by omega
 have bx:0≤x % 4294967296∧x % 4294967296≤4294967295:=by omega
 have by_:0≤y % 4294967296∧y % 4294967296≤4294967295:=by omega
 clear ex ey
 generalize x / 4294967296=x1 at *
 generalize x % 4294967296=xz at *
 generalize y / 4294967296=y1 at *
 generalize y % 4294967296=yz at *
 have p11:=yqo ax.1 ax.2 ay.1 ay.2
 have p10:=yqo ax.1 ax.2 by_.1 by_.2
 have p01:=yqo bx.1 bx.2 ay.1 ay.2
 have p00:=yqo bx.1 bx.2 by_.1 by_.2
 rw [exy]
 clear exy ax ay bx by_
 generalize x1 * y1=m11 at *
 generalize x1 * yz=m10 at *
 generalize xz * y1=m01 at *
 generalize xz * yz=m00 at *
 simp only [IntKind.wrap_u64]
 rw [show m11 % 18446744073709551616=m11 from by omega,show m10 % 18446744073709551616=m10 from by omega,show m01 % 18446744073709551616=m01 from by omega,show m00 % 18446744073709551616=m00 from by omega]
 have ht:(m10+m00 / 4294967296) % 18446744073709551616=m10+m00 / 4294967296:=by omega
 rw [ht,yxl (by omega) (by omega)]
 congr 1
 refine Prod.ext ?_ ?_
 ·show _=_
  omega
 rfl
theorem yju {a b c:Int} (hb:b≠0) (hb1 : -9223372036854775808≤b∧b≤9223372036854775807) (hc:(c - a * b) % 18446744073709551616=0) (hq:Int.tdiv c b=a):c=a * b:=by
 have h:=Int.tmod_add_mul_tdiv c b
 rw [hq] at h
 have hr:(Int.tmod c b).natAbs<b.natAbs:=by rw [Int.natAbs_tmod];exact Nat.mod_lt _ (by omega)
 have hba:Int.natAbs b≤9223372036854775808:=by omega
 have hm:Int.tmod c b=c - a * b:=by rw [Int.mul_comm] at h;omega
 rw [hm] at hr
 generalize a * b=p at *
 omega
theorem yxd {a b:Int} (hb:b≠0):Int.tdiv (a * b) b=a:=Int.mul_tdiv_cancel a hb
theorem yxc {c b:Int} (hb:2≤b∨b ≤ -2) (hc : -9223372036854775808≤c∧c≤9223372036854775807) : -4611686018427387904≤Int.tdiv c b∧Int.tdiv c b≤4611686018427387904:=by
 have h:2 * (Int.tdiv c b).natAbs≤c.natAbs:=by
  have e:(Int.tdiv c b).natAbs=c.natAbs / b.natAbs:=Int.natAbs_tdiv c b
  rw [e]
  have hb2:2≤b.natAbs:=by omega
  have h1:c.natAbs / b.natAbs≤c.natAbs / 2:=Nat.div_le_div_left hb2 (by omega)
  omega
 omega
theorem ykf {a b:Int} (ha : -9223372036854775808≤a∧a≤9223372036854775807) (hb : -9223372036854775808≤b∧b≤9223372036854775807) :
  zq9.f 1 a b=if -9223372036854775808≤a * b∧a * b≤9223372036854775807 then some (a * b,0) else some (0,10):=by
 unfold zq9.f
 by_cases a0:a=0
 ·subst a0;rw [if_pos rfl];simp [zq9.j0]
 rw [if_neg a0]
 by_cases b0:b=0
 ·subst b0;simp [zq9.j0]
 rw [beq_false_of_ne b0]
 simp only [zq9.j0]
 rw [if_neg (by simp)]
 by_cases am:a = -1
 ·rw [if_pos am,yjn hb,am,show(-1:Int) * b = -b from by omega]
  by_cases hm:b = -9223372036854775808
  ·rw [if_pos hm,if_neg (by omega)];rfl
  rw [if_neg hm,if_pos (by omega)];rfl
 rw [if_neg am]
 by_cases bm:b = -1
 ·rw [if_pos bm,yjn ha,bm,show a * (-1:Int) = -a from by omega]
  by_cases hm:a = -9223372036854775808
  ·rw [if_pos hm,if_neg (by omega)];rfl
  rw [if_neg hm,if_pos (by omega)];rfl
 rw [if_neg bm,if_neg b0]
 have hc : -9223372036854775808≤wrap64 (a * b)∧wrap64 (a * b)≤9223372036854775807:=by unfold wrap64;omega
 have hcm:(wrap64 (a * b) - a * b) % 18446744073709551616=0:=by unfold wrap64;omega
 have hq:wrap64 (Int.tdiv (wrap64 (a * b)) b)=Int.tdiv (wrap64 (a * b)) b:=by
  have hb2:b=1∨(2≤b∨b ≤ -2):=by omega
  rcases hb2 with h|h
  ·subst h;rw [Int.tdiv_one];generalize wrap64 (a * 1)=c at *;unfold wrap64;omega
  have:=yxc h hc
  generalize Int.tdiv (wrap64 (a * b)) b=q at *
  unfold wrap64;omega
 rw [hq]
 by_cases hr : -9223372036854775808≤a * b∧a * b≤9223372036854775807
 ·have e:wrap64 (a * b)=a * b:=by unfold wrap64;omega
  rw [if_pos hr,e,yxd b0,beq_self_eq_true];rfl
 rw [if_neg hr]
 have:(Int.tdiv (wrap64 (a * b)) b == a)=false:=by
  refine beq_false_of_ne fun h=>hr ?_
  have:=yju b0 hb hcm h
  omega
 rw [this];rfl
theorem yq8 {x y:Int} (x0:0≤x) (x1:x≤9223372036854775808) (y0:0≤y) (y1:y≤9223372036854775808):0≤x * y∧x * y≤85070591730234615865843651857942052864:=by
 have h:=Int.mul_nonneg x0 y0
 have k:=Int.mul_le_mul x1 y1 y0 (by omega)
 exact⟨h,by omega⟩
theorem yk1:∀ a b:Int,(-9223372036854775808≤a∧a≤9223372036854775807)→(-9223372036854775808≤b∧b≤9223372036854775807)→law (zq9.f 1 a b) (zjg.f a b)=some true:=by
 intro a b wa wb
 have ha:=wa
 have hb:=wb
 unfold law zjg.f
 rw [ykf ha hb]
 have hsa:∃ x,qj.f a=some x∧0≤x∧x≤9223372036854775808∧((0≤a∧x=a)∨(a<0∧x = -a)):=by
  by_cases h:0≤a
  ·exact⟨a,yqc ha h,by omega,by omega,.inl ⟨h,rfl⟩⟩
  exact⟨-a,yqd ha (by omega),by omega,by omega,.inr ⟨by omega,rfl⟩⟩
 have hsb:∃ y,qj.f b=some y∧0≤y∧y≤9223372036854775808∧((0≤b∧y=b)∨(b<0∧y = -b)):=by
  by_cases h:0≤b
  ·exact⟨b,yqc hb h,by omega,by omega,.inl ⟨h,rfl⟩⟩
  exact⟨-b,yqd hb (by omega),by omega,by omega,.inr ⟨by omega,rfl⟩⟩
 obtain ⟨x,hx,x0,x1,hxa⟩:=hsa
 obtain ⟨y,hy,y0,y1,hyb⟩:=hsb
 rw [hx,hy]
 simp only [Option.bind_some]
 rw [yx0 x0 (by omega) y0 (by omega)]
 simp only [Option.bind_some]
 have hr:=yq8 x0 x1 y0 y1
 have hs:(decide (a<0) != decide (b<0))=false∧a * b=x * y∨(decide (a<0) != decide (b<0))=true∧a * b = -(x * y):=by
  rcases hxa with ⟨p,rfl⟩|⟨p,rfl⟩ <;> rcases hyb with ⟨q,rfl⟩|⟨q,rfl⟩
  ·left;exact⟨by rw [decide_eq_false (by omega),decide_eq_false (by omega)];rfl,rfl⟩
  ·right;exact⟨by rw [decide_eq_false (by omega),decide_eq_true (by omega)];rfl,by rw [Int.mul_neg];omega⟩
  ·right;exact⟨by rw [decide_eq_true (by omega),decide_eq_false (by omega)];rfl,by rw [Int.neg_mul];omega⟩
  left;exact⟨by rw [decide_eq_true (by omega),decide_eq_true (by omega)];rfl,by rw [Int.neg_mul_neg]⟩
 generalize a * b=d at *
 generalize x * y=m at *
 by_cases hi:m<18446744073709551616
 ·rw [if_pos (show m / 18446744073709551616=0 by omega),show m % 18446744073709551616=m from by omega]
  rcases hs with ⟨e,rfl⟩|⟨e,rfl⟩
  ·rw [e]
   by_cases hm:d<9223372036854775808
   ·rw [if_pos (by omega),yqa (by omega) hm];simp
   rw [if_neg (by omega),yqf (by omega)];simp
  rw [e]
  by_cases hm:m≤9223372036854775808
  ·rw [if_pos (by omega),yqe (by omega) hm];simp
  rw [if_neg (by omega),yqh (by omega)];simp
 rw [if_neg (show ¬ m / 18446744073709551616=0 by omega),if_neg (by omega)];simp
theorem yxu:∀ a:Int,(-9223372036854775808≤a∧a≤9223372036854775807)→law (zxh.f a) (zja.f a)=some true:=by
 intro a w
 have hb:=w
 unfold law zxh.f zja.f
 by_cases h0:a=0
 ·subst h0;decide +kernel
 by_cases h1:a=1
 ·subst h1;decide +kernel
 by_cases h2:a=2
 ·subst h2;decide +kernel
 rw [if_neg h0,if_neg h2,if_neg h1]
 by_cases hn:a<0
 ·rw [if_pos hn];simp
 rw [if_neg hn,if_pos (by omega)];simp
theorem stepA (l:List Int):∀ (m:Int) (b:Bool),((l.foldl (fun (s:Int × Bool) t=>(mn s.1 t,s.2 || (decide (t<0) || decide (t > 2)))) (m,b)).2=(b || qt.bad l)) ∧
  (qt.bad l=false→(m=0∨m=1∨m=2)→(l.foldl (fun (s:Int × Bool) t=>(mn s.1 t,s.2 || (decide (t<0) || decide (t > 2)))) (m,b)).1=if m=0∨0<l.count 0 then 0 else if m=1∨0<l.count 1 then 1 else 2):=by
 induction l with
 | nil=>
  intro m b
  refine⟨by simp [qt.bad],fun _ hm=>?_⟩
  simp
  rcases hm with rfl|rfl|rfl <;> simp
 | cons t l ih=>
  intro m b
  obtain ⟨h1,h2⟩:=ih (mn m t) (b || (decide (t<0) || decide (t > 2)))
  simp only [List.foldl_cons]
  refine⟨by rw [h1];simp [qt.bad,Bool.or_assoc],fun hb hm=>?_⟩
  have hb':qt.bad l=false ∧ ¬ t<0 ∧ ¬ t > 2:=by
   simp only [qt.bad,List.any_cons,Bool.or_eq_false_iff,decide_eq_false_iff_not] at hb
   exact⟨hb.2,hb.1.1,hb.1.2⟩
  obtain ⟨hb1,ht0,ht2⟩:=hb'
  have ht:t=0∨t=1∨t=2:=by omega
  rw [h2 hb1 (by unfold mn;split <;> omega)]
  simp only [List.count_cons]
  rcases hm with rfl|rfl|rfl <;> rcases ht with rfl|rfl|rfl <;> simp [mn]
theorem sameA (l:List Int):zqm.f l=qt.f l:=by
 obtain ⟨h1,h2⟩:=stepA l 2 false
 unfold zqm.f qt.f zqm.st
 rw [h1,Bool.false_or]
 cases hb:qt.bad l with
 | true=>simp
 | false=>
  rw [h2 hb (by decide)]
  by_cases p:0<l.count 0
  ·simp [p]
  by_cases q:0<l.count 1
  ·simp [p,q]
  simp [p,q]
theorem stepO (l:List Int):∀ (m:Int) (b:Bool),((l.foldl (fun (s:Int × Bool) t=>(mx s.1 t,s.2 || (decide (t<0) || decide (t > 2)))) (m,b)).2=(b || qr.bad l)) ∧
  (qr.bad l=false→(m=0∨m=1∨m=2)→(l.foldl (fun (s:Int × Bool) t=>(mx s.1 t,s.2 || (decide (t<0) || decide (t > 2)))) (m,b)).1=if m=2∨0<l.count 2 then 2 else if m=1∨0<l.count 1 then 1 else 0):=by
 induction l with
 | nil=>
  intro m b
  refine⟨by simp [qr.bad],fun _ hm=>?_⟩
  simp
  rcases hm with rfl|rfl|rfl <;> simp
 | cons t l ih=>
  intro m b
  obtain ⟨h1,h2⟩:=ih (mx m t) (b || (decide (t<0) || decide (t > 2)))
  simp only [List.foldl_cons]
  refine⟨by rw [h1];simp [qr.bad,Bool.or_assoc],fun hb hm=>?_⟩
  have hb':qr.bad l=false ∧ ¬ t<0 ∧ ¬ t > 2:=by
   simp only [qr.bad,List.any_cons,Bool.or_eq_false_iff,decide_eq_false_iff_not] at hb
   exact⟨hb.2,hb.1.1,hb.1.2⟩
  obtain ⟨hb1,ht0,ht2⟩:=hb'
  have ht:t=0∨t=1∨t=2:=by omega
  rw [h2 hb1 (by unfold mx;split <;> omega)]
  simp only [List.count_cons]
  rcases hm with rfl|rfl|rfl <;> rcases ht with rfl|rfl|rfl <;> simp [mx]
theorem sameO (l:List Int):zqs.f l=qr.f l:=by
 obtain ⟨h1,h2⟩:=stepO l 0 false
 unfold zqs.f qr.f zqs.st
 rw [h1,Bool.false_or]
 cases hb:qr.bad l with
 | true=>simp
 | false=>
  rw [h2 hb (by decide)]
  by_cases p:0<l.count 2
  ·simp [p]
  by_cases q:0<l.count 1
  ·simp [p,q]
  simp [p,q]
theorem yqr (s:ByteArray):s.toList = [] ↔ s.size=0:=by
 rw [ByteArray.toList_eq]
 constructor
 ·intro h
  have:=congrArg List.length h
  simpa using this
 intro h
 apply List.eq_nil_of_length_eq_zero
 simpa using h
theorem nil_append (a b:ByteArray):(a ++ b).toList = [] ↔ a.toList = []∧b.toList = []:=by
 rw [yqr,yqr,yqr,ByteArray.size_append']
 omega
def okE (w:Int):Nat→S33→Bool
 | 0,_=>false
 | n+1,e=>if e.f0=3 then decide (qq.fine w e) else
   if qq.parts e.f0≠e.f5.length ∨ ¬ (e.f2 ++ e.f3).toList = []∨e.f4≠0 then false else
   if e.f0=1 then decide (yqb e.f1.f0 e.f1.f1 e.f1.f2=0) else e.f5.all (okE w n) && decide (qq.zeroV e.f1)
def low:Nat→S33→Prop
 | 0,_=>False
 | n+1,e => ∀ s ∈ e.f5,low n s
def hgt:Nat→S33→Nat
 | 0,_=>1
 | m+1,e=>e.f5.foldl (fun a s=>max a (hgt m s)) 0+1
theorem yjk (f:S33→Nat) (n:Nat):∀ (l:List S33) (a:Nat),l.foldl (fun a s=>max a (f s)) a≤n ↔ a≤n ∧ ∀ s ∈ l,f s≤n
 | [],a=>by simp
 | x :: r,a=>by
  rw [List.foldl_cons,yjk f n r]
  simp only [List.mem_cons,forall_eq_or_imp]
  constructor
  ·rintro ⟨h1,h2⟩
   exact⟨by omega,by omega,h2⟩
  rintro ⟨h1,h2,h3⟩
  exact⟨by omega,h3⟩
theorem yq7:∀ (n m:Nat) (e:S33),n≤m→(hgt m e≤n ↔ low n e)
 | 0,m,e,_=>by
  constructor
  ·intro h
   cases m <;> simp [hgt] at h
  intro h
  exact h.elim
 | n+1,0,e,h=>by omega
 | n+1,m+1,e,h=>by
  unfold hgt low
  rw [Nat.add_le_add_iff_right,yjk]
  constructor
  ·intro h2 s hs
   exact(yq7 n m s (by omega)).1 (h2.2 s hs)
  intro h2
  exact⟨by omega,fun s hs=>(yq7 n m s (by omega)).2 (h2 s hs)⟩
theorem ykd (w:Int):∀ (n:Nat) (e:S33),okE w n e=true→low n e
 | 0,e,h=>by simp [okE] at h
 | n+1,e,h=>by
  intro s hs
  unfold okE at h
  have hne:0<e.f5.length:=List.length_pos_of_mem hs
  by_cases h3:e.f0=3
  ·rw [if_pos h3] at h
   have:=(of_decide_eq_true h).2.2.1
   omega
  rw [if_neg h3] at h
  split at h
  ·cases h
  rename_i hc
  by_cases h1:e.f0=1
  ·exfalso
   apply hc
   refine .inl ?_
   rw [h1,show qq.parts 1=0 from rfl]
   omega
  rw [if_neg h1,Bool.and_eq_true,List.all_eq_true] at h
  exact ykd w n s (h.1 s hs)
theorem yqx {e:S33} (h:gd33 e):gd30 e.f1∧e.f5.length≤9223372036854775807 ∧ ∀ y ∈ e.f5,gd33 y:=by
 cases h with
 | mk _ h0 h1 h2 h3 h4 h5 h6=>exact⟨h1,h5,h6⟩
theorem yjl {e:S33} (h:zd33 e):e.f2.size≤140737488351232∧e.f3.size≤140737488351232 ∧ ∀ y ∈ e.f5,zd33 y:=by
 cases h with
 | mk _ h0 h1 h2 h3 h4 h5 h6=>exact⟨h2,h3,h6⟩
theorem yky (w:Int) (n:Nat) (z:Bool) (l:List S33) (h:∀ x ∈ l,Big (fun k=>qq.may w k n x) (okE w n x)):Big (fun k=>qq.all (qq.may w k n) z l) (l.all (okE w n) && z):=by
 induction l with
 | nil=>exact(Big.of z).cast (by simp)
 | cons x r ih=>
  simp only [qq.all]
  refine Big.bind (h x List.mem_cons_self) ?_
  cases hx:okE w n x with
  | true=>
   simp only [if_true]
   exact(ih (fun y hy=>h y (List.mem_cons_of_mem _ hy))).cast (by simp [hx])
  | false=>
   simp only [if_neg (show ¬ false=true by decide)]
   exact(Big.of false).cast (by simp [hx])
theorem yxk (w:Int):∀ (n:Nat) (e:S33),gd33 e→zd33 e→Big (fun k=>qq.may w k n e) (okE w n e)
 | 0,_,_,_=>Big.of false
 | n+1,e,hg,hz=>by
  obtain ⟨g1,g2,g3⟩:=yqx hg
  obtain ⟨z1,z2,z3⟩:=yjl hz
  simp only [qq.may,okE]
  simp only [if_neg (show ¬ 9223372036854775807<e.f2.size+e.f3.size by omega)]
  by_cases h3:e.f0=3
  ·simp only [if_pos h3];exact Big.of _
  simp only [if_neg h3]
  by_cases hc:qq.parts e.f0≠e.f5.length ∨ ¬ (e.f2 ++ e.f3).toList = []∨e.f4≠0
  ·simp only [if_pos hc];exact Big.of _
  simp only [if_neg hc]
  by_cases h1:e.f0=1
  ·simp only [if_pos h1]
   refine Big.bind (yqn _ _ _ (bounds_i64 g1.2.1)) ?_
   exact Big.of _
  simp only [if_neg h1]
  exact yky w n _ _ (fun x hx=>yxk w n x (g3 x hx) (z3 x hx))
def kid (k:Nat) (w:Int) (x:S33):Option Bool:=zc.f k x.f0 x.f1.f0 x.f1.f1 x.f1.f2 x.f2 x.f3 x.f4 x.f5 w
theorem yjg (v:S30):zqb.f v.f0 v.f1 v.f2=some (decide (qq.zeroV v)):=by
 unfold zqb.f qq.zeroV
 by_cases h0:v.f0=0
 ·by_cases h1:v.f1=0
  ·simp [h0,h1]
   cases v.f2.toList <;> simp
  simp [h0,h1]
 simp [h0]
theorem yj0 (w:Int) (n:Nat) (b:Bool) (a0 a1 a2:Int) (a3 a4 a5:ByteArray) (a6:Int) (l:List S33) (h:∀ x ∈ l,Big (fun k=>kid k w x) (okE w n x)) :
  Big (fun k=>zc.j2 k w b a0 a1 a2 a3 a4 a5 a6 l) (b && (decide (l.length=2) && l.all (okE w n))):=by
 refine Big.succ ?_
 simp only [zc.j2]
 cases b with
 | false=>simp only [if_neg (show ¬ false=true by decide)];exact Big.of _
 | true=>
  simp only [if_true]
  by_cases h2:(l.length:Int)=2
  ·simp only [if_pos h2]
   match l,h2,h with
   | [x,y],_,h=>
    simp only [if_pos (show(0:Int)<(([x,y]:List S33).length:Int) by simp),show zg [x,y] 0=x from rfl,show zg [x,y] 1=y from rfl,if_pos (show(1:Int)<(([x,y]:List S33).length:Int) by simp)]
    refine Big.bind (r:=okE w n x) (h x (by simp)) ?_
    cases hx:okE w n x with
    | false=>simp only [if_neg (show ¬ false=true by decide)];exact(Big.of _).cast (by simp [hx])
    | true=>
     simp only [if_true]
     refine Big.bind (r:=okE w n y) (h y (by simp)) ?_
     exact(Big.of _).cast (by simp [hx])
  simp only [if_neg h2]
  exact(Big.of _).cast (by simp [show ¬ l.length=2 by omega])
theorem yxi (w:Int) (n:Nat) (op:Int) (b:Bool) (a0 a1 a2:Int) (a3 a4 a5:ByteArray) (a6:Int) (l:List S33) (h:∀ x ∈ l,Big (fun k=>kid k w x) (okE w n x)) :
  Big (fun k=>zc.j1 k w op b a0 a1 a2 a3 a4 a5 a6 l) (if b=true then decide (l.length=1) && l.all (okE w n) else decide (8≤op∧op≤20) && (decide (l.length=2) && l.all (okE w n))):=by
 refine Big.succ ?_
 simp only [zc.j1]
 cases b with
 | true=>
  simp only [if_true]
  by_cases h1:(l.length:Int)=1
  ·simp only [if_pos h1]
   match l,h1,h with
   | [x],_,h=>
    simp only [if_pos (show(0:Int)<(([x]:List S33).length:Int) by simp),show zg [x] 0=x from rfl]
    refine Big.bind (r:=okE w n x) (h x (by simp)) ?_
    exact(Big.of _).cast (by simp)
  simp only [if_neg h1]
  exact(Big.of _).cast (by simp [show ¬ l.length=1 by omega])
 | false=>
  simp only [if_neg (show ¬ false=true by decide)]
  have key:∀ c:Int,op=c→8≤c→c≤20→Big (fun k=>zc.j2 k w (op == c) a0 a1 a2 a3 a4 a5 a6 l) (decide (8≤op∧op≤20) && (decide (l.length=2) && l.all (okE w n))):=by
   intro c hc h1 h2
   exact(yj0 w n (op == c) a0 a1 a2 a3 a4 a5 a6 l h).cast (by rw [hc,beq_self_eq_true,decide_eq_true (show 8≤c∧c≤20 from ⟨h1,h2⟩)])
  by_cases c8:op=8
  ·simp only [if_pos c8];exact key 8 c8 (by decide) (by decide)
  simp only [if_neg c8]
  by_cases c9:op=9
  ·simp only [if_pos c9];exact key 9 c9 (by decide) (by decide)
  simp only [if_neg c9]
  by_cases c10:op=10
  ·simp only [if_pos c10];exact key 10 c10 (by decide) (by decide)
  simp only [if_neg c10]
  by_cases c11:op=11
  ·simp only [if_pos c11];exact key 11 c11 (by decide) (by decide)
  simp only [if_neg c11]
  by_cases c12:op=12
  ·simp only [if_pos c12];exact key 12 c12 (by decide) (by decide)
  simp only [if_neg c12]
  by_cases c13:op=13
  ·simp only [if_pos c13];exact key 13 c13 (by decide) (by decide)
  simp only [if_neg c13]
  by_cases c14:op=14
  ·simp only [if_pos c14];exact key 14 c14 (by decide) (by decide)
  simp only [if_neg c14]
  by_cases c15:op=15
  ·simp only [if_pos c15];exact key 15 c15 (by decide) (by decide)
  simp only [if_neg c15]
  by_cases c16:op=16
  ·simp only [if_pos c16];exact key 16 c16 (by decide) (by decide)
  simp only [if_neg c16]
  by_cases c17:op=17
  ·simp only [if_pos c17];exact key 17 c17 (by decide) (by decide)
  simp only [if_neg c17]
  by_cases c18:op=18
  ·simp only [if_pos c18];exact key 18 c18 (by decide) (by decide)
  simp only [if_neg c18]
  by_cases c19:op=19
  ·simp only [if_pos c19];exact key 19 c19 (by decide) (by decide)
  simp only [if_neg c19]
  by_cases c20:op=20
  ·exact key 20 c20 (by decide) (by decide)
  exact(yj0 w n (op == 20) a0 a1 a2 a3 a4 a5 a6 l h).cast (by
   rw [beq_eq_false_iff_ne.2 c20,decide_eq_false (show ¬ (8≤op∧op≤20) by omega)])
theorem yjq (w:Int):∀ (n:Nat) (e:S33),low n e→Big (fun k=>kid k w e) (okE w n e)
 | 0,_,h=>h.elim
 | n+1,e,h=>by
  have hk:∀ x ∈ e.f5,Big (fun k=>kid k w x) (okE w n x):=fun x hx=>yjq w n x (h x hx)
  refine Big.succ ?_
  simp only [kid,zc.f]
  have bad:¬ (e.f2 ++ e.f3).toList = []→Big (fun k=>zc.j0 k w true e.f0 e.f1.f0 e.f1.f1 e.f1.f2 e.f2 e.f3 e.f4 e.f5) (okE w (n+1) e):=by
   intro hc
   refine Big.succ ?_
   simp only [zc.j0,if_true]
   refine(Big.of false).cast ?_
   unfold okE
   split
   ·rw [decide_eq_false];intro hf;exact hc hf.2.1
   rw [if_pos (.inr (.inl hc))]
  by_cases h2:e.f2.toList = []
  ·simp only [if_pos h2]
   by_cases h3:e.f3.toList = []
   ·have hcat:(e.f2 ++ e.f3).toList = []:=(nil_append _ _).2 ⟨h2,h3⟩
    rw [show(e.f3.toList != ([]:List UInt8))=false by rw [h3];rfl]
    refine Big.succ ?_
    simp only [zc.j0,if_neg (show ¬ false=true by decide)]
    by_cases o1:e.f0=1
    ·simp only [if_pos o1]
     have ho:okE w (n+1) e=(decide (e.f5.length=0) && (decide (e.f4=0) && decide (yqb e.f1.f0 e.f1.f1 e.f1.f2=0))):=by
      unfold okE
      rw [if_neg (by omega),o1,show qq.parts 1=0 from rfl]
      by_cases hl:e.f5.length=0
      ·by_cases h4:e.f4=0
       ·rw [if_neg (by rintro (h_|h_|h_) <;> first|omega|exact h_ hcat),if_pos rfl]
        simp [hl,h4]
       rw [if_pos (.inr (.inr h4))]
       simp [h4]
      rw [if_pos (.inl (by omega))]
      simp [hl]
     rw [ho]
     by_cases hl:(e.f5.length:Int)=0
     ·simp only [if_pos hl]
      by_cases h4:e.f4=0
      ·simp only [if_pos h4]
       refine Big.bind (yqm _ _ _) ?_
       exact(Big.of _).cast (by simp [h4,show e.f5.length=0 by omega];rfl)
      simp only [if_neg h4]
      exact(Big.of _).cast (by simp [h4])
     simp only [if_neg hl]
     exact(Big.of _).cast (by simp [show ¬ e.f5.length=0 by omega])
    simp only [if_neg o1,yjg,Option.bind_some]
    by_cases hz:qq.zeroV e.f1
    ·simp only [decide_eq_true hz,if_true]
     by_cases o3:e.f0=3
     ·simp only [if_pos o3]
      have ho:okE w (n+1) e=decide (qq.fine w e):=by unfold okE;rw [if_pos o3]
      rw [ho]
      by_cases hl:(e.f5.length:Int)=0
      ·simp only [if_pos hl]
       by_cases h4:e.f4 ≥ 0
       ·simp only [if_pos h4]
        refine(Big.of _).cast ?_
        unfold qq.fine
        simp [hz,hcat,show e.f5.length=0 by omega]
        intro _
        omega
       simp only [if_neg h4]
       refine(Big.of _).cast ?_
       rw [decide_eq_false]
       intro hf
       exact h4 hf.2.2.2.1
      simp only [if_neg hl]
      refine(Big.of _).cast ?_
      rw [decide_eq_false]
      intro hf
      have:=hf.2.2.1
      omega
     simp only [if_neg o3]
     by_cases h4:e.f4=0
     ·simp only [if_pos h4]
      have ho:okE w (n+1) e=(decide (qq.parts e.f0=e.f5.length) && e.f5.all (okE w n)):=by
       unfold okE
       rw [if_neg o3]
       by_cases hp:qq.parts e.f0=e.f5.length
       ·rw [if_neg (by rintro (h_|h_|h_) <;> first|exact h_ hp|exact h_ hcat|exact h_ h4),if_neg o1]
        simp [hp,hz]
       rw [if_pos (.inl hp)]
       simp [hp]
      rw [ho]
      have four:∀ c:Int,4≤c→c≤7→e.f0=c→Big (fun k=>zc.j1 k w e.f0 (e.f0 == c) e.f0 e.f1.f0 e.f1.f1 e.f1.f2 e.f2 e.f3 e.f4 e.f5) (decide (qq.parts e.f0=e.f5.length) && e.f5.all (okE w n)):=by
       intro c c1 c2 hc
       refine(yxi w n e.f0 (e.f0 == c) e.f0 e.f1.f0 e.f1.f1 e.f1.f2 e.f2 e.f3 e.f4 e.f5 hk).cast ?_
       rw [hc,beq_self_eq_true,if_pos rfl,qq.parts,if_neg (by omega),if_pos ⟨c1,c2⟩]
       congr 1
       simp only [decide_eq_decide]
       omega
      by_cases c4:e.f0=4
      ·simp only [if_pos c4];exact four 4 (by decide) (by decide) c4
      simp only [if_neg c4]
      by_cases c5:e.f0=5
      ·simp only [if_pos c5];exact four 5 (by decide) (by decide) c5
      simp only [if_neg c5]
      by_cases c6:e.f0=6
      ·simp only [if_pos c6];exact four 6 (by decide) (by decide) c6
      simp only [if_neg c6]
      by_cases c7:e.f0=7
      ·exact four 7 (by decide) (by decide) c7
      refine(yxi w n e.f0 (e.f0 == 7) e.f0 e.f1.f0 e.f1.f1 e.f1.f2 e.f2 e.f3 e.f4 e.f5 hk).cast ?_
      rw [beq_eq_false_iff_ne.2 c7,if_neg (by decide),qq.parts,if_neg o1,if_neg (by omega)]
      by_cases hb:8≤e.f0∧e.f0≤20
      ·rw [decide_eq_true hb,if_pos hb,Bool.true_and]
       congr 1
       simp only [decide_eq_decide]
       omega
      rw [decide_eq_false hb,if_neg hb,decide_eq_false (show ¬ (-1:Int)=e.f5.length by omega)]
      rfl
     simp only [if_neg h4]
     refine(Big.of _).cast ?_
     unfold okE
     rw [if_neg o3,if_pos (.inr (.inr h4))]
    simp only [decide_eq_false hz,if_neg (show ¬ false=true by decide)]
    refine(Big.of _).cast ?_
    unfold okE
    split
    ·rw [decide_eq_false];intro hf;exact hz hf.1
    split
    ·rfl
    first|rw [if_neg o1,decide_eq_false hz,Bool.and_false]|rw [decide_eq_false hz,Bool.and_false]
   rw [show(e.f3.toList != ([]:List UInt8))=true by simpa using h3]
   exact bad (fun hc=>h3 ((nil_append _ _).1 hc).2)
  simp only [if_neg h2]
  exact bad (fun hc=>h2 ((nil_append _ _).1 hc).1)
def top (k:Nat) (m:Int) (x:S33):Option Int:=qc.f k x.f0 x.f1.f0 x.f1.f1 x.f1.f2 x.f2 x.f3 x.f4 x.f5 m
theorem yxp (m:Nat) (l:List S33) (i:Nat) (h:i<l.length):(l.take (i+1)).foldl (fun a s=>max a (hgt m s)) 0=max ((l.take i).foldl (fun a s=>max a (hgt m s)) 0) (hgt m l[i]):=by
 rw [List.take_succ_eq_append_getElem h,List.foldl_append]
 rfl
theorem ykg:∀ (m:Nat) (e:S33),hgt m e≤m+1
 | 0,_=>Nat.le_refl _
 | m+1,e=>by
  unfold hgt
  rw [Nat.add_le_add_iff_right,yjk]
  exact⟨by omega,fun s _=>ykg m s⟩
theorem yjo:∀ (m:Nat) (e:S33),m≤14→gd33 e→Big (fun k=>top k m e) (hgt m e:Nat)
 | 0,e,_,_=>by
  refine Big.succ ?_
  simp only [top,qc.f]
  exact Big.eq fun k=>by rw [if_neg (by omega)];rfl
 | m+1,e,hm,hg=>by
  obtain ⟨_,g2,g3⟩:=yqx hg
  refine Big.succ ?_
  simp only [top,qc.f]
  simp only [if_pos (show((m+1:Nat):Int) > 0 by omega)]
  have loop:∀ (d i:Nat),i+d=e.f5.length→Big (fun k=>qc.l0 k ((m+1:Nat):Int) (((e.f5.take i).foldl (fun a s=>max a (hgt m s)) 0:Nat):Int) e.f5 (e.f5.length:Int) (i:Int)) (hgt (m+1) e:Nat):=by
   intro d
   induction d with
   | zero=>
    intro i hi
    obtain rfl:i=e.f5.length:=by omega
    refine Big.succ ?_
    simp only [qc.l0]
    simp only [if_neg (show ¬ (e.f5.length:Int)<(e.f5.length:Int) by omega)]
    refine(Big.of _).cast ?_
    have hb:=ykg (m+1) e
    have e1:hgt (m+1) e=e.f5.foldl (fun a s=>max a (hgt m s)) 0+1:=rfl
    rw [e1] at hb ⊢
    rw [List.take_length]
    generalize e.f5.foldl (fun a s=>max a (hgt m s)) 0=q at *
    unfold wrap64
    omega
   | succ d ih=>
    intro i hi
    have hlt:i<e.f5.length:=by omega
    refine Big.succ ?_
    simp only [qc.l0]
    simp only [if_pos (show(i:Int)<(e.f5.length:Int) by omega),if_pos (show(0:Int)≤(i:Int) by omega)]
    have hr:zg e.f5 (i:Int)=e.f5[i]:=by simp [zg,List.getD_eq_getElem?_getD,hlt]
    rw [hr,show wrap64 (((m+1:Nat):Int) - 1)=(m:Int) by unfold wrap64;omega,show wrap64 ((i:Int)+1)=((i+1:Nat):Int) by unfold wrap64;omega]
    refine Big.bind (r:=((hgt m e.f5[i]:Nat):Int)) (yjo m e.f5[i] (by omega) (g3 _ (List.getElem_mem hlt))) ?_
    have hs:=ih (i+1) (by omega)
    rw [yxp m e.f5 i hlt] at hs
    refine hs.congr (fun k=>?_)
    congr 1
    unfold mx
    omega
  have:=loop e.f5.length 0 (by omega)
  exact this
theorem yjy (w:Int) (e:S33) (hg:gd33 e):Big (fun k=>zqk.f k e.f0 e.f1.f0 e.f1.f1 e.f1.f2 e.f2 e.f3 e.f4 e.f5 w) (okE w 12 e):=by
 simp only [zqk.f]
 refine Big.bind (r:=((hgt 14 e:Nat):Int)) (yjo 14 e (by omega) hg) ?_
 by_cases hl:hgt 14 e≤12
 ·simp only [if_pos (show((hgt 14 e:Nat):Int)≤12 by omega)]
  refine Big.bind (r:=okE w 12 e) (yjq w 12 e ((yq7 12 14 e (by omega)).1 hl)) ?_
  exact Big.of _
 simp only [if_neg (show ¬ ((hgt 14 e:Nat):Int)≤12 by omega)]
 refine(Big.of _).cast ?_
 cases ho:okE w 12 e with
 | false=>rfl
 | true=>exact absurd ((yq7 12 14 e (by omega)).2 (ykd w 12 e ho)) hl
abbrev In (a:Int):Prop := -9223372036854775808≤a∧a≤9223372036854775807
theorem Big.mono {α:Type} {g:Nat→Option α} (h:∀ k,LeO (g k) (g (k+1))) {k0:Nat} {r:α} (e:g k0=some r):Big g r:=by
 refine⟨k0,fun k hk=>?_⟩
 obtain ⟨d,rfl⟩:∃ d,k=k0+d:=⟨k - k0,by omega⟩
 clear hk
 induction d with
 | zero=>exact e
 | succ d ih=>exact h _ _ ih
theorem yql {A B:Option (Int × Int)} (h:law A B=some true):∃ p,A=some p∧B=some p:=by
 unfold law at h
 cases A with
 | none=>cases h
 | some p=>
  cases B with
  | none=>cases h
  | some q=>
   obtain ⟨p1,p2⟩:=p
   obtain ⟨q1,q2⟩:=q
   simp only [Option.bind_some] at h
   split at h
   ·rename_i e
    have e2:p2=q2:=by simpa using h
    subst e e2
    exact⟨_,rfl,rfl⟩
   simp at h
theorem yko {a:Int} (b:Int) (h:In a):In (Int.tmod a b):=by
 have h1:(Int.tmod a b).natAbs≤a.natAbs:=by
  rw [Int.natAbs_tmod]
  exact Nat.mod_le _ _
 by_cases hp:0≤a
 ·have:=Int.tmod_nonneg b hp
  exact⟨by omega,by omega⟩
 have h2:=Int.tmod_nonneg b (show 0 ≤ -a by omega)
 rw [Int.neg_tmod] at h2
 exact⟨by omega,by omega⟩
theorem yka {a b:Int} (ha:In a) (hb:In b):∃ p,zx5.f a b=some p∧zjk.f a b=some p∧In p.1:=by
 obtain ⟨p,h1,h2⟩:=yql (yk4 a b ha hb)
 refine⟨p,h1,h2,?_⟩
 rw [ykk ha hb] at h1
 split at h1 <;> (have h1:=Option.some.inj h1;subst h1;dsimp only;exact⟨by omega,by omega⟩)
theorem yxw {a b:Int} (ha:In a) (hb:In b):∃ p,zx2.f a b=some p∧zji.f a b=some p∧In p.1:=by
 obtain ⟨p,h1,h2⟩:=yql (ykz a b ha hb)
 refine⟨p,h1,h2,?_⟩
 rw [ykc ha hb] at h1
 split at h1 <;> (have h1:=Option.some.inj h1;subst h1;dsimp only;exact⟨by omega,by omega⟩)
theorem yxz {a b:Int} (ha:In a) (hb:In b):∃ p,Big (fun k=>zq9.f k a b) p∧zjg.f a b=some p∧In p.1:=by
 obtain ⟨p,h1,h2⟩:=yql (yk1 a b ha hb)
 refine⟨p,Big.mono (g:=fun k=>zq9.f k a b) (fun k=>zq9.mono _ _ _) h1,h2,?_⟩
 rw [ykf ha hb] at h1
 split at h1 <;> (have h1:=Option.some.inj h1;subst h1;dsimp only;exact⟨by omega,by omega⟩)
theorem yke {a:Int} (ha:In a) {p:Int × Int} (h:zjz.f a=some p):In p.1:=by
 rw [yjn ha] at h
 split at h <;> (have h:=Option.some.inj h;subst h;dsimp only;exact⟨by omega,by omega⟩)
theorem yxy {a:Int} (ha:In a):∃ p,zjz.f a=some p∧zjj.f a=some p∧In p.1:=by
 obtain ⟨p,h1,h2⟩:=yql (yk0 a ha)
 exact⟨p,h1,h2,yke ha h1⟩
theorem w64_in (x:Int):In (wrap64 x):=by unfold wrap64;exact⟨by omega,by omega⟩
theorem yx8 {a b:Int} (ha:In a) (hb:In b):∃ p,zx4.f a b=some p∧zq6.f a b=some p∧In p.1:=by
 obtain ⟨p,h1,h2⟩:=yql (yk3 a b ha hb)
 refine⟨p,h1,h2,?_⟩
 unfold zx4.f at h1
 split at h1
 ·have h1:=Option.some.inj h1;subst h1;exact⟨by decide,by decide⟩
 split at h1
 ·obtain ⟨q,hq,h1⟩:=Option.bind_eq_some_iff.1 h1
  have h1:=Option.some.inj h1
  subst h1
  exact yke ha hq
 have h1:=Option.some.inj h1;subst h1;exact w64_in _
theorem yx1 {a b:Int} (ha:In a) (hb:In b):∃ p,zx3.f a b=some p∧zjh.f a b=some p∧In p.1:=by
 obtain ⟨p,h1,h2⟩:=yql (yk2 a b ha hb)
 refine⟨p,h1,h2,?_⟩
 unfold zx3.f at h1
 split at h1
 ·have h1:=Option.some.inj h1;subst h1;exact⟨by decide,by decide⟩
 split at h1
 ·have h1:=Option.some.inj h1;subst h1;exact⟨by decide,by decide⟩
 have h1:=Option.some.inj h1;subst h1;exact yko b ha
theorem yxx {a:Int} (ha:In a):∃ p,zxh.f a=some p∧zja.f a=some p:=yql (yxu a ha)
abbrev R4:=Int × Int × ByteArray × Int
def inv (r:R4):Prop:=0≤r.1∧r.1≤3∧In r.2.1∧(r.2.2.2≠0→r=(0,0,⟨#[]⟩,r.2.2.2))
theorem yqs (c:Int):inv (0,0,⟨#[]⟩,c):=⟨by show(0:Int)≤0;decide,by show(0:Int)≤3;decide,by show In 0;exact⟨by decide,by decide⟩,fun _=>rfl⟩
theorem ykx {p:Int} (h:In p):inv (2,p,⟨#[]⟩,0):=⟨by show(0:Int)≤2;decide,by show(2:Int)≤3;decide,h,fun h=>absurd rfl h⟩
theorem yxm {p:Int} (h:p=0∨p=1):inv (1,p,⟨#[]⟩,0):=⟨by show(0:Int)≤1;decide,by show(1:Int)≤3;decide,by show In p;exact⟨by omega,by omega⟩,fun h=>absurd rfl h⟩
def tof (t:Int):R4:=if t=0 then(1,0,⟨#[]⟩,0) else if t=2 then(1,1,⟨#[]⟩,0) else if t=1 then(0,0,⟨#[]⟩,0) else (0,0,⟨#[]⟩,2)
theorem yq5 (t:Int):inv (tof t):=by
 unfold tof
 repeat' split
 ·exact yxm (.inl rfl)
 ·exact yxm (.inr rfl)
 ·exact yqs 0
 exact yqs 2
theorem yjm (t:Int):Big (fun k=>zqn.f k t) (tof t):=by
 refine⟨1,fun k hk=>?_⟩
 obtain ⟨m,rfl⟩:∃ m,k=m+1:=⟨k - 1,by omega⟩
 simp only [zqn.f,zqn.j0,tof]
 by_cases h0:t=0
 ·subst h0;decide +kernel
 by_cases h2:t=2
 ·subst h2;decide +kernel
 rw [if_neg h0,if_neg h0,if_neg h2,show(t == 2)=false by simpa using h2,if_neg (by decide)]
 by_cases h1:t=1
 ·rw [if_pos h1,if_pos h1]
 rw [if_neg h1,if_neg h1]
theorem yxb (t:Int):zqr.f t=some (tof t):=by
 unfold zqr.f tof
 repeat' split
 all_goals rfl
def tt (a b:Int):R4:=if b=0 then tof a else (0,0,⟨#[]⟩,b)
theorem yj2 (a b:Int):inv (tt a b):=by
 unfold tt
 split
 ·exact yq5 _
 exact yqs _
theorem yj1 (a b:Int):Big (fun k=>zq2.f k a b) (tt a b):=by
 unfold zq2.f tt
 by_cases h:b=0
 ·simp only [if_pos h]
  refine Big.bind (yjm a) ?_
  exact Big.of _
 simp only [if_neg h];exact Big.of _
theorem yj7 (a b:Int):zqj.f a b=some (tt a b):=by
 unfold zqj.f tt
 by_cases h:b=0
 ·rw [if_pos h,if_pos h,yxb];rfl
 rw [if_neg h,if_neg h]
theorem yj3 (b:Bool):Big (fun k=>zj1.f k b) (tof (if b=true then 2 else 0)):=by
 unfold zj1.f
 cases b with
 | true=>
  simp only [if_true]
  refine Big.bind (yjm 2) ?_
  exact Big.of _
 | false=>
  simp only [if_neg (show ¬ false=true by decide)]
  refine Big.bind (yjm 0) ?_
  exact Big.of _
def kd (v:S30):Prop:=0≤v.f0∧v.f0≤3∧In v.f1
def wr (a b:S30) (p:Int × Int):R4:=if(za.odd a.f0 || za.odd b.f0)=true then(0,0,⟨#[]⟩,12) else if a.f0=0∨b.f0=0 then(0,0,⟨#[]⟩,0) else if p.2=0 then(2,p.1,⟨#[]⟩,0) else (0,0,⟨#[]⟩,p.2)
theorem yq1 (a b:S30) {p:Int × Int} (h:In p.1):inv (wr a b p):=by
 unfold wr
 repeat' split
 ·exact yqs _
 ·exact yqs _
 ·exact ykx h
 exact yqs _
theorem yqi {F:Nat→Int→Int→Option (Int × Int)} {a b:S30} {p:Int × Int} (h:Big (fun k=>F k a.f1 b.f1) p):Big (fun k=>za.of (F k) a b) (wr a b p):=by
 unfold za.of wr
 by_cases h1:(za.odd a.f0 || za.odd b.f0)=true
 ·simp only [if_pos h1];exact Big.of _
 simp only [if_neg h1]
 by_cases h2:a.f0=0∨b.f0=0
 ·simp only [if_pos h2];exact Big.of _
 simp only [if_neg h2]
 refine Big.bind h ?_
 by_cases h3:p.2=0
 ·simp only [if_pos h3];exact Big.of _
 simp only [if_neg h3];exact Big.of _
theorem yx5 {a b:S30} (ha:kd a) (hb:kd b):Big (fun k=>qp.f k a.f0 a.f1 a.f2 b.f0 b.f1 b.f2) (if(za.odd a.f0 || za.odd b.f0)=true then(false,false) else (true,a.f0 == 0 || b.f0 == 0)):=by
 refine⟨3,fun k hk=>?_⟩
 obtain ⟨m,rfl⟩:∃ m,k=m+3:=⟨k - 3,by omega⟩
 obtain ⟨a0,a1,a2⟩:=a
 obtain ⟨b0,b1,b2⟩:=b
 obtain ⟨ha0,ha1,_⟩:=ha
 obtain ⟨hb0,hb1,_⟩:=hb
 dsimp only at *
 rcases (show a0=0∨a0=1∨a0=2∨a0=3 by omega) with h|h|h|h <;> rcases (show b0=0∨b0=1∨b0=2∨b0=3 by omega) with h'|h'|h'|h' <;> subst h h' <;>
  simp [qp.f,qp.l0,zqh,za.odd,wrap64]
theorem yq2 {a b:S30} (ha:kd a) (hb:kd b) {G:Option (Int × Int)} {p:Int × Int} (hG:G=some p):Big (fun k=>(qp.f k a.f0 a.f1 a.f2 b.f0 b.f1 b.f2).bind fun q=>if q.1=false then zz.no 12 else if q.2=true then zz.no 0 else G.bind zz.nb) (wr a b p):=by
 refine Big.bind (yx5 ha hb) ?_
 unfold wr
 by_cases h1:(za.odd a.f0 || za.odd b.f0)=true
 ·simp only [if_pos h1,if_true];exact Big.of _
 simp only [if_neg h1,if_neg (show ¬ true=false by decide)]
 by_cases h2:a.f0=0∨b.f0=0
 ·have:(a.f0 == 0 || b.f0 == 0)=true:=by simpa using h2
  simp only [if_pos h2,if_pos this];exact Big.of _
 have:¬ (a.f0 == 0 || b.f0 == 0)=true:=by simpa using h2
 simp only [if_neg h2,if_neg this,hG,Option.bind_some,zz.nb,zqf.f]
 by_cases h3:p.2=0
 ·simp only [if_pos h3];exact Big.of _
 simp only [if_neg h3];exact Big.of _
def Two (g h:Nat→Option R4):Prop := ∃ r,Big g r∧Big h r∧inv r
theorem ykn (K I:Int) (T:ByteArray):In (told K I T).1:=by
 unfold told
 split
 ·rename_i h
  split
  ·exact⟨by decide,by decide⟩
  split
  ·rename_i h1
   have:=yq4 K I T h h1
   exact⟨by show _≤I * 2;omega,by show I * 2≤_;omega⟩
  exact⟨by decide,by decide⟩
 show In 0
 exact⟨by decide,by decide⟩
theorem yx4 (f:Nat→S33→Option R4) (o:Int) (a b:S30) (ha:kd a) (ho:4≤o∧o≤7):Two (fun k=>zh.of k o a b) (fun k=>zz.one k (f k) o a []):=by
 unfold zh.of zz.one
 simp only [if_neg (show ¬ (13≤o∧o≤18) by omega),if_neg (show ¬ (o=19∨o=20) by omega)]
 by_cases h6:o=6
 ·simp only [if_pos h6]
  refine⟨_,yj3 _,?_,yq5 _⟩
  unfold zq3.f
  by_cases h:a.f0=0
  ·simp only [show(a.f0 == 0)=true by simpa using h,if_true];exact Big.of _
  simp only [show(a.f0 == 0)=false by simpa using h,if_neg (show ¬ false=true by decide)];exact Big.of _
 simp only [if_neg h6]
 by_cases h7:o=7
 ·simp only [if_pos h7]
  refine⟨_,yj3 _,?_,yq5 _⟩
  unfold zq3.f
  by_cases h:a.f0=0
  ·simp only [show(a.f0 != 0)=false by simpa using h,if_neg (show ¬ false=true by decide)];exact Big.of _
  simp only [show(a.f0 != 0)=true by simpa using h,if_true];exact Big.of _
 simp only [if_neg h7]
 by_cases h5:o=5
 ·simp only [if_pos h5]
  by_cases h:(told a.f0 a.f1 a.f2).2=0
  ·obtain ⟨q,q1,q2⟩:=yxx (ykn a.f0 a.f1 a.f2)
   refine⟨tt q.1 q.2,?_,?_,yj2 _ _⟩
   ·refine Big.bind (yqw _ _ _ ha.2.2) ?_
    simp only [if_pos h,q1,Option.bind_some]
    exact yj1 _ _
   refine Big.bind (yqg _ _ _) ?_
   simp only [if_pos h,q2,Option.bind_some,zz.tv,yj7]
   exact Big.of _
  refine⟨(0,0,⟨#[]⟩,(told a.f0 a.f1 a.f2).2),?_,?_,yqs _⟩
  ·refine Big.bind (yqw _ _ _ ha.2.2) ?_
   simp only [if_neg h];exact Big.of _
  refine Big.bind (yqg _ _ _) ?_
  simp only [if_neg h];exact Big.of _
 simp only [if_neg h5,if_pos (show o=4 by omega)]
 obtain ⟨p,p1,p2,p3⟩:=yxy ha.2.2
 exact⟨wr a a p,yqi (F:=fun _ x _=>zjz.f x) (Big.eq fun _=>p1),yq2 ha ha p2,yq1 a a p3⟩
theorem yx3 (o:Int) (a b:S30) (ha:kd a) (hb:kd b) (ho:8≤o∧o≤18):Two (fun k=>zh.of k o a b) (fun k=>zz.two k o a b):=by
 unfold zh.of zz.two
 by_cases h13:13≤o
 ·simp only [if_pos (show 13≤o∧o≤18 by omega),if_pos h13]
  refine⟨tt (yja o a.f0 a.f1 a.f2 b.f0 b.f1 b.f2).1 (yja o a.f0 a.f1 a.f2 b.f0 b.f1 b.f2).2,?_,?_,yj2 _ _⟩
  ·refine Big.bind (yx2 o _ _ _ _ _ _ ha.2.2 hb.2.2) ?_
   exact yj1 _ _
  refine Big.bind (yjt o _ _ _ _ _ _) ?_
  simp only [zz.tv,yj7]
  exact Big.of _
 simp only [if_neg (show ¬ (13≤o∧o≤18) by omega),if_neg h13,if_neg (show ¬ o=6 by omega),if_neg (show ¬ o=7 by omega),if_neg (show ¬ o=5 by omega),if_neg (show ¬ o=4 by omega)]
 by_cases h8:o=8
 ·simp only [if_pos h8]
  obtain ⟨p,p1,p2,p3⟩:=yka ha.2.2 hb.2.2
  exact⟨wr a b p,yqi (F:=fun _=>zx5.f) (Big.eq fun _=>p1),yq2 ha hb p2,yq1 a b p3⟩
 simp only [if_neg h8]
 by_cases h9:o=9
 ·simp only [if_pos h9]
  obtain ⟨p,p1,p2,p3⟩:=yxw ha.2.2 hb.2.2
  exact⟨wr a b p,yqi (F:=fun _=>zx2.f) (Big.eq fun _=>p1),yq2 ha hb p2,yq1 a b p3⟩
 simp only [if_neg h9]
 by_cases h10:o=10
 ·simp only [if_pos h10]
  obtain ⟨p,p1,p2,p3⟩:=yxz ha.2.2 hb.2.2
  exact⟨wr a b p,yqi (F:=fun k=>zq9.f k) p1,yq2 ha hb p2,yq1 a b p3⟩
 simp only [if_neg h10]
 by_cases h11:o=11
 ·simp only [if_pos h11]
  obtain ⟨p,p1,p2,p3⟩:=yx8 ha.2.2 hb.2.2
  exact⟨wr a b p,yqi (F:=fun _=>zx4.f) (Big.eq fun _=>p1),yq2 ha hb p2,yq1 a b p3⟩
 simp only [if_neg h11,if_pos (show o=12 by omega)]
 obtain ⟨p,p1,p2,p3⟩:=yx1 ha.2.2 hb.2.2
 exact⟨wr a b p,yqi (F:=fun _=>zx3.f) (Big.eq fun _=>p1),yq2 ha hb p2,yq1 a b p3⟩
theorem ykw {r:R4} (h:inv r):kd (zj.v r):=⟨h.1,h.2.1,h.2.2.1⟩
def rowOk (row:List S30):Prop := ∀ x ∈ row,yqb x.f0 x.f1 x.f2=0∧In x.f1
theorem lz_two (f:S33→Option R4) (k:Nat) (z:Int) (fold:List Int→Option (Int × Int)) (x y:S33):zj.lz f k z fold 0 0 0 [x,y]=(f x).bind fun p=>if p.2.2.2=0 then(zqz.f k p.1 p.2.1 p.2.2.1).bind fun q=>if q.2=0 then(if q.1=z then zqn.f k z else (f y).bind fun p=>if p.2.2.2=0 then(zqz.f k p.1 p.2.1 p.2.2.1).bind fun q'=>if q'.2=0 then(fold [q.1,q'.1]).bind fun q=>zq2.f k q.1 q.2 else some (0,0,⟨#[]⟩,q'.2) else some p) else some (0,0,⟨#[]⟩,q.2) else some p:=by
 simp [zj.lz]
theorem yje (z:Int) (fold:List Int→Option (Int × Int)) (o:Int) (hz:o=19∧z=0∨o=20∧z=2)
  (hfold:∀ a b:Int,∃ q,fold [a,b]=some q∧(if o=19 then qt.f [a,b] else qr.f [a,b])=some q)
  (f g:Nat→S33→Option R4) (x y:S33) (hx:Two (fun k=>f k x) (fun k=>g k x)) (hy:Two (fun k=>f k y) (fun k=>g k y)) :
  Two (fun k=>zj.lz (f k) k z fold 0 0 0 [x,y]) (fun k=>(g k x).bind fun p=>if p.2.2.2=0 then zz.one k (g k) o ⟨p.1,p.2.1,p.2.2.1⟩ [y] else zz.no p.2.2.2):=by
 obtain ⟨p,p1,p2,pi⟩:=hx
 simp only [lz_two]
 by_cases hp:p.2.2.2=0
 rotate_left
 ·refine⟨p,?_,?_,pi⟩
  ·refine Big.bind p1 ?_
   simp only [if_neg hp];exact Big.of _
  refine Big.bind p2 ?_
  simp only [if_neg hp,zz.no]
  exact(Big.of _).cast (pi.2.2.2 hp).symm
 suffices h:Two (fun k=>(zqz.f k p.1 p.2.1 p.2.2.1).bind fun q=>if q.2=0 then(if q.1=z then zqn.f k z else (f k y).bind fun p=>if p.2.2.2=0 then(zqz.f k p.1 p.2.1 p.2.2.1).bind fun q'=>if q'.2=0 then(fold [q.1,q'.1]).bind fun q=>zq2.f k q.1 q.2 else some (0,0,⟨#[]⟩,q'.2) else some p) else some (0,0,⟨#[]⟩,q.2))
   (fun k=>zz.one k (g k) o ⟨p.1,p.2.1,p.2.2.1⟩ [y]) by
  obtain ⟨r,r1,r2,ri⟩:=h
  refine⟨r,?_,?_,ri⟩
  ·refine Big.bind p1 ?_
   simp only [if_pos hp];exact r1
  refine Big.bind p2 ?_
  simp only [if_pos hp];exact r2
 unfold zz.one
 simp only [if_pos (show o=19∨o=20 by omega)]
 by_cases hs:(told p.1 p.2.1 p.2.2.1).2=0
 rotate_left
 ·refine⟨_,?_,?_,yqs (told p.1 p.2.1 p.2.2.1).2⟩
  ·refine Big.bind (yqw _ _ _ pi.2.2.1) ?_
   simp only [if_neg hs];exact Big.of _
  refine Big.bind (yqg _ _ _) ?_
  simp only [if_neg hs];exact Big.of _
 by_cases hu:(told p.1 p.2.1 p.2.2.1).1=z
 ·refine⟨tof z,?_,?_,yq5 z⟩
  ·refine Big.bind (yqw _ _ _ pi.2.2.1) ?_
   simp only [if_pos hs,if_pos hu];exact yjm z
  refine Big.bind (yqg _ _ _) ?_
  simp only [if_pos hs,hu,if_pos hz,yxb];exact Big.of _
 suffices h:Two (fun k=>(f k y).bind fun p'=>if p'.2.2.2=0 then(zqz.f k p'.1 p'.2.1 p'.2.2.1).bind fun q'=>if q'.2=0 then(fold [(told p.1 p.2.1 p.2.2.1).1,q'.1]).bind fun q=>zq2.f k q.1 q.2 else some (0,0,⟨#[]⟩,q'.2) else some p')
   (fun k=>(g k y).bind fun p'=>if p'.2.2.2=0 then(qw.f k p'.1 p'.2.1 p'.2.2.1).bind fun t=>if t.2=0 then(if o=19 then qt.f [(told p.1 p.2.1 p.2.2.1).1,t.1] else qr.f [(told p.1 p.2.1 p.2.2.1).1,t.1]).bind zz.tv else zz.no t.2 else zz.no p'.2.2.2) by
  obtain ⟨r,r1,r2,ri⟩:=h
  refine⟨r,?_,?_,ri⟩
  ·refine Big.bind (yqw _ _ _ pi.2.2.1) ?_
   simp only [if_pos hs,if_neg hu];exact r1
  refine Big.bind (yqg _ _ _) ?_
  simp only [if_pos hs,if_neg (show ¬ (o=19∧(told p.1 p.2.1 p.2.2.1).1=0∨o=20∧(told p.1 p.2.1 p.2.2.1).1=2) by omega)];exact r2
 generalize (told p.1 p.2.1 p.2.2.1).1=u
 obtain ⟨q,q1,q2,qi⟩:=hy
 by_cases hq:q.2.2.2=0
 rotate_left
 ·refine⟨q,?_,?_,qi⟩
  ·refine Big.bind q1 ?_
   simp only [if_neg hq];exact Big.of _
  refine Big.bind q2 ?_
  simp only [if_neg hq,zz.no]
  exact(Big.of _).cast (qi.2.2.2 hq).symm
 by_cases ht:(told q.1 q.2.1 q.2.2.1).2=0
 rotate_left
 ·refine⟨_,?_,?_,yqs (told q.1 q.2.1 q.2.2.1).2⟩
  ·refine Big.bind q1 ?_
   simp only [if_pos hq]
   refine Big.bind (yqw _ _ _ qi.2.2.1) ?_
   simp only [if_neg ht];exact Big.of _
  refine Big.bind q2 ?_
  simp only [if_pos hq]
  refine Big.bind (yqg _ _ _) ?_
  simp only [if_neg ht];exact Big.of _
 obtain ⟨m,m1,m2⟩:=hfold u (told q.1 q.2.1 q.2.2.1).1
 refine⟨tt m.1 m.2,?_,?_,yj2 _ _⟩
 ·refine Big.bind q1 ?_
  simp only [if_pos hq]
  refine Big.bind (yqw _ _ _ qi.2.2.1) ?_
  simp only [if_pos ht,m1,Option.bind_some];exact yj1 _ _
 refine Big.bind q2 ?_
 simp only [if_pos hq]
 refine Big.bind (yqg _ _ _) ?_
 simp only [if_pos ht,m2,Option.bind_some,zz.tv,yj7];exact Big.of _
theorem rd_in (row:List S30) (i:Int) (h0:0≤i) (h1:i<row.length):zqh row i ∈ row:=by
 have hl:i.toNat<row.length:=by omega
 unfold zqh
 rw [List.getD_eq_getElem?_getD,List.getElem?_eq_getElem hl]
 exact List.getElem_mem hl
theorem yxq (row:List S30) (hrow:rowOk row):∀ (n:Nat) (e:S33),gd33 e→okE row.length n e=true→Two (fun k=>zj.ev row k n e) (fun k=>zz.cm row k n e)
 | 0,_,_,h=>by simp [okE] at h
 | n+1,e,hg,h=>by
  obtain ⟨g1,g2,g3⟩:=yqx hg
  unfold okE at h
  simp only [zj.ev,zz.cm]
  by_cases h3:e.f0=3
  ·rw [if_pos h3] at h
   have hf:=of_decide_eq_true h
   simp only [if_pos h3,if_neg (show ¬ e.f0=1 by omega),if_pos (show 0≤e.f4∧e.f4<row.length from hf.2.2.2)]
   obtain ⟨r1,r2⟩:=hrow _ (rd_in row e.f4 hf.2.2.2.1 hf.2.2.2.2)
   have r3:=yqy _ _ _ r1
   exact⟨_,Big.of _,Big.of _,r3.2.1,r3.2.2.1,r2,fun h=>absurd rfl h⟩
  rw [if_neg h3] at h
  simp only [if_neg h3]
  by_cases hc:qq.parts e.f0≠e.f5.length ∨ ¬ (e.f2 ++ e.f3).toList = []∨e.f4≠0
  ·rw [if_pos hc] at h;cases h
  rw [if_neg hc] at h
  have hl:qq.parts e.f0=e.f5.length:=Classical.byContradiction fun hn=>hc (.inl hn)
  clear hc
  by_cases h1:e.f0=1
  ·rw [if_pos h1] at h
   simp only [if_pos h1]
   have r3:=yqy _ _ _ (of_decide_eq_true h)
   exact⟨_,Big.of _,Big.of _,r3.2.1,r3.2.2.1,bounds_i64 g1.2.1,fun h=>absurd rfl h⟩
  rw [if_neg h1] at h
  simp only [if_neg h1]
  rw [Bool.and_eq_true,List.all_eq_true] at h
  have ih:∀ x ∈ e.f5,Two (fun k=>zj.ev row k n x) (fun k=>zz.cm row k n x):=fun x hx=>yxq row hrow n x (g3 x hx) (h.1 x hx)
  clear h
  unfold qq.parts at hl
  rw [if_neg h1] at hl
  generalize e.f5=l at *
  generalize e.f0=o at *
  by_cases h4:4≤o∧o≤7
  ·rw [if_pos h4] at hl
   simp only [if_neg (show ¬ o=19 by omega),if_neg (show ¬ o=20 by omega)]
   match l,hl,ih with
   | [],hl,_=>simp at hl
   | _ :: _ :: _,hl,_=>simp at hl;omega
   | [x],_,ih=>
    obtain ⟨p,p1,p2,pi⟩:=ih x (by simp)
    simp only [zj.rest,if_neg (show ¬ 2≤0 by decide)]
    by_cases hp:p.2.2.2=0
    ·obtain ⟨r,r1,r2,ri⟩:=yx4 (fun k=>zz.cm row k n) o (zj.v p) ⟨0,0,⟨#[]⟩⟩ (ykw pi) h4
     refine⟨r,?_,?_,ri⟩
     ·refine Big.bind p1 ?_
      simp only [if_pos hp,if_true];exact r1
     refine Big.bind p2 ?_
     simp only [if_pos hp];exact r2
    refine⟨p,?_,?_,pi⟩
    ·refine Big.bind p1 ?_
     simp only [if_neg hp];exact Big.of _
    refine Big.bind p2 ?_
    simp only [if_neg hp,zz.no]
    exact(Big.of _).cast (pi.2.2.2 hp).symm
  rw [if_neg h4] at hl
  by_cases h8:8≤o∧o≤20
  rotate_left
  ·rw [if_neg h8] at hl;omega
  rw [if_pos h8] at hl
  match l,hl,ih with
  | [],hl,_=>simp at hl
  | [_],hl,_=>simp at hl
  | _ :: _ :: _ :: _,hl,_=>simp at hl;omega
  | [x,y],_,ih=>
   have hx:=ih x (by simp)
   have hy:=ih y (by simp)
   clear ih
   by_cases h19:o=19
   ·simp only [if_pos h19]
    exact yje 0 zqm.f o (.inl ⟨h19,rfl⟩) (fun a b=>⟨_,rfl,by rw [if_pos h19, ← sameA];rfl⟩) (fun k=>zj.ev row k n) (fun k=>zz.cm row k n) x y hx hy
   simp only [if_neg h19]
   by_cases h20:o=20
   ·simp only [if_pos h20]
    exact yje 2 zqs.f o (.inr ⟨h20,rfl⟩) (fun a b=>⟨_,rfl,by rw [if_neg h19, ← sameO];rfl⟩) (fun k=>zj.ev row k n) (fun k=>zz.cm row k n) x y hx hy
   simp only [if_neg h20]
   obtain ⟨p,p1,p2,pi⟩:=hx
   obtain ⟨q,q1,q2,qi⟩:=hy
   simp only [zj.rest,if_neg (show ¬ 2≤0 by decide),if_neg (show ¬ 2≤0+1 by decide),if_pos (show(0:Nat)=0 from rfl),if_neg (show ¬ 0+1=0 by decide)]
   by_cases hp:p.2.2.2=0
   rotate_left
   ·refine⟨p,?_,?_,pi⟩
    ·refine Big.bind p1 ?_
     simp only [if_neg hp];exact Big.of _
    refine Big.bind p2 ?_
    simp only [if_neg hp,zz.no]
    exact(Big.of _).cast (pi.2.2.2 hp).symm
   have one:∀ (k:Nat) (f:S33→Option R4) (a:S30),zz.one k f o a [y]=(f y).bind fun p=>if p.2.2.2=0 then zz.two k o a ⟨p.1,p.2.1,p.2.2.1⟩ else zz.no p.2.2.2:=by
    intro k f a
    unfold zz.one
    rw [if_neg (by omega),if_neg (by omega),if_neg (by omega),if_neg (by omega),if_neg (by omega)]
   by_cases hq:q.2.2.2=0
   ·obtain ⟨r,r1,r2,ri⟩:=yx3 o (zj.v p) (zj.v q) (ykw pi) (ykw qi) (by omega)
    refine⟨r,?_,?_,ri⟩
    ·refine Big.bind p1 ?_
     simp only [if_pos hp]
     refine Big.bind q1 ?_
     simp only [if_pos hq];exact r1
    refine Big.bind p2 ?_
    simp only [if_pos hp,one]
    refine Big.bind q2 ?_
    simp only [if_pos hq];exact r2
   refine⟨q,?_,?_,qi⟩
   ·refine Big.bind p1 ?_
    simp only [if_pos hp]
    refine Big.bind q1 ?_
    simp only [if_neg hq];exact Big.of _
   refine Big.bind p2 ?_
   simp only [if_pos hp,one]
   refine Big.bind q2 ?_
   simp only [if_neg hq,zz.no]
   exact(Big.of _).cast (qi.2.2.2 hq).symm
def rowf:List S30→Int
 | []=>0
 | x :: r=>if yqb x.f0 x.f1 x.f2=0 then rowf r else yqb x.f0 x.f1 x.f2
theorem yxa:∀ {row:List S30},rowf row=0→(∀ x ∈ row,In x.f1)→rowOk row
 | [],_,_=>fun x hx=>by cases hx
 | a :: r,h,hi=>by
  unfold rowf at h
  split at h
  ·rename_i h0
   intro x hx
   rcases List.mem_cons.1 hx with rfl|hx
   ·exact⟨h0,hi _ List.mem_cons_self⟩
   exact yxa h (fun y hy=>hi y (List.mem_cons_of_mem _ hy)) x hx
  exact absurd h (by assumption)
theorem yjb (row:List S30) (g:Nat→List S30→Int→Int→Option Int) (c:Nat→S30→Option Int)
  (step:∀ (k:Nat) (i:Int),g (k+1) row row.length i=if i<row.length then(if 0≤i then(if i<(row.length:Int) then((c k (zqh row i)).bind fun t=>if t=0 then g k row row.length (wrap64 (i+1)) else some t) else none) else none) else some 0)
  (hm:row.length≤9223372036854775807) (hc:∀ x ∈ row,Big (fun k=>c k x) (yqb x.f0 x.f1 x.f2)):Big (fun k=>g k row row.length 0) (rowf row):=by
 have loop:∀ (d i:Nat),i+d=row.length→Big (fun k=>g k row row.length (i:Int)) (rowf (row.drop i)):=by
  intro d
  induction d with
  | zero=>
   intro i hi
   obtain rfl:i=row.length:=by omega
   refine Big.succ ?_
   simp only [step,if_neg (show ¬ (row.length:Int)<row.length by omega),List.drop_length,rowf]
   exact Big.of _
  | succ d ih=>
   intro i hi
   have hlt:i<row.length:=by omega
   refine Big.succ ?_
   simp only [step,if_pos (show(i:Int)<row.length by omega),if_pos (show(0:Int)≤(i:Int) by omega)]
   have hr:zqh row (i:Int)=row[i]:=by simp [zqh,List.getD_eq_getElem?_getD,hlt]
   rw [hr,List.drop_eq_getElem_cons hlt,rowf,show wrap64 ((i:Int)+1)=((i+1:Nat):Int) by unfold wrap64;omega]
   refine Big.bind (hc _ (List.getElem_mem hlt)) ?_
   by_cases h0:yqb row[i].f0 row[i].f1 row[i].f2=0
   ·simp only [if_pos h0];exact ih (i+1) (by omega)
   simp only [if_neg h0];exact Big.of _
 exact loop row.length 0 (by omega)
def parts:Nat→S33→List S33
 | 0,e => [e]
 | n+1,e=>if e.f0=19∧e.f5.length=2 then parts n (zg e.f5 0) ++ parts n (zg e.f5 1) else [e]
theorem yqk:∀ (n:Nat) (e:S33),(parts n e).length≤2 ^ n
 | 0,e=>by simp [parts]
 | n+1,e=>by
  rw [parts]
  split
  ·have h1:=yqk n (zg e.f5 0)
   have h2:=yqk n (zg e.f5 1)
   rw [List.length_append,Nat.pow_succ]
   omega
  simp;exact Nat.one_le_two_pow
theorem selfE (e:S33):(⟨e.f0,(⟨e.f1.f0,e.f1.f1,e.f1.f2⟩:S30),e.f2,e.f3,e.f4,e.f5⟩:S33)=e:=by
 obtain ⟨a0,⟨a1,a2,a3⟩,a4,a5,a6,a7⟩:=e
 rfl
theorem yq6:∀ (n:Nat) (e:S33),n≤11→Big (fun k=>qz.f k e.f0 e.f1.f0 e.f1.f1 e.f1.f2 e.f2 e.f3 e.f4 e.f5 ((n+1:Nat):Int)) (parts n e)
 | n,e,hn=>by
  have self:(⟨e.f0,(⟨e.f1.f0,e.f1.f1,e.f1.f2⟩:S30),e.f2,e.f3,e.f4,e.f5⟩:S33)=e:=selfE e
  have no:∀ a1:Int,Big (fun k=>qz.j0 k a1 false e.f0 e.f1.f0 e.f1.f1 e.f1.f2 e.f2 e.f3 e.f4 e.f5) [e]:=fun a1=>by
   refine Big.succ ?_
   simp only [qz.j0,if_neg (show ¬ (false=true) by decide),self]
   exact Big.of _
  refine Big.succ ?_
  simp only [qz.f]
  cases n with
  | zero=>
   simp only [if_neg (show ¬ ((0+1:Nat):Int) > 1 by omega)]
   exact no _
  | succ n=>
   simp only [if_pos (show((n+1+1:Nat):Int) > 1 by omega)]
   show Big _ (parts (n+1) e)
   rw [parts]
   by_cases h1:e.f0=19
   ·simp only [if_pos h1]
    by_cases h2:e.f5.length=2
    ·simp only [show((e.f5.length:Int) == 2)=true from by rw [beq_iff_eq];omega,if_pos (And.intro h1 h2)]
     refine Big.succ ?_
     simp only [qz.j0,if_true,if_pos (show(0:Int)<(e.f5.length:Int) by omega),if_pos (show(1:Int)<(e.f5.length:Int) by omega),show wrap64 (((n+1+1:Nat):Int) - 1)=((n+1:Nat):Int) from by rw [w64 (by omega) (by omega)];omega]
     refine Big.bind (yq6 n (zg e.f5 0) (by omega)) ?_
     refine Big.bind (yq6 n (zg e.f5 1) (by omega)) ?_
     have l0:=yqk n (zg e.f5 0)
     have l1:=yqk n (zg e.f5 1)
     have lp:2 ^ n≤2 ^ 11:=Nat.pow_le_pow_right (by decide) (by omega)
     rw [if_pos (show(parts n (zg e.f5 0)).length+(parts n (zg e.f5 1)).length<1353245080339 by omega)]
     exact Big.of _
    simp only [show((e.f5.length:Int) == 2)=false from by rw [beq_eq_false_iff_ne];omega,if_neg (show ¬ (e.f0=19∧e.f5.length=2) from fun q=>h2 q.2)]
    exact no _
   simp only [if_neg h1,if_neg (show ¬ (e.f0=19∧e.f5.length=2) from fun q=>h1 q.1)]
   exact no _
theorem ykv (w:Int):∀ (n:Nat) (e:S33),okE w n e=true→okE w (n+1) e=true
 | 0,e,h=>by simp [okE] at h
 | n+1,e,h=>by
  unfold okE at h ⊢
  by_cases h3:e.f0=3
  ·rw [if_pos h3] at h ⊢;exact h
  rw [if_neg h3] at h ⊢
  split at h
  ·cases h
  rename_i hc
  rw [if_neg hc]
  by_cases h1:e.f0=1
  ·rw [if_pos h1] at h ⊢;exact h
  rw [if_neg h1] at h ⊢
  rw [Bool.and_eq_true,List.all_eq_true] at h ⊢
  exact⟨fun x hx=>ykv w n x (h.1 x hx),h.2⟩
theorem ok_kid (w:Int) (n:Nat) (e:S33) (h:okE w (n+1) e=true) (h19:e.f0=19):∀ x ∈ e.f5,okE w n x=true:=by
 unfold okE at h
 rw [if_neg (by omega)] at h
 split at h
 ·cases h
 rw [if_neg (by omega),Bool.and_eq_true,List.all_eq_true] at h
 exact h.1
theorem yjj (w:Int):∀ (n:Nat) (e:S33),gd33 e→okE w 12 e=true → ∀ x ∈ parts n e,gd33 x∧okE w 12 x=true
 | 0,e,hg,h,x,hx=>by
  have:x=e:=by simpa [parts] using hx
  exact this ▸ ⟨hg,h⟩
 | n+1,e,hg,h,x,hx=>by
  rw [parts] at hx
  split at hx
  ·rename_i hc
   obtain ⟨_,_,g3⟩:=yqx hg
   have kid:=ok_kid w 11 e h hc.1
   have m0:zg e.f5 0 ∈ e.f5:=by
    rw [show zg e.f5 0=e.f5[0]'(by omega) from by simp [zg,List.getD_eq_getElem?_getD,hc.2]]
    exact List.getElem_mem _
   have m1:zg e.f5 1 ∈ e.f5:=by
    rw [show zg e.f5 1=e.f5[1]'(by omega) from by simp [zg,List.getD_eq_getElem?_getD,hc.2]]
    exact List.getElem_mem _
   rcases List.mem_append.1 hx with hx|hx
   ·exact yjj w n _ (g3 _ m0) (ykv w 11 _ (kid _ m0)) x hx
   exact yjj w n _ (g3 _ m1) (ykv w 11 _ (kid _ m1)) x hx
  have:x=e:=by simpa using hx
  exact this ▸ ⟨hg,h⟩
def vo (p:R4):Bool × Int:=if p.2.2.2=0 then((told p.1 p.2.1 p.2.2.1).1 == 2 && (told p.1 p.2.1 p.2.2.1).2 == 0,(told p.1 p.2.1 p.2.2.1).2) else (false,p.2.2.2)
theorem ykl (p:R4) (h:(vo p).1=true):vo p=(true,0):=by
 unfold vo at h ⊢
 split at h
 ·rename_i hz
  rw [if_pos hz]
  simp only [Bool.and_eq_true,beq_iff_eq] at h
  simp [h.1,h.2]
 cases h
def hl (v:S33→R4):List S33→Bool × Int
 | []=>(true,0)
 | x :: l=>if(vo (v x)).1=true then hl v l else vo (v x)
theorem yxn (v:S33→R4) (x:S33):hl v [x]=vo (v x):=by
 unfold hl
 split
 ·rename_i h
  rw [ykl _ h];rfl
 rfl
theorem yxo (v:S33→R4) (x:S33) (l:List S33):hl v (x :: l)=if(vo (v x)).1=true then hl v l else vo (v x):=rfl
theorem yjf (v:S33→R4) (b:List S33):∀ a,hl v (a ++ b)=if(hl v a).1=true then hl v b else hl v a
 | []=>by simp [hl]
 | x :: a=>by
  rw [List.cons_append,yxo,yxo]
  by_cases hx:(vo (v x)).1=true
  ·rw [if_pos hx,if_pos hx]
   exact yjf v b a
  rw [if_neg hx,if_neg hx,if_neg hx]
theorem yx6 (row:List S30) (x:S33) (p:R4) (h:Big (fun k=>zj.ev row k 12 x) p) (hi:inv p):Big (fun k=>zi.one row k x) (vo p):=by
 unfold zi.one vo
 refine Big.bind h ?_
 by_cases hp:p.2.2.2=0
 ·simp only [if_pos hp]
  refine Big.bind (yqw _ _ _ hi.2.2.1) ?_
  exact Big.of _
 simp only [if_neg hp];exact Big.of _
theorem yxr (row:List S30) (v:S33→R4):∀ (n:Nat) (e:S33),(∀ x ∈ parts n e,Big (fun k=>zi.one row k x) (vo (v x)))→Big (fun k=>zi.cj row k n e) (hl v (parts n e))
 | 0,e,h=>by
  rw [parts,yxn]
  exact h e (by simp [parts])
 | n+1,e,h=>by
  rw [parts] at h ⊢
  simp only [zi.cj]
  by_cases hc:e.f0=19∧e.f5.length=2
  ·rw [if_pos hc] at h ⊢
   simp only [if_pos hc]
   rw [yjf]
   refine Big.bind (yxr row v n _ (fun x hx=>h x (List.mem_append_left _ hx))) ?_
   by_cases hr:(hl v (parts n (zg e.f5 0))).1=true
   ·simp only [if_pos hr]
    exact yxr row v n _ (fun x hx=>h x (List.mem_append_right _ hx))
   simp only [if_neg hr];exact Big.of _
  rw [if_neg hc] at h ⊢
  simp only [if_neg hc]
  rw [yxn]
  exact h e (by simp)
theorem yjp (row:List S30) (v:S33→R4) (l:List S33) (hm:l.length≤1000000) (h:∀ x ∈ l,Big (fun k=>zz.cm row k 12 x) (v x)):Big (fun k=>qn.f k l row) (hl v l):=by
 have loop:∀ (d i:Nat),i+d=l.length→Big (fun k=>qn.l0 k row l (l.length:Int) (i:Int)) (hl v (l.drop i)):=by
  intro d
  induction d with
  | zero=>
   intro i hi
   obtain rfl:i=l.length:=by omega
   refine Big.succ ?_
   simp only [qn.l0,if_neg (show ¬ (l.length:Int)<(l.length:Int) by omega),List.drop_length,hl]
   exact Big.of _
  | succ d ih=>
   intro i hi
   have hlt:i<l.length:=by omega
   have hw:wrap64 ((i:Int)+1)=((i+1:Nat):Int):=by unfold wrap64;omega
   refine Big.succ ?_
   simp only [qn.l0,if_pos (show(i:Int)<(l.length:Int) by omega),if_pos (show(0:Int)≤(i:Int) by omega)]
   rw [show zg l (i:Int)=l[i] by simp [zg,List.getD_eq_getElem?_getD,hlt],List.drop_eq_getElem_cons hlt,hl,hw]
   refine Big.bind (r:=v l[i]) (h _ (List.getElem_mem hlt)) ?_
   generalize hp:v l[i]=p
   have ih1:=ih (i+1) (by omega)
   unfold vo
   by_cases hz:p.2.2.2=0
   ·simp only [if_pos hz]
    refine Big.bind (yqg _ _ _) ?_
    by_cases ht:(told p.1 p.2.1 p.2.2.1).2=0
    ·simp only [if_pos ht]
     by_cases h2:(told p.1 p.2.1 p.2.2.1).1=2
     ·simp only [if_pos h2,h2,ht,beq_self_eq_true,Bool.and_self,if_true];exact ih1
     simp only [if_neg h2,show((told p.1 p.2.1 p.2.2.1).1 == 2)=false by simpa using h2,Bool.false_and,if_neg (show ¬ false=true by decide),ht];exact Big.of _
    simp only [if_neg ht,show((told p.1 p.2.1 p.2.2.1).2 == 0)=false by simpa using ht,Bool.and_false,if_neg (show ¬ false=true by decide)];exact Big.of _
   simp only [if_neg hz,if_neg (show ¬ false=true by decide)];exact Big.of _
 unfold qn.f
 exact loop l.length 0 (by omega)
def Tw (g h:Nat→Option (Bool × Int)):Prop := ∃ r,Big g r∧Big h r
theorem ykb (w:Int):okE w 12 zi.yes=true:=by
 unfold okE
 rw [if_neg (by decide),if_neg (by rintro (h|h|h);exact h (by decide);exact h ((nil_append _ _).2 ⟨(yqr _).2 rfl,(yqr _).2 rfl⟩);exact h rfl),if_pos (by decide)]
 exact decide_eq_true (by decide +kernel)
theorem yes_gd:gd33 zi.yes:=by
 constructor
 all_goals first|decide|exact⟨by decide,by decide⟩|(intro y hy;cases hy)|simp [zi.yes]
theorem yes_zd:zd33 zi.yes:=by
 constructor
 all_goals first|decide|(intro y hy;cases hy)|(refine⟨?_⟩ <;> decide)|(simp [zi.yes];done)|(constructor;all_goals decide)
theorem yxj (e:S33) (row:List S30) (hg:gd33 e) (hz:zd33 e) (hm:row.length≤9223372036854775807) (hr:∀ x ∈ row,In x.f1) :
  ∃ r:Bool × Int,Big (fun k=>zi.of row k e) r∧r=(if okE row.length 12 e=true then(if rowf row=0 then r else (false,rowf row)) else (false,4)) ∧
   (okE row.length 12 e=true→rowf row=0→Big (fun k=>qn.f k (parts 11 e) row) r):=by
 have hmay:Big (fun k=>zqy.f k e.f0 e.f1.f0 e.f1.f1 e.f1.f2 e.f2 e.f3 e.f4 e.f5 (row.length:Int)) (okE row.length 12 e):=yxk row.length 12 e hg hz
 simp only [zi.of,zqo.f]
 cases ho:okE row.length 12 e with
 | false=>
  rw [ho] at hmay
  refine⟨(false,4),?_,rfl,fun h=>by cases h⟩
  refine Big.bind (r:=4) ?_ ?_
  ·refine Big.bind hmay ?_
   simp only [if_neg (show ¬ false=true by decide)];exact Big.of _
  exact Big.of _
 | true=>
  rw [ho] at hmay
  have f1:Big (fun k=>zqo.l0 k row (row.length:Int) 0) (rowf row):=yjb row zqo.l0 (fun k x=>qi.f k x.f0 x.f1 x.f2) (fun k i=>rfl) hm (fun x hx=>yqn _ _ _ (hr x hx))
  have m1:∀ {G:Nat→Int→Option (Bool × Int)} {r:Bool × Int},Big (fun k=>G k (rowf row)) r→Big (fun k=>((zqy.f k e.f0 e.f1.f0 e.f1.f1 e.f1.f2 e.f2 e.f3 e.f4 e.f5 (row.length:Int)).bind fun t105=>if t105=true then zqo.l0 k row (row.length:Int) 0 else some 4).bind (G k)) r:=by
   intro G r h
   refine Big.bind (r:=rowf row) ?_ h
   refine Big.bind hmay ?_
   simp only [if_true];exact f1
  by_cases hf:rowf row=0
  ·have hrow:=yxa hf hr
   have ex:∀ x:S33,∃ p:R4,x ∈ parts 11 e→Big (fun k=>zj.ev row k 12 x) p∧Big (fun k=>zz.cm row k 12 x) p∧inv p:=by
    intro x
    by_cases hx:x ∈ parts 11 e
    ·obtain ⟨hxg,hxo⟩:=yjj row.length 11 e hg ho x hx
     obtain ⟨p,p1,p2,pi⟩:=yxq row hrow 12 x hxg hxo
     exact⟨p,fun _=>⟨p1,p2,pi⟩⟩
    exact⟨(0,0,⟨#[]⟩,0),fun h=>absurd h hx⟩
   obtain ⟨v,hv⟩:=Classical.axiomOfChoice ex
   refine⟨hl v (parts 11 e),?_,by rw [if_pos rfl,if_pos hf],fun _ _=>?_⟩
   ·refine m1 ?_
    simp only [if_pos hf]
    exact yxr row v 11 e (fun x hx=>yx6 row x _ (hv x hx).1 (hv x hx).2.2)
   have:=yqk 11 e
   exact yjp row v _ (by omega) (fun x hx=>(hv x hx).2.1)
  refine⟨(false,rowf row),?_,by rw [if_pos rfl,if_neg hf],fun _ h=>absurd h hf⟩
  refine m1 ?_
  simp only [if_neg hf];exact Big.of _
theorem Big.uniq {α:Type} {g:Nat→Option α} {r s:α} (h:Big g r) (h2:Big g s):r=s:=by
 obtain ⟨k1,h1⟩:=h
 obtain ⟨k2,h2⟩:=h2
 have a:=h1 (max k1 k2) (by omega)
 have b:=h2 (max k1 k2) (by omega)
 rw [a] at b
 exact Option.some.inj b
theorem yjw (e:S33):zqt.f e.f0 e.f1.f0 e.f1.f1 e.f1.f2 e.f2 e.f3 e.f4 e.f5=some (decide (zi.none_ e)):=by
 unfold zqt.f
 rw [yjg]
 by_cases h0:e.f0=0
 ·rw [if_pos h0,Option.bind_some]
  by_cases hz:qq.zeroV e.f1
  ·rw [decide_eq_true hz,if_pos rfl]
   by_cases h2:e.f2.toList = []
   ·rw [if_pos h2]
    by_cases h3:e.f3.toList = []
    ·rw [if_pos h3]
     have hcat:(e.f2 ++ e.f3).toList = []:=(nil_append _ _).2 ⟨h2,h3⟩
     by_cases h4:e.f4=0
     ·rw [if_pos h4]
      by_cases h5:e.f5.length=0
      ·rw [decide_eq_true (show zi.none_ e from ⟨h0,hz,hcat,h4,h5⟩)]
       simp [h5]
      rw [decide_eq_false (fun h=>h5 h.2.2.2.2)]
      simpa using h5
     rw [if_neg h4,decide_eq_false (fun h=>h4 h.2.2.2.1)]
    rw [if_neg h3,decide_eq_false (fun h=>h3 ((nil_append _ _).1 h.2.2.1).2)]
   rw [if_neg h2,decide_eq_false (fun h=>h2 ((nil_append _ _).1 h.2.2.1).1)]
  rw [decide_eq_false hz,if_neg (by decide),decide_eq_false (fun h=>hz h.2.1)]
 rw [if_neg h0,decide_eq_false (fun h=>h0 h.1)]
theorem yxv:told 1 1 (⟨#[]⟩:ByteArray)=(2,0):=by decide +kernel
theorem yjx (e:S33) (row:List S30) (hg:gd33 e) (hz:zd33 e) (hm:row.length≤9223372036854775807) (hr:∀ x ∈ row,In x.f1) :
  Tw (fun k=>zi.f k e.f0 e.f1.f0 e.f1.f1 e.f1.f2 e.f2 e.f3 e.f4 e.f5 row) (fun k=>zqi.f k e.f0 e.f1.f0 e.f1.f1 e.f1.f2 e.f2 e.f3 e.f4 e.f5 row):=by
 obtain ⟨z1,z2,z3⟩:=yjl hz
 have hx:zi.expr e.f0 e.f1.f0 e.f1.f1 e.f1.f2 e.f2 e.f3 e.f4 e.f5=e:=selfE e
 have f2:Big (fun k=>qk.f k row) (rowf row):=yjb row qk.l0 (fun k x=>zw.f k x.f0 x.f1 x.f2) (fun k i=>rfl) hm (fun x hx=>yqm _ _ _)
 simp only [zi.f,zqi.f,if_neg (show ¬ 9223372036854775807<e.f2.size+e.f3.size by omega),hx,yjw,Option.bind_some]
 by_cases hn:zi.none_ e
 ·simp only [if_pos hn,decide_eq_true hn,if_true]
  obtain ⟨r,r1,r2,r3⟩:=yxj zi.yes row yes_gd yes_zd hm hr
  rw [if_pos (ykb _)] at r2
  by_cases hf:rowf row=0
  ·have h1:=r3 (ykb _) hf
   have h2:=yjp row (fun _=>(1,1,⟨#[]⟩,0)) (parts 11 zi.yes) (by have:=yqk 11 zi.yes;omega) (fun x hxm=>by
    have:x=zi.yes:=by simpa [parts,zi.yes] using hxm
    subst this
    exact Big.eq fun k=>rfl)
   have h3:=Big.uniq h1 h2
   have h4:r=(true,0):=by
    rw [h3,show parts 11 zi.yes = [zi.yes] from rfl,yxn]
    unfold vo
    rw [if_pos rfl,yxv]
    rfl
   subst h4
   refine⟨(true,0),r1,?_⟩
   refine Big.bind f2 ?_
   refine Big.bind f2 ?_
   exact(Big.of _).cast (by rw [hf];rfl)
  rw [if_neg hf] at r2
  subst r2
  refine⟨_,r1,?_⟩
  refine Big.bind f2 ?_
  refine Big.bind f2 ?_
  exact(Big.of _).cast (by rw [show(rowf row == 0)=false by simpa using hf])
 simp only [if_neg hn,decide_eq_false hn,if_neg (show ¬ false=true by decide)]
 obtain ⟨r,r1,r2,r3⟩:=yxj e row hg hz hm hr
 refine⟨r,r1,?_⟩
 refine Big.bind (yjy row.length e hg) ?_
 cases ho:okE row.length 12 e with
 | false=>
  rw [ho,if_neg (by decide)] at r2
  simp only [if_neg (show ¬ false=true by decide)]
  exact(Big.of _).cast r2.symm
 | true=>
  rw [ho,if_pos rfl] at r2
  simp only [if_true]
  refine Big.bind f2 ?_
  by_cases hf:rowf row=0
  ·have h0:e.f0≠0:=by
    intro h0
    unfold okE at ho
    rw [if_neg (by omega),if_pos (.inl (by rw [h0];show(-1:Int)≠_;omega))] at ho
    cases ho
   simp only [if_pos hf]
   refine Big.bind (r:=parts 11 e) ?_ ?_
   ·refine Big.congr (g':=fun k=>(qz.f k e.f0 e.f1.f0 e.f1.f1 e.f1.f2 e.f2 e.f3 e.f4 e.f5 ((11+1:Nat):Int)).bind fun t=>some t) (Big.bind (yq6 11 e (by omega)) (Big.of _)) (fun k=>by unfold zqg.f;rw [if_neg h0];rfl)
   refine Big.bind (r3 ho hf) ?_
   exact Big.of _
  rw [if_neg hf] at r2
  simp only [if_neg hf]
  exact(Big.of _).cast r2.symm

end Go.Proofs.YtmfpaeajibeikaaDoor.Pure.EvalHoldsOf
namespace Go.Proofs.YtmfpaeajibeikaaDoor.Pure
open Go Go.RowKit Go.Proofs.YtmfpaeajibeikaaDoor.PEvalHolds Go.Proofs.YtmfpaeajibeikaaDoorW.PrintWords Go.Proofs.YtmfpaeajibeikaaDoorW.PrintLast Go.Proofs.YtmfpaeajibeikaaDoor.Bg EvalHoldsOf
theorem EvalHolds:commonholdlaw_EvalHolds.Pure:=by
 intro e row hg hr hz hs
 have hm:=hr.1
 have hs1:=hs.1
 refine Big.to ?_
 simp only [commonholdlaw_EvalHolds.f,zqu.f,if_pos (show([]:List S30).length+row.length<4398046511104 by simp;omega),Option.bind_some,List.nil_append]
 obtain ⟨r,r1,r2⟩:=yjx e row hg hz hm (fun x hx=>bounds_i64 (hr.2 x hx).2.1)
 refine Big.bind r1 ?_
 refine Big.bind r2 ?_
 exact(Big.of true).congr (fun k=>by simp)
end Go.Proofs.YtmfpaeajibeikaaDoor.Pure
