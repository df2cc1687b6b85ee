/- row.Entries answers as its reference does, at every list of tables, number and row. No condition beyond the statement's own. -/
import Derived.Test.YthhejedfjgikdaaDoorPRowEntriesx20
import Derived.Test.YthhejedfjgikdaaDoorBig
import Derived.Lib.ValidLaws
import Derived.Lib.BytesEntry
import Derived.Laws.Strings
import Derived.Lib.Strings
namespace Go.Proofs.YthhejedfjgikdaaDoor.Pure.RowEntriesOf
open Go Go.RowKit Go.Proofs.YthhejedfjgikdaaDoor.PRowEntries Go.Proofs.YthhejedfjgikdaaDoorW.PrintWords Go.Proofs.YthhejedfjgikdaaDoorW.PrintLast Go.Proofs.YthhejedfjgikdaaDoor.Bg
set_option linter.unusedVariables false
set_option linter.unusedSimpArgs false
/-- A byte of a text. -/
def by8 (t:ByteArray) (i:Nat):Nat:=(t.data.toList.getD i 0).toNat
theorem by8_lt (t:ByteArray) (i:Nat):by8 t i<256:=(t.data.toList.getD i 0).toNat_lt
theorem bt_by8 (t:ByteArray) (i:Nat) (h:i<t.size):bt t (i:Int)=(by8 t i:Int):=by
  rw [bt_at' t i h]
  unfold by8
  have:t.data.toList.getD i 0=t[i]:=by
    rw [List.getD_eq_getElem?_getD,List.getElem?_eq_getElem (by simpa using h)]
    simp
    rfl
  rw [this]
/-- What follows the bytes of a sign. -/
def fin3 (code:Int):Int:=if code<2048 then 0 else if 55296≤code∧code≤57343 then 0 else 3
def fin4 (code:Int):Int:=if code<65536 then 0 else if code > 1114111 then 0 else 4
theorem rs_end2 (t:ByteArray) (code:Int):Big (fun k=>zjd.l0 k t 2 code 2) 2:=by
  refine Big.succ ?_
  simp only [zjd.l0]
  simp only [if_neg (show ¬ (2:Int)<2 by omega),if_neg (show ¬ (2:Int)=3 by omega),if_neg (show ¬ (2:Int)=4 by omega)]
  exact Big.of _
theorem rs_end3 (t:ByteArray) (code:Int):Big (fun k=>zjd.l0 k t 3 code 3) (fin3 code):=by
  refine Big.succ ?_
  simp only [zjd.l0]
  simp only [if_neg (show ¬ (3:Int)<3 by omega),if_true,if_neg (show ¬ (3:Int)=4 by omega)]
  unfold fin3
  by_cases h1:code<2048
  · simp only [if_pos h1];exact Big.of _
  · simp only [if_neg h1]
    by_cases h2:code ≥ 55296
    · simp only [if_pos h2]
      by_cases h3:code≤57343
      · simp only [if_pos h3,if_pos (show 55296≤code∧code≤57343 from ⟨h2,h3⟩)];exact Big.of _
      · simp only [if_neg h3,if_neg (show ¬ (55296≤code∧code≤57343) by omega)];exact Big.of _
    · simp only [if_neg h2,if_neg (show ¬ (55296≤code∧code≤57343) by omega)];exact Big.of _
theorem rs_end4 (t:ByteArray) (code:Int):Big (fun k=>zjd.l0 k t 4 code 4) (fin4 code):=by
  refine Big.succ ?_
  simp only [zjd.l0]
  simp only [if_neg (show ¬ (4:Int)<4 by omega),if_neg (show ¬ (4:Int)=3 by omega),if_true]
  unfold fin4
  by_cases h1:code<65536
  · simp only [if_pos h1];exact Big.of _
  · simp only [if_neg h1]
    by_cases h2:code > 1114111
    · simp only [if_pos h2];exact Big.of _
    · simp only [if_neg h2];exact Big.of _
theorem and63:∀ b:Nat,b<256→Go.bits .and .u8 (b:Int) 63=((b % 64:Nat):Int):=by decide +kernel
theorem and31:∀ b:Nat,b<256→Go.bits .and .i64 (b:Int) 31=((b % 32:Nat):Int):=by decide +kernel
theorem and15:∀ b:Nat,b<256→Go.bits .and .i64 (b:Int) 15=((b % 16:Nat):Int):=by decide +kernel
theorem and7:∀ b:Nat,b<256→Go.bits .and .i64 (b:Int) 7=((b % 8:Nat):Int):=by decide +kernel
theorem rs_step (t:ByteArray) (n i code:Nat) (r:Int) (hi:i<n) (h4:n≤4) (hs:i<t.size) (hc:code≤16777216)
    (h:Big (fun k=>zjd.l0 k t (n:Int) ((code * 64+by8 t i % 64:Nat):Int) ((i+1:Nat):Int)) r) :
    Big (fun k=>zjd.l0 k t (n:Int) (code:Int) (i:Int)) (if by8 t i<128∨191<by8 t i then 0 else r):=by
  refine Big.succ ?_
  simp only [zjd.l0]
  have hb:=by8_lt t i
  simp only [if_pos (show(i:Int)<(n:Int) by omega),if_pos (show(0:Int)≤(i:Int) by omega),if_pos (show(i:Int)<(t.size:Int) by omega),bt_by8 t i hs,and63 _ hb]
  have e1:wrap64 ((by8 t i % 64:Nat):Int)=((by8 t i % 64:Nat):Int):=w64 (by omega) (by omega)
  have e2:wrap64 ((code:Int) * 64)=(code:Int) * 64:=w64 (by omega) (by omega)
  have e3:wrap64 ((code:Int) * 64+((by8 t i % 64:Nat):Int))=((code * 64+by8 t i % 64:Nat):Int):=by rw [w64 (by omega) (by omega)];omega
  have e4:wrap64 ((i:Int)+1)=((i+1:Nat):Int):=by rw [w64 (by omega) (by omega)];omega
  simp only [e1,e2,e3,e4]
  by_cases h1:((by8 t i:Nat):Int)<128
  · simp only [if_pos h1]
    refine(Big.of 0).cast ?_
    rw [if_pos (.inl (by omega))]
  by_cases h2:((by8 t i:Nat):Int) > 191
  · simp only [if_neg h1,if_pos h2]
    refine(Big.of 0).cast ?_
    rw [if_pos (.inr (by omega))]
  · simp only [if_neg h1,if_neg h2]
    refine h.cast ?_
    rw [if_neg (by omega)]
/-- How wide is the sign that begins a text; 0: there is none. -/
def rsz (n b0 b1 b2 b3:Nat):Int:=
  if b0<128 then 1
  else if 194≤b0∧b0<224 then(if n<2 then 0 else if b1<128∨191<b1 then 0 else 2)
  else if 224≤b0∧b0<240 then(if n<3 then 0 else if b1<128∨191<b1 then 0 else if b2<128∨191<b2 then 0 else fin3 (((b0 % 16 * 64+b1 % 64) * 64+b2 % 64:Nat):Int))
  else if 240≤b0∧b0<245 then(if n<4 then 0 else if b1<128∨191<b1 then 0 else if b2<128∨191<b2 then 0 else if b3<128∨191<b3 then 0 else fin4 ((((b0 % 8 * 64+b1 % 64) * 64+b2 % 64) * 64+b3 % 64:Nat):Int))
  else 0
theorem rs_j3 (t:ByteArray) (n code:Nat) (hn:n≤4) (h2:2≤n) (r:Int) (h:n≤t.size→Big (fun k=>zjd.l0 k t (n:Int) (code:Int) 1) r) :
    Big (fun k=>zjd.j2 k t (n:Int) (code:Int)) (if t.size<n then 0 else r):=by
  refine Big.succ (Big.succ ?_)
  simp only [zjd.j2,zjd.j3]
  simp only [if_neg (show ¬ (n:Int)=0 by omega)]
  by_cases hs:(t.size:Int)<(n:Int)
  · simp only [decide_eq_true hs,if_true]
    refine(Big.of 0).cast ?_
    rw [if_pos (by omega)]
  · simp only [decide_eq_false hs,if_neg (show ¬ (false=true) by decide)]
    refine(h (by omega)).cast ?_
    rw [if_neg (by omega)]
theorem rs_none (t:ByteArray):Big (fun k=>zjd.j2 k t 0 0) 0:=by
  refine Big.succ (Big.succ ?_)
  simp only [zjd.j2,zjd.j3,if_true]
  exact Big.of _
set_option maxRecDepth 100000 in
theorem rs_law (t:ByteArray) (h0:0<t.size):Big (fun k=>zjd.f k t) (rsz t.size (by8 t 0) (by8 t 1) (by8 t 2) (by8 t 3)):=by
  have hb:=by8_lt t 0
  have ew:wrap64 (bt t 0)=(by8 t 0:Int):=by rw [show(0:Int)=((0:Nat):Int) from rfl,bt_by8 t 0 h0,w64 (by omega) (by omega)]
  simp only [zjd.f,if_neg (show ¬ (t.size:Int)=0 by omega),if_pos (show(0:Int)<(t.size:Int) by omega),ew]
  unfold rsz
  by_cases c1:by8 t 0<128
  · simp only [if_pos (show((by8 t 0:Nat):Int)<128 by omega),if_pos c1]
    exact Big.of _
  simp only [if_neg (show ¬ ((by8 t 0:Nat):Int)<128 by omega),if_neg c1]
  by_cases c2:194≤by8 t 0∧by8 t 0<224
  · simp only [if_pos (show((by8 t 0:Nat):Int) ≥ 194 by omega),decide_eq_true (show((by8 t 0:Nat):Int)<224 by omega),if_pos c2]
    refine Big.succ ?_
    simp only [zjd.j0,if_true,and31 _ hb]
    refine rs_j3 t 2 _ (by omega) (by omega) _ (fun hs=>?_)
    exact rs_step t 2 1 _ _ (by omega) (by omega) (by omega) (by omega) (rs_end2 t _)
  simp only [if_neg c2]
  by_cases c3:224≤by8 t 0∧by8 t 0<240
  · simp only [if_pos (show((by8 t 0:Nat):Int) ≥ 194 by omega),decide_eq_false (show ¬ ((by8 t 0:Nat):Int)<224 by omega),if_pos c3]
    refine Big.succ (Big.succ ?_)
    simp only [zjd.j0,zjd.j1,if_neg (show ¬ (false=true) by decide),if_pos (show((by8 t 0:Nat):Int) ≥ 224 by omega),decide_eq_true (show((by8 t 0:Nat):Int)<240 by omega),if_true,and15 _ hb]
    refine rs_j3 t 3 _ (by omega) (by omega) _ (fun hs=>?_)
    exact rs_step t 3 1 _ _ (by omega) (by omega) (by omega) (by omega) (rs_step t 3 2 _ _ (by omega) (by omega) (by omega) (by omega) (rs_end3 t _))
  simp only [if_neg c3]
  by_cases c4:240≤by8 t 0∧by8 t 0<245
  · simp only [if_pos (show((by8 t 0:Nat):Int) ≥ 194 by omega),decide_eq_false (show ¬ ((by8 t 0:Nat):Int)<224 by omega),if_pos c4]
    refine Big.succ (Big.succ ?_)
    simp only [zjd.j0,zjd.j1,if_neg (show ¬ (false=true) by decide),if_pos (show((by8 t 0:Nat):Int) ≥ 224 by omega),decide_eq_false (show ¬ ((by8 t 0:Nat):Int)<240 by omega),if_pos (show((by8 t 0:Nat):Int) ≥ 240 by omega),if_pos (show((by8 t 0:Nat):Int)<245 by omega),and7 _ hb]
    refine rs_j3 t 4 _ (by omega) (by omega) _ (fun hs=>?_)
    exact rs_step t 4 1 _ _ (by omega) (by omega) (by omega) (by omega) (rs_step t 4 2 _ _ (by omega) (by omega) (by omega) (by omega) (rs_step t 4 3 _ _ (by omega) (by omega) (by omega) (by omega) (rs_end4 t _)))
  simp only [if_neg c4]
  by_cases c5:((by8 t 0:Nat):Int) ≥ 194
  · simp only [if_pos c5,decide_eq_false (show ¬ ((by8 t 0:Nat):Int)<224 by omega)]
    refine Big.succ (Big.succ ?_)
    simp only [zjd.j0,zjd.j1,if_neg (show ¬ (false=true) by decide),if_pos (show((by8 t 0:Nat):Int) ≥ 224 by omega),decide_eq_false (show ¬ ((by8 t 0:Nat):Int)<240 by omega),if_pos (show((by8 t 0:Nat):Int) ≥ 240 by omega),if_neg (show ¬ ((by8 t 0:Nat):Int)<245 by omega)]
    exact rs_none t
  · simp only [if_neg c5]
    refine Big.succ (Big.succ ?_)
    simp only [zjd.j0,zjd.j1,if_neg (show ¬ (false=true) by decide),if_neg (show ¬ ((by8 t 0:Nat):Int) ≥ 224 by omega),if_neg (show ¬ ((by8 t 0:Nat):Int) ≥ 240 by omega)]
    exact rs_none t
/-- The reference's width is what the decoder's tables say. -/
theorem rsz_check (n b0 b1 b2 b3:Nat) (h0:128≤b0) (h0':b0<256):Lib.checkN n b1 b2 b3 (Lib.firstT b0 % 8) (Lib.accLo (Lib.firstT b0 / 16)) (Lib.accHi (Lib.firstT b0 / 16))=if rsz n b0 b1 b2 b3=0 then none else some (rsz n b0 b1 b2 b3).toNat:=by
  by_cases c0:b0<194
  · simp [Lib.firstT,Lib.checkN,rsz,show ¬ b0<128 by omega,c0,show ¬ 194≤b0 by omega,show ¬ 224≤b0 by omega,show ¬ 240≤b0 by omega]
  by_cases c1:b0<224
  · have e1:Lib.firstT b0=2:=by simp [Lib.firstT,show ¬ b0<128 by omega,c0,c1]
    rw [e1]
    unfold rsz Lib.checkN
    simp only [show(2:Nat) % 8=2 from rfl,show(2:Nat) / 16=0 from rfl,show Lib.accLo 0=128 by decide,show Lib.accHi 0=191 by decide,if_true,if_neg (show ¬ b0<128 by omega),if_pos (show 194≤b0∧b0<224 by omega)]
    repeat' split
    all_goals first|rfl|(exfalso;omega)
  by_cases c2:b0<240
  · obtain ⟨e,lo,hi,he,hlo,hhi,hcase⟩:∃ e lo hi,Lib.firstT b0 % 8=3∧Lib.accLo (Lib.firstT b0 / 16)=lo∧Lib.accHi (Lib.firstT b0 / 16)=hi∧e=0∧((b0=224∧lo=160∧hi=191)∨(b0=237∧lo=128∧hi=159)∨(b0≠224∧b0≠237∧lo=128∧hi=191)):=by
      refine⟨0,Lib.accLo (Lib.firstT b0 / 16),Lib.accHi (Lib.firstT b0 / 16),?_,rfl,rfl,rfl,?_⟩
      · by_cases d1:b0=224
        · subst d1;decide
        by_cases d2:b0<237
        · simp [Lib.firstT,show ¬ b0<128 by omega,c0,c1,d1,d2]
        by_cases d3:b0=237
        · subst d3;decide
        · simp [Lib.firstT,show ¬ b0<128 by omega,c0,c1,d1,d2,d3,c2]
      · by_cases d1:b0=224
        · subst d1;exact .inl ⟨rfl,by decide,by decide⟩
        by_cases d2:b0<237
        · exact .inr (.inr ⟨d1,by omega,by simp [Lib.firstT,Lib.accLo,show ¬ b0<128 by omega,c0,c1,d1,d2],by simp [Lib.firstT,Lib.accHi,show ¬ b0<128 by omega,c0,c1,d1,d2]⟩)
        by_cases d3:b0=237
        · subst d3;exact .inr (.inl ⟨rfl,by decide,by decide⟩)
        · exact .inr (.inr ⟨d1,d3,by simp [Lib.firstT,Lib.accLo,show ¬ b0<128 by omega,c0,c1,d1,d2,d3,c2],by simp [Lib.firstT,Lib.accHi,show ¬ b0<128 by omega,c0,c1,d1,d2,d3,c2]⟩)
    obtain ⟨he0,hcase⟩:=hcase
    rw [he,hlo,hhi]
    unfold rsz Lib.checkN fin3
    simp only [if_neg (show ¬ b0<128 by omega),if_neg (show ¬ (194≤b0∧b0<224) by omega),if_pos (show 224≤b0∧b0<240 by omega),if_neg (show ¬ (3:Nat)=2 by omega),if_true]
    repeat' split
    all_goals first|rfl|(exfalso;omega)
  by_cases c3:b0<245
  · obtain ⟨lo,hi,he,hlo,hhi,hcase⟩:∃ lo hi,Lib.firstT b0 % 8=4∧Lib.accLo (Lib.firstT b0 / 16)=lo∧Lib.accHi (Lib.firstT b0 / 16)=hi∧((b0=240∧lo=144∧hi=191)∨(b0=244∧lo=128∧hi=143)∨(b0≠240∧b0≠244∧lo=128∧hi=191)):=by
      refine⟨Lib.accLo (Lib.firstT b0 / 16),Lib.accHi (Lib.firstT b0 / 16),?_,rfl,rfl,?_⟩
      · have:b0=240∨b0=241∨b0=242∨b0=243∨b0=244:=by omega
        rcases this with rfl|rfl|rfl|rfl|rfl <;> decide
      · have:b0=240∨b0=241∨b0=242∨b0=243∨b0=244:=by omega
        rcases this with rfl|rfl|rfl|rfl|rfl <;> decide
    rw [he,hlo,hhi]
    unfold rsz Lib.checkN fin4
    simp only [if_neg (show ¬ b0<128 by omega),if_neg (show ¬ (194≤b0∧b0<224) by omega),if_neg (show ¬ (224≤b0∧b0<240) by omega),if_pos (show 240≤b0∧b0<245 by omega),if_neg (show ¬ (4:Nat)=2 by omega),if_neg (show ¬ (4:Nat)=3 by omega),if_true]
    repeat' split
    all_goals first|rfl|(exfalso;omega)
  · have e1:Lib.firstT b0 % 8=1:=by
      have h:=h0'
      simp [Lib.firstT,show ¬ b0<128 by omega,c0,c1,show ¬ b0=224 by omega,show ¬ b0<237 by omega,show ¬ b0=237 by omega,c2,show ¬ b0=240 by omega,show ¬ b0<244 by omega,show ¬ b0=244 by omega]
    rw [e1]
    unfold rsz Lib.checkN
    simp only [if_neg (show ¬ b0<128 by omega),if_neg (show ¬ (194≤b0∧b0<224) by omega),if_neg (show ¬ (224≤b0∧b0<240) by omega),if_neg (show ¬ (240≤b0∧b0<245) by omega),if_neg (show ¬ (1:Nat)=2 by omega),if_neg (show ¬ (1:Nat)=3 by omega),if_neg (show ¬ (1:Nat)=4 by omega),if_true]
theorem rsz_le (n b0 b1 b2 b3:Nat) (h1:1≤n):0≤rsz n b0 b1 b2 b3∧rsz n b0 b1 b2 b3≤n:=by
  unfold rsz fin3 fin4
  repeat' split
  all_goals omega
/-- One sign on. -/
theorem valid_rsz (t:ByteArray) (h0:0<t.size):Lib.validD t.data.toList=if rsz t.size (by8 t 0) (by8 t 1) (by8 t 2) (by8 t 3)=0 then false else Lib.validD (t.data.toList.drop (rsz t.size (by8 t 0) (by8 t 1) (by8 t 2) (by8 t 3)).toNat):=by
  have hl:t.data.toList.length=t.size:=by simp
  have hne:t.data.toList ≠ []:=fun h=>by rw [h] at hl;simp at hl;omega
  by_cases hb:by8 t 0<128
  · have e:rsz t.size (by8 t 0) (by8 t 1) (by8 t 2) (by8 t 3)=1:=by unfold rsz;rw [if_pos hb]
    rw [e,if_neg (by omega)]
    unfold by8 at hb
    obtain ⟨b,r,hbr⟩:=List.exists_cons_of_ne_nil hne
    rw [hbr] at hb ⊢
    exact Lib.validD_cons b r (by simpa using hb)
  · rw [Lib.validD_lead _ hne (by unfold by8 at hb;omega),hl]
    have h:=rsz_check t.size (by8 t 0) (by8 t 1) (by8 t 2) (by8 t 3) (by omega) (by8_lt t 0)
    unfold by8 at h ⊢
    rw [h]
    split
    · rename_i h2
      by_cases hz:rsz t.size (t.data.toList.getD 0 0).toNat (t.data.toList.getD 1 0).toNat (t.data.toList.getD 2 0).toNat (t.data.toList.getD 3 0).toNat=0
      · rw [if_pos hz]
      · rw [if_neg hz] at h2;cases h2
    · rename_i k h2
      by_cases hz:rsz t.size (t.data.toList.getD 0 0).toNat (t.data.toList.getD 1 0).toNat (t.data.toList.getD 2 0).toNat (t.data.toList.getD 3 0).toNat=0
      · rw [if_pos hz] at h2;cases h2
      · rw [if_neg hz] at h2 ⊢
        injection h2 with h2
        rw [h2]
theorem ext_drop (s:ByteArray) (i:Nat):(s.extract i s.size).data.toList=s.data.toList.drop i:=by
  simp [ByteArray.data_extract,Array.toList_extract,List.extract]
  rw [List.take_of_length_le (by simp)]
/-- The reference's Signs is the decoder's own answer. -/
theorem signs_law (s:ByteArray) (hs:s.size≤4611686018427387904) (d:Nat):∀ i:Nat,i≤s.size→s.size - i≤d→Big (fun k=>zjo.l0 k s (i:Int)) (Lib.validD (s.data.toList.drop i)):=by
  induction d with
  | zero=>
    intro i hi hd
    refine Big.succ ?_
    simp only [zjo.l0,if_neg (show ¬ (i:Int)<(s.size:Int) by omega)]
    refine(Big.of true).cast ?_
    rw [List.drop_eq_nil_of_le (by simp;omega)]
    rfl
  | succ d ih=>
    intro i hi hd
    by_cases hlt:i<s.size
    · refine Big.succ ?_
      simp only [zjo.l0,if_pos (show(i:Int)<(s.size:Int) by omega),if_pos (show(0:Int)≤(i:Int) by omega),if_pos (show(i:Int)≤(s.size:Int) by omega),Int.toNat_natCast]
      obtain ⟨t,ht⟩:∃ t,s.extract i s.size=t:=⟨_,rfl⟩
      have hsz:t.size=s.size - i:=by rw [← ht];simp
      have hdr:s.data.toList.drop i=t.data.toList:=by rw [← ht,ext_drop]
      rw [hdr]
      simp only [ht]
      refine Big.bind (rs_law t (by omega)) ?_
      rw [valid_rsz t (by omega)]
      have hle:=rsz_le t.size (by8 t 0) (by8 t 1) (by8 t 2) (by8 t 3) (by omega)
      generalize rsz t.size (by8 t 0) (by8 t 1) (by8 t 2) (by8 t 3)=z at *
      by_cases hz:z=0
      · simp only [if_pos hz]
        exact Big.of _
      · simp only [if_neg hz]
        obtain ⟨zn,rfl⟩:∃ zn:Nat,z=(zn:Int):=⟨z.toNat,by omega⟩
        have ew:wrap64 ((i:Int)+(zn:Int))=((i+zn:Nat):Int):=by rw [w64 (by omega) (by omega)];omega
        simp only [ew]
        refine(ih (i+zn) (by omega) (by omega)).cast ?_
        rw [← hdr,List.drop_drop]
        simp
    · refine Big.succ ?_
      simp only [zjo.l0,if_neg (show ¬ (i:Int)<(s.size:Int) by omega)]
      refine(Big.of true).cast ?_
      rw [List.drop_eq_nil_of_le (by simp;omega)]
      rfl
theorem signs_f (s:ByteArray) (hs:s.size≤4611686018427387904):Big (fun k=>zjo.f k s) (Lib.validD s.data.toList):=by
  simpa [zjo.f] using signs_law s hs s.size 0 (by omega) (by omega)
/-! ### Tokens -/
def ltB (c:Int):Bool:=decide (c=95) || (decide (97≤c) && decide (c≤122))
def dgB (c:Int):Bool:=decide (48≤c) && decide (c≤57)
theorem letter_f (c:Int):zkc.f c=some (ltB c):=by
  unfold zkc.f ltB
  by_cases h1:c=95
  · rw [if_pos h1];simp [h1]
  · rw [if_neg h1]
    by_cases h2:97≤c
    · rw [if_pos h2];simp [h1,h2]
    · rw [if_neg h2];simp [h1,h2]
theorem digit_f (c:Int):zx5.f c=some (dgB c):=by
  unfold zx5.f dgB
  by_cases h:48≤c
  · rw [if_pos h];simp [h]
  · rw [if_neg h];simp [h]
/-- Letters and digits alone, so many from a place on. -/
def ldAll (s:ByteArray):Nat→Nat→Bool
  | 0,_=>true
  | d+1,i=>(ltB (bt s (i:Int)) || dgB (bt s (i:Int))) && ldAll s d (i+1)
theorem word_from (s:ByteArray) (hs:s.size≤140737488351232):∀ (d i:Nat),s.size - i=d→i≤s.size→Big (fun k=>zj2.l0 k s (s.size:Int) (i:Int)) (ldAll s d i):=by
  intro d
  induction d with
  | zero=>
    intro i hd hi
    refine Big.succ (Big.eq fun k=>?_)
    simp only [zj2.l0]
    rw [if_neg (by omega)]
    rfl
  | succ d ih=>
    intro i hd hi
    have h:=ih (i+1) (by omega) (by omega)
    have hw:wrap64 ((i:Int)+1)=((i+1:Nat):Int):=w64 (by omega) (by omega)
    rw [ldAll]
    cases h1:ltB (bt s (i:Int)) with
    | true=>
      refine Big.succ (Big.congr (h.cast (by simp)) fun k=>?_)
      simp only [zj2.l0]
      rw [if_pos (by omega),if_pos (by omega),if_pos (by omega),letter_f,h1,Option.bind_some,if_pos rfl,hw]
    | false=>
      cases h2:dgB (bt s (i:Int)) with
      | true=>
        refine Big.succ (Big.congr (h.cast (by simp)) fun k=>?_)
        simp only [zj2.l0]
        rw [if_pos (by omega),if_pos (by omega),if_pos (by omega),letter_f,h1,Option.bind_some,if_neg (by decide),digit_f,h2,Option.bind_some,if_pos rfl,hw]
      | false=>
        refine Big.succ ((Big.eq (r:=false) fun k=>?_).cast (by simp))
        simp only [zj2.l0]
        rw [if_pos (by omega),if_pos (by omega),if_pos (by omega),letter_f,h1,Option.bind_some,if_neg (by decide),digit_f,h2,Option.bind_some,if_neg (by decide)]
/-- Is it a word? -/
def wordB (s:ByteArray):Bool:=decide (1≤s.size) && decide (s.size≤12) && !dgB (bt s 0) && ldAll s s.size 0
theorem toList_nil (s:ByteArray):s.toList = [] ↔ s.size=0:=by
  rw [ByteArray.toList_eq]
  constructor
  · intro h
    have:=congrArg List.length h
    simpa using this
  · intro h
    apply List.eq_nil_of_length_eq_zero
    simpa using h
theorem word_law (s:ByteArray) (hs:s.size≤140737488351232):Big (fun k=>zj2.f k s) (wordB s):=by
  have jt:Big (fun k=>zj2.j0 k s true) false:=Big.succ (Big.eq fun k=>by simp only [zj2.j0];rw [if_pos trivial])
  unfold zj2.f wordB
  by_cases h0:s.toList = []
  · have:=(toList_nil s).1 h0
    refine(Big.congr jt fun k=>by rw [if_pos h0]).cast ?_
    simp [this]
  · have h0':s.size≠0:=fun h=>h0 ((toList_nil s).2 h)
    by_cases h1:(s.size:Int) > 12
    · refine(Big.congr jt fun k=>by rw [if_neg h0,if_pos h1]).cast ?_
      have:¬ s.size≤12:=by omega
      simp [this]
    · cases h2:dgB (bt s 0) with
      | true=>
        refine(Big.congr jt fun k=>?_).cast (by simp)
        rw [if_neg h0,if_neg h1,if_pos (by omega),digit_f,h2,Option.bind_some]
      | false=>
        have hw:=word_from s hs s.size 0 (by omega) (by omega)
        refine(Big.congr (g':=fun k=>zj2.j0 k s false) (Big.succ (Big.congr hw fun k=>?_)) fun k=>?_).cast ?_
        · simp only [zj2.j0]
          rw [if_neg (by decide)]
          rfl
        · rw [if_neg h0,if_neg h1,if_pos (by omega),digit_f,h2,Option.bind_some]
        · have a1:1≤s.size:=by omega
          have a2:s.size≤12:=by omega
          simp [a1,a2]
theorem nest (c:Int) (X:Option Bool) (pos:Prop) [Decidable pos]:(if c ≥ 48 then(if c ≥ 97 then(if c≤122 then X else (if c=95 then X else (if c≤57 then(if pos then X else some false) else some false))) else (if c=95 then X else (if c≤57 then(if pos then X else some false) else some false))) else (if c ≥ 97 then(if c≤122 then X else (if c=95 then X else some false)) else (if c=95 then X else some false)))=if(ltB c || (dgB c && decide pos))=true then X else some false:=by
  have h:(ltB c || (dgB c && decide pos))=true ↔ (c=95∨(97≤c∧c≤122))∨((48≤c∧c≤57)∧pos):=by simp [ltB,dgB]
  by_cases hp:pos
  · by_cases hg:(c=95∨(97≤c∧c≤122))∨((48≤c∧c≤57)∧pos)
    · rw [if_pos (h.2 hg)]
      simp only [if_pos hp]
      repeat' split
      all_goals first|rfl|(exfalso;omega)
    · rw [if_neg (fun e=>hg (h.1 e))]
      simp only [if_pos hp]
      have hg':¬ ((c=95∨(97≤c∧c≤122))∨(48≤c∧c≤57)):=fun e=>hg (e.imp id fun e=>⟨e,hp⟩)
      repeat' split
      all_goals first|rfl|(exfalso;omega)
  · by_cases hg:(c=95∨(97≤c∧c≤122))
    · rw [if_pos (h.2 (.inl hg))]
      simp only [if_neg hp]
      repeat' split
      all_goals first|rfl|(exfalso;omega)
    · rw [if_neg (fun e=>(h.1 e).elim hg fun e=>hp e.2)]
      simp only [if_neg hp]
      repeat' split
      all_goals first|rfl|(exfalso;omega)
theorem refword_from (K I:Int) (s:ByteArray) (hs:s.size≤140737488351232):∀ (d i:Nat),s.size - i=d→1≤i→i≤s.size→Big (fun k=>zjj.l0 k (i:Int) K I s) (ldAll s d i):=by
  intro d
  induction d with
  | zero=>
    intro i hd h1 hi
    refine Big.succ (Big.eq fun k=>?_)
    simp only [zjj.l0]
    rw [if_neg (by omega)]
    rfl
  | succ d ih=>
    intro i hd h1 hi
    have h:=ih (i+1) (by omega) (by omega) (by omega)
    have hw:wrap64 ((i:Int)+1)=((i+1:Nat):Int):=w64 (by omega) (by omega)
    have hp:decide ((i:Int) > 0)=true:=decide_eq_true (by omega)
    rw [ldAll]
    cases hg:(ltB (bt s (i:Int)) || dgB (bt s (i:Int))) with
    | true=>
      refine Big.succ (Big.congr (h.cast (by simp)) fun k=>?_)
      simp only [zjj.l0]
      rw [if_pos (by omega),if_pos (by omega),nest,hp,Bool.and_true,hg,if_pos rfl,hw]
    | false=>
      refine Big.succ ((Big.eq (r:=false) fun k=>?_).cast (by simp))
      simp only [zjj.l0]
      rw [if_pos (by omega),if_pos (by omega),nest,hp,Bool.and_true,hg,if_neg (by decide)]
theorem refword_law (K I:Int) (s:ByteArray) (hs:s.size≤140737488351232) (h1:1≤s.size):Big (fun k=>zjj.l0 k 0 K I s) (!dgB (bt s 0) && ldAll s s.size 0):=by
  obtain ⟨d,hd⟩:∃ d,s.size=d+1:=⟨s.size - 1,by omega⟩
  have h:=refword_from K I s hs d 1 (by omega) (by omega) (by omega)
  have hx:¬ (ltB (bt s 0)=true∧dgB (bt s 0)=true):=by
    simp only [ltB,dgB,Bool.or_eq_true,Bool.and_eq_true,decide_eq_true_eq]
    omega
  rw [hd,ldAll]
  show Big _ (!dgB (bt s 0) && ((ltB (bt s 0) || dgB (bt s 0)) && ldAll s d 1))
  cases hg:ltB (bt s 0) with
  | true=>
    have hdg:dgB (bt s 0)=false:=by
      cases e:dgB (bt s 0) with
      | false=>rfl
      | true=>exact(hx ⟨hg,e⟩).elim
    refine Big.succ (Big.congr (h.cast (by simp [hdg])) fun k=>?_)
    simp only [zjj.l0]
    rw [if_pos (by omega),if_pos (by omega),nest,hg,Bool.true_or,if_pos rfl,w64 (by omega) (by omega)]
    rfl
  | false=>
    refine Big.succ ((Big.eq (r:=false) fun k=>?_).cast (by cases dgB (bt s 0) <;> simp))
    simp only [zjj.l0]
    rw [if_pos (by omega),if_pos (by omega),nest,hg,decide_eq_false (show ¬ ((0:Int) > 0) by omega),Bool.and_false,Bool.or_false,if_neg (by decide)]

/-! ### Marks -/
def markB (s:ByteArray):Bool := !(s.toList == ([]:List UInt8)) && decide (s.toList ∈ zj3.bytes)
theorem prefix_some (s m:ByteArray):∃ b,strings_HasPrefix.f s m=some b:=by
  unfold strings_HasPrefix.f stringslite_HasPrefix.f
  by_cases h:(s.size:Int) ≥ (m.size:Int)
  · rw [if_pos h,if_pos (by omega),if_pos (by omega)]
    exact⟨_,rfl⟩
  · rw [if_neg h]
    exact⟨_,rfl⟩
theorem go_some (s:ByteArray):∀ l,∃ r,zj3.go s l=some r∧(r ∈ l∨r=⟨#[]⟩)
  | []=>⟨_,rfl,.inr rfl⟩
  | m :: l=>by
    obtain ⟨b,hb⟩:=prefix_some s m
    rw [zj3.go,hb,Option.bind_some]
    cases b with
    | true=>exact⟨m,by rw [if_pos rfl],.inl (List.mem_cons_self ..)⟩
    | false=>
      obtain ⟨r,h1,h2⟩:=go_some s l
      refine⟨r,by rw [if_neg (by decide)];exact h1,?_⟩
      rcases h2 with h|h
      · exact .inl (List.mem_cons_of_mem _ h)
      · exact .inr h
theorem list_of' (l:List UInt8):(⟨l.toArray⟩:ByteArray).toList=l:=by rw [ByteArray.toList_eq]
theorem of_list (s:ByteArray):s=⟨s.toList.toArray⟩:=by
  rw [ByteArray.toList_eq]
theorem mark_self:∀ i:Fin 16,zj3.f ⟨(zj3.bytes.getD i.1 []).toArray⟩=some ⟨(zj3.bytes.getD i.1 []).toArray⟩:=by decide +kernel
theorem mark_law (s:ByteArray) (h0:¬ s.toList = []):∃ m,zj3.f s=some m∧(m.toList == s.toList)=markB s:=by
  by_cases h:s.toList ∈ zj3.bytes
  · obtain ⟨i,hi,he⟩:=List.getElem_of_mem h
    have hm:=mark_self ⟨i,hi⟩
    dsimp only at hm
    rw [List.getD_eq_getElem?_getD,List.getElem?_eq_getElem hi,Option.getD_some,he, ← of_list] at hm
    refine⟨s,hm,?_⟩
    simp [markB,h,h0]
  · obtain ⟨r,h1,h2⟩:=go_some s zj3.marks
    refine⟨r,h1,?_⟩
    have hne:¬ r.toList=s.toList:=by
      intro e
      rcases h2 with h2|h2
      · obtain ⟨l,hl,rfl⟩:=List.mem_map.1 h2
        rw [list_of'] at e
        exact h (e ▸ hl)
      · subst h2
        rw [ByteArray.toList_eq] at e
        exact h0 e.symm
    simp [markB,h,hne]
theorem isMark_law (s:ByteArray):zj9.f s=some (markB s):=by
  unfold markB
  by_cases h:s.toList ∈ zj3.bytes
  · simp only [zj3.bytes,List.mem_cons,List.not_mem_nil,or_false] at h
    rcases h with h|h|h|h|h|h|h|h|h|h|h|h|h|h|h|h <;> simp [zj9.f,h,zj3.bytes]
  · have h':=h
    simp only [zj3.bytes,List.mem_cons,List.not_mem_nil,or_false,not_or] at h
    simp [zj9.f,h,h']
/-- May a token be? -/
def tokB (K I:Int) (T:ByteArray):Bool:=
  if K=1 then decide (I=0) && wordB T else if K=2 then decide (0≤I) && (T.toList == ([]:List UInt8)) else if K=3 then decide (I=0) && decide (T.size≤40) && Lib.validD T.data.toList else if K=4 then decide (I=0) && markB T else false
theorem tok_law (K I:Int) (T:ByteArray) (hs:T.size≤140737488351232):Big (fun k=>zkh.f k K I T) (tokB K I T):=by
  unfold zkh.f tokB
  by_cases h1:K=1
  · simp only [if_pos h1]
    by_cases hi:I=0
    · simp only [if_pos hi]
      refine(Big.bind (word_law T hs) (Big.of _)).cast (by simp [hi])
    · simp only [if_neg hi]
      exact(Big.of false).cast (by simp [hi])
  simp only [if_neg h1]
  by_cases h2:K=2
  · simp only [if_pos h2]
    by_cases hi:I ≥ 0
    · simp only [if_pos hi]
      exact(Big.of _).cast (by simp [show 0≤I from hi])
    · simp only [if_neg hi]
      exact(Big.of false).cast (by simp;intro h;omega)
  simp only [if_neg h2]
  by_cases h3:K=3
  · simp only [if_pos h3]
    by_cases hi:I=0
    · simp only [if_pos hi]
      by_cases hz:(T.size:Int)≤40
      · simp only [if_pos hz]
        refine(Big.bind1 (r:=Lib.validD T.data.toList) (by unfold utf8_ValidString.f;rw [if_pos (by omega)]) (Big.of _)).cast ?_
        simp [hi,show T.size≤40 by omega]
      · simp only [if_neg hz]
        exact(Big.of false).cast (by simp [show ¬ T.size≤40 by omega])
    · simp only [if_neg hi]
      exact(Big.of false).cast (by simp [hi])
  simp only [if_neg h3]
  by_cases h4:K=4
  · simp only [if_pos h4]
    by_cases hi:I=0
    · simp only [if_pos hi]
      by_cases ht:T.toList = []
      · simp only [if_pos ht]
        exact(Big.of false).cast (by simp [markB,ht])
      · simp only [if_neg ht]
        obtain ⟨m,hm,he⟩:=mark_law T ht
        refine(Big.bind1 hm (Big.of (m.toList == T.toList))).cast ?_
        rw [he]
        simp [hi]
    · simp only [if_neg hi]
      exact(Big.of false).cast (by simp [hi])
  simp only [if_neg h4]
  exact Big.of _
theorem reftok_law (K I:Int) (T:ByteArray) (hs:T.size≤140737488351232):Big (fun k=>zjj.f k K I T) (tokB K I T):=by
  have jt:Big (fun k=>zjj.j0 k true K I T) false:=Big.succ (Big.eq fun k=>by simp only [zjj.j0];rw [if_pos trivial])
  unfold zjj.f tokB
  by_cases h2:K=2
  · have h1:¬ K=1:=by omega
    simp only [if_pos h2,if_neg h1]
    by_cases hi:I ≥ 0
    · simp only [if_pos hi]
      exact(Big.of _).cast (by simp [show 0≤I from hi])
    · simp only [if_neg hi]
      exact(Big.of false).cast (by simp;intro h;omega)
  simp only [if_neg h2]
  by_cases hi:I=0
  · simp only [if_pos hi]
    by_cases h3:K=3
    · have h1:¬ K=1:=by omega
      simp only [if_pos h3,if_neg h1]
      by_cases hz:(T.size:Int)≤40
      · simp only [if_pos hz]
        refine(Big.bind (signs_f T (by omega)) (Big.of _)).cast ?_
        simp [hi,show T.size≤40 by omega]
      · simp only [if_neg hz]
        exact(Big.of false).cast (by simp [show ¬ T.size≤40 by omega])
    simp only [if_neg h3]
    by_cases h4:K=4
    · have h1:¬ K=1:=by omega
      simp only [if_pos h4,if_neg h1,isMark_law,Option.bind_some]
      exact(Big.of _).cast (by simp [hi])
    simp only [if_neg h4]
    by_cases h1:K=1
    · simp only [if_pos h1]
      by_cases hz:(T.size:Int)<1
      · simp only [if_pos hz]
        exact jt.cast (by simp [wordB,show ¬ 1≤T.size by omega])
      · simp only [if_neg hz]
        by_cases hb:(T.size:Int) > 12
        · simp only [decide_eq_true hb]
          exact jt.cast (by simp [wordB,show ¬ T.size≤12 by omega])
        · simp only [decide_eq_false hb]
          refine(Big.succ (Big.congr (refword_law K I T hs (by omega)) fun k=>?_)).cast ?_
          · simp only [zjj.j0]
            rw [if_neg (by decide)]
          · simp [hi,wordB,show 1≤T.size by omega,show T.size≤12 by omega]
    · simp only [if_neg h1]
      exact jt.cast rfl
  · simp only [if_neg hi]
    refine(Big.of false).cast ?_
    simp [hi]
theorem list_of (l:List UInt8):(⟨l.toArray⟩:ByteArray).toList=l:=by rw [ByteArray.toList_eq]
theorem less_asymm:∀ x y:List UInt8,Op.bytesLess x y=true→Op.bytesLess y x=false
  | [], [],h=>by simp [Op.bytesLess] at h
  | _ :: _, [],h=>by simp [Op.bytesLess] at h
  | [],_ :: _,_=>by simp [Op.bytesLess]
  | a :: x,b :: y,h=>by
    simp only [Op.bytesLess,Bool.or_eq_true,decide_eq_true_eq,Bool.and_eq_true,beq_iff_eq] at h
    simp only [Op.bytesLess,Bool.or_eq_false_iff,decide_eq_false_iff_not,Bool.and_eq_false_iff,beq_eq_false_iff_ne]
    rcases h with h|⟨rfl,h⟩
    · refine⟨fun h'=>?_,.inl fun e=>?_⟩
      · have h1:=UInt8.lt_iff_toNat_lt.1 h
        have h2:=UInt8.lt_iff_toNat_lt.1 h'
        omega
      · subst e
        have h1:=UInt8.lt_iff_toNat_lt.1 h
        omega
    · refine⟨fun h'=>?_,.inr (less_asymm x y h)⟩
      have h1:=UInt8.lt_iff_toNat_lt.1 h'
      omega
theorem less_irr (x:List UInt8):Op.bytesLess x x=false:=by
  cases h:Op.bytesLess x x with
  | false=>rfl
  | true=>
    have:=less_asymm x x h
    rw [h] at this
    cases this
theorem kept_sorted:∀ a b:Fin 35,a<b→Op.bytesLess (zjy.bytes.getD a.1 []) (zjy.bytes.getD b.1 [])=true:=by decide +kernel
theorem less_f (a b:ByteArray):cmp_Less_string.f a b=some (Op.bytesLess a.toList b.toList):=by
  unfold cmp_Less_string.f cmp_isNaN_string.f
  simp
theorem nan_f (a:ByteArray):slices_isNaN_string.f a=some false:=by
  unfold slices_isNaN_string.f
  simp
theorem word_at (i:Nat) (h:i<35):(rdOf ByteArray.empty zjy.words (i:Int)).toList=zjy.bytes.getD i []:=by
  have hl:i<zjy.bytes.length:=h
  unfold rdOf zjy.words
  rw [Int.toNat_natCast,List.getD_eq_getElem?_getD,List.getElem?_map,List.getElem?_eq_getElem hl,List.getD_eq_getElem?_getD,List.getElem?_eq_getElem hl]
  exact list_of _
theorem words_length:zjy.words.length=35:=rfl
/-- The search, from i up to j. -/
theorem kept_search (s:ByteArray):∀ (d i j:Nat),j - i=d→i≤j→j≤35→(∀ a,a<35→zjy.bytes.getD a []=s.toList→i≤a∧a≤j) →
    ∃ r,Big (fun k=>zji.l0 k zjy.words s 35 (i:Int) (j:Int)) (r,decide (∃ a:Fin 35,zjy.bytes.getD a.1 []=s.toList)):=by
  intro d
  induction d using Nat.strongRecOn with
  | _ d ih=>
    intro i j hd hij hj hinv
    by_cases hlt:i<j
    · have hm:wrap64 (IntKind.u64.wrap (wrap64 ((i:Int)+(j:Int))) / 2)=(((i+j) / 2:Nat):Int):=by
        rw [w64 (x:=(i:Int)+j) (by omega) (by omega),show IntKind.u64.wrap ((i:Int)+j)=(i:Int)+j by simp [IntKind.wrap,IntKind.bits,IntKind.signed];omega,w64 (by omega) (by omega)]
        omega
      have hw:=word_at ((i+j) / 2) (by omega)
      cases hl:Op.bytesLess (zjy.bytes.getD ((i+j) / 2) []) s.toList with
      | true=>
        obtain ⟨r,hr⟩:=ih (j - ((i+j) / 2+1)) (by omega) ((i+j) / 2+1) j rfl (by omega) hj (fun a ha e=>by
          obtain ⟨h1,h2⟩:=hinv a ha e
          refine⟨?_,h2⟩
          rcases Nat.lt_trichotomy a ((i+j) / 2) with h|h|h
          · have:=less_asymm _ _ (kept_sorted ⟨a,ha⟩ ⟨(i+j) / 2,by omega⟩ h)
            dsimp only at this
            rw [e,hl] at this
            cases this
          · subst h
            rw [e,less_irr] at hl
            cases hl
          · omega)
        refine⟨r,Big.succ (Big.congr hr fun k=>?_)⟩
        simp only [zji.l0]
        rw [if_pos (by omega),hm,if_pos (by omega),words_length,if_pos (by omega),less_f,hw,hl,Option.bind_some,if_pos rfl,w64 (by omega) (by omega)]
        rfl
      | false=>
        obtain ⟨r,hr⟩:=ih ((i+j) / 2 - i) (by omega) i ((i+j) / 2) rfl (by omega) (by omega) (fun a ha e=>by
          obtain ⟨h1,h2⟩:=hinv a ha e
          refine⟨h1,?_⟩
          rcases Nat.lt_or_ge ((i+j) / 2) a with h|h
          · have:=kept_sorted ⟨(i+j) / 2,by omega⟩ ⟨a,ha⟩ h
            dsimp only at this
            rw [e,hl] at this
            cases this
          · exact h)
        refine⟨r,Big.succ (Big.congr hr fun k=>?_)⟩
        simp only [zji.l0]
        rw [if_pos (by omega),hm,if_pos (by omega),words_length,if_pos (by omega),less_f,hw,hl,Option.bind_some,if_neg (by decide)]
    · obtain rfl:i=j:=by omega
      by_cases h35:i<35
      · have hw:=word_at i h35
        by_cases he:zjy.bytes.getD i []=s.toList
        · refine⟨(i:Int),Big.succ (Big.eq fun k=>?_)⟩
          simp only [zji.l0]
          rw [if_neg (by omega),if_pos (by omega),if_pos (by omega),words_length,if_pos (by omega),hw,if_pos he,decide_eq_true ⟨⟨i,h35⟩,he⟩]
        · refine⟨(i:Int),Big.succ (Big.eq fun k=>?_)⟩
          simp only [zji.l0]
          rw [if_neg (by omega),if_pos (by omega),if_pos (by omega),words_length,if_pos (by omega),hw,if_neg he,nan_f,Option.bind_some,if_neg (by decide),decide_eq_false]
          rintro ⟨a,ha⟩
          have:=hinv a.1 a.2 ha
          exact he (by rw [show i=a.1 by omega];exact ha)
      · refine⟨(i:Int),Big.succ (Big.eq fun k=>?_)⟩
        simp only [zji.l0]
        rw [if_neg (by omega),if_neg (by omega),decide_eq_false]
        rintro ⟨a,ha⟩
        have:=hinv a.1 a.2 ha
        have:=a.2
        omega
theorem kept_mem (l:List UInt8):(∃ a:Fin 35,zjy.bytes.getD a.1 []=l) ↔ l ∈ zjy.bytes:=by
  constructor
  · rintro ⟨a,rfl⟩
    have hl:a.1<zjy.bytes.length:=a.2
    rw [List.getD_eq_getElem?_getD,List.getElem?_eq_getElem hl]
    exact List.getElem_mem hl
  · intro h
    obtain ⟨i,hi,rfl⟩:=List.getElem_of_mem h
    refine⟨⟨i,hi⟩,?_⟩
    rw [List.getD_eq_getElem?_getD,List.getElem?_eq_getElem hi]
    rfl
theorem Kept_eq (s:ByteArray):Big (fun k=>zjy.f k s) (decide (s.toList ∈ zjy.bytes)):=by
  obtain ⟨r,h⟩:=kept_search s 35 0 35 rfl (by omega) (by omega) (fun a ha _=>by omega)
  have e:decide (∃ a:Fin 35,zjy.bytes.getD a.1 []=s.toList)=decide (s.toList ∈ zjy.bytes):=decide_eq_decide.2 (kept_mem _)
  rw [e] at h
  obtain ⟨k0,h⟩:=h
  refine⟨k0,fun k hk=>?_⟩
  unfold zjy.f zji.f
  have:=h k hk
  rw [words_length]
  show Option.map _ (zji.l0 k zjy.words s 35 0 35)=_
  rw [show zji.l0 k zjy.words s 35 0 35=some (r,decide (s.toList ∈ zjy.bytes)) from this]
  rfl
theorem KeptWord_eq (s:ByteArray):Big (fun k=>zjf.f k s) (decide (s.toList ∈ zjy.bytes)):=by
  refine⟨0+1+1,fun k hk=>at_rounds (fun k=>zjf.mono s k) hk ?_⟩
  by_cases h:s.toList ∈ zjy.bytes
  · rw [decide_eq_true h]
    simp only [zjy.bytes,List.mem_cons,List.not_mem_nil,or_false] at h
    rcases h with h|h|h|h|h|h|h|h|h|h|h|h|h|h|h|h|h|h|h|h|h|h|h|h|h|h|h|h|h|h|h|h|h|h|h <;> simp [zjf.f,zjf.j0,zjf.j1,h]
  · rw [decide_eq_false h]
    simp only [zjy.bytes,List.mem_cons,List.not_mem_nil,or_false,not_or] at h
    simp [zjf.f,zjf.j0,zjf.j1,h]
/-! ### Names -/
def nameB (s:ByteArray):Bool:=tokB 1 0 s && !decide (s.toList ∈ zjy.bytes)
theorem nm_law (s:ByteArray) (hs:s.size≤140737488351232):Big (fun k=>zj8.f k s) (nameB s):=by
  unfold zj8.f nameB
  refine Big.bind (tok_law 1 0 s hs) ?_
  cases tokB 1 0 s with
  | true=>
    simp only [if_true]
    exact(Big.bind (Kept_eq s) (Big.of (!decide (s.toList ∈ zjy.bytes)))).cast (by simp)
  | false=>exact(Big.of false).congr fun k=>by rw [if_neg (by decide)]
theorem refnm_law (s:ByteArray) (hs:s.size≤140737488351232):Big (fun k=>zjm.f k s) (nameB s):=by
  unfold zjm.f nameB
  refine Big.bind (reftok_law 1 0 s hs) ?_
  cases tokB 1 0 s with
  | true=>
    simp only [if_true]
    exact(Big.bind (KeptWord_eq s) (Big.of (!decide (s.toList ∈ zjy.bytes)))).cast (by simp)
  | false=>exact(Big.of false).congr fun k=>by rw [if_neg (by decide)]
/-- g answers, with enough rounds, whether P holds. -/
def Tells (g:Nat→Option Bool) (P:Prop):Prop := ∃ b:Bool,Big g b∧(b=true ↔ P)
theorem Tells.no {P:Prop} (h:¬ P):Tells (fun _=>some false) P:=⟨false,Big.of _,by simp [h]⟩
theorem Tells.yes {P:Prop} (h:P):Tells (fun _=>some true) P:=⟨true,Big.of _,by simp [h]⟩
theorem Tells.dec {P:Prop} [Decidable P]:Tells (fun _=>some (decide P)) P:=⟨decide P,Big.of _,by simp⟩
theorem Tells.succ {g:Nat→Option Bool} {P:Prop} : Tells (fun k=>g (k+1)) P→Tells g P:=fun ⟨b,h,e⟩=>⟨b,Big.succ h,e⟩
theorem Tells.iff {g:Nat→Option Bool} {P Q:Prop} (e:P ↔ Q):Tells g P→Tells g Q:=fun ⟨b,h,f⟩=>⟨b,h,f.trans e⟩
theorem Tells.congr {g g':Nat→Option Bool} {P:Prop} (e:∀ k,g k=g' k):Tells g' P→Tells g P:=fun ⟨b,h,f⟩=>⟨b,h.congr e,f⟩
theorem Tells.bindE {α:Type} {g:Nat→Option α} {f:Nat→α→Option Bool} {r:α} {P:Prop} (hg:Big g r):Tells (fun k=>f k r) P→Tells (fun k=>(g k).bind (f k)) P:=fun ⟨b,h,e⟩=>⟨b,Big.bind hg h,e⟩
theorem Tells.bind {g:Nat→Option Bool} {f:Nat→Bool→Option Bool} {P Q:Prop} (hg:Tells g P) (hT:P→Tells (fun k=>f k true) Q) (hF:¬ P→Tells (fun k=>f k false) Q):Tells (fun k=>(g k).bind (f k)) Q:=by
  obtain ⟨b,h,e⟩:=hg
  cases b with
  | true=>exact Tells.bindE h (hT (e.1 rfl))
  | false=>exact Tells.bindE h (hF (fun x=>by simpa using e.2 x))
theorem Tells.of {g:Nat→Option Bool} {b:Bool} (h:Big g b):Tells g (b=true):=⟨b,h,Iff.rfl⟩
/-- Two functions that answer whether P holds answer alike. -/
theorem Tells.both {g f:Nat→Option Bool} {P:Prop} (hg:Tells g P) (hf:Tells f P):∃ b,Big g b∧Big f b:=by
  obtain ⟨b,h,e⟩:=hg
  obtain ⟨c,h',e'⟩:=hf
  refine⟨b,h,?_⟩
  have:b=c:=by
    cases b <;> cases c <;> simp_all
  rw [this];exact h'
/-- One step of a loop over places: what holds from i on. -/
theorem all_step {n i:Nat} {P:Nat→Prop} (hi:i<n):(∀ j,i≤j→j<n→P j) ↔ P i ∧ ∀ j,i+1≤j→j<n→P j:=by
  constructor
  · intro h
    exact⟨h i (Nat.le_refl _) hi,fun j h1 h2=>h j (by omega) h2⟩
  · intro h j h1 h2
    rcases Nat.lt_or_ge i j with h3|h3
    · exact h.2 j (by omega) h2
    · obtain rfl:j=i:=by omega
      exact h.1
theorem all_end {n i:Nat} {P:Nat→Prop} (hi:n≤i):(∀ j,i≤j→j<n→P j) ↔ True:=⟨fun _=>trivial,fun _ j h1 h2=>by omega⟩
theorem nodup_at {α:Type} {l:List α} {rdx:List α→Nat→α} (h:∀ i (hi:i<l.length),rdx l i=l[i]):l.Nodup ↔ ∀ j,0≤j→j<l.length → ∀ m,m<j→rdx l m≠rdx l j:=by
  unfold List.Nodup
  rw [List.pairwise_iff_getElem]
  constructor
  · intro q j _ hj m hm
    rw [h m (by omega),h j hj]
    exact q m j (by omega) hj hm
  · intro q i j hi hj hij
    have:=q j (Nat.zero_le _) hj i hij
    rwa [h i hi,h j hj] at this
theorem toL {a b:ByteArray} : a.toList=b.toList ↔ a=b:=by
  constructor
  · intro h
    rw [Lib.toList_data,Lib.toList_data] at h
    exact ByteArray.ext (Array.ext' h)
  · rintro rfl;rfl
def rn (l:List ByteArray) (j:Nat):ByteArray:=rdOf ByteArray.empty l (j:Int)
def ri (l:List Int) (j:Nat):Int:=rd l (j:Int)
def rt (l:List S61) (j:Nat):S61:=zqo l (j:Int)
def rc (l:List S90) (j:Nat):S90:=zqp l (j:Int)
def rx (l:List S96) (j:Nat):S96:=zq0 l (j:Int)
theorem rn_at (l:List ByteArray) (i:Nat) (h:i<l.length):rn l i=l[i]:=by simp [rn,rdOf,List.getD_eq_getElem?_getD,h]
theorem ri_at (l:List Int) (i:Nat) (h:i<l.length):ri l i=l[i]:=by simp [ri,rd,List.getD_eq_getElem?_getD,h]
theorem rt_at (l:List S61) (i:Nat) (h:i<l.length):rt l i=l[i]:=by simp [rt,zqo,List.getD_eq_getElem?_getD,h]
theorem rc_at (l:List S90) (i:Nat) (h:i<l.length):rc l i=l[i]:=by simp [rc,zqp,List.getD_eq_getElem?_getD,h]
theorem rx_at (l:List S96) (i:Nat) (h:i<l.length):rx l i=l[i]:=by simp [rx,zq0,List.getD_eq_getElem?_getD,h]
theorem up1 {i n:Nat} (h:i<n) (hn:n≤9223372036854775807):wrap64 ((i:Int)+1)=((i+1:Nat):Int):=by rw [w64 (by omega) (by omega)];omega
/-- May these be places of n columns? -/
def plc (l:List Int) (n:Int):Prop:=(∀ j,0≤j→j<l.length→0≤ri l j∧ri l j<n)∧1≤l.length∧l.length≤3∧l.Nodup
def okInts (l:List Int):Prop:=l.length≤9223372036854775807 ∧ ∀ x ∈ l, -9223372036854775808≤x∧x≤9223372036854775807
theorem apart_int (l:List Int) (h:okInts l):Tells (fun _=>zjx.f l) l.Nodup:=by
  have e:zjx.f l=some (decide l.Nodup):=by unfold zjx.f;rw [if_pos ⟨h.2,h.1⟩]
  exact Tells.congr (fun _=>e) Tells.dec
theorem places_from (l:List Int) (n:Int) (h:okInts l):∀ (d i:Nat),l.length - i=d→i≤l.length→Tells (fun k=>zjv.l0 k l n l (l.length:Int) (i:Int)) ((∀ j,i≤j→j<l.length→0≤ri l j∧ri l j<n)∧1≤l.length∧l.length≤3∧l.Nodup)
  | 0,i,hd,hi=>by
    obtain rfl:i=l.length:=by omega
    refine Tells.succ ?_
    simp only [zjv.l0,if_neg (show ¬ (l.length:Int)<(l.length:Int) by omega)]
    refine Tells.iff (P:=1≤l.length∧l.length≤3∧l.Nodup) (by rw [all_end (Nat.le_refl _)];simp) ?_
    by_cases h1:(l.length:Int) > 0
    · simp only [if_pos h1]
      by_cases h3:(l.length:Int)≤3
      · simp only [if_pos h3]
        refine Tells.bind (apart_int l h) (fun q=>Tells.yes ⟨by omega,by omega,q⟩) (fun q=>Tells.no (fun x=>q x.2.2))
      · simp only [if_neg h3];exact Tells.no (fun x=>by omega)
    · simp only [if_neg h1];exact Tells.no (fun x=>by omega)
  | d+1,i,hd,hi=>by
    have hlt:i<l.length:=by omega
    have hL:=h.1
    refine Tells.succ ?_
    simp only [zjv.l0,if_pos (show(i:Int)<(l.length:Int) by omega),if_pos (show(0:Int)≤(i:Int) by omega),up1 hlt hL]
    refine Tells.iff (P:=(0≤ri l i∧ri l i<n)∧(∀ j,i+1≤j→j<l.length→0≤ri l j∧ri l j<n)∧1≤l.length∧l.length≤3∧l.Nodup) (by rw [all_step hlt];exact⟨fun x=>⟨⟨x.1,x.2.1⟩,x.2.2⟩,fun x=>⟨x.1.1,x.1.2,x.2⟩⟩) ?_
    show Tells (fun k=>if ri l i<0 then _ else if ri l i ≥ n then _ else _) _
    by_cases h1:ri l i<0
    · simp only [if_pos h1];exact Tells.no (fun x=>by have:=x.1.1;omega)
    · by_cases h2:ri l i ≥ n
      · simp only [if_neg h1,if_pos h2];exact Tells.no (fun x=>by have:=x.1.2;omega)
      · simp only [if_neg h1,if_neg h2]
        exact Tells.iff ⟨fun x=>⟨⟨by omega,by omega⟩,x⟩,fun x=>x.2⟩ (places_from l n h d (i+1) (by omega) (by omega))
theorem places_law (l:List Int) (n:Int) (h:okInts l):Tells (fun k=>zjv.f k l n) (plc l n):=by
  unfold zjv.f plc
  exact places_from l n h _ 0 rfl (Nat.zero_le _)
theorem may_in (l:List Int) (n:Int) (hL:l.length≤9223372036854775807) (i:Nat) (hi:i<l.length) (Q:Prop) (hq:Tells (fun k=>zje.l0 k l n ((i+1:Nat):Int)) Q):∀ (d m:Nat),i - m=d→m≤i→Tells (fun k=>zje.l1 k l n (i:Int) (m:Int)) ((∀ j,m≤j→j<i→ri l j≠ri l i)∧Q)
  | 0,m,hd,hm=>by
    obtain rfl:m=i:=by omega
    refine Tells.succ ?_
    simp only [zje.l1,if_neg (show ¬ (m:Int)<(m:Int) by omega),up1 hi hL]
    exact Tells.iff (by rw [all_end (Nat.le_refl _)];simp) hq
  | d+1,m,hd,hm=>by
    have hlt:m<i:=by omega
    refine Tells.succ ?_
    simp only [zje.l1,if_pos (show(m:Int)<(i:Int) by omega),if_pos (show(0:Int)≤(m:Int) by omega),if_pos (show(m:Int)<(l.length:Int) by omega),if_pos (show(0:Int)≤(i:Int) by omega),if_pos (show(i:Int)<(l.length:Int) by omega),up1 (show m<l.length by omega) hL]
    refine Tells.iff (P:=ri l m≠ri l i∧(∀ j,m+1≤j→j<i→ri l j≠ri l i)∧Q) (by rw [all_step hlt];exact⟨fun x=>⟨⟨x.1,x.2.1⟩,x.2.2⟩,fun x=>⟨x.1.1,x.1.2,x.2⟩⟩) ?_
    show Tells (fun k=>if ri l m=ri l i then _ else _) _
    by_cases h1:ri l m=ri l i
    · simp only [if_pos h1];exact Tells.no (fun x=>x.1 h1)
    · simp only [if_neg h1]
      exact Tells.iff ⟨fun x=>⟨h1,x⟩,fun x=>x.2⟩ (may_in l n hL i hi Q hq d (m+1) (by omega) (by omega))
theorem may_from (l:List Int) (n:Int) (hL:l.length≤9223372036854775807):∀ (d i:Nat),l.length - i=d→i≤l.length→Tells (fun k=>zje.l0 k l n (i:Int)) (∀ j,i≤j→j<l.length→(0≤ri l j∧ri l j<n) ∧ ∀ m,0≤m→m<j→ri l m≠ri l j)
  | 0,i,hd,hi=>by
    obtain rfl:i=l.length:=by omega
    refine Tells.succ ?_
    simp only [zje.l0,if_neg (show ¬ (l.length:Int)<(l.length:Int) by omega)]
    exact Tells.yes (fun j h1 h2=>by omega)
  | d+1,i,hd,hi=>by
    have hlt:i<l.length:=by omega
    refine Tells.succ ?_
    simp only [zje.l0,if_pos (show(i:Int)<(l.length:Int) by omega),if_pos (show(0:Int)≤(i:Int) by omega)]
    refine Tells.iff (all_step hlt).symm ?_
    show Tells (fun k=>if ri l i<0 then _ else zje.j2 k l n (i:Int) (decide (ri l i ≥ n))) _
    by_cases h1:ri l i<0
    · simp only [if_pos h1]
      refine Tells.succ ?_
      simp only [zje.j2,if_true]
      exact Tells.no (fun x=>by have:=x.1.1.1;omega)
    · simp only [if_neg h1]
      refine Tells.succ ?_
      simp only [zje.j2]
      by_cases h2:ri l i ≥ n
      · simp only [decide_eq_true h2,if_true];exact Tells.no (fun x=>by have:=x.1.1.2;omega)
      · simp only [decide_eq_false h2,if_neg (show ¬ (false=true) by decide)]
        exact Tells.iff ⟨fun x=>⟨⟨⟨by omega,by omega⟩,x.1⟩,x.2⟩,fun x=>⟨x.1.2,x.2⟩⟩ (may_in l n hL i hlt _ (may_from l n hL d (i+1) (by omega) (by omega)) _ 0 rfl (Nat.zero_le _))
theorem may_law (l:List Int) (n:Int) (hL:l.length≤9223372036854775807):Tells (fun k=>zje.f k l n) (plc l n):=by
  unfold zje.f
  by_cases h1:(l.length:Int)<1
  · simp only [if_pos h1]
    refine Tells.succ ?_
    simp only [zje.j0,if_true]
    exact Tells.no (fun x=>by have:=x.2.1;omega)
  simp only [if_neg h1]
  refine Tells.succ ?_
  simp only [zje.j0]
  by_cases h3:(l.length:Int) > 3
  · simp only [decide_eq_true h3,if_true];exact Tells.no (fun x=>by have:=x.2.2.1;omega)
  simp only [decide_eq_false h3,if_neg (show ¬ (false=true) by decide)]
  refine Tells.iff ?_ (may_from l n hL _ 0 rfl (Nat.zero_le _))
  unfold plc
  rw [nodup_at (rdx:=ri) (ri_at l)]
  constructor
  · intro q
    exact⟨fun j a b=>(q j a b).1,by omega,by omega,fun j a b m hm=>(q j a b).2 m (Nat.zero_le _) hm⟩
  · intro q j a b
    exact⟨q.1 j a b,fun m _ hm=>q.2.2.2 j a b m hm⟩
/-! ### Names -/
def okTexts (l:List ByteArray):Prop:=l.length≤9223372036854775807 ∧ ∀ x ∈ l,x.size≤140737488351232
def nms (l:List ByteArray):Prop:=(∀ j,0≤j→j<l.length→nameB (rn l j)=true)∧l.Nodup
theorem apart_text (l:List ByteArray) (h:okTexts l):Tells (fun _=>zju.f l) l.Nodup:=by
  have e:zju.f l=some (decide l.Nodup):=by
    unfold zju.f
    rw [if_pos ⟨fun x hx=>Nat.le_trans (h.2 x hx) (by omega),h.1⟩]
  exact Tells.congr (fun _=>e) Tells.dec
theorem named_from (l:List ByteArray) (h:okTexts l):∀ (d i:Nat),l.length - i=d→i≤l.length→Tells (fun k=>zjt.l0 k l l (l.length:Int) (i:Int)) ((∀ j,i≤j→j<l.length→nameB (rn l j)=true)∧l.Nodup)
  | 0,i,hd,hi=>by
    obtain rfl:i=l.length:=by omega
    refine Tells.succ ?_
    simp only [zjt.l0,if_neg (show ¬ (l.length:Int)<(l.length:Int) by omega)]
    refine Tells.iff (P:=l.Nodup) (by rw [all_end (Nat.le_refl _)];simp) ?_
    exact Tells.bind (apart_text l h) (fun q=>Tells.yes q) (fun q=>Tells.no q)
  | d+1,i,hd,hi=>by
    have hlt:i<l.length:=by omega
    refine Tells.succ ?_
    simp only [zjt.l0,if_pos (show(i:Int)<(l.length:Int) by omega),if_pos (show(0:Int)≤(i:Int) by omega),up1 hlt h.1]
    refine Tells.iff (P:=nameB (rn l i)=true∧(∀ j,i+1≤j→j<l.length→nameB (rn l j)=true)∧l.Nodup) (by rw [all_step hlt];exact⟨fun x=>⟨⟨x.1,x.2.1⟩,x.2.2⟩,fun x=>⟨x.1.1,x.1.2,x.2⟩⟩) ?_
    have hs:(rn l i).size≤140737488351232:=by rw [rn_at l i hlt];exact h.2 _ (List.getElem_mem hlt)
    refine Tells.bind (Tells.of (nm_law (rn l i) hs)) (fun q=>?_) (fun q=>?_)
    · simp only [if_true]
      exact Tells.iff ⟨fun x=>⟨q,x⟩,fun x=>x.2⟩ (named_from l h d (i+1) (by omega) (by omega))
    · simp only [if_neg (show ¬ (false=true) by decide)]
      exact Tells.no (fun x=>q x.1)
theorem named_law (l:List ByteArray) (h:okTexts l):Tells (fun k=>zjt.f k l) (nms l):=by
  unfold zjt.f nms
  exact named_from l h _ 0 rfl (Nat.zero_le _)
/-! ### Tables -/
def okCol (c:S90):Prop:=c.f0.size≤140737488351232
def okIdx (x:S96):Prop:=x.f0.size≤140737488351232∧okInts x.f1
def okTab (t:S61):Prop:=t.f0.size≤140737488351232∧(t.f1.length * 32≤140737488351232 ∧ ∀ c ∈ t.f1,okCol c)∧okInts t.f2∧(t.f3.length * 40≤140737488351232 ∧ ∀ x ∈ t.f3,okIdx x)
def typ (c:S90):Prop:=1≤c.f1∧c.f1≤3
/-- What a table wants besides its name. -/
def fit (t:S61):Prop:=(1≤t.f1.length∧t.f1.length≤6∧t.f3.length≤2)∧plc t.f2 (t.f1.length:Int)∧(∀ j,0≤j→j<t.f1.length→typ (rc t.f1 j))∧(∀ j,0≤j→j<t.f2.length→(zqp t.f1 (ri t.f2 j)).f2=true)∧(∀ j,0≤j→j<t.f3.length→plc (rx t.f3 j).f1 (t.f1.length:Int))∧nms (t.f1.map (·.f0))∧nms (t.f3.map (·.f0))
theorem names_cols (t:S61) (h:okTab t):okTexts (t.f1.map (·.f0))∧zxr.f t.f1=some (t.f1.map (·.f0)):=by
  have h1:=h.2.1.1
  refine⟨⟨by rw [List.length_map];omega,fun x hx=>?_⟩,by unfold zxr.f;rw [if_pos (by omega)]⟩
  obtain ⟨c,hc,rfl⟩:=List.mem_map.1 hx
  exact h.2.1.2 c hc
theorem names_idx (t:S61) (h:okTab t):okTexts (t.f3.map (·.f0))∧zxs.f t.f3=some (t.f3.map (·.f0)):=by
  have h1:=h.2.2.2.1
  refine⟨⟨by rw [List.length_map];omega,fun x hx=>?_⟩,by unfold zxs.f;rw [if_pos (by omega)]⟩
  obtain ⟨c,hc,rfl⟩:=List.mem_map.1 hx
  exact(h.2.2.2.2 c hc).1
theorem fits_l2 (t:S61) (h:okTab t):∀ (d i:Nat),t.f3.length - i=d→i≤t.f3.length→Tells (fun k=>zjs.l2 k (t.f1.length:Int) t.f3 (t.f3.length:Int) (i:Int) t.f0 t.f1 t.f2 t.f3) ((∀ j,i≤j→j<t.f3.length→plc (rx t.f3 j).f1 (t.f1.length:Int))∧nms (t.f1.map (·.f0))∧nms (t.f3.map (·.f0)))
  | 0,i,hd,hi=>by
    obtain rfl:i=t.f3.length:=by omega
    refine Tells.succ ?_
    simp only [zjs.l2,if_neg (show ¬ (t.f3.length:Int)<(t.f3.length:Int) by omega),(names_cols t h).2,(names_idx t h).2,Option.bind_some]
    refine Tells.iff (P:=nms (t.f1.map (·.f0))∧nms (t.f3.map (·.f0))) (by rw [all_end (Nat.le_refl _)];simp) ?_
    refine Tells.bind (named_law _ (names_cols t h).1) (fun q=>?_) (fun q=>?_)
    · simp only [if_true]
      exact Tells.bind (named_law _ (names_idx t h).1) (fun q2=>Tells.yes ⟨q,q2⟩) (fun q2=>Tells.no (fun x=>q2 x.2))
    · simp only [if_neg (show ¬ (false=true) by decide)]
      exact Tells.no (fun x=>q x.1)
  | d+1,i,hd,hi=>by
    have hlt:i<t.f3.length:=by omega
    have hL:=h.2.2.2.1
    refine Tells.succ ?_
    simp only [zjs.l2,if_pos (show(i:Int)<(t.f3.length:Int) by omega),if_pos (show(0:Int)≤(i:Int) by omega),up1 hlt (by omega)]
    refine Tells.iff (P:=plc (rx t.f3 i).f1 (t.f1.length:Int)∧(∀ j,i+1≤j→j<t.f3.length→plc (rx t.f3 j).f1 (t.f1.length:Int))∧nms (t.f1.map (·.f0))∧nms (t.f3.map (·.f0))) (by rw [all_step hlt];exact⟨fun x=>⟨⟨x.1,x.2.1⟩,x.2.2⟩,fun x=>⟨x.1.1,x.1.2,x.2⟩⟩) ?_
    have hs:okInts (rx t.f3 i).f1:=by rw [rx_at _ i hlt];exact(h.2.2.2.2 _ (List.getElem_mem hlt)).2
    refine Tells.bind (places_law _ _ hs) (fun q=>?_) (fun q=>?_)
    · simp only [if_true]
      exact Tells.iff ⟨fun x=>⟨q,x⟩,fun x=>x.2⟩ (fits_l2 t h d (i+1) (by omega) (by omega))
    · simp only [if_neg (show ¬ (false=true) by decide)]
      exact Tells.no (fun x=>q x.1)
theorem fits_l1 (t:S61) (h:okTab t) (hp:plc t.f2 (t.f1.length:Int)):∀ (d i:Nat),t.f2.length - i=d→i≤t.f2.length→Tells (fun k=>zjs.l1 k (t.f1.length:Int) t.f2 (t.f2.length:Int) (i:Int) t.f0 t.f1 t.f2 t.f3) ((∀ j,i≤j→j<t.f2.length→(zqp t.f1 (ri t.f2 j)).f2=true)∧(∀ j,0≤j→j<t.f3.length→plc (rx t.f3 j).f1 (t.f1.length:Int))∧nms (t.f1.map (·.f0))∧nms (t.f3.map (·.f0)))
  | 0,i,hd,hi=>by
    obtain rfl:i=t.f2.length:=by omega
    refine Tells.succ ?_
    simp only [zjs.l1,if_neg (show ¬ (t.f2.length:Int)<(t.f2.length:Int) by omega)]
    exact Tells.iff (by rw [all_end (Nat.le_refl _)];simp) (fits_l2 t h _ 0 rfl (Nat.zero_le _))
  | d+1,i,hd,hi=>by
    have hlt:i<t.f2.length:=by omega
    have hL:=h.2.2.1.1
    obtain ⟨p0,p1⟩:=hp.1 i (Nat.zero_le _) hlt
    refine Tells.succ ?_
    simp only [zjs.l1,if_pos (show(i:Int)<(t.f2.length:Int) by omega),if_pos (show(0:Int)≤(i:Int) by omega),up1 hlt hL]
    show Tells (fun k=>if 0≤ri t.f2 i then if ri t.f2 i<(t.f1.length:Int) then if(zqp t.f1 (ri t.f2 i)).f2=true then _ else _ else _ else _) _
    simp only [if_pos p0,if_pos p1]
    refine Tells.iff (P:=(zqp t.f1 (ri t.f2 i)).f2=true∧(∀ j,i+1≤j→j<t.f2.length→(zqp t.f1 (ri t.f2 j)).f2=true)∧(∀ j,0≤j→j<t.f3.length→plc (rx t.f3 j).f1 (t.f1.length:Int))∧nms (t.f1.map (·.f0))∧nms (t.f3.map (·.f0))) (by rw [all_step hlt];exact⟨fun x=>⟨⟨x.1,x.2.1⟩,x.2.2⟩,fun x=>⟨x.1.1,x.1.2,x.2⟩⟩) ?_
    by_cases q:(zqp t.f1 (ri t.f2 i)).f2=true
    · simp only [if_pos q]
      exact Tells.iff ⟨fun x=>⟨q,x⟩,fun x=>x.2⟩ (fits_l1 t h hp d (i+1) (by omega) (by omega))
    · simp only [if_neg q]
      exact Tells.no (fun x=>q x.1)
theorem fits_l0 (t:S61) (h:okTab t) (hp:plc t.f2 (t.f1.length:Int)):∀ (d i:Nat),t.f1.length - i=d→i≤t.f1.length→Tells (fun k=>zjs.l0 k (t.f1.length:Int) t.f1 (t.f1.length:Int) (i:Int) t.f0 t.f1 t.f2 t.f3) ((∀ j,i≤j→j<t.f1.length→typ (rc t.f1 j))∧(∀ j,0≤j→j<t.f2.length→(zqp t.f1 (ri t.f2 j)).f2=true)∧(∀ j,0≤j→j<t.f3.length→plc (rx t.f3 j).f1 (t.f1.length:Int))∧nms (t.f1.map (·.f0))∧nms (t.f3.map (·.f0)))
  | 0,i,hd,hi=>by
    obtain rfl:i=t.f1.length:=by omega
    refine Tells.succ ?_
    simp only [zjs.l0,if_neg (show ¬ (t.f1.length:Int)<(t.f1.length:Int) by omega)]
    exact Tells.iff (by rw [all_end (Nat.le_refl t.f1.length)];simp) (fits_l1 t h hp _ 0 rfl (Nat.zero_le _))
  | d+1,i,hd,hi=>by
    have hlt:i<t.f1.length:=by omega
    have hL:=h.2.1.1
    refine Tells.succ ?_
    simp only [zjs.l0,if_pos (show(i:Int)<(t.f1.length:Int) by omega),if_pos (show(0:Int)≤(i:Int) by omega),up1 hlt (by omega)]
    show Tells (fun k=>if(rc t.f1 i).f1<1 then _ else if(rc t.f1 i).f1 > 3 then _ else _) _
    refine Tells.iff (P:=typ (rc t.f1 i)∧(∀ j,i+1≤j→j<t.f1.length→typ (rc t.f1 j))∧(∀ j,0≤j→j<t.f2.length→(zqp t.f1 (ri t.f2 j)).f2=true)∧(∀ j,0≤j→j<t.f3.length→plc (rx t.f3 j).f1 (t.f1.length:Int))∧nms (t.f1.map (·.f0))∧nms (t.f3.map (·.f0))) (by rw [all_step hlt];exact⟨fun x=>⟨⟨x.1,x.2.1⟩,x.2.2⟩,fun x=>⟨x.1.1,x.1.2,x.2⟩⟩) ?_
    by_cases q1:(rc t.f1 i).f1<1
    · simp only [if_pos q1];exact Tells.no (fun x=>by have:=x.1.1;omega)
    by_cases q2:(rc t.f1 i).f1 > 3
    · simp only [if_neg q1,if_pos q2];exact Tells.no (fun x=>by have:=x.1.2;omega)
    simp only [if_neg q1,if_neg q2]
    exact Tells.iff ⟨fun x=>⟨⟨by omega,by omega⟩,x⟩,fun x=>x.2⟩ (fits_l0 t h hp d (i+1) (by omega) (by omega))
theorem fits_law (t:S61) (h:okTab t):Tells (fun k=>zjs.f k t.f0 t.f1 t.f2 t.f3) (fit t):=by
  have no:∀ P:Prop,¬ P→Tells (fun k=>zjs.j0 k (t.f1.length:Int) true t.f0 t.f1 t.f2 t.f3) P:=fun P hP=>by
    refine Tells.succ ?_
    simp only [zjs.j0,if_true]
    exact Tells.no hP
  unfold zjs.f
  by_cases h1:(t.f1.length:Int)<1
  · simp only [if_pos h1];exact no _ (fun x=>by have:=x.1.1;omega)
  by_cases h2:(t.f1.length:Int) > 6
  · simp only [if_neg h1,if_pos h2];exact no _ (fun x=>by have:=x.1.2.1;omega)
  by_cases h3:(t.f3.length:Int) > 2
  · simp only [if_neg h1,if_neg h2,if_pos h3];exact no _ (fun x=>by have:=x.1.2.2;omega)
  simp only [if_neg h1,if_neg h2,if_neg h3]
  refine Tells.bind (places_law t.f2 _ h.2.2.1) (fun q=>?_) (fun q=>?_)
  · refine Tells.succ ?_
    simp only [zjs.j0,Bool.not_true,if_neg (show ¬ (false=true) by decide)]
    exact Tells.iff ⟨fun x=>⟨⟨by omega,by omega,by omega⟩,q,x⟩,fun x=>x.2.2⟩ (fits_l0 t h q _ 0 rfl (Nat.zero_le _))
  · simp only [Bool.not_false]
    exact no _ (fun x=>q x.2.1)
/-- A catalog that fits. -/
def cat (l:List S61):Prop:=l.length≤4∧(∀ j,0≤j→j<l.length→fit (rt l j))∧nms (l.map (·.f0))
theorem Fits_from (l:List S61) (h:∀ t ∈ l,okTab t) (hl:l.length≤4):∀ (d i:Nat),l.length - i=d→i≤l.length→Tells (fun k=>zj0.l0 k l l (l.length:Int) (i:Int)) ((∀ j,i≤j→j<l.length→fit (rt l j))∧nms (l.map (·.f0)))
  | 0,i,hd,hi=>by
    obtain rfl:i=l.length:=by omega
    have ho:okTexts (l.map (·.f0)):=⟨by rw [List.length_map];omega,fun x hx=>by obtain ⟨c,hc,rfl⟩:=List.mem_map.1 hx;exact(h c hc).1⟩
    have hn:zx1.f l=some (l.map (·.f0)):=by unfold zx1.f;rw [if_pos (by omega)]
    refine Tells.succ ?_
    simp only [zj0.l0,if_neg (show ¬ (l.length:Int)<(l.length:Int) by omega),hn,Option.bind_some]
    refine Tells.iff (P:=nms (l.map (·.f0))) (by rw [all_end (Nat.le_refl _)];simp) ?_
    exact Tells.bind (named_law _ ho) (fun q=>Tells.yes q) (fun q=>Tells.no q)
  | d+1,i,hd,hi=>by
    have hlt:i<l.length:=by omega
    refine Tells.succ ?_
    simp only [zj0.l0,if_pos (show(i:Int)<(l.length:Int) by omega),if_pos (show(0:Int)≤(i:Int) by omega),up1 hlt (by omega)]
    refine Tells.iff (P:=fit (rt l i)∧(∀ j,i+1≤j→j<l.length→fit (rt l j))∧nms (l.map (·.f0))) (by rw [all_step hlt];exact⟨fun x=>⟨⟨x.1,x.2.1⟩,x.2.2⟩,fun x=>⟨x.1.1,x.1.2,x.2⟩⟩) ?_
    have hs:okTab (rt l i):=by rw [rt_at _ i hlt];exact h _ (List.getElem_mem hlt)
    refine Tells.bind (fits_law _ hs) (fun q=>?_) (fun q=>?_)
    · simp only [if_true]
      exact Tells.iff ⟨fun x=>⟨q,x⟩,fun x=>x.2⟩ (Fits_from l h hl d (i+1) (by omega) (by omega))
    · simp only [if_neg (show ¬ (false=true) by decide)]
      exact Tells.no (fun x=>q x.1)
theorem Fits_law (l:List S61) (h:∀ t ∈ l,okTab t):Tells (fun k=>zj0.f k l) (cat l):=by
  unfold zj0.f cat
  by_cases h4:(l.length:Int) > 4
  · simp only [if_pos h4];exact Tells.no (fun x=>by have:=x.1;omega)
  simp only [if_neg h4]
  exact Tells.iff ⟨fun x=>⟨by omega,x⟩,fun x=>x.2⟩ (Fits_from l h (by omega) _ 0 rfl (Nat.zero_le _))
/-! ### The reference -/
theorem idx_in (t:S61) (h:okTab t) (i:Nat) (hi:i<t.f3.length) (Q:Prop) (hq:Tells (fun k=>zjb.l3 k (t.f1.length:Int) t.f3 (t.f3.length:Int) ((i+1:Nat):Int) t.f0 t.f1 t.f2 t.f3) Q) (y:List Int):∀ (d m:Nat),i - m=d→m≤i→Tells (fun k=>zjb.l4 k (t.f1.length:Int) (i:Int) (m:Int) t.f3 (t.f3.length:Int) (i:Int) t.f0 t.f1 t.f2 t.f3 (rx t.f3 i).f0 y) ((∀ j,m≤j→j<i→(rx t.f3 j).f0≠(rx t.f3 i).f0)∧Q)
  | 0,m,hd,hm=>by
    obtain rfl:m=i:=by omega
    have hL:=h.2.2.2.1
    refine Tells.succ ?_
    simp only [zjb.l4,if_neg (show ¬ (m:Int)<(m:Int) by omega),up1 hi (by omega)]
    exact Tells.iff (by rw [all_end (Nat.le_refl _)];simp) hq
  | d+1,m,hd,hm=>by
    have hlt:m<i:=by omega
    have hL:=h.2.2.2.1
    refine Tells.succ ?_
    simp only [zjb.l4,if_pos (show(m:Int)<(i:Int) by omega),if_pos (show(0:Int)≤(m:Int) by omega),if_pos (show(m:Int)<(t.f3.length:Int) by omega),up1 (show m<t.f3.length by omega) (by omega),toL]
    refine Tells.iff (P:=(rx t.f3 m).f0≠(rx t.f3 i).f0∧(∀ j,m+1≤j→j<i→(rx t.f3 j).f0≠(rx t.f3 i).f0)∧Q) (by rw [all_step hlt];exact⟨fun x=>⟨⟨x.1,x.2.1⟩,x.2.2⟩,fun x=>⟨x.1.1,x.1.2,x.2⟩⟩) ?_
    show Tells (fun k=>if(rx t.f3 m).f0=(rx t.f3 i).f0 then _ else _) _
    by_cases h1:(rx t.f3 m).f0=(rx t.f3 i).f0
    · simp only [if_pos h1];exact Tells.no (fun x=>x.1 h1)
    · simp only [if_neg h1]
      exact Tells.iff ⟨fun x=>⟨h1,x⟩,fun x=>x.2⟩ (idx_in t h i hi Q hq y d (m+1) (by omega) (by omega))
theorem idx_from (t:S61) (h:okTab t):∀ (d i:Nat),t.f3.length - i=d→i≤t.f3.length→Tells (fun k=>zjb.l3 k (t.f1.length:Int) t.f3 (t.f3.length:Int) (i:Int) t.f0 t.f1 t.f2 t.f3) (∀ j,i≤j→j<t.f3.length→(nameB (rx t.f3 j).f0=true∧plc (rx t.f3 j).f1 (t.f1.length:Int)) ∧ ∀ m,0≤m→m<j→(rx t.f3 m).f0≠(rx t.f3 j).f0)
  | 0,i,hd,hi=>by
    obtain rfl:i=t.f3.length:=by omega
    refine Tells.succ ?_
    simp only [zjb.l3,if_neg (show ¬ (t.f3.length:Int)<(t.f3.length:Int) by omega)]
    exact Tells.yes (fun j h1 h2=>by omega)
  | d+1,i,hd,hi=>by
    have hlt:i<t.f3.length:=by omega
    have hx:okIdx (rx t.f3 i):=by rw [rx_at _ i hlt];exact h.2.2.2.2 _ (List.getElem_mem hlt)
    refine Tells.succ ?_
    simp only [zjb.l3,if_pos (show(i:Int)<(t.f3.length:Int) by omega),if_pos (show(0:Int)≤(i:Int) by omega)]
    refine Tells.iff (all_step hlt).symm ?_
    refine Tells.bind (Tells.of (refnm_law (rx t.f3 i).f0 hx.1)) (fun q=>?_) (fun q=>?_)
    · simp only [if_true]
      refine Tells.bind (may_law (rx t.f3 i).f1 _ hx.2.1) (fun q2=>?_) (fun q2=>?_)
      · refine Tells.succ ?_
        simp only [zjb.j6,Bool.not_true,if_neg (show ¬ (false=true) by decide)]
        exact Tells.iff ⟨fun x=>⟨⟨⟨q,q2⟩,x.1⟩,x.2⟩,fun x=>⟨x.1.2,x.2⟩⟩ (idx_in t h i hlt _ (idx_from t h d (i+1) (by omega) (by omega)) _ _ 0 rfl (Nat.zero_le _))
      · refine Tells.succ ?_
        simp only [zjb.j6,Bool.not_false,if_true]
        exact Tells.no (fun x=>q2 x.1.1.2)
    · simp only [if_neg (show ¬ (false=true) by decide)]
      refine Tells.succ ?_
      simp only [zjb.j6,if_true]
      exact Tells.no (fun x=>q x.1.1.1)
theorem key_from (t:S61) (h:okTab t) (hp:plc t.f2 (t.f1.length:Int)):∀ (d i:Nat),t.f2.length - i=d→i≤t.f2.length→Tells (fun k=>zjb.l2 k (t.f1.length:Int) (i:Int) t.f0 t.f1 t.f2 t.f3) ((∀ j,i≤j→j<t.f2.length→(zqp t.f1 (ri t.f2 j)).f2=true)∧(∀ j,0≤j→j<t.f3.length→(nameB (rx t.f3 j).f0=true∧plc (rx t.f3 j).f1 (t.f1.length:Int)) ∧ ∀ m,0≤m→m<j→(rx t.f3 m).f0≠(rx t.f3 j).f0))
  | 0,i,hd,hi=>by
    obtain rfl:i=t.f2.length:=by omega
    refine Tells.succ ?_
    simp only [zjb.l2,if_neg (show ¬ (t.f2.length:Int)<(t.f2.length:Int) by omega)]
    exact Tells.iff (by rw [all_end (Nat.le_refl t.f2.length)];simp) (idx_from t h _ 0 rfl (Nat.zero_le _))
  | d+1,i,hd,hi=>by
    have hlt:i<t.f2.length:=by omega
    have hL:=h.2.2.1.1
    obtain ⟨p0,p1⟩:=hp.1 i (Nat.zero_le _) hlt
    refine Tells.succ ?_
    simp only [zjb.l2,if_pos (show(i:Int)<(t.f2.length:Int) by omega),if_pos (show(0:Int)≤(i:Int) by omega),up1 hlt hL]
    show Tells (fun k=>if 0≤ri t.f2 i then if ri t.f2 i<(t.f1.length:Int) then if(zqp t.f1 (ri t.f2 i)).f2=true then _ else _ else _ else _) _
    simp only [if_pos p0,if_pos p1]
    refine Tells.iff (P:=(zqp t.f1 (ri t.f2 i)).f2=true∧(∀ j,i+1≤j→j<t.f2.length→(zqp t.f1 (ri t.f2 j)).f2=true)∧(∀ j,0≤j→j<t.f3.length→(nameB (rx t.f3 j).f0=true∧plc (rx t.f3 j).f1 (t.f1.length:Int)) ∧ ∀ m,0≤m→m<j→(rx t.f3 m).f0≠(rx t.f3 j).f0)) (by rw [all_step hlt];exact⟨fun x=>⟨⟨x.1,x.2.1⟩,x.2.2⟩,fun x=>⟨x.1.1,x.1.2,x.2⟩⟩) ?_
    by_cases q:(zqp t.f1 (ri t.f2 i)).f2=true
    · simp only [if_pos q]
      exact Tells.iff ⟨fun x=>⟨q,x⟩,fun x=>x.2⟩ (key_from t h hp d (i+1) (by omega) (by omega))
    · simp only [if_neg q]
      exact Tells.no (fun x=>q x.1)
def rest (t:S61):Prop:=plc t.f2 (t.f1.length:Int)∧(∀ j,0≤j→j<t.f2.length→(zqp t.f1 (ri t.f2 j)).f2=true)∧(∀ j,0≤j→j<t.f3.length→(nameB (rx t.f3 j).f0=true∧plc (rx t.f3 j).f1 (t.f1.length:Int)) ∧ ∀ m,0≤m→m<j→(rx t.f3 m).f0≠(rx t.f3 j).f0)
theorem col_in (t:S61) (h:okTab t) (i:Nat) (hi:i<t.f1.length) (Q:Prop) (hq:Tells (fun k=>zjb.l0 k (t.f1.length:Int) t.f1 (t.f1.length:Int) ((i+1:Nat):Int) t.f0 t.f1 t.f2 t.f3) Q) (y:Int) (z:Bool):∀ (d m:Nat),i - m=d→m≤i→Tells (fun k=>zjb.l1 k (t.f1.length:Int) (i:Int) (m:Int) t.f1 (t.f1.length:Int) (i:Int) t.f0 t.f1 t.f2 t.f3 (rc t.f1 i).f0 y z) ((∀ j,m≤j→j<i→(rc t.f1 j).f0≠(rc t.f1 i).f0)∧Q)
  | 0,m,hd,hm=>by
    obtain rfl:m=i:=by omega
    have hL:=h.2.1.1
    refine Tells.succ ?_
    simp only [zjb.l1,if_neg (show ¬ (m:Int)<(m:Int) by omega),up1 hi (by omega)]
    exact Tells.iff (by rw [all_end (Nat.le_refl _)];simp) hq
  | d+1,m,hd,hm=>by
    have hlt:m<i:=by omega
    have hL:=h.2.1.1
    refine Tells.succ ?_
    simp only [zjb.l1,if_pos (show(m:Int)<(i:Int) by omega),if_pos (show(0:Int)≤(m:Int) by omega),if_pos (show(m:Int)<(t.f1.length:Int) by omega),up1 (show m<t.f1.length by omega) (by omega),toL]
    refine Tells.iff (P:=(rc t.f1 m).f0≠(rc t.f1 i).f0∧(∀ j,m+1≤j→j<i→(rc t.f1 j).f0≠(rc t.f1 i).f0)∧Q) (by rw [all_step hlt];exact⟨fun x=>⟨⟨x.1,x.2.1⟩,x.2.2⟩,fun x=>⟨x.1.1,x.1.2,x.2⟩⟩) ?_
    show Tells (fun k=>if(rc t.f1 m).f0=(rc t.f1 i).f0 then _ else _) _
    by_cases h1:(rc t.f1 m).f0=(rc t.f1 i).f0
    · simp only [if_pos h1];exact Tells.no (fun x=>x.1 h1)
    · simp only [if_neg h1]
      exact Tells.iff ⟨fun x=>⟨h1,x⟩,fun x=>x.2⟩ (col_in t h i hi Q hq y z d (m+1) (by omega) (by omega))
theorem col_from (t:S61) (h:okTab t):∀ (d i:Nat),t.f1.length - i=d→i≤t.f1.length→Tells (fun k=>zjb.l0 k (t.f1.length:Int) t.f1 (t.f1.length:Int) (i:Int) t.f0 t.f1 t.f2 t.f3) ((∀ j,i≤j→j<t.f1.length→(nameB (rc t.f1 j).f0=true∧typ (rc t.f1 j)) ∧ ∀ m,0≤m→m<j→(rc t.f1 m).f0≠(rc t.f1 j).f0)∧rest t)
  | 0,i,hd,hi=>by
    obtain rfl:i=t.f1.length:=by omega
    refine Tells.succ ?_
    simp only [zjb.l0,if_neg (show ¬ (t.f1.length:Int)<(t.f1.length:Int) by omega)]
    refine Tells.iff (P:=rest t) (by rw [all_end (Nat.le_refl t.f1.length)];simp) ?_
    refine Tells.bind (may_law t.f2 _ h.2.2.1.1) (fun q=>?_) (fun q=>?_)
    · simp only [if_true]
      exact Tells.iff ⟨fun x=>⟨q,x⟩,fun x=>x.2⟩ (key_from t h q _ 0 rfl (Nat.zero_le _))
    · simp only [if_neg (show ¬ (false=true) by decide)]
      exact Tells.no (fun x=>q x.1)
  | d+1,i,hd,hi=>by
    have hlt:i<t.f1.length:=by omega
    have hx:okCol (rc t.f1 i):=by rw [rc_at _ i hlt];exact h.2.1.2 _ (List.getElem_mem hlt)
    refine Tells.succ ?_
    simp only [zjb.l0,if_pos (show(i:Int)<(t.f1.length:Int) by omega),if_pos (show(0:Int)≤(i:Int) by omega)]
    refine Tells.iff (P:=((nameB (rc t.f1 i).f0=true∧typ (rc t.f1 i)) ∧ ∀ m,0≤m→m<i→(rc t.f1 m).f0≠(rc t.f1 i).f0)∧(∀ j,i+1≤j→j<t.f1.length→(nameB (rc t.f1 j).f0=true∧typ (rc t.f1 j)) ∧ ∀ m,0≤m→m<j→(rc t.f1 m).f0≠(rc t.f1 j).f0)∧rest t) (by rw [all_step hlt];exact⟨fun x=>⟨⟨x.1,x.2.1⟩,x.2.2⟩,fun x=>⟨x.1.1,x.1.2,x.2⟩⟩) ?_
    have go:∀ (q:nameB (rc t.f1 i).f0=true) (q1:typ (rc t.f1 i)),Tells (fun k=>zjb.j2 k (t.f1.length:Int) (i:Int) t.f1 (t.f1.length:Int) (i:Int) false t.f0 t.f1 t.f2 t.f3 (rc t.f1 i).f0 (rc t.f1 i).f1 (rc t.f1 i).f2) (((nameB (rc t.f1 i).f0=true∧typ (rc t.f1 i)) ∧ ∀ m,0≤m→m<i→(rc t.f1 m).f0≠(rc t.f1 i).f0)∧(∀ j,i+1≤j→j<t.f1.length→(nameB (rc t.f1 j).f0=true∧typ (rc t.f1 j)) ∧ ∀ m,0≤m→m<j→(rc t.f1 m).f0≠(rc t.f1 j).f0)∧rest t):=fun q q1=>by
      refine Tells.succ ?_
      simp only [zjb.j2,if_neg (show ¬ (false=true) by decide)]
      exact Tells.iff ⟨fun x=>⟨⟨⟨q,q1⟩,x.1⟩,x.2⟩,fun x=>⟨x.1.2,x.2⟩⟩ (col_in t h i hlt _ (col_from t h d (i+1) (by omega) (by omega)) _ _ _ 0 rfl (Nat.zero_le _))
    have no:∀ P:Prop,¬ P→Tells (fun k=>zjb.j2 k (t.f1.length:Int) (i:Int) t.f1 (t.f1.length:Int) (i:Int) true t.f0 t.f1 t.f2 t.f3 (rc t.f1 i).f0 (rc t.f1 i).f1 (rc t.f1 i).f2) P:=fun P hP=>by
      refine Tells.succ ?_
      simp only [zjb.j2,if_true]
      exact Tells.no hP
    refine Tells.bind (Tells.of (refnm_law (rc t.f1 i).f0 hx)) (fun q=>?_) (fun q=>?_)
    · simp only [if_true]
      show Tells (fun k=>if(rc t.f1 i).f1=1 then _ else if(rc t.f1 i).f1=2 then _ else zjb.j2 k _ _ _ _ _ ((rc t.f1 i).f1 != 3) _ _ _ _ _ _ _) _
      by_cases e1:(rc t.f1 i).f1=1
      · simp only [if_pos e1];exact go q ⟨by omega,by omega⟩
      by_cases e2:(rc t.f1 i).f1=2
      · simp only [if_neg e1,if_pos e2];exact go q ⟨by omega,by omega⟩
      by_cases e3:(rc t.f1 i).f1=3
      · simp only [if_neg e1,if_neg e2,show((rc t.f1 i).f1 != 3)=false from by simpa using e3];exact go q ⟨by omega,by omega⟩
      · simp only [if_neg e1,if_neg e2,show((rc t.f1 i).f1 != 3)=true from by simpa using e3]
        exact no _ (fun x=>by have h1:=x.1.1.2.1;have h2:=x.1.1.2.2;omega)
    · simp only [if_neg (show ¬ (false=true) by decide)]
      exact no _ (fun x=>q x.1.1.1)
theorem Table_law (t:S61) (h:okTab t):Tells (fun k=>zjb.f k t.f0 t.f1 t.f2 t.f3) (nameB t.f0=true∧fit t):=by
  have no:∀ P:Prop,¬ P→Tells (fun k=>zjb.j0 k (t.f1.length:Int) true t.f0 t.f1 t.f2 t.f3) P:=fun P hP=>by
    refine Tells.succ ?_
    simp only [zjb.j0,if_true]
    exact Tells.no hP
  unfold zjb.f
  refine Tells.bind (Tells.of (refnm_law t.f0 h.1)) (fun q=>?_) (fun q=>?_)
  rotate_left
  · simp only [if_neg (show ¬ (false=true) by decide)]
    exact no _ (fun x=>q x.1)
  simp only [if_true]
  by_cases h1:(t.f1.length:Int)=0
  · simp only [if_pos h1];exact no _ (fun x=>by have:=x.2.1.1;omega)
  by_cases h2:(t.f1.length:Int) > 6
  · simp only [if_neg h1,if_pos h2];exact no _ (fun x=>by have:=x.2.1.2.1;omega)
  simp only [if_neg h1,if_neg h2]
  refine Tells.succ ?_
  simp only [zjb.j0]
  by_cases h3:(t.f3.length:Int) > 2
  · simp only [decide_eq_true h3,if_true];exact Tells.no (fun x=>by have:=x.2.1.2.2;omega)
  simp only [decide_eq_false h3,if_neg (show ¬ (false=true) by decide)]
  refine Tells.iff ?_ (col_from t h _ 0 rfl (Nat.zero_le _))
  have mc:∀ j,j<t.f1.length→rn (t.f1.map (·.f0)) j=(rc t.f1 j).f0:=fun j hj=>by rw [rn_at _ j (by rw [List.length_map];exact hj),rc_at _ j hj];simp
  have mx:∀ j,j<t.f3.length→rn (t.f3.map (·.f0)) j=(rx t.f3 j).f0:=fun j hj=>by rw [rn_at _ j (by rw [List.length_map];exact hj),rx_at _ j hj];simp
  unfold rest fit nms
  rw [nodup_at (rdx:=rn) (rn_at _),nodup_at (rdx:=rn) (rn_at _)]
  simp only [List.length_map]
  constructor
  · intro x
    refine⟨q,⟨by omega,by omega,by omega⟩,x.2.1,fun j a b=>(x.1 j a b).1.2,x.2.2.1,fun j a b=>(x.2.2.2 j a b).1.2,⟨fun j a b=>by rw [mc j b];exact(x.1 j a b).1.1,fun j a b m hm=>by rw [mc j b,mc m (by omega)];exact(x.1 j a b).2 m (Nat.zero_le _) hm⟩,fun j a b=>by rw [mx j b];exact(x.2.2.2 j a b).1.1,fun j a b m hm=>by rw [mx j b,mx m (by omega)];exact(x.2.2.2 j a b).2 m (Nat.zero_le _) hm⟩
  · rintro ⟨_,_,x2,x3,x4,x5,⟨x6,x7⟩,x8,x9⟩
    refine⟨fun j a b=>⟨⟨by rw [← mc j b];exact x6 j a b,x3 j a b⟩,fun m _ hm=>by rw [← mc j b, ← mc m (by omega)];exact x7 j a b m hm⟩,x2,x4,fun j a b=>⟨⟨by rw [← mx j b];exact x8 j a b,x5 j a b⟩,fun m _ hm=>by rw [← mx j b, ← mx m (by omega)];exact x9 j a b m hm⟩⟩
theorem cat_in (l:List S61) (hL:l.length≤4) (i:Nat) (hi:i<l.length) (Q:Prop) (hq:Tells (fun k=>zjk.l0 k l ((i+1:Nat):Int)) Q):∀ (d m:Nat),i - m=d→m≤i→Tells (fun k=>zjk.l1 k l (i:Int) (m:Int)) ((∀ j,m≤j→j<i→(rt l j).f0≠(rt l i).f0)∧Q)
  | 0,m,hd,hm=>by
    obtain rfl:m=i:=by omega
    refine Tells.succ ?_
    simp only [zjk.l1,if_neg (show ¬ (m:Int)<(m:Int) by omega),up1 hi (by omega)]
    exact Tells.iff (by rw [all_end (Nat.le_refl _)];simp) hq
  | d+1,m,hd,hm=>by
    have hlt:m<i:=by omega
    refine Tells.succ ?_
    simp only [zjk.l1,if_pos (show(m:Int)<(i:Int) by omega),if_pos (show(0:Int)≤(m:Int) by omega),if_pos (show(m:Int)<(l.length:Int) by omega),if_pos (show(0:Int)≤(i:Int) by omega),if_pos (show(i:Int)<(l.length:Int) by omega),up1 (show m<l.length by omega) (by omega),toL]
    refine Tells.iff (P:=(rt l m).f0≠(rt l i).f0∧(∀ j,m+1≤j→j<i→(rt l j).f0≠(rt l i).f0)∧Q) (by rw [all_step hlt];exact⟨fun x=>⟨⟨x.1,x.2.1⟩,x.2.2⟩,fun x=>⟨x.1.1,x.1.2,x.2⟩⟩) ?_
    show Tells (fun k=>if(rt l m).f0=(rt l i).f0 then _ else _) _
    by_cases h1:(rt l m).f0=(rt l i).f0
    · simp only [if_pos h1];exact Tells.no (fun x=>x.1 h1)
    · simp only [if_neg h1]
      exact Tells.iff ⟨fun x=>⟨h1,x⟩,fun x=>x.2⟩ (cat_in l hL i hi Q hq d (m+1) (by omega) (by omega))
theorem cat_from (l:List S61) (h:∀ t ∈ l,okTab t) (hL:l.length≤4):∀ (d i:Nat),l.length - i=d→i≤l.length→Tells (fun k=>zjk.l0 k l (i:Int)) (∀ j,i≤j→j<l.length→(nameB (rt l j).f0=true∧fit (rt l j)) ∧ ∀ m,0≤m→m<j→(rt l m).f0≠(rt l j).f0)
  | 0,i,hd,hi=>by
    obtain rfl:i=l.length:=by omega
    refine Tells.succ ?_
    simp only [zjk.l0,if_neg (show ¬ (l.length:Int)<(l.length:Int) by omega)]
    exact Tells.yes (fun j h1 h2=>by omega)
  | d+1,i,hd,hi=>by
    have hlt:i<l.length:=by omega
    have hs:okTab (rt l i):=by rw [rt_at _ i hlt];exact h _ (List.getElem_mem hlt)
    refine Tells.succ ?_
    simp only [zjk.l0,if_pos (show(i:Int)<(l.length:Int) by omega),if_pos (show(0:Int)≤(i:Int) by omega)]
    refine Tells.iff (all_step hlt).symm ?_
    refine Tells.bind (Table_law _ hs) (fun q=>?_) (fun q=>?_)
    · simp only [if_true]
      exact Tells.iff ⟨fun x=>⟨⟨q,x.1⟩,x.2⟩,fun x=>⟨x.1.2,x.2⟩⟩ (cat_in l hL i hlt _ (cat_from l h hL d (i+1) (by omega) (by omega)) _ 0 rfl (Nat.zero_le _))
    · simp only [if_neg (show ¬ (false=true) by decide)]
      exact Tells.no (fun x=>q x.1.1)
theorem Cat_law (l:List S61) (h:∀ t ∈ l,okTab t):Tells (fun k=>zjk.f k l) (cat l):=by
  unfold zjk.f
  by_cases h4:(l.length:Int) > 4
  · simp only [if_pos h4];exact Tells.no (fun x=>by have:=x.1;omega)
  simp only [if_neg h4]
  refine Tells.iff ?_ (cat_from l h (by omega) _ 0 rfl (Nat.zero_le _))
  have mc:∀ j,j<l.length→rn (l.map (·.f0)) j=(rt l j).f0:=fun j hj=>by rw [rn_at _ j (by rw [List.length_map];exact hj),rt_at _ j hj];simp
  unfold cat nms
  rw [nodup_at (rdx:=rn) (rn_at _)]
  simp only [List.length_map]
  constructor
  · intro x
    exact⟨by omega,fun j a b=>(x j a b).1.2,fun j a b=>by rw [mc j b];exact(x j a b).1.1,fun j a b m hm=>by rw [mc j b,mc m (by omega)];exact(x j a b).2 m (Nat.zero_le _) hm⟩
  · rintro ⟨_,x1,x2,x3⟩ j a b
    exact⟨⟨by rw [← mc j b];exact x2 j a b,x1 j a b⟩,fun m _ hm=>by rw [← mc j b, ← mc m (by omega)];exact x3 j a b m hm⟩
theorem or_one (x:Int) (h : -9223372036854775808≤x∧x≤9223372036854775807):Go.bits .or .i64 x 1=1 ↔ (x=0∨x=1):=by
  have key:Go.bits .or .i64 x 1=IntKind.i64.wrap (((x % 18446744073709551616).toNat ||| 1:Nat):Int):=by
    show IntKind.i64.wrap ((BitVec.ofInt 64 x ||| BitVec.ofInt 64 1).toNat:Int)=_
    rw [BitVec.toNat_or,BitVec.toNat_ofInt,BitVec.toNat_ofInt]
    rfl
  rw [key,IntKind.wrap_i64]
  obtain ⟨a,ha⟩:∃ a,(x % 18446744073709551616).toNat=a:=⟨_,rfl⟩
  rw [ha]
  have hlt:a ||| 1<2 ^ 64:=Nat.or_lt_two_pow (by omega) (by omega)
  have hle:a≤a ||| 1:=Nat.left_le_or
  constructor
  · intro h1
    have:(a ||| 1)=1:=by omega
    omega
  · rintro (rfl|rfl)
    · have:a=0:=by omega
      subst this;decide
    · have:a=1:=by omega
      subst this;decide
/-- What is the matter with a value? -/
def fault (K I:Int) (T:ByteArray):Int:=
  if K<0∨3<K then 3 else if 40<T.size then 1
  else if(K=0∧I=0∧T.toList = [])∨(K=1∧(I=0∨I=1)∧T.toList = [])∨(K=2∧T.toList = [])∨(K=3∧I=0∧Lib.validD T.data.toList=true) then 0 else 4
theorem check_law (K I:Int) (T:ByteArray) (hI : -9223372036854775808≤I∧I≤9223372036854775807):Big (fun k=>zjz.f k K I T) (fault K I T):=by
  have ho:=or_one I hI
  simp only [zjz.f]
  unfold fault
  by_cases h0:K<0
  · simp only [if_pos h0]
    refine Big.succ ?_
    simp only [zjz.j0,if_true]
    exact(Big.of 3).cast (by rw [if_pos (.inl h0)])
  simp only [if_neg h0]
  refine Big.succ ?_
  by_cases h3:K > 3
  · simp only [zjz.j0,decide_eq_true h3,if_true]
    exact(Big.of 3).cast (by rw [if_pos (.inr h3)])
  simp only [zjz.j0,decide_eq_false h3,if_neg (show ¬ (false=true) by decide)]
  rw [if_neg (show ¬ (K<0∨3<K) by omega)]
  by_cases h40:(T.size:Int) > 40
  · simp only [if_pos h40]
    exact(Big.of 1).cast (by rw [if_pos (by omega)])
  simp only [if_neg h40]
  rw [if_neg (show ¬ 40<T.size by omega)]
  by_cases k0:K=0
  · simp only [if_pos k0]
    by_cases hz:(K == 0 && (I == 0 && (T.toList == ([]:List UInt8))))=true
    · simp only [if_pos hz]
      refine(Big.of 0).cast ?_
      simp only [Bool.and_eq_true,beq_iff_eq] at hz
      rw [if_pos (.inl hz)]
    · simp only [if_neg hz]
      refine(Big.of 4).cast ?_
      simp only [Bool.and_eq_true,beq_iff_eq] at hz
      rw [if_neg]
      rintro (h|⟨h,_⟩|⟨h,_⟩|⟨h,_⟩)
      · exact hz h
      all_goals omega
  simp only [if_neg k0]
  by_cases k1:K=1
  · simp only [if_pos k1]
    by_cases hb:Go.bits .or .i64 I 1=1
    · simp only [if_pos hb]
      by_cases ht:T.toList = []
      · simp only [if_pos ht]
        exact(Big.of 0).cast (by rw [if_pos (.inr (.inl ⟨k1,ho.1 hb,ht⟩))])
      · simp only [if_neg ht]
        refine(Big.of 4).cast ?_
        rw [if_neg]
        rintro (⟨_,_,h⟩|⟨_,_,h⟩|⟨_,h⟩|⟨h,_⟩)
        · exact ht h
        · exact ht h
        · exact ht h
        · omega
    · simp only [if_neg hb]
      refine(Big.of 4).cast ?_
      rw [if_neg]
      rintro (⟨h,_⟩|⟨_,h,_⟩|⟨h,_⟩|⟨h,_⟩)
      · exact k0 h
      · exact hb (ho.2 h)
      · omega
      · omega
  simp only [if_neg k1]
  by_cases k2:K=2
  · simp only [if_pos k2]
    by_cases ht:T.toList = []
    · simp only [if_pos ht]
      exact(Big.of 0).cast (by rw [if_pos (.inr (.inr (.inl ⟨k2,ht⟩)))])
    · simp only [if_neg ht]
      refine(Big.of 4).cast ?_
      rw [if_neg]
      rintro (⟨_,_,h⟩|⟨_,_,h⟩|⟨_,h⟩|⟨h,_⟩)
      · exact ht h
      · exact ht h
      · exact ht h
      · omega
  have k3:K=3:=by omega
  simp only [if_neg k2,if_pos k3]
  by_cases i0:I=0
  · simp only [if_pos i0]
    refine Big.bind1 (r:=Lib.validD T.data.toList) (by unfold utf8_ValidString.f;rw [if_pos (by omega)]) ?_
    by_cases hv:Lib.validD T.data.toList=true
    · simp only [if_pos hv]
      exact(Big.of 0).cast (by rw [if_pos (.inr (.inr (.inr ⟨k3,i0,hv⟩)))])
    · simp only [if_neg hv]
      refine(Big.of 4).cast ?_
      rw [if_neg]
      rintro (⟨h,_⟩|⟨h,_⟩|⟨h,_⟩|⟨_,_,h⟩)
      · omega
      · omega
      · omega
      · exact hv h
  · simp only [if_neg i0]
    refine(Big.of 4).cast ?_
    rw [if_neg]
    rintro (⟨h,_⟩|⟨h,_⟩|⟨h,_⟩|⟨_,h,_⟩)
    · omega
    · omega
    · omega
    · exact i0 h
theorem fault_j1 (K I:Int) (T:ByteArray) (b:Bool) (hb:b=true ↔ ((K≠3∧T.toList ≠ [])∨((K=0∨K=3)∧I≠0))) (hK:0≤K∧K≤3) (h40:T.size≤40) :
    Big (fun k=>zjh.j1 k b K I T) (fault K I T):=by
  unfold fault
  rw [if_neg (show ¬ (K<0∨3<K) by omega),if_neg (show ¬ 40<T.size by omega)]
  refine Big.succ ?_
  simp only [zjh.j1]
  have sg:Big (fun k=>(zjo.f k T).bind fun t=>if t=true then some (0:Int) else some 4) (if Lib.validD T.data.toList=true then 0 else 4):=by
    refine Big.bind (signs_f T (by omega)) ?_
    by_cases hv:Lib.validD T.data.toList=true
    · simp only [if_pos hv];exact Big.of _
    · simp only [if_neg hv];exact Big.of _
  cases b with
  | true=>
    have hb:=hb.1 rfl
    simp only [if_true]
    refine(Big.of 4).cast ?_
    rw [if_neg]
    rintro (⟨h,hi,ht⟩|⟨h,_,ht⟩|⟨h,ht⟩|⟨h,hi,_⟩)
    · rcases hb with ⟨_,h2⟩|⟨_,h2⟩
      · exact h2 ht
      · exact h2 hi
    · rcases hb with ⟨_,h2⟩|⟨h2,_⟩
      · exact h2 ht
      · omega
    · rcases hb with ⟨_,h2⟩|⟨h2,_⟩
      · exact h2 ht
      · omega
    · rcases hb with ⟨h2,_⟩|⟨_,h2⟩
      · exact h2 h
      · exact h2 hi
  | false=>
    have hb:¬ ((K≠3∧T.toList ≠ [])∨((K=0∨K=3)∧I≠0)):=fun h=>by have:=hb.2 h;cases this
    simp only [not_or,not_and,Decidable.not_not] at hb
    obtain ⟨b1,b2⟩:=hb
    simp only [if_neg (show ¬ (false=true) by decide)]
    by_cases k1:K=1
    · have ht:T.toList = []:=b1 (by omega)
      simp only [if_pos k1,if_neg (show ¬ K=3 by omega)]
      by_cases i0:I=0
      · simp only [if_pos i0]
        exact(Big.of 0).cast (by rw [if_pos (.inr (.inl ⟨k1,.inl i0,ht⟩))])
      · by_cases i1:I=1
        · simp only [if_neg i0,if_pos i1]
          exact(Big.of 0).cast (by rw [if_pos (.inr (.inl ⟨k1,.inr i1,ht⟩))])
        · simp only [if_neg i0,if_neg i1]
          refine(Big.of 4).cast ?_
          rw [if_neg]
          rintro (⟨h,_⟩|⟨_,h,_⟩|⟨h,_⟩|⟨h,_⟩)
          · omega
          · rcases h with h|h
            · exact i0 h
            · exact i1 h
          · omega
          · omega
    · simp only [if_neg k1]
      by_cases k3:K=3
      · simp only [if_pos k3]
        refine sg.cast ?_
        have i0:=b2 (.inr k3)
        by_cases hv:Lib.validD T.data.toList=true
        · rw [if_pos hv,if_pos (.inr (.inr (.inr ⟨k3,i0,hv⟩)))]
        · rw [if_neg hv,if_neg]
          rintro (⟨h,_⟩|⟨h,_⟩|⟨h,_⟩|⟨_,_,h⟩)
          · omega
          · omega
          · omega
          · exact hv h
      · simp only [if_neg k3]
        have ht:T.toList = []:=b1 k3
        refine(Big.of 0).cast ?_
        rw [if_pos]
        by_cases k0:K=0
        · exact .inl ⟨k0,b2 (.inl k0),ht⟩
        · exact .inr (.inr (.inl ⟨by omega,ht⟩))
theorem fault_j0 (K I:Int) (T:ByteArray) (hK:0≤K∧K≤3):Big (fun k=>zjh.j0 k false K I T) (fault K I T):=by
  refine Big.succ ?_
  simp only [zjh.j0,if_neg (show ¬ (false=true) by decide)]
  by_cases h40:(T.size:Int) > 40
  · simp only [if_pos h40]
    refine(Big.of 1).cast ?_
    unfold fault
    rw [if_neg (show ¬ (K<0∨3<K) by omega),if_pos (by omega)]
  simp only [if_neg h40]
  by_cases k3:K=3
  · simp only [if_pos k3,if_neg (show ¬ K=0 by omega)]
    exact fault_j1 K I T _ (by simp [k3]) hK (by omega)
  · simp only [if_neg k3]
    by_cases ht:T.toList = []
    · simp only [if_pos ht]
      by_cases k0:K=0
      · simp only [if_pos k0]
        exact fault_j1 K I T _ (by simp [k0,ht]) hK (by omega)
      · simp only [if_neg k0]
        exact fault_j1 K I T _ (by simp [k0,k3,ht]) hK (by omega)
    · simp only [if_neg ht]
      exact fault_j1 K I T _ (by simp [k3,ht]) hK (by omega)
theorem fault_law (K I:Int) (T:ByteArray):Big (fun k=>zjh.f k K I T) (fault K I T):=by
  simp only [zjh.f]
  by_cases k0:K=0
  · simp only [if_pos k0]
    exact fault_j0 K I T (by omega)
  by_cases k1:K=1
  · simp only [if_neg k0,if_pos k1]
    exact fault_j0 K I T (by omega)
  by_cases k2:K=2
  · simp only [if_neg k0,if_neg k1,if_pos k2]
    exact fault_j0 K I T (by omega)
  simp only [if_neg k0,if_neg k1,if_neg k2]
  by_cases k3:K=3
  · have:(K != 3)=false:=by simp [k3]
    simp only [this]
    exact fault_j0 K I T (by omega)
  · have:(K != 3)=true:=by simp [k3]
    simp only [this]
    refine Big.succ ?_
    simp only [zjh.j0,if_true]
    refine(Big.of 3).cast ?_
    unfold fault
    rw [if_pos (by omega)]
theorem same_from (l:List Int) (hl:(l.length:Int)≤140737488355328) (d:Nat):∀ (k:Nat) (i:Int),0≤i→i≤l.length→(l.length:Int) - i=d→d<k→zjn.l0 k l l i=some true:=by
  induction d with
  | zero=>
    intro k i h0 h1 hd hk
    obtain ⟨k,rfl⟩:∃ m,k=m+1:=⟨k - 1,by omega⟩
    simp only [zjn.l0]
    rw [if_neg (by omega)]
  | succ d ih=>
    intro k i h0 h1 hd hk
    obtain ⟨k,rfl⟩:∃ m,k=m+1:=⟨k - 1,by omega⟩
    simp only [zjn.l0]
    rw [if_pos (show i<(l.length:Int) by omega),if_pos h0,if_pos (show i<(l.length:Int) by omega)]
    simp only [if_true]
    rw [show wrap64 (i+1)=i+1 from by unfold wrap64;omega]
    exact ih k (i+1) (by omega) (by omega) (by omega) (by omega)
theorem same_self (l:List Int) (hl:(l.length:Int)≤140737488355328):Big (fun k=>zjn.f k l l) true:=by
  refine⟨l.length+1,fun k hk=>?_⟩
  show(if(l.length:Int)=(l.length:Int) then _ else _)=some true
  rw [if_pos rfl]
  exact same_from l hl l.length k 0 (by omega) (by omega) (by omega) (by omega)
theorem esc_len (l:List Int):(zjp.esc l).length≤2 * l.length:=by
  induction l with
  | nil=>exact Nat.le_refl _
  | cons x r ih=>
    have e:zjp.esc (x :: r)=(if x=0 then [0,255] else [x]) ++ zjp.esc r:=by simp [zjp.esc]
    rw [e,List.length_append,List.length_cons]
    split <;> simp <;> omega
theorem enc_len (K I:Int) (T:ByteArray) (h:fault K I T=0):(zjp.enc K I T).length≤90:=by
  have hT:T.size≤40:=by
    unfold fault at h
    split at h
    · omega
    split at h
    · omega
    omega
  unfold zjp.enc
  split
  · simp
  split
  · simp
  split
  · rw [List.length_cons,zjp.zxm];omega
  · have:=esc_len (bytesOf T)
    rw [bytesOf_length] at this
    simp
    omega
/-- What is the matter with the first of the values that something is the matter with? -/
def bad:List S38→Int
  | []=>0
  | x :: r=>if fault x.f0 x.f1 x.f2=0 then bad r else fault x.f0 x.f1 x.f2
def keyOf (l:List S38):List Int × Int:=if(l.length:Int) > 14 then([],1) else if bad l=0 then(zjc.encs l,0) else ([],bad l)
theorem encs_len (l:List S38) (h:bad l=0):(zjc.encs l).length≤90 * l.length:=by
  induction l with
  | nil=>simp [zjc.encs]
  | cons x r ih=>
    unfold bad at h
    split at h
    · rename_i h0
      have:=enc_len _ _ _ h0
      have h2:=ih h
      have e:zjc.encs (x :: r)=zjp.enc x.f0 x.f1 x.f2 ++ zjc.encs r:=by simp [zjc.encs]
      rw [e,List.length_append,List.length_cons]
      omega
    · rename_i h0
      exact absurd h h0
theorem run_law (l:List S38) (hw:∀ x ∈ l,(Lit.int .i64 x.f1).wf=true):∀ ys:List Int,ys.length+90 * l.length<140737488355328→Big (fun k=>zj4.run k l ys) (if bad l=0 then(ys ++ zjc.encs l,0) else ([],bad l)):=by
  induction l with
  | nil=>
    intro ys _
    refine Big.eq fun k=>?_
    simp [zj4.run,bad,zjc.encs]
  | cons x r ih=>
    intro ys hl
    have hx:=hw x List.mem_cons_self
    simp only [zj4.run]
    refine Big.bind (check_law _ _ _ (bounds_i64 hx)) ?_
    by_cases h0:fault x.f0 x.f1 x.f2=0
    · have hn:=enc_len _ _ _ h0
      have e:zjc.encs (x :: r)=zjp.enc x.f0 x.f1 x.f2 ++ zjc.encs r:=by simp [zjc.encs]
      rw [List.length_cons] at hl
      have h2:=ih (fun y hy=>hw y (List.mem_cons_of_mem _ hy)) (ys ++ zjp.enc x.f0 x.f1 x.f2) (by rw [List.length_append];omega)
      simp only [h0,if_true,bad,e]
      rw [List.append_assoc] at h2
      exact h2.congr (fun k=>by rw [if_pos (by omega)])
    · simp only [if_neg h0,bad]
      exact Big.of _
theorem encode_law (l:List S38) (hw:∀ x ∈ l,(Lit.int .i64 x.f1).wf=true):Big (fun k=>zj4.f k l) (keyOf l):=by
  unfold zj4.f keyOf
  by_cases h:(l.length:Int) > 14
  · simp only [if_pos h]
    exact Big.of _
  · simp only [if_neg h]
    exact run_law l hw [] (by simp;omega)
theorem faults_law (l:List S38):Big (fun k=>zjc.faults k l) (bad l):=by
  induction l with
  | nil=>exact Big.of _
  | cons x r ih=>
    simp only [zjc.faults]
    refine Big.bind (fault_law _ _ _) ?_
    by_cases h0:fault x.f0 x.f1 x.f2=0
    · simp only [h0,if_true,bad]
      exact ih
    · simp only [if_neg h0,bad]
      exact Big.of _
theorem keyed_law (l:List S38):Big (fun k=>zjc.f k l) (keyOf l):=by
  unfold zjc.f keyOf
  by_cases h:(l.length:Int) > 14
  · simp only [if_pos h]
    exact Big.of _
  · simp only [if_neg h]
    refine Big.bind (faults_law l) ?_
    by_cases h0:bad l=0
    · have:=encs_len l h0
      simp only [h0,if_true]
      exact Big.eq fun k=>by rw [if_pos (by omega)]
    · simp only [if_neg h0]
      exact Big.of _
theorem keyOf_len (l:List S38):((keyOf l).1.length:Int)≤1260:=by
  unfold keyOf
  split
  · simp
  split
  · rename_i h0
    have:=encs_len l h0
    show((zjc.encs l).length:Int)≤1260
    omega
  · simp
/-! Rows -/
def rv (l:List S38) (j:Nat):S38:=zqs l (j:Int)
theorem rv_at (l:List S38) (i:Nat) (h:i<l.length):rv l i=l[i]:=by simp [rv,zqs,List.getD_eq_getElem?_getD,h]
/-- The values of a row in places. -/
def vals (row:List S38) (ps:List Int):List S38:=ps.map (fun p=>zqs row p)
theorem eta_V (x:S38):(⟨x.f0,x.f1,x.f2⟩:S38)=x:=rfl
def inRow (row:List S38) (ps:List Int):Prop := ∀ j,j<ps.length→0≤ri ps j∧ri ps j<(row.length:Int)
theorem vals_snoc (row:List S38) (ps:List Int) (i:Nat) (h:i<ps.length):vals row (ps.take i) ++ [zqs row (rd ps (i:Int))]=vals row (ps.take (i+1)):=by
  have e:rd ps (i:Int)=ps[i]:=by simp [rd,List.getD_eq_getElem?_getD,h]
  rw [e,List.take_succ_eq_append_getElem h]
  unfold vals
  rw [List.map_append,List.map_cons,List.map_nil]
theorem values_from (row:List S38) (ps:List Int) (hp:inRow row ps) (hn:ps.length≤1000):∀ (d i:Nat),ps.length - i=d→i≤ps.length→Big (fun k=>zj5.l0 k row (vals row (ps.take i)) ps (ps.length:Int) (i:Int)) (vals row ps)
  | 0,i,hd,hi=>by
    obtain rfl:i=ps.length:=by omega
    refine Big.succ (Big.eq fun k=>?_)
    simp only [zj5.l0]
    rw [if_neg (by omega),List.take_length]
  | d+1,i,hd,hi=>by
    have h1:=hp i (by omega)
    have hl:(vals row (ps.take i)).length<4398046511104:=by simp [vals];omega
    refine Big.succ ?_
    simp only [zj5.l0]
    simp only [if_pos (show(i:Int)<(ps.length:Int) by omega),if_pos (show(0:Int)≤(i:Int) by omega),if_pos (show 0≤rd ps (i:Int) from h1.1),if_pos (show rd ps (i:Int)<(row.length:Int) from h1.2),if_pos hl,vals_snoc row ps i (by omega),up1 (show i<ps.length by omega) (by omega)]
    exact values_from row ps hp hn d (i+1) (by omega) (by omega)
theorem values_law (row:List S38) (ps:List Int) (hp:inRow row ps) (hn:ps.length≤1000):Big (fun k=>zj5.f k row ps) (vals row ps):=values_from row ps hp hn _ 0 rfl (Nat.zero_le _)
def num2 (n:Int):S38:=⟨2,n,⟨#[]⟩⟩
def entryL (a i:Int) (row:List S38) (ls:List (List Int)):List S38 := [num2 a,num2 i] ++ ls.flatMap (vals row)
def wfV (l:List S38):Prop := ∀ x ∈ l,(Lit.int .i64 x.f1).wf=true
theorem wf_vals {row:List S38} (h:wfV row) (ps:List Int) (hp:inRow row ps):wfV (vals row ps):=by
  intro x hx
  obtain ⟨p,hp',rfl⟩:=List.mem_map.1 hx
  obtain ⟨j,hj,rfl⟩:=List.getElem_of_mem hp'
  have h1:=hp j hj
  rw [ri_at ps j hj] at h1
  have e:zqs row ps[j]=row[ps[j].toNat]'(by omega):=by simp [zqs,List.getD_eq_getElem?_getD,show ps[j].toNat<row.length by omega]
  rw [e]
  exact h _ (List.getElem_mem _)
theorem wf_entry {a i:Int} {row:List S38} (ha:(Lit.int .i64 a).wf=true) (hi:(Lit.int .i64 i).wf=true) (h:wfV row) (ls:List (List Int)) (hl:∀ l ∈ ls,inRow row l):wfV (entryL a i row ls):=by
  intro x hx
  simp only [entryL,List.mem_append,List.mem_cons,List.not_mem_nil,or_false,List.mem_flatMap] at hx
  rcases hx with (rfl|rfl)|⟨l,hl',hx⟩
  · exact ha
  · exact hi
  · exact wf_vals h l (hl l hl') x hx
theorem rd_L (ls:List (List Int)) (i:Nat) (h:i<ls.length):rd_L4 ls (i:Int)=ls[i]:=by simp [rd_L4,List.getD_eq_getElem?_getD,h]
theorem entry_from (a i:Int) (row:List S38) (ls:List (List Int)) (hw:wfV (entryL a i row ls)) (hp:∀ l ∈ ls,inRow row l∧l.length≤1000) (hn:ls.length≤2):∀ (d j:Nat),ls.length - j=d→j≤ls.length→Big (fun k=>zj6.l0 k row ([num2 a,num2 i] ++ (ls.take j).flatMap (vals row)) ls (ls.length:Int) (j:Int)) ((keyOf (entryL a i row ls)).1, [])
  | 0,j,hd,hj=>by
    obtain rfl:j=ls.length:=by omega
    refine Big.succ ?_
    simp only [zj6.l0]
    simp only [if_neg (show ¬ (ls.length:Int)<(ls.length:Int) by omega),List.take_length]
    exact Big.bind (encode_law _ hw) (Big.of _)
  | d+1,j,hd,hj=>by
    have hx:=hp _ (List.getElem_mem (show j<ls.length by omega))
    have hlen:([num2 a,num2 i] ++ (ls.take j).flatMap (vals row)).length+(vals row ls[j]).length<4398046511104:=by
      have h1:∀ m:List (List Int),m.length≤2→(∀ l ∈ m,l.length≤1000)→(m.flatMap (vals row)).length≤1000 * m.length:=by
        intro m
        induction m with
        | nil=>intro _ _;simp
        | cons x m ih=>
          intro h2 h3
          have h4:=ih (by simp at h2;omega) (fun l hl=>h3 l (List.mem_cons_of_mem _ hl))
          have h5:=h3 x (by simp)
          simp only [List.flatMap_cons,List.length_append,List.length_cons,vals,List.length_map] at h4 ⊢
          omega
      have h2:=h1 (ls.take j) (by simp;omega) (fun l hl=>(hp l (List.mem_of_mem_take hl)).2)
      have h3:(vals row ls[j]).length≤1000:=by simp [vals];exact hx.2
      simp only [List.length_append,List.length_cons,List.length_nil,List.length_take] at h2 ⊢
      omega
    refine Big.succ ?_
    simp only [zj6.l0]
    simp only [if_pos (show(j:Int)<(ls.length:Int) by omega),if_pos (show(0:Int)≤(j:Int) by omega),rd_L ls j (by omega)]
    refine Big.bind (values_law row ls[j] hx.1 hx.2) ?_
    simp only [if_pos hlen,up1 (show j<ls.length by omega) (by omega)]
    have e : [num2 a,num2 i] ++ (ls.take j).flatMap (vals row) ++ vals row ls[j] = [num2 a,num2 i] ++ (ls.take (j+1)).flatMap (vals row):=by
      rw [List.take_succ_eq_append_getElem (show j<ls.length by omega),List.flatMap_append]
      simp
    rw [e]
    exact entry_from a i row ls hw hp hn d (j+1) (by omega) (by omega)
theorem entry_law (a i:Int) (row:List S38) (ls:List (List Int)) (hw:wfV (entryL a i row ls)) (hp:∀ l ∈ ls,inRow row l∧l.length≤1000) (hn:ls.length≤2):Big (fun k=>zj6.f k a i row ls) ((keyOf (entryL a i row ls)).1, []):=by
  unfold zj6.f
  simp only [zx4.f,Option.bind_some]
  have h:=entry_from a i row ls hw hp hn _ 0 rfl (Nat.zero_le _)
  simpa [num2] using h
/-- A row's entries in the indexes from one on. -/
def entsX (a:Int) (row:List S38) (key:List Int):List S96→Nat→List S32
  | [],_ => []
  | x :: r,i=>⟨(keyOf (entryL a (i+1:Nat) row [x.f1,key])).1, []⟩ :: entsX a row key r (i+1)
theorem entsX_len (a:Int) (row:List S38) (key:List Int):∀ (l:List S96) (i:Nat),(entsX a row key l i).length=l.length
  | [],_=>rfl
  | x :: r,i=>by simp [entsX,entsX_len a row key r (i+1)]
def ents (a:Int) (row:List S38) (t:S61):List S32:=⟨(keyOf (entryL a 0 row [t.f2])).1,(keyOf row).1⟩ :: entsX a row t.f2 t.f3 0
/-- A table whose places lie in a row. -/
def okRow (t:S61) (row:List S38):Prop:=inRow row t.f2∧t.f2.length≤1000∧t.f3.length≤2 ∧ ∀ x ∈ t.f3,inRow row x.f1∧x.f1.length≤1000
theorem ents_run (a:Int) (row:List S38) (key:List Int) (ha:(Lit.int .i64 a).wf=true) (hw:wfV row) (hk:inRow row key∧key.length≤1000):∀ (l:List S96) (i:Nat) (acc:List S32),(∀ x ∈ l,inRow row x.f1∧x.f1.length≤1000)→acc.length+l.length≤100→i+l.length≤100→Big (fun k=>zjw.run k a row key l i acc) (acc ++ entsX a row key l i)
  | [],i,acc,_,_,_=>by simp only [zjw.run,entsX,List.append_nil];exact Big.of _
  | x :: r,i,acc,hx,hl,hi=>by
    have h1:=hx x (by simp)
    have hp:∀ l ∈ [x.f1,key],inRow row l∧l.length≤1000:=by
      intro l hl
      simp only [List.mem_cons,List.not_mem_nil,or_false] at hl
      rcases hl with rfl|rfl
      · exact h1
      · exact hk
    have hwf:(Lit.int .i64 ((i+1:Nat):Int)).wf=true:=WalkArith.wf_i64 (by simp at hi;omega)
    simp only [zjw.run,entsX]
    refine Big.bind (entry_law a ((i+1:Nat):Int) row [x.f1,key] (wf_entry ha hwf hw _ (fun l hl=>(hp l hl).1)) hp (by simp)) ?_
    simp only [if_pos (show acc.length<100000 by simp at hl;omega)]
    refine(ents_run a row key ha hw hk r (i+1) _ (fun y hy=>hx y (by simp [hy])) (by simp at hl ⊢;omega) (by simp at hi;omega)).cast ?_
    simp
theorem entries_law (a:Int) (row:List S38) (t:S61) (ha:(Lit.int .i64 a).wf=true) (hw:wfV row) (hok:okRow t row):Big (fun k=>zjw.f k t.f0 t.f1 t.f2 t.f3 a row) (ents a row t):=by
  obtain ⟨h1,h2,h3,h4⟩:=hok
  unfold zjw.f
  simp only [if_neg (show ¬ 1000000<t.f3.length by omega)]
  have hp:∀ l ∈ [t.f2],inRow row l∧l.length≤1000:=by
    intro l hl
    simp only [List.mem_cons,List.not_mem_nil,or_false] at hl
    rw [hl]
    exact⟨h1,h2⟩
  refine Big.bind (entry_law a 0 row [t.f2] (wf_entry ha (by decide) hw _ (fun l hl=>(hp l hl).1)) hp (by simp)) ?_
  refine Big.bind (encode_law row hw) ?_
  exact(ents_run a row t.f2 ha hw ⟨h1,h2⟩ t.f3 0 _ h4 (by simp;omega) (by omega)).cast (by simp [ents])
/-! The reference's -/
theorem ref_l2 (a:Int) (row:List S38) (out:List S32) (i:Int) (vs:List S38) (t:S61) (r:List S32) (hp:inRow row t.f2) (hn:t.f2.length≤1000) (hv:vs.length≤10000) (ho:out.length≤1000)
    (h:Big (fun k=>zjg.l0 k a row (out ++ [⟨(keyOf (vs ++ vals row t.f2)).1,if i=0 then(keyOf row).1 else []⟩]) (wrap64 (i+1)) t.f0 t.f1 t.f2 t.f3) r):∀ (d j:Nat),t.f2.length - j=d→j≤t.f2.length→Big (fun k=>zjg.l2 k a row out i (vs ++ vals row (t.f2.take j)) t.f2 (t.f2.length:Int) (j:Int) t.f0 t.f1 t.f2 t.f3) r
  | 0,j,hd,hj=>by
    obtain rfl:j=t.f2.length:=by omega
    refine Big.succ ?_
    simp only [zjg.l2]
    simp only [if_neg (show ¬ (t.f2.length:Int)<(t.f2.length:Int) by omega),List.take_length]
    refine Big.bind (keyed_law _) ?_
    by_cases hi:i=0
    · simp only [if_pos hi] at h ⊢
      refine Big.bind (keyed_law _) ?_
      simp only [if_pos (show out.length<2932031007402 by omega)]
      exact h
    · simp only [if_neg hi] at h ⊢
      simp only [if_pos (show out.length<2932031007402 by omega)]
      exact h
  | d+1,j,hd,hj=>by
    have h1:=hp j (by omega)
    have hl:(vs ++ vals row (t.f2.take j)).length<4398046511104:=by simp [vals];omega
    refine Big.succ ?_
    simp only [zjg.l2]
    simp only [if_pos (show(j:Int)<(t.f2.length:Int) by omega),if_pos (show(0:Int)≤(j:Int) by omega),if_pos (show 0≤rd t.f2 (j:Int) from h1.1),if_pos (show rd t.f2 (j:Int)<(row.length:Int) from h1.2),if_pos hl,List.append_assoc,vals_snoc row t.f2 j (by omega),up1 (show j<t.f2.length by omega) (by omega)]
    exact ref_l2 a row out i vs t r hp hn hv ho h d (j+1) (by omega) (by omega)
theorem ref_l1 (a:Int) (row:List S38) (out:List S32) (i:Int) (vs:List S38) (ps:List Int) (t:S61) (r:List S32) (hp:inRow row ps) (hn:ps.length≤1000) (hv:vs.length≤10)
    (h:Big (fun k=>zjg.j2 k a row out i (vs ++ vals row ps) t.f0 t.f1 t.f2 t.f3) r):∀ (d j:Nat),ps.length - j=d→j≤ps.length→Big (fun k=>zjg.l1 k a row out i (vs ++ vals row (ps.take j)) ps (ps.length:Int) (j:Int) t.f0 t.f1 t.f2 t.f3) r
  | 0,j,hd,hj=>by
    obtain rfl:j=ps.length:=by omega
    refine Big.succ ?_
    simp only [zjg.l1]
    simp only [if_neg (show ¬ (ps.length:Int)<(ps.length:Int) by omega),List.take_length]
    exact h
  | d+1,j,hd,hj=>by
    have h1:=hp j (by omega)
    have hl:(vs ++ vals row (ps.take j)).length<4398046511104:=by simp [vals];omega
    refine Big.succ ?_
    simp only [zjg.l1]
    simp only [if_pos (show(j:Int)<(ps.length:Int) by omega),if_pos (show(0:Int)≤(j:Int) by omega),if_pos (show 0≤rd ps (j:Int) from h1.1),if_pos (show rd ps (j:Int)<(row.length:Int) from h1.2),if_pos hl,List.append_assoc,vals_snoc row ps j (by omega),up1 (show j<ps.length by omega) (by omega)]
    exact ref_l1 a row out i vs ps t r hp hn hv h d (j+1) (by omega) (by omega)
theorem ref_from (a:Int) (row:List S38) (t:S61) (hok:okRow t row):∀ (d i:Nat) (out:List S32),t.f3.length - i=d→i≤t.f3.length→out.length=i+1→Big (fun k=>zjg.l0 k a row out ((i+1:Nat):Int) t.f0 t.f1 t.f2 t.f3) (out ++ entsX a row t.f2 (t.f3.drop i) i)
  | 0,i,out,hd,hi,ho=>by
    refine Big.succ (Big.eq fun k=>?_)
    simp only [zjg.l0]
    rw [if_neg (by omega),List.drop_eq_nil_of_le (by omega)]
    simp [entsX]
  | d+1,i,out,hd,hi,ho=>by
    obtain ⟨h1,h2,h3,h4⟩:=hok
    have hx:=h4 _ (List.getElem_mem (show i<t.f3.length by omega))
    have ew:wrap64 (((i+1:Nat):Int) - 1)=(i:Int):=by rw [w64 (by omega) (by omega)];omega
    refine Big.succ ?_
    simp only [zjg.l0]
    simp only [if_pos (show((i+1:Nat):Int)≤(t.f3.length:Int) by omega),zj7.f,Option.bind_some,if_pos (show((i+1:Nat):Int) > 0 by omega),ew,if_pos (show(0:Int)≤(i:Int) by omega),if_pos (show(i:Int)<(t.f3.length:Int) by omega)]
    rw [show zq0 t.f3 (i:Int)=t.f3[i] from rx_at t.f3 i (by omega)]
    rw [List.drop_eq_getElem_cons (show i<t.f3.length by omega),entsX]
    have hr:=ref_from a row t ⟨h1,h2,h3,h4⟩ d (i+1) (out ++ [⟨(keyOf (entryL a ((i+1:Nat):Int) row [t.f3[i].f1,t.f2])).1, []⟩]) (by omega) (by omega) (by simp;omega)
    have e0:∀ v:List S38, [num2 a,num2 ((i+1:Nat):Int)] ++ vals row t.f3[i].f1 ++ vals row t.f2=entryL a ((i+1:Nat):Int) row [t.f3[i].f1,t.f2]:=fun _=>by simp [entryL]
    have q2:=ref_l2 a row out ((i+1:Nat):Int) ([num2 a,num2 ((i+1:Nat):Int)] ++ vals row t.f3[i].f1) t h1 h2 (by simp [vals];omega) (by omega) (r:=out ++ (⟨(keyOf (entryL a ((i+1:Nat):Int) row [t.f3[i].f1,t.f2])).1, []⟩ :: entsX a row t.f2 (t.f3.drop (i+1)) (i+1))) (by
      rw [e0 [],if_neg (by omega),show wrap64 (((i+1:Nat):Int)+1)=((i+1+1:Nat):Int) from by rw [w64 (by omega) (by omega)];omega]
      exact hr.cast (by simp)) _ 0 rfl (Nat.zero_le _)
    have q1:=ref_l1 a row out ((i+1:Nat):Int) [num2 a,num2 ((i+1:Nat):Int)] t.f3[i].f1 t _ hx.1 hx.2 (by simp) (Big.succ (by
      simp only [zjg.j2]
      simpa [vals] using q2)) _ 0 rfl (Nat.zero_le _)
    simpa [vals,num2] using q1
theorem entriesOf_law (l:List S61) (a:Nat) (row:List S38) (hal:a<l.length) (hok:okRow (rt l a) row):Big (fun k=>zjg.f k l (a:Int) row) (ents (a:Int) row (rt l a)):=by
  unfold zjg.f
  simp only [if_pos (show(0:Int)≤(a:Int) by omega),if_pos (show(a:Int)<(l.length:Int) by omega)]
  show Big (fun k=>zjg.l0 k (a:Int) row [] 0 (rt l a).f0 (rt l a).f1 (rt l a).f2 (rt l a).f3) _
  generalize rt l a=t at *
  have hr:=ref_from (a:Int) row t hok _ 0 [⟨(keyOf (entryL (a:Int) 0 row [t.f2])).1,(keyOf row).1⟩] rfl (Nat.zero_le _) rfl
  obtain ⟨h1,h2,h3,h4⟩:=hok
  refine Big.succ ?_
  simp only [zjg.l0]
  simp only [if_pos (show(0:Int)≤(t.f3.length:Int) by omega),zj7.f,Option.bind_some,if_neg (show ¬ (0:Int) > 0 by decide)]
  refine Big.succ ?_
  simp only [zjg.j2]
  have q2:=ref_l2 (a:Int) row [] 0 [num2 (a:Int),num2 0] t h1 h2 (by simp) (by simp) (r:=ents (a:Int) row t) (by
    rw [if_pos rfl,show wrap64 (0+1)=((0+1:Nat):Int) from by rw [w64 (by omega) (by omega)];omega]
    refine(Big.congr hr fun k=>?_).cast (by simp [ents])
    simp [entryL]) _ 0 rfl (Nat.zero_le _)
  simpa [vals,num2] using q2
/-! What is refused of a row -/
def rf (row:List S38) (cs:List S90):Nat→Nat→Int
  | 0,_=>0
  | d+1,i=>if fault (rv row i).f0 (rv row i).f1 (rv row i).f2≠0 then fault (rv row i).f0 (rv row i).f1 (rv row i).f2 else if(rv row i).f0=0∧(rc cs i).f2=true then 13 else if(rv row i).f0≠0∧(rv row i).f0≠(rc cs i).f1 then 12 else rf row cs d (i+1)
def rowF (t:S61) (row:List S38):Int:=if row.length=t.f1.length then rf row t.f1 row.length 0 else 1
theorem fault_from (row:List S38) (cs:List S90) (hw:wfV row) (hl:row.length=cs.length) (hn:cs.length≤1000):∀ (d i:Nat),i+d=cs.length→Big (fun k=>zj1.l0 k row cs (cs.length:Int) (i:Int)) (rf row cs d i)
  | 0,i,hd=>by
    refine Big.succ (Big.eq fun k=>?_)
    simp only [zj1.l0]
    rw [if_neg (by omega)]
    rfl
  | d+1,i,hd=>by
    have ih:=fault_from row cs hw hl hn d (i+1) (by omega)
    have hwi:(Lit.int .i64 (rv row i).f1).wf=true:=by rw [rv_at row i (by omega)];exact hw _ (List.getElem_mem _)
    refine Big.succ ?_
    simp only [zj1.l0]
    simp only [if_pos (show(i:Int)<(cs.length:Int) by omega),if_pos (show(0:Int)≤(i:Int) by omega),if_pos (show(i:Int)<(row.length:Int) by omega)]
    show Big (fun k=>(zjz.f k (rv row i).f0 (rv row i).f1 (rv row i).f2).bind _) _
    refine Big.bind (check_law _ _ _ (bounds_i64 hwi)) ?_
    rw [rf]
    by_cases h0:fault (rv row i).f0 (rv row i).f1 (rv row i).f2=0
    · simp only [if_pos h0,if_neg (show ¬ fault (rv row i).f0 (rv row i).f1 (rv row i).f2≠0 from fun q=>q h0)]
      show Big (fun k=>if(rv row i).f0=0 then zj1.j1 k row cs (cs.length:Int) (i:Int) (rc cs i).f2 (rc cs i).f0 (rc cs i).f1 (rc cs i).f2 (rv row i).f0 (rv row i).f1 (rv row i).f2 else zj1.j1 k row cs (cs.length:Int) (i:Int) false (rc cs i).f0 (rc cs i).f1 (rc cs i).f2 (rv row i).f0 (rv row i).f1 (rv row i).f2) _
      have hj:∀ b:Bool,Big (fun k=>zj1.j1 k row cs (cs.length:Int) (i:Int) b (rc cs i).f0 (rc cs i).f1 (rc cs i).f2 (rv row i).f0 (rv row i).f1 (rv row i).f2) (if b=true then 13 else if(rv row i).f0≠0∧(rv row i).f0≠(rc cs i).f1 then 12 else rf row cs d (i+1)):=by
        intro b
        refine Big.succ ?_
        simp only [zj1.j1,up1 (show i<cs.length by omega) (by omega)]
        by_cases hb:b=true
        · simp only [if_pos hb];exact Big.of _
        · simp only [if_neg hb]
          by_cases hz:(rv row i).f0=0
          · simp only [if_pos hz,if_neg (show ¬ ((rv row i).f0≠0∧(rv row i).f0≠(rc cs i).f1) from fun q=>q.1 hz)];exact ih
          · simp only [if_neg hz]
            by_cases hc:(rv row i).f0=(rc cs i).f1
            · simp only [if_pos hc,if_neg (show ¬ ((rv row i).f0≠0∧(rv row i).f0≠(rc cs i).f1) from fun q=>q.2 hc)];exact ih
            · simp only [if_neg hc,if_pos (show(rv row i).f0≠0∧(rv row i).f0≠(rc cs i).f1 from ⟨hz,hc⟩)];exact Big.of _
      by_cases hz:(rv row i).f0=0
      · simp only [if_pos hz]
        refine(hj _).cast ?_
        simp [hz]
      · simp only [if_neg hz]
        refine(hj _).cast ?_
        simp [hz]
    · simp only [if_neg h0,if_pos (show fault (rv row i).f0 (rv row i).f1 (rv row i).f2≠0 from h0)]
      exact Big.of _
theorem rowfault_from (t:S61) (row:List S38) (hl:row.length=t.f1.length) (hn:t.f1.length≤1000):∀ (d i:Nat),i+d=row.length→Big (fun k=>zjl.l0 k row (i:Int) t.f0 t.f1 t.f2 t.f3) (rf row t.f1 d i)
  | 0,i,hd=>by
    refine Big.succ (Big.eq fun k=>?_)
    simp only [zjl.l0]
    rw [if_neg (by omega)]
    rfl
  | d+1,i,hd=>by
    have ih:=rowfault_from t row hl hn d (i+1) (by omega)
    refine Big.succ ?_
    simp only [zjl.l0]
    simp only [if_pos (show(i:Int)<(row.length:Int) by omega),if_pos (show(0:Int)≤(i:Int) by omega)]
    show Big (fun k=>(zjh.f k (rv row i).f0 (rv row i).f1 (rv row i).f2).bind _) _
    refine Big.bind (fault_law _ _ _) ?_
    rw [rf]
    by_cases h0:fault (rv row i).f0 (rv row i).f1 (rv row i).f2=0
    · simp only [if_pos h0,if_neg (show ¬ fault (rv row i).f0 (rv row i).f1 (rv row i).f2≠0 from fun q=>q h0),if_pos (show(i:Int)<(t.f1.length:Int) by omega)]
      show Big (fun k=>if(rv row i).f0=0 then zjl.j1 k row (i:Int) false t.f0 t.f1 t.f2 t.f3 else zjl.j1 k row (i:Int) ((rv row i).f0 != (rc t.f1 i).f1) t.f0 t.f1 t.f2 t.f3) _
      have hj:∀ b:Bool,Big (fun k=>zjl.j1 k row (i:Int) b t.f0 t.f1 t.f2 t.f3) (if b=true then 12 else if(rv row i).f0=0∧(rc t.f1 i).f2=true then 13 else rf row t.f1 d (i+1)):=by
        intro b
        refine Big.succ ?_
        simp only [zjl.j1,up1 (show i<row.length by omega) (by omega)]
        by_cases hb:b=true
        · simp only [if_pos hb];exact Big.of _
        · simp only [if_neg hb,if_pos (show(0:Int)≤(i:Int) by omega),if_pos (show(i:Int)<(row.length:Int) by omega),if_pos (show(i:Int)<(t.f1.length:Int) by omega)]
          show Big (fun k=>if(rv row i).f0=0 then(if(rc t.f1 i).f2=true then some 13 else zjl.l0 k row ((i+1:Nat):Int) t.f0 t.f1 t.f2 t.f3) else zjl.l0 k row ((i+1:Nat):Int) t.f0 t.f1 t.f2 t.f3) _
          by_cases hz:(rv row i).f0=0
          · by_cases hc:(rc t.f1 i).f2=true
            · simp only [if_pos hz,if_pos hc,if_pos (show(rv row i).f0=0∧(rc t.f1 i).f2=true from ⟨hz,hc⟩)];exact Big.of _
            · simp only [if_pos hz,if_neg hc,if_neg (show ¬ ((rv row i).f0=0∧(rc t.f1 i).f2=true) from fun q=>hc q.2)];exact ih
          · simp only [if_neg hz,if_neg (show ¬ ((rv row i).f0=0∧(rc t.f1 i).f2=true) from fun q=>hz q.1)];exact ih
      by_cases hz:(rv row i).f0=0
      · simp only [if_pos hz]
        refine(hj false).cast ?_
        simp [hz]
      · simp only [if_neg hz]
        refine(hj _).cast ?_
        by_cases hc:(rv row i).f0=(rc t.f1 i).f1
        · simp [hz,hc]
        · simp [hz,hc]
    · simp only [if_neg h0,if_pos (show fault (rv row i).f0 (rv row i).f1 (rv row i).f2≠0 from h0)]
      exact Big.of _
theorem fault_row (t:S61) (row:List S38) (hw:wfV row) (hn:t.f1.length≤1000):Big (fun k=>zj1.f k t.f0 t.f1 t.f2 t.f3 row) (rowF t row):=by
  unfold zj1.f rowF
  by_cases h:row.length=t.f1.length
  · simp only [if_pos h,if_pos (show(row.length:Int)=(t.f1.length:Int) by omega)]
    exact fault_from row t.f1 hw h hn row.length 0 (by omega)
  · simp only [if_neg h,if_neg (show ¬ (row.length:Int)=(t.f1.length:Int) by omega)]
    exact Big.of _
theorem rowfault_law (t:S61) (row:List S38) (hn:t.f1.length≤1000):Big (fun k=>zjl.f k t.f0 t.f1 t.f2 t.f3 row) (rowF t row):=by
  unfold zjl.f rowF
  by_cases h:row.length=t.f1.length
  · simp only [if_pos h,if_pos (show(row.length:Int)=(t.f1.length:Int) by omega)]
    exact rowfault_from t row h hn row.length 0 (by omega)
  · simp only [if_neg h,if_neg (show ¬ (row.length:Int)=(t.f1.length:Int) by omega)]
    exact Big.of _
theorem ok_row {t:S61} (hf:fit t) {row:List S38} (h:row.length=t.f1.length):okRow t row:=by
  obtain ⟨⟨_,_,h3⟩,hk,_,_,hi,_,_⟩:=hf
  refine⟨fun j hj=>?_,by have:=hk.2.2.1;omega,h3,fun x hx=>?_⟩
  · have:=hk.1 j (Nat.zero_le _) hj
    omega
  · obtain ⟨j,hj,rfl⟩:=List.getElem_of_mem hx
    have h1:=hi j (Nat.zero_le _) hj
    rw [rx_at t.f3 j hj] at h1
    refine⟨fun m hm=>?_,by have:=h1.2.2.1;omega⟩
    have:=h1.1 m (Nat.zero_le _) hm
    omega
theorem rowF_len {t:S61} {row:List S38} (h:rowF t row=0):row.length=t.f1.length:=by
  unfold rowF at h
  by_cases q:row.length=t.f1.length
  · exact q
  · rw [if_neg q] at h;omega

def fineE (l:List S32):Prop:=l.length≤1000 ∧ ∀ x ∈ l,x.f0.length≤1000000∧x.f1.length≤1000000
theorem rd_E (l:List S32) (i:Nat) (h:i<l.length):zxb l (i:Int)=l[i]:=by simp [zxb,List.getD_eq_getElem?_getD,h]
theorem same_ee (l:List S32) (hf:fineE l):∀ (d i:Nat),i+d=l.length→Big (fun k=>zjq.l0 k l l (i:Int)) true
  | 0,i,hi=>by
    refine Big.succ (Big.eq fun k=>?_)
    simp only [zjq.l0]
    rw [if_neg (by omega)]
  | d+1,i,hi=>by
    have hx:=hf.2 _ (List.getElem_mem (show i<l.length by omega))
    have hn:=hf.1
    refine Big.succ ?_
    simp only [zjq.l0,if_pos (show(i:Int)<(l.length:Int) by omega),if_pos (show(0:Int)≤(i:Int) by omega),rd_E l i (by omega),up1 (show i<l.length by omega) (by omega)]
    refine Big.bind (same_self _ (by omega)) ?_
    simp only [if_true]
    refine Big.bind (same_self _ (by omega)) ?_
    simp only [if_true]
    exact same_ee l hf d (i+1) (by omega)
theorem same_ents (l:List S32) (hf:fineE l):Big (fun k=>zjq.f k l l) true:=by
  refine Big.congr (same_ee l hf l.length 0 (by omega)) (fun k=>?_)
  unfold zjq.f
  rw [if_pos rfl]
  rfl
theorem fine_X (a:Int) (row:List S38) (key:List Int):∀ (l:List S96) (i:Nat),∀ x ∈ entsX a row key l i,x.f0.length≤1000000∧x.f1.length≤1000000
  | [],_,x,hx=>(List.not_mem_nil hx).elim
  | y :: r,i,x,hx=>by
    rw [entsX] at hx
    rcases List.mem_cons.1 hx with rfl|hx
    · exact⟨by have:=keyOf_len (entryL a ((i+1:Nat):Int) row [y.f1,key]);show(keyOf _).1.length≤1000000;omega,by simp⟩
    · exact fine_X a row key r (i+1) x hx
theorem fine_ents (a:Int) (row:List S38) (t:S61) (h:t.f3.length≤2):fineE (ents a row t):=by
  refine⟨by simp [ents,entsX_len];omega,fun x hx=>?_⟩
  rw [ents] at hx
  rcases List.mem_cons.1 hx with rfl|hx
  · exact⟨by have:=keyOf_len (entryL a 0 row [t.f2]);show(keyOf _).1.length≤1000000;omega,by have:=keyOf_len row;show(keyOf _).1.length≤1000000;omega⟩
  · exact fine_X a row t.f2 t.f3 0 x hx
/-- Of a catalog that fits: the table, and what is told of it. -/
theorem which_law (l:List S61) (a:Int) (ho:∀ t ∈ l,okTab t):Big (fun k=>zxv.f k l a) (open Classical in if cat l then(if 0≤a∧a<(l.length:Int) then((zqo l a).f0,(zqo l a).f1,(zqo l a).f2,(zqo l a).f3,0) else (⟨#[]⟩, [], [], [],2)) else (⟨#[]⟩, [], [], [],4)):=by
  obtain ⟨b,h1,h2⟩:=Fits_law l ho
  unfold zxv.f
  refine Big.bind h1 ?_
  cases b with
  | false=>simp only [if_neg (show ¬ cat l from fun q=>by simpa using h2.2 q),Bool.false_eq_true,if_false];exact Big.of _
  | true=>
    simp only [if_pos (h2.1 rfl),if_true]
    by_cases h3:a<0
    · simp only [if_pos h3,if_neg (show ¬ (0≤a∧a<(l.length:Int)) by omega)];exact Big.of _
    · by_cases h4:a ≥ (l.length:Int)
      · simp only [if_neg h3,if_pos h4,if_neg (show ¬ (0≤a∧a<(l.length:Int)) by omega)];exact Big.of _
      · simp only [if_neg h3,if_neg h4,if_pos (show 0≤a by omega),if_pos (show a<(l.length:Int) by omega),if_pos (show 0≤a∧a<(l.length:Int) by omega)];exact Big.of _
theorem entries_both (l:List S61) (a:Int) (row:List S38) (ho:∀ t ∈ l,okTab t) (ha:(Lit.int .i64 a).wf=true) (hw:wfV row):∃ r:List S32 × Int,Big (fun k=>zxa.f k l a row) r∧Big (fun k=>zjr.f k l a row) r∧fineE r.1:=by
  have hnil:fineE ([]:List S32):=⟨by simp,fun x hx=>(List.not_mem_nil hx).elim⟩
  obtain ⟨b,h1,h2⟩:=Cat_law l ho
  have hwh:=which_law l a ho
  cases b with
  | false=>
    have hc:¬ cat l:=fun q=>by simpa using h2.2 q
    rw [if_neg hc] at hwh
    refine⟨([],4),?_,?_,hnil⟩
    · unfold zxa.f
      refine Big.bind hwh ?_
      simp only [if_neg (show ¬ (4:Int)=0 by decide)]
      exact Big.of _
    · unfold zjr.f
      refine Big.bind h1 ?_
      simp only [Bool.false_eq_true,if_false]
      exact Big.of _
  | true=>
    have hc:cat l:=h2.1 rfl
    rw [if_pos hc] at hwh
    by_cases hr:0≤a∧a<(l.length:Int)
    · rw [if_pos hr] at hwh
      obtain ⟨m,rfl⟩:=Int.eq_ofNat_of_zero_le hr.1
      have hm:m<l.length:=by omega
      have hfit:=hc.2.1 m (Nat.zero_le _) hm
      have hcols:(rt l m).f1.length≤6:=hfit.1.2.1
      have p1:=fault_row (rt l m) row hw (by omega)
      have p2:=rowfault_law (rt l m) row (by omega)
      have refj:∀ {r:List S32 × Int},Big (fun k=>(zjl.f k (rt l m).f0 (rt l m).f1 (rt l m).f2 (rt l m).f3 row).bind fun t285=>(if t285=0 then((zjg.f k l (m:Int) row).bind fun t286=>(some (t286,(0:Int)))) else (some (([]:List S32),t285)))) r→Big (fun k=>zjr.f k l (m:Int) row) r:=fun {r} h=>by
        unfold zjr.f
        refine Big.bind h1 ?_
        simp only [if_true,if_neg (show ¬ (m:Int)<0 by omega),decide_eq_false (show ¬ (m:Int) ≥ (l.length:Int) by omega)]
        refine Big.succ ?_
        simp only [zjr.j0,Bool.false_eq_true,if_false,if_pos (show(0:Int)≤(m:Int) by omega),if_pos (show(m:Int)<(l.length:Int) by omega)]
        exact h
      by_cases hf:rowF (rt l m) row=0
      · have hok:=ok_row hfit (rowF_len hf)
        refine⟨(ents (m:Int) row (rt l m),0),?_,refj ?_,fine_ents _ _ _ hok.2.2.1⟩
        · unfold zxa.f
          refine Big.bind hwh ?_
          simp only [if_true]
          refine Big.bind p1 ?_
          simp only [if_pos hf]
          exact Big.bind (entries_law (m:Int) row (rt l m) ha hw hok) (Big.of _)
        · refine Big.bind p2 ?_
          simp only [if_pos hf]
          exact Big.bind (entriesOf_law l m row hm hok) (Big.of _)
      · refine⟨([],rowF (rt l m) row),?_,refj ?_,hnil⟩
        · unfold zxa.f
          refine Big.bind hwh ?_
          simp only [if_true]
          refine Big.bind p1 ?_
          simp only [if_neg hf]
          exact Big.of _
        · refine Big.bind p2 ?_
          simp only [if_neg hf]
          exact Big.of _
    · rw [if_neg hr] at hwh
      refine⟨([],2),?_,?_,hnil⟩
      · unfold zxa.f
        refine Big.bind hwh ?_
        simp only [if_neg (show ¬ (2:Int)=0 by decide)]
        exact Big.of _
      · unfold zjr.f
        refine Big.bind h1 ?_
        simp only [if_true]
        have hj:Big (fun k=>zjr.j0 k l a row true) ([],2):=Big.succ (Big.eq fun k=>by simp only [zjr.j0,if_true])
        by_cases h3:a<0
        · simp only [if_pos h3];exact hj
        · simp only [if_neg h3,decide_eq_true (show a ≥ (l.length:Int) by omega)];exact hj

end Go.Proofs.YthhejedfjgikdaaDoor.Pure.RowEntriesOf
namespace Go.Proofs.YthhejedfjgikdaaDoor.Pure
open Go Go.RowKit Go.Proofs.YthhejedfjgikdaaDoor.PRowEntries Go.Proofs.YthhejedfjgikdaaDoorW.PrintWords Go.Proofs.YthhejedfjgikdaaDoorW.PrintLast Go.Proofs.YthhejedfjgikdaaDoor.Bg RowEntriesOf
theorem RowEntries:commonholdlaw_RowEntries.Pure:=by
  intro l a row hl ha hrow hz hzr
  have ho:∀ t ∈ l,okTab t:=fun t ht=>by
    have g:=hl.2 t ht
    have z:=hz.2 t ht
    exact⟨z.1,⟨z.2.1.1,fun c hc=>(z.2.1.2 c hc).1⟩,⟨g.2.2.1.1,fun x hx=>bounds_i64 (g.2.2.1.2 x hx)⟩,⟨z.2.2.2.1,fun x hx=>⟨(z.2.2.2.2 x hx).1,(g.2.2.2.2 x hx).2.1,fun y hy=>bounds_i64 ((g.2.2.2.2 x hx).2.2 y hy)⟩⟩⟩
  have hw:wfV row:=fun x hx=>(hrow.2 x hx).2.1
  obtain ⟨r,h1,h2,h3⟩:=entries_both l a row ho ha hw
  refine Big.to ?_
  unfold commonholdlaw_RowEntries.f
  refine Big.bind h1 (Big.bind h2 (Big.bind (same_ents _ h3) ?_))
  simp only [if_true,beq_self_eq_true]
  exact Big.of true
end Go.Proofs.YthhejedfjgikdaaDoor.Pure
