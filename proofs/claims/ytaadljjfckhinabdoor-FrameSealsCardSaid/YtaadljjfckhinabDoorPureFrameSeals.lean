/- frames are as their reference says (FrameSeals). No condition beyond the statement's own. -/
import Derived.Test.YtaadljjfckhinabDoorPFrameSealsx4
import Derived.Test.YtaadljjfckhinabDoorBig
import Derived.OpenShut
namespace Go.Proofs.YtaadljjfckhinabDoor.Pure
open Go Go.RowKit Go.Proofs.YtaadljjfckhinabDoor.PFrameSeals Go.Proofs.YtaadljjfckhinabDoorW.PrintWords Go.Proofs.YtaadljjfckhinabDoorW.PrintLast Go.Proofs.YtaadljjfckhinabDoorW.PrintMore Go.Proofs.YtaadljjfckhinabDoor.Bg
set_option linter.unusedSimpArgs false
set_option linter.unusedVariables false
namespace Of
/-! ### Sums: one bit, four bits, a byte -/
def P32 : BitVec 32 := 0xEDB88320#32
def st (u : BitVec 32) : BitVec 32 := (u >>> 1) ^^^ (if u.getLsbD 0 then P32 else 0#32)
def b1 (b : Bool) : BitVec 32 := if b then 1#32 else 0#32
def dst (c : BitVec 32) (b : Bool) : BitVec 32 := st (c ^^^ b1 b)
theorem st_xor (a b : BitVec 32) : st (a ^^^ b) = st a ^^^ st b := by
  unfold st
  rw [BitVec.getLsbD_xor, BitVec.ushiftRight_xor_distrib]
  cases a.getLsbD 0 <;> cases b.getLsbD 0 <;> simp <;> apply BitVec.eq_of_getLsbD_eq <;> intro i hi <;> simp <;> cases (a.getLsbD (1 + i)) <;> cases (b.getLsbD (1 + i)) <;> cases (P32.getLsbD i) <;> rfl
theorem st_shift (y : BitVec 32) (h : y.getLsbD 31 = false) : st (y <<< 1) = y := by
  unfold st
  have h0 : (y <<< 1).getLsbD 0 = false := by simp
  rw [h0]
  apply BitVec.eq_of_getLsbD_eq
  intro i hi
  simp
  by_cases h1 : i = 31
  · subst h1
    rw [h]
    simp
  · have : 1 + i < 32 := by omega
    simp [this]
theorem split1 (x : BitVec 32) : x = b1 (x.getLsbD 0) ^^^ ((x >>> 1) <<< 1) := by
  apply BitVec.eq_of_getLsbD_eq
  intro i hi
  unfold b1
  rcases i with _ | i
  · cases h : x.getLsbD 0 <;> simp [h]
  · have e : 1 + i = i + 1 := by omega
    cases h : x.getLsbD 0 <;> simp [hi, e]
theorem top_shift (x : BitVec 32) : (x >>> 1).getLsbD 31 = false := by simp
theorem st_data (c x : BitVec 32) : st (c ^^^ x) = dst c (x.getLsbD 0) ^^^ (x >>> 1) := by
  have h := split1 x
  generalize hb : x.getLsbD 0 = b at *
  have ht := top_shift x
  generalize x >>> 1 = y at *
  subst h
  rw [← BitVec.xor_assoc, st_xor, st_shift y ht]
  rfl
def st4 (u : BitVec 32) : BitVec 32 := st (st (st (st u)))
theorem st4_xor (a b : BitVec 32) : st4 (a ^^^ b) = st4 a ^^^ st4 b := by unfold st4; rw [st_xor, st_xor, st_xor, st_xor]
theorem st4_low : ∀ n : Fin 16, st4 (BitVec.ofNat 32 n.1) = BitVec.ofNat 32 ([0, 498536548, 997073096, 651767980, 1994146192, 1802195444, 1303535960, 1342533948, 3988292384, 4027552580, 3604390888, 3412177804, 2607071920, 2262029012, 2685067896, 3183342108].getD n.1 0) := by decide
theorem st4_high (u : BitVec 32) (h : ∀ i, i < 4 → u.getLsbD i = false) : st4 u = u >>> 4 := by
  have e : u = ((((u >>> 4) <<< 1) <<< 1) <<< 1) <<< 1 := by
    apply BitVec.eq_of_getLsbD_eq
    intro i hi
    rcases i with _ | _ | _ | _ | i
    · rw [h 0 (by omega)]; simp
    · rw [h 1 (by omega)]; simp
    · rw [h 2 (by omega)]; simp
    · rw [h 3 (by omega)]; simp
    · have e : 4 + i = i + 1 + 1 + 1 + 1 := by omega
      have h1 : i + 1 + 1 + 1 < 32 := by omega
      have h2 : i + 1 + 1 < 32 := by omega
      have h3 : i + 1 < 32 := by omega
      simp [hi, e, h1, h2, h3]
  have t : ∀ j, 28 ≤ j → (u >>> 4).getLsbD j = false := by
    intro j hj
    simp
    exact BitVec.getLsbD_of_ge _ _ (by omega)
  generalize u >>> 4 = v at *
  subst e
  unfold st4
  rw [st_shift _ (by simp; exact t 28 (by omega)), st_shift _ (by simp; exact t 29 (by omega)), st_shift _ (by simp; exact t 30 (by omega)), st_shift _ (by simp; exact t 31 (by omega))]
theorem st4_tab (u : BitVec 32) : st4 u = (u >>> 4) ^^^ BitVec.ofNat 32 ([0, 498536548, 997073096, 651767980, 1994146192, 1802195444, 1303535960, 1342533948, 3988292384, 4027552580, 3604390888, 3412177804, 2607071920, 2262029012, 2685067896, 3183342108].getD (u &&& 15#32).toNat 0) := by
  have e : u = (u &&& ~~~ 15#32) ^^^ (u &&& 15#32) := by
    apply BitVec.eq_of_getLsbD_eq
    intro i hi
    simp only [BitVec.getLsbD_xor, BitVec.getLsbD_and, BitVec.getLsbD_not]
    simp only [hi, decide_true, Bool.true_and]
    cases u.getLsbD i <;> cases (15#32).getLsbD i <;> rfl
  have hl : (u &&& 15#32).toNat < 16 := by
    rw [BitVec.toNat_and]
    exact Nat.lt_of_le_of_lt (Nat.and_le_right) (by decide)
  have h4 := st4_low ⟨_, hl⟩
  simp only [BitVec.ofNat_toNat, BitVec.setWidth_eq] at h4
  have hh := st4_high (u &&& ~~~ 15#32) (by
    intro i hi
    simp only [BitVec.getLsbD_and]
    rcases i with _ | _ | _ | _ | i <;> first | omega | (simp; done) | (rw [show (~~~15#32).getLsbD _ = false from by decide, Bool.and_false]))
  have hs : (u &&& ~~~ 15#32) >>> 4 = u >>> 4 := by
    apply BitVec.eq_of_getLsbD_eq
    intro i hi
    simp only [BitVec.getLsbD_ushiftRight, BitVec.getLsbD_and]
    by_cases h : 4 + i < 32
    · have : (~~~15#32).getLsbD (4 + i) = true := by
        have : ∀ j : Fin 28, (~~~15#32).getLsbD (4 + j.1) = true := by decide
        exact this ⟨i, by omega⟩
      rw [this, Bool.and_true]
    · rw [BitVec.getLsbD_of_ge u _ (by omega), Bool.false_and]
  conv => lhs; rw [e]
  rw [st4_xor, hh, h4, hs]
/-- Bits, one by one. -/
def crc (c : BitVec 32) (l : List Bool) : BitVec 32 := l.foldl dst c
def bits8 (x : Nat) : List Bool := [x.testBit 0, x.testBit 1, x.testBit 2, x.testBit 3, x.testBit 4, x.testBit 5, x.testBit 6, x.testBit 7]
theorem crc_byte (c : BitVec 32) (x : Nat) (hx : x < 256) : crc c (bits8 x) = st4 (st4 (c ^^^ BitVec.ofNat 32 x)) := by
  have hg : ∀ i, i < 8 → ((BitVec.ofNat 32 x) >>> i).getLsbD 0 = x.testBit i := by
    intro i hi
    rw [BitVec.getLsbD_ushiftRight, BitVec.getLsbD_ofNat, Nat.add_zero, decide_eq_true (show i < 32 by omega), Bool.true_and]
  have hz : (BitVec.ofNat 32 x) >>> 8 = 0#32 := by
    apply BitVec.eq_of_getLsbD_eq
    intro i hi
    rw [BitVec.getLsbD_ushiftRight, BitVec.getLsbD_ofNat, Nat.testBit_lt_two_pow]
    · simp
    exact Nat.lt_of_lt_of_le hx (by rw [show (256 : Nat) = 2 ^ 8 from rfl]; exact Nat.pow_le_pow_right (by omega) (by omega))
  have hsh : ∀ i j : Nat, (BitVec.ofNat 32 x) >>> i >>> j = (BitVec.ofNat 32 x) >>> (i + j) := fun i j => (BitVec.shiftRight_add _ _ _).symm
  have g0 := hg 0 (by omega)
  rw [BitVec.ushiftRight_zero] at g0
  unfold st4 crc bits8
  simp only [List.foldl]
  rw [st_data c, st_data, st_data, st_data, st_data, st_data, st_data, st_data]
  simp only [hsh]
  rw [g0, hg 1 (by omega), hg 2 (by omega), hg 3 (by omega), hg 4 (by omega), hg 5 (by omega), hg 6 (by omega), hg 7 (by omega), hz, BitVec.xor_zero]
/-! ### Sums: the program's numbers as words of 32 bits -/
def b2i (b : Bool) : Int := if b then 1 else 0
theorem ofInt_toNat (a : BitVec 32) : BitVec.ofInt 32 (a.toNat : Int) = a := by rw [BitVec.ofInt_natCast, BitVec.ofNat_toNat, BitVec.setWidth_eq]
theorem bx (a b : BitVec 32) : Go.bits .xor .u32 (a.toNat : Int) (b.toNat : Int) = ((a ^^^ b).toNat : Int) := by
  show IntKind.u32.wrap ((BitVec.ofInt 32 (a.toNat : Int) ^^^ BitVec.ofInt 32 (b.toNat : Int)).toNat : Int) = _
  rw [ofInt_toNat, ofInt_toNat, IntKind.wrap_u32]
  have := (a ^^^ b).isLt
  omega
theorem b15 (a : BitVec 32) : Go.bits .and .u32 (a.toNat : Int) 15 = ((a &&& 15#32).toNat : Int) := by
  show IntKind.u32.wrap ((BitVec.ofInt 32 (a.toNat : Int) &&& BitVec.ofInt 32 15).toNat : Int) = _
  rw [ofInt_toNat, IntKind.wrap_u32]
  have := (a &&& BitVec.ofInt 32 15).isLt
  show _ = ((a &&& BitVec.ofInt 32 15).toNat : Int)
  omega
theorem tab_at : ∀ n : Fin 16, sum_More.tab.getD n.1 0 = (([0, 498536548, 997073096, 651767980, 1994146192, 1802195444, 1303535960, 1342533948, 3988292384, 4027552580, 3604390888, 3412177804, 2607071920, 2262029012, 2685067896, 3183342108].getD n.1 0 : Nat) : Int) ∧ [0, 498536548, 997073096, 651767980, 1994146192, 1802195444, 1303535960, 1342533948, 3988292384, 4027552580, 3604390888, 3412177804, 2607071920, 2262029012, 2685067896, 3183342108].getD n.1 0 < 4294967296 := by decide
theorem at_eq (a : BitVec 32) : sum_More.at (a.toNat : Int) = ((BitVec.ofNat 32 ([0, 498536548, 997073096, 651767980, 1994146192, 1802195444, 1303535960, 1342533948, 3988292384, 4027552580, 3604390888, 3412177804, 2607071920, 2262029012, 2685067896, 3183342108].getD (a &&& 15#32).toNat 0)).toNat : Int) := by
  unfold sum_More.at
  rw [b15, Int.toNat_natCast]
  have hl : (a &&& 15#32).toNat < 16 := by
    rw [BitVec.toNat_and]
    exact Nat.lt_of_le_of_lt (Nat.and_le_right) (by decide)
  obtain ⟨h1, h2⟩ := tab_at ⟨_, hl⟩
  dsimp only at h1 h2
  rw [h1, BitVec.toNat_ofNat, Nat.mod_eq_of_lt (by exact h2)]
theorem div16 (a : BitVec 32) : (a.toNat : Int) / (16 : Int) = ((a >>> 4).toNat : Int) := by
  rw [BitVec.toNat_ushiftRight, Nat.shiftRight_eq_div_pow]
  omega
theorem half (a : BitVec 32) : Go.bits .xor .u32 ((a.toNat : Int) / 16) (sum_More.at (a.toNat : Int)) = ((st4 a).toNat : Int) := by rw [div16, at_eq, bx, st4_tab]
theorem stp_eq (c : BitVec 32) (x : Int) (h0 : 0 ≤ x) (h1 : x ≤ 255) : sum_More.stp (c.toNat : Int) x = ((crc c (bits8 x.toNat)).toNat : Int) := by
  have e : x % 4294967296 = ((BitVec.ofNat 32 x.toNat).toNat : Int) := by rw [BitVec.toNat_ofNat]; omega
  unfold sum_More.stp
  rw [e, bx, half, half, crc_byte c x.toNat (by omega)]
def dataBits (l : List Int) : List Bool := l.flatMap fun x => bits8 x.toNat
theorem run_eq (l : List Int) : ∀ (c : BitVec 32), (∀ x ∈ l, 0 ≤ x ∧ x ≤ 255) → sum_More.run (c.toNat : Int) l = ((crc c (dataBits l)).toNat : Int) := by
  induction l with
  | nil => intro c _; rfl
  | cons x r ih =>
    intro c h
    have hx := h x (List.mem_cons_self ..)
    rw [sum_More.run, stp_eq c x hx.1 hx.2, ih _ fun y hy => h y (List.mem_cons_of_mem _ hy)]
    show _ = ((crc c (bits8 x.toNat ++ dataBits r)).toNat : Int)
    unfold crc
    rw [List.foldl_append]
theorem not_word (c : BitVec 32) : Go.bits .xor .u32 4294967295 (c.toNat : Int) = ((~~~ c).toNat : Int) := by
  have h := bx (BitVec.allOnes 32) c
  rw [BitVec.allOnes_xor] at h
  exact h
theorem word_of (a : Int) (h0 : 0 ≤ a) (h1 : a < 4294967296) : a = ((BitVec.ofNat 32 a.toNat).toNat : Int) := by rw [BitVec.toNat_ofNat]; omega
theorem More_eq (a : Int) (l : List Int) (h0 : 0 ≤ a) (h1 : a < 4294967296) (hl : ∀ x ∈ l, 0 ≤ x ∧ x ≤ 255) : sum_More.f a l = some (((~~~ (crc (~~~ BitVec.ofNat 32 a.toNat) (dataBits l))).toNat : Int), 0) := by
  unfold sum_More.f
  rw [if_pos ⟨h0, h1⟩]
  have e := word_of a h0 h1
  have e2 : Go.bits .xor .u32 4294967295 a = ((~~~ BitVec.ofNat 32 a.toNat).toNat : Int) := by
    conv => lhs; rw [e]
    exact not_word _
  rw [e2, run_eq _ _ hl, not_word]

/-! ### Sums: the reference -/
theorem rd_set (l : List Int) (i j : Nat) (v : Int) (h : i < l.length) : rd (l.set i v) (j : Int) = if j = i then v else rd l j := by
  unfold rd
  rw [Int.toNat_natCast, List.getD_eq_getElem?_getD, List.getD_eq_getElem?_getD, List.getElem?_set]
  by_cases e : j = i
  · subst e
    rw [if_pos rfl, if_pos h, if_pos rfl]
    rfl
  · rw [if_neg (fun h => e h.symm), if_neg e]
def pl : List Int := [1, 0, 0, 0, 0, 0, 1, 0, 0, 1, 1, 0, 0, 0, 0, 0, 1, 0, 0, 0, 1, 1, 1, 0, 1, 1, 0, 1, 1, 0, 1, 1, 1]
theorem poly_big : Big (fun k => commonholdref_poly.f k) pl := ⟨16, fun k hk => at_rounds commonholdref_poly.mono hk (by decide +kernel)⟩
theorem pl_at : ∀ m : Fin 32, rd pl ((m.1 + 1 : Nat) : Int) = b2i (P32.getLsbD m.1) := by decide
theorem x8 (a b : Bool) : Go.bits .xor .u8 (b2i a) (b2i b) = b2i (a ^^ b) := by cases a <;> cases b <;> rfl
theorem getLsb_not {c : BitVec 32} {m : Nat} (h : m < 32) : (~~~ c).getLsbD m = !c.getLsbD m := by rw [BitVec.getLsbD_not, decide_eq_true h, Bool.true_and]
/-- The row at step i: behind i the register lies over the data. -/
def Lies (dd : Nat → Bool) (i : Nat) (c : BitVec 32) (l : List Int) : Prop := ∀ j, i ≤ j → j < l.length → rd l (j : Int) = b2i (c.getLsbD (j - i) ^^ dd j)
theorem lies_at {dd : Nat → Bool} {i : Nat} {c : BitVec 32} {l : List Int} (h : Lies dd i c l) (hi : i < l.length) : rd l (i : Int) = b2i (c.getLsbD 0 ^^ dd i) := by
  have := h i (Nat.le_refl _) hi
  rwa [Nat.sub_self] at this
theorem dst_bit (c : BitVec 32) (d : Bool) (m : Nat) : (dst c d).getLsbD m = (c.getLsbD (m + 1) ^^ ((c.getLsbD 0 ^^ d) && P32.getLsbD m)) := by
  unfold dst st b1
  have e : (c ^^^ (if d then 1#32 else 0#32)).getLsbD 0 = (c.getLsbD 0 ^^ d) := by cases d <;> simp
  have e2 : (c ^^^ (if d then 1#32 else 0#32)).getLsbD (1 + m) = c.getLsbD (m + 1) := by
    rw [Nat.add_comm 1 m]
    cases d <;> simp
  rw [BitVec.getLsbD_xor, BitVec.getLsbD_ushiftRight, e, e2]
  cases (c.getLsbD 0 ^^ d) <;> simp
theorem lies_next0 {dd : Nat → Bool} {i : Nat} {c : BitVec 32} {l : List Int} (h : Lies dd i c l) (h0 : (c.getLsbD 0 ^^ dd i) = false) : Lies dd (i + 1) (dst c (dd i)) l := by
  intro j hj hl
  rw [h j (by omega) hl, dst_bit, h0, Bool.false_and, Bool.xor_false, show j - (i + 1) + 1 = j - i by omega]
theorem lies_next1 {dd : Nat → Bool} {i : Nat} {c : BitVec 32} {l l' : List Int} (h : Lies dd i c l) (h0 : (c.getLsbD 0 ^^ dd i) = true) (hl' : l'.length = l.length)
    (hx : ∀ j : Nat, rd l' (j : Int) = if i ≤ j ∧ j < i + 33 then Go.bits .xor .u8 (rd l (j : Int)) (rd pl ((j : Int) - i)) else rd l j) : Lies dd (i + 1) (dst c (dd i)) l' := by
  intro j hj hl
  rw [hx j, dst_bit, h0, Bool.true_and, show j - (i + 1) + 1 = j - i by omega]
  by_cases h3 : j < i + 33
  · rw [if_pos ⟨by omega, h3⟩, h j (by omega) (by omega)]
    have hp := pl_at ⟨j - (i + 1), by omega⟩
    dsimp only at hp
    rw [show (j : Int) - i = ((j - (i + 1) + 1 : Nat) : Int) by omega, hp, x8]
    congr 1
    cases c.getLsbD (j - i) <;> cases dd j <;> cases P32.getLsbD (j - (i + 1)) <;> rfl
  · rw [if_neg (by omega), h j (by omega) (by omega), BitVec.getLsbD_of_ge P32 _ (by omega), Bool.xor_false]
/-- What the inner loop makes. -/
def xr (i : Nat) : Nat → List Int → List Int
  | 0, l => l
  | d + 1, l => xr i d (l.set (i + (32 - d)) (Go.bits .xor .u8 (rd l ((i + (32 - d) : Nat) : Int)) (rd pl ((32 - d : Nat) : Int))))
theorem xr_length (i : Nat) : ∀ d l, (xr i d l).length = l.length
  | 0, _ => rfl
  | d + 1, l => by rw [xr, xr_length i d, List.length_set]
theorem xr_at (i : Nat) : ∀ d l, d ≤ 33 → i + 33 ≤ l.length → ∀ j : Nat, rd (xr i d l) (j : Int) = if i + (33 - d) ≤ j ∧ j < i + 33 then Go.bits .xor .u8 (rd l (j : Int)) (rd pl ((j : Int) - i)) else rd l j
  | 0, l, _, _, j => by rw [xr, if_neg (by omega)]
  | d + 1, l, hd, hl, j => by
    rw [xr, xr_at i d _ (by omega) (by rw [List.length_set]; exact hl) j, rd_set _ _ _ _ (by omega)]
    by_cases e : j = i + (32 - d)
    · subst e
      rw [if_neg (by omega), if_pos rfl, if_pos ⟨by omega, by omega⟩, show ((i + (32 - d) : Nat) : Int) - i = ((32 - d : Nat) : Int) by omega]
    · rw [if_neg e]
      by_cases h : i + (33 - d) ≤ j ∧ j < i + 33
      · rw [if_pos h, if_pos ⟨by omega, h.2⟩]
      · rw [if_neg h, if_neg (by omega)]
theorem inner {r : List Int} (i : Nat) (hi : i < 1000000) : ∀ (d : Nat) (l : List Int), d ≤ 33 → i + 33 ≤ l.length → l.length < 1000000 → Big (fun k => commonholdref_remainder.l0 k (xr i d l) pl ((i + 1 : Nat) : Int)) r →
    Big (fun k => commonholdref_remainder.l1 k l pl (i : Int) ((33 - d : Nat) : Int)) r := by
  intro d
  induction d with
  | zero =>
    intro l _ hl hL h
    refine Big.succ (Big.congr h fun k => ?_)
    simp only [commonholdref_remainder.l1]
    rw [if_neg (by omega), w64 (by omega) (by omega)]
    rfl
  | succ d ih =>
    intro l hd hl hL h
    refine Big.succ (Big.congr (ih _ (by omega) (by rw [List.length_set]; exact hl) (by rw [List.length_set]; exact hL) h) fun k => ?_)
    simp only [commonholdref_remainder.l1]
    rw [show ((33 - (d + 1) : Nat) : Int) = ((32 - d : Nat) : Int) by omega]
    rw [if_pos (by omega), w64 (x := (i : Int) + ((32 - d : Nat) : Int)) (by omega) (by omega), w64 (x := ((32 - d : Nat) : Int) + 1) (by omega) (by omega), if_pos (by omega), if_pos (by omega), if_pos (by omega), if_pos (by show _ < ((33 : Nat) : Int); omega),
      show (i : Int) + ((32 - d : Nat) : Int) = ((i + (32 - d) : Nat) : Int) by omega, Int.toNat_natCast, show ((32 - d : Nat) : Int) + 1 = ((33 - d : Nat) : Int) by omega]
theorem outer (dd : Nat → Bool) (n : Nat) (hn : n + 32 < 1000000) : ∀ (d i : Nat) (c : BitVec 32) (l : List Int), n - i = d → i ≤ n → l.length = n + 32 → Lies dd i c l →
    ∃ l', Big (fun k => commonholdref_remainder.l0 k l pl (i : Int)) l' ∧ l'.length = 32 ∧ ∀ m : Nat, m < 32 → rd l' (m : Int) = b2i ((crc c ((List.range d).map fun q => dd (i + q))).getLsbD m ^^ dd (n + m)) := by
  intro d
  induction d with
  | zero =>
    intro i c l hd hi hl h
    obtain rfl : i = n := by omega
    refine ⟨l.drop i, Big.succ (Big.eq fun k => ?_), by rw [List.length_drop]; omega, fun m hm => ?_⟩
    · simp only [commonholdref_remainder.l0]
      rw [w64 (by omega) (by omega), if_neg (by omega), w64 (by omega) (by omega), if_pos (by omega), if_pos (by omega), hl, show (((i + 32 : Nat) : Int) - 32).toNat = i by omega]
    · have e : rd (l.drop i) (m : Int) = rd l ((i + m : Nat) : Int) := by
        unfold rd
        rw [Int.toNat_natCast, Int.toNat_natCast, List.getD_eq_getElem?_getD, List.getD_eq_getElem?_getD, List.getElem?_drop]
      rw [e, h (i + m) (by omega) (by omega), show i + m - i = m by omega]
      rfl
  | succ d ih =>
    intro i c l hd hi hl h
    have hcr : ∀ m, (crc c ((List.range (d + 1)).map fun q => dd (i + q))).getLsbD m = (crc (dst c (dd i)) ((List.range d).map fun q => dd (i + 1 + q))).getLsbD m := by
      intro m
      rw [List.range_succ_eq_map, List.map_cons, List.map_map]
      unfold crc
      rw [List.foldl_cons]
      congr 3
      funext q
      show dd (i + (q + 1)) = _
      rw [show i + (q + 1) = i + 1 + q by omega]
    have hat := lies_at h (by omega)
    cases h0 : (c.getLsbD 0 ^^ dd i) with
    | false =>
      obtain ⟨l', hb, h1, h2⟩ := ih (i + 1) (dst c (dd i)) l (by omega) (by omega) hl (lies_next0 h h0)
      refine ⟨l', Big.succ (Big.congr hb fun k => ?_), h1, fun m hm => by rw [h2 m hm, hcr]⟩
      simp only [commonholdref_remainder.l0]
      rw [w64 (by omega) (by omega), if_pos (by omega), if_pos (by omega), if_pos (by omega), hat, h0, if_neg (by decide), w64 (by omega) (by omega)]
      rfl
    | true =>
      obtain ⟨l', hb, h1, h2⟩ := ih (i + 1) (dst c (dd i)) (xr i 33 l) (by omega) (by omega) (by rw [xr_length]; exact hl) (lies_next1 h h0 (xr_length ..) fun j => by
        rw [xr_at i 33 l (Nat.le_refl _) (by omega) j]
        rfl)
      refine ⟨l', Big.succ (Big.congr (inner i (by omega) 33 l (Nat.le_refl _) (by omega) (by omega) hb) fun k => ?_), h1, fun m hm => by rw [h2 m hm, hcr]⟩
      simp only [commonholdref_remainder.l0]
      rw [w64 (by omega) (by omega), if_pos (by omega), if_pos (by omega), if_pos (by omega), hat, h0, if_pos (by decide)]
      rfl
theorem bit_u8 (x : Int) (h0 : 0 ≤ x) (h1 : x ≤ 255) (m : Nat) (hm : m < 8) : Go.bits .and .u8 (shr .u8 x (m : Int)) 1 = b2i (x.toNat.testBit m) := by
  obtain ⟨n, rfl⟩ := Int.eq_ofNat_of_zero_le h0
  have e : shr .u8 ((n : Nat) : Int) (m : Int) = ((n / 2 ^ m : Nat) : Int) := by
    unfold shr
    rw [Int.toNat_natCast, Nat.min_eq_left (by show m ≤ 8; omega)]
    rw [Int.natCast_ediv, Int.natCast_pow]
    rfl
  rw [e]
  have hlt : n / 2 ^ m < 256 := Nat.lt_of_le_of_lt (Nat.div_le_self _ _) (by omega)
  show IntKind.u8.wrap ((BitVec.ofInt 8 ((n / 2 ^ m : Nat) : Int) &&& 1#8).toNat : Int) = _
  rw [BitVec.ofInt_natCast, BitVec.toNat_and, BitVec.toNat_ofNat, Nat.mod_eq_of_lt hlt, show (1#8).toNat = 1 from rfl, Nat.and_one_is_mod, Int.toNat_natCast, Nat.testBit_eq_decide_div_mod_eq]
  unfold b2i
  by_cases h : n / 2 ^ m % 2 = 1
  · rw [h]; simp; rfl
  · have : n / 2 ^ m % 2 = 0 := by omega
    rw [this]; simp; rfl
theorem bit_i64 (x : Int) (h0 : 0 ≤ x) (h1 : x < 4294967296) (m : Nat) (hm : m < 32) : Go.bits .and .i64 (shr .i64 x (m : Int)) 1 = b2i (x.toNat.testBit m) := by
  obtain ⟨n, rfl⟩ := Int.eq_ofNat_of_zero_le h0
  have e : shr .i64 ((n : Nat) : Int) (m : Int) = ((n / 2 ^ m : Nat) : Int) := by
    unfold shr
    rw [Int.toNat_natCast, Nat.min_eq_left (by show m ≤ 64; omega)]
    rw [Int.natCast_ediv, Int.natCast_pow]
    rfl
  rw [e]
  have hlt : n / 2 ^ m < 4294967296 := Nat.lt_of_le_of_lt (Nat.div_le_self _ _) (by omega)
  show IntKind.i64.wrap ((BitVec.ofInt 64 ((n / 2 ^ m : Nat) : Int) &&& 1#64).toNat : Int) = _
  rw [BitVec.ofInt_natCast, BitVec.toNat_and, BitVec.toNat_ofNat, Nat.mod_eq_of_lt (by omega), show (1#64).toNat = 1 from rfl, Nat.and_one_is_mod, Int.toNat_natCast, Nat.testBit_eq_decide_div_mod_eq]
  unfold b2i
  by_cases h : n / 2 ^ m % 2 = 1
  · rw [h]; simp; rfl
  · have : n / 2 ^ m % 2 = 0 := by omega
    rw [this]; simp; rfl
theorem byte_bits {r : Int × Int} (a x : Int) (h0 : 0 ≤ x) (h1 : x ≤ 255) (L : List Int) (n i : Int) : ∀ (d : Nat) (acc : List Int), d ≤ 8 → acc.length + d < 1000000 →
    Big (fun k => commonholdref_SumMore.l0 k a (acc ++ ((List.range d).map fun q => b2i (x.toNat.testBit (8 - d + q)))) L n (wrap64 (i + 1))) r → Big (fun k => commonholdref_SumMore.l1 k a acc x ((8 - d : Nat) : Int) L n i) r := by
  intro d
  induction d with
  | zero =>
    intro acc _ ha h
    refine Big.succ (Big.congr h fun k => ?_)
    simp only [commonholdref_SumMore.l1]
    rw [if_neg (by omega)]
    simp
  | succ d ih =>
    intro acc hd ha h
    have key : acc ++ ((List.range (d + 1)).map fun q => b2i (x.toNat.testBit (8 - (d + 1) + q))) = (acc ++ [b2i (x.toNat.testBit (7 - d))]) ++ ((List.range d).map fun q => b2i (x.toNat.testBit (8 - d + q))) := by
      rw [List.range_succ_eq_map, List.map_cons, List.map_map, List.append_assoc]
      rw [List.singleton_append, show 8 - (d + 1) + 0 = 7 - d by omega]
      congr 2
      apply List.map_congr_left
      intro q _
      show b2i (x.toNat.testBit (8 - (d + 1) + (q + 1))) = _
      rw [show 8 - (d + 1) + (q + 1) = 8 - d + q by omega]
    rw [key] at h
    refine Big.succ (Big.congr (ih _ (by omega) (by rw [List.length_append]; simp; omega) h) fun k => ?_)
    simp only [commonholdref_SumMore.l1]
    rw [if_pos (by omega), if_pos (by omega), if_pos (by omega), show ((8 - (d + 1) : Nat) : Int) = ((7 - d : Nat) : Int) by omega, bit_u8 x h0 h1 _ (by omega), w64 (by omega) (by omega), show ((7 - d : Nat) : Int) + 1 = ((8 - d : Nat) : Int) by omega]
theorem bits8_range (x : Nat) : bits8 x = (List.range 8).map fun q => x.testBit q := rfl
theorem dataBits_length (l : List Int) : (dataBits l).length = 8 * l.length := by
  induction l with
  | nil => rfl
  | cons x r ih =>
    show (bits8 x.toNat ++ dataBits r).length = _
    rw [List.length_append, ih, List.length_cons]
    show 8 + _ = _
    omega
theorem dataBits_snoc (l : List Int) (x : Int) : dataBits (l ++ [x]) = dataBits l ++ bits8 x.toNat := by
  unfold dataBits
  rw [List.flatMap_append]
  simp
theorem take_snoc' (l : List Int) (i : Nat) (h : i < l.length) : l.take (i + 1) = l.take i ++ [l[i]] := by rw [List.take_succ_eq_append_getElem h]
theorem all_bits {r : Int × Int} (a : Int) (l : List Int) (hl : l.length ≤ 8192) (hw : ∀ x ∈ l, 0 ≤ x ∧ x ≤ 255) (h : Big (fun k => commonholdref_SumMore.l2 k a ((dataBits l).map b2i ++ List.replicate 32 0) 0) r) : ∀ (d i : Nat), l.length - i = d → i ≤ l.length →
    Big (fun k => commonholdref_SumMore.l0 k a ((dataBits (l.take i)).map b2i) l (l.length : Int) (i : Int)) r := by
  intro d
  induction d with
  | zero =>
    intro i hd hi
    obtain rfl : i = l.length := by omega
    rw [List.take_length]
    refine Big.succ (Big.congr h fun k => ?_)
    simp only [commonholdref_SumMore.l0]
    rw [if_neg (by omega), if_pos (by rw [List.length_map, dataBits_length]; omega)]
  | succ d ih =>
    intro i hd hi
    have hlt : i < l.length := by omega
    have hx := hw l[i] (List.getElem_mem hlt)
    have h2 := ih (i + 1) (by omega) (by omega)
    rw [take_snoc' l i hlt, dataBits_snoc, List.map_append, bits8_range, List.map_map] at h2
    have h3 := byte_bits (r := r) a l[i] hx.1 hx.2 l (l.length : Int) (i : Int) 8 ((dataBits (l.take i)).map b2i) (Nat.le_refl _) (by rw [List.length_map, dataBits_length, List.length_take]; omega) (by
      rw [w64 (by omega) (by omega)]
      refine Big.congr h2 fun k => ?_
      have e : (fun q => b2i (l[i].toNat.testBit (8 - 8 + q))) = (b2i ∘ fun q => l[i].toNat.testBit q) := by
        funext q
        show b2i (l[i].toNat.testBit (8 - 8 + q)) = b2i (l[i].toNat.testBit q)
        rw [Nat.sub_self, Nat.zero_add]
      rw [e]
      rfl)
    refine Big.succ (Big.congr h3 fun k => ?_)
    simp only [commonholdref_SumMore.l0]
    rw [if_pos (by omega), if_pos (by omega), if_pos (by omega), rd_at l i hlt]
    rfl
/-- What turns the first bits over makes. -/
def tr (a : Int) : Nat → List Int → List Int
  | 0, l => l
  | d + 1, l => tr a d (l.set (32 - (d + 1)) (Go.bits .xor .u8 (rd l ((32 - (d + 1) : Nat) : Int)) (b2i (!a.toNat.testBit (32 - (d + 1))))))
theorem tr_length (a : Int) : ∀ d l, (tr a d l).length = l.length
  | 0, _ => rfl
  | d + 1, l => by rw [tr, tr_length a d, List.length_set]
theorem tr_at (a : Int) : ∀ d l, d ≤ 32 → 32 ≤ l.length → ∀ j : Nat, rd (tr a d l) (j : Int) = if 32 - d ≤ j ∧ j < 32 then Go.bits .xor .u8 (rd l (j : Int)) (b2i (!a.toNat.testBit j)) else rd l j
  | 0, l, _, _, j => by rw [tr, if_neg (by omega)]
  | d + 1, l, hd, hl, j => by
    rw [tr, tr_at a d _ (by omega) (by rw [List.length_set]; exact hl) j, rd_set _ _ _ _ (by omega)]
    by_cases e : j = 32 - (d + 1)
    · subst e
      rw [if_neg (by omega), if_pos rfl, if_pos ⟨by omega, by omega⟩]
    · rw [if_neg e]
      by_cases h : 32 - (d + 1) ≤ j ∧ j < 32
      · rw [if_pos h, if_pos ⟨by omega, h.2⟩]
      · rw [if_neg h, if_neg (by omega)]
theorem turn {r : Int × Int} (a : Int) (h0 : 0 ≤ a) (h1 : a < 4294967296) : ∀ (d : Nat) (l : List Int), d ≤ 32 → 32 ≤ l.length → l.length < 1000000 →
    Big (fun k => (commonholdref_remainder.f k (tr a d l)).bind fun t131 => (commonholdref_SumMore.l3 k 0 t131 (t131.length : Int) 0)) r → Big (fun k => commonholdref_SumMore.l2 k a l ((32 - d : Nat) : Int)) r := by
  intro d
  induction d with
  | zero =>
    intro l _ _ _ h
    refine Big.succ (Big.congr h fun k => ?_)
    simp only [commonholdref_SumMore.l2]
    rw [if_neg (by omega)]
    rfl
  | succ d ih =>
    intro l hd hl hL h
    refine Big.succ (Big.congr (ih _ (by omega) (by rw [List.length_set]; exact hl) (by rw [List.length_set]; exact hL) h) fun k => ?_)
    simp only [commonholdref_SumMore.l2]
    rw [if_pos (by omega), if_pos (by omega), if_pos (by omega), Int.toNat_natCast, bit_i64 a h0 h1 _ (by omega), w64 (by omega) (by omega), show ((32 - (d + 1) : Nat) : Int) + 1 = ((32 - d : Nat) : Int) by omega]
    have e : (1 - b2i (a.toNat.testBit (32 - (d + 1))) % 256) % 256 = b2i (!a.toNat.testBit (32 - (d + 1))) := by cases a.toNat.testBit (32 - (d + 1)) <;> rfl
    rw [e]
theorem tell (c : BitVec 32) (l : List Int) (hl : l.length = 32) (hb : ∀ m : Nat, m < 32 → rd l (m : Int) = b2i (c.getLsbD m)) : ∀ (d i : Nat), 32 - i = d → i ≤ 32 →
    Big (fun k => commonholdref_SumMore.l3 k (((~~~ c).toNat % 2 ^ i : Nat) : Int) l (l.length : Int) (i : Int)) ((((~~~ c).toNat : Nat) : Int), 0) := by
  intro d
  induction d with
  | zero =>
    intro i hd hi
    obtain rfl : i = 32 := by omega
    rw [Nat.mod_eq_of_lt (~~~ c).isLt]
    refine Big.succ (Big.eq fun k => ?_)
    simp only [commonholdref_SumMore.l3]
    rw [if_neg (by omega)]
  | succ d ih =>
    intro i hd hi
    refine Big.succ (Big.congr (ih (i + 1) (by omega) (by omega)) fun k => ?_)
    simp only [commonholdref_SumMore.l3]
    rw [if_pos (by omega), if_pos (by omega), if_pos (by omega), hb i (by omega), w64 (x := (i : Int) + 1) (by omega) (by omega)]
    have hp : (2 : Nat) ^ (i + 1) ≤ 4294967296 := by rw [show (4294967296 : Nat) = 2 ^ 32 from rfl]; exact Nat.pow_le_pow_right (by omega) (by omega)
    have hlt : (~~~ c).toNat % 2 ^ (i + 1) < 2 ^ (i + 1) := Nat.mod_lt _ (Nat.two_pow_pos _)
    have hbit : (~~~ c).toNat.testBit i = !c.getLsbD i := getLsb_not (c := c) (m := i) (by omega)
    have hs : shl .i64 ((1 - b2i (c.getLsbD i)) % 256) (i : Int) = ((2 ^ i * (!c.getLsbD i).toNat : Nat) : Int) := by
      unfold shl
      rw [Int.toNat_natCast, Nat.min_eq_left (by show i ≤ 64; omega)]
      have hq : (2 : Nat) ^ i ≤ 4294967296 := Nat.le_trans (Nat.pow_le_pow_right (by omega) (by omega)) hp
      have hc : ((2 : Int) ^ i) = ((2 ^ i : Nat) : Int) := by rw [Int.natCast_pow]; rfl
      rw [IntKind.wrap_i64, hc]
      generalize (2 : Nat) ^ i = q at hq
      cases c.getLsbD i
      · rw [show (1 - b2i false) % 256 = 1 from rfl, show (!false).toNat = 1 from rfl, Nat.mul_one]
        omega
      · rw [show (1 - b2i true) % 256 = 0 from rfl, show (!true).toNat = 0 from rfl, Nat.mul_zero]
        omega
    have hm : (~~~ c).toNat % 2 ^ (i + 1) = (~~~ c).toNat % 2 ^ i + 2 ^ i * (!c.getLsbD i).toNat := by
      rw [Nat.mod_pow_succ, ← hbit, Nat.testBit_eq_decide_div_mod_eq]
      congr 2
      have := Nat.mod_two_eq_zero_or_one ((~~~ c).toNat / 2 ^ i)
      rcases this with h | h <;> rw [h] <;> rfl
    rw [hs, w64 (by omega) (by omega), hm, show (i : Int) + 1 = ((i + 1 : Nat) : Int) by omega]
    rfl
theorem crc_zero (c : BitVec 32) (bs : List Bool) (dd : Nat → Bool) (h : ∀ q, q < bs.length → dd q = bs.getD q false) : crc c ((List.range bs.length).map fun q => dd (0 + q)) = crc c bs := by
  congr 1
  apply List.ext_getElem
  · simp
  · intro i h1 h2
    rw [List.getElem_map, List.getElem_range, Nat.zero_add, h i h2, List.getD_eq_getElem?_getD, List.getElem?_eq_getElem h2]
    rfl
theorem ref_More (a : Int) (l : List Int) (h0 : 0 ≤ a) (h1 : a < 4294967296) (hl : l.length ≤ 8192) (hw : ∀ x ∈ l, 0 ≤ x ∧ x ≤ 255) :
    Big (fun k => commonholdref_SumMore.f k a l) (((~~~ (crc (~~~ BitVec.ofNat 32 a.toNat) (dataBits l))).toNat : Int), 0) := by
  refine Big.congr (g' := fun k => commonholdref_SumMore.j0 k a l false) ?_ (fun k => by unfold commonholdref_SumMore.f; rw [if_neg (by omega), decide_eq_false (by omega)])
  refine Big.succ (Big.congr (g' := fun k => commonholdref_SumMore.l0 k a [] l (l.length : Int) 0) ?_ fun k => by simp only [commonholdref_SumMore.j0]; rw [if_neg (by decide)])
  have hD : (dataBits l).length = 8 * l.length := dataBits_length l
  refine all_bits a l hl hw ?_ l.length 0 (by omega) (by omega)
  have hL : ((dataBits l).map b2i ++ List.replicate 32 (0 : Int)).length = 8 * l.length + 32 := by rw [List.length_append, List.length_map, hD, List.length_replicate]
  refine turn a h0 h1 32 _ (Nat.le_refl _) (by omega) (by omega) ?_
  -- the data, zeros behind it
  let dd : Nat → Bool := fun q => (dataBits l).getD q false
  have hrd : ∀ j : Nat, j < 8 * l.length + 32 → rd ((dataBits l).map b2i ++ List.replicate 32 (0 : Int)) (j : Int) = b2i (dd j) := by
    intro j hj
    show (((dataBits l).map b2i ++ List.replicate 32 (0 : Int)).getD (j : Int).toNat 0) = b2i ((dataBits l).getD j false)
    rw [Int.toNat_natCast, List.getD_eq_getElem?_getD, List.getD_eq_getElem?_getD]
    by_cases h : j < 8 * l.length
    · rw [List.getElem?_append_left (by rw [List.length_map]; omega), List.getElem?_map, List.getElem?_eq_getElem (by omega)]
      rfl
    · rw [List.getElem?_append_right (by rw [List.length_map]; omega), List.getElem?_replicate, if_pos (by rw [List.length_map]; omega), List.getElem?_eq_none (by omega)]
      rfl
  have hlies : Lies dd 0 (~~~ BitVec.ofNat 32 a.toNat) (tr a 32 ((dataBits l).map b2i ++ List.replicate 32 (0 : Int))) := by
    intro j _ hj
    rw [tr_length, hL] at hj
    rw [tr_at a 32 _ (Nat.le_refl _) (by omega) j, hrd j hj, Nat.sub_zero]
    by_cases h : j < 32
    · rw [if_pos ⟨by omega, h⟩, x8, getLsb_not h, BitVec.getLsbD_ofNat, decide_eq_true h, Bool.true_and, Bool.xor_comm]
    · rw [if_neg (by omega), BitVec.getLsbD_of_ge _ _ (by omega), Bool.false_xor]
  obtain ⟨l', hb, hl', ha⟩ := outer dd (8 * l.length) (by omega) (8 * l.length) 0 _ _ (by omega) (by omega) (by rw [tr_length]; exact hL) hlies
  have hz : ∀ m : Nat, m < 32 → rd l' (m : Int) = b2i ((crc (~~~ BitVec.ofNat 32 a.toNat) (dataBits l)).getLsbD m) := by
    intro m hm
    have hzero : dd (8 * l.length + m) = false := by
      show (dataBits l).getD _ false = false
      rw [List.getD_eq_getElem?_getD, List.getElem?_eq_none (by omega)]
      rfl
    have hc := crc_zero (~~~ BitVec.ofNat 32 a.toNat) (dataBits l) dd (fun q _ => rfl)
    rw [hD] at hc
    rw [ha m hm, hzero, Bool.xor_false, hc]
  refine Big.bind (r := l') ?_ ?_
  · refine Big.congr (g' := fun k => (commonholdref_poly.f k).bind fun t => commonholdref_remainder.l0 k _ t 0) ?_ (fun k => rfl)
    exact Big.bind poly_big hb
  · have := tell (crc (~~~ BitVec.ofNat 32 a.toNat) (dataBits l)) l' hl' hz 32 0 (by omega) (by omega)
    rw [Nat.pow_zero, Nat.mod_one] at this
    exact this
theorem ref_More_range (a : Int) (l : List Int) (h : ¬ (0 ≤ a ∧ a < 4294967296)) : Big (fun k => commonholdref_SumMore.f k a l) (0, 2) := by
  refine Big.congr (g' := fun k => commonholdref_SumMore.j0 k a l true) (Big.succ (Big.eq fun k => by simp only [commonholdref_SumMore.j0]; rw [if_pos trivial])) (fun k => ?_)
  unfold commonholdref_SumMore.f
  by_cases h1 : a < 0
  · rw [if_pos h1]
  · rw [if_neg h1, decide_eq_true (by omega)]
theorem octets_eq (l : List Int) (h : l.length < 100000000) : commonholdlaw_octets.f l = some l := by
  unfold commonholdlaw_octets.f
  rw [if_pos (by simp; omega)]
  rfl
/-! ### Frames -/
def sumv (l : List Int) : Int := ((~~~ (crc (~~~ BitVec.ofNat 32 0) (dataBits l))).toNat : Int)
theorem sumOf_prog (l : List Int) (hw : ∀ x ∈ l, 0 ≤ x ∧ x ≤ 255) : sum_Of.f l = some (sumv l) := by
  unfold sum_Of.f
  rw [More_eq 0 l (by omega) (by omega) hw]
  rfl
theorem sumOf_ref (l : List Int) (hl : l.length ≤ 8192) (hw : ∀ x ∈ l, 0 ≤ x ∧ x ≤ 255) : Big (fun k => commonholdref_SumOf.f k l) (sumv l) := by
  unfold commonholdref_SumOf.f
  exact Big.bind (ref_More 0 l (by omega) (by omega) hl hw) (Big.of _)
theorem same_from (l : List Int) (hl : (l.length : Int) ≤ 140737488355328) (d : Nat) : ∀ (k : Nat) (i : Int), 0 ≤ i → i ≤ l.length → (l.length : Int) - i = d → d < k → commonholdlaw_sameBytes.l0 k l l i = some true := by
  induction d with
  | zero =>
    intro k i h0 h1 hd hk
    obtain ⟨k, rfl⟩ : ∃ m, k = m + 1 := ⟨k - 1, by omega⟩
    simp only [commonholdlaw_sameBytes.l0]
    rw [if_neg (by omega)]
  | succ d ih =>
    intro k i h0 h1 hd hk
    obtain ⟨k, rfl⟩ : ∃ m, k = m + 1 := ⟨k - 1, by omega⟩
    simp only [commonholdlaw_sameBytes.l0]
    rw [if_pos (show i < (l.length : Int) by omega), if_pos h0, if_pos (show i < (l.length : Int) by omega)]
    simp only [if_true]
    rw [show wrap64 (i + 1) = i + 1 from by unfold wrap64; omega]
    exact ih k (i + 1) (by omega) (by omega) (by omega) (by omega)
theorem same_self (l : List Int) (hl : (l.length : Int) ≤ 140737488355328) : Big (fun k => commonholdlaw_sameBytes.f k l l) true := by
  refine ⟨l.length + 1, fun k hk => ?_⟩
  show (if (l.length : Int) = (l.length : Int) then _ else _) = some true
  rw [if_pos rfl]
  exact same_from l hl l.length k 0 (by omega) (by omega) (by omega) (by omega)
theorem little_eq (n : Int) (h0 : 0 ≤ n) (h1 : n < 4294967296) : commonholdref_little.f n = some (frame_Seal.four n) := by
  unfold commonholdref_little.f frame_Seal.four frame_word.b
  rw [Int.tmod_eq_emod_of_nonneg h0, Int.tdiv_eq_ediv_of_nonneg h0, Int.tdiv_eq_ediv_of_nonneg h0, Int.tdiv_eq_ediv_of_nonneg h0, w64 (x := n / 256) (by omega) (by omega), w64 (x := n / 65536) (by omega) (by omega), w64 (x := n / 16777216) (by omega) (by omega),
    Int.tmod_eq_emod_of_nonneg (show 0 ≤ n / 256 by omega), Int.tmod_eq_emod_of_nonneg (show 0 ≤ n / 65536 by omega), Int.tmod_eq_emod_of_nonneg (show 0 ≤ n / 16777216 by omega)]
  congr 2
  · show n % 256 % 256 = n / 1 % 256
    omega
  · congr 1
    · show n / 256 % 256 % 256 = n / 256 % 256
      omega
    · congr 1
      · show n / 65536 % 256 % 256 = n / 65536 % 256
        omega
      · congr 1
        show n / 16777216 % 256 % 256 = n / 16777216 % 256
        omega
theorem sumv_range (l : List Int) : 0 ≤ sumv l ∧ sumv l < 4294967296 := by
  unfold sumv
  have := (~~~ (crc (~~~ BitVec.ofNat 32 0) (dataBits l))).isLt
  omega
def sealed (l : List Int) : List Int × Int := if (l.length : Int) > 4000 then ([], 1) else (frame_Seal.four l.length ++ frame_Seal.four (sumv l) ++ l, 0)
theorem sealed_prog (l : List Int) (hw : ∀ x ∈ l, 0 ≤ x ∧ x ≤ 255) : frame_Seal.f l = some (sealed l) := by
  unfold frame_Seal.f sealed
  by_cases h : (l.length : Int) > 4000
  · rw [if_pos h, if_pos h]
  · rw [if_neg h, if_neg h, sumOf_prog l hw, Option.bind_some]
theorem sealed_ref (l : List Int) (hw : ∀ x ∈ l, 0 ≤ x ∧ x ≤ 255) : Big (fun k => commonholdref_Framed.f k l) (sealed l) := by
  unfold commonholdref_Framed.f sealed
  by_cases h : (l.length : Int) > 4000
  · exact Big.eq fun k => by rw [if_pos h, if_pos h]
  · rw [if_neg h]
    have hr := sumv_range l
    refine Big.congr (g' := fun k => (commonholdref_SumOf.f k l).bind _) ?_ (fun k => by rw [if_neg h, little_eq _ (by omega) (by omega), Option.bind_some])
    refine Big.bind (sumOf_ref l (by omega) hw) (Big.eq fun k => ?_)
    have h4 : ∀ n, (frame_Seal.four n).length = 4 := fun _ => rfl
    rw [little_eq _ hr.1 hr.2, Option.bind_some, h4, h4, if_pos (by omega), Option.bind_some, if_pos (by rw [List.length_append, h4, h4]; omega)]
end Of
theorem FrameSeals : commonholdlaw_FrameSeals.Pure := by
  intro l hl
  refine Big.to ?_
  unfold commonholdlaw_FrameSeals.f
  by_cases h : (l.length : Int) > 8192
  · exact Big.eq fun k => by rw [if_pos h]
  · have hw : ∀ x ∈ l, 0 ≤ x ∧ x ≤ 255 := fun x hx => by have := bounds_u8 (hl.2 x hx); omega
    refine Big.congr (g' := fun k => _) ?_ (fun k => by rw [if_neg h, Of.octets_eq l (by omega), Option.bind_some, Of.sealed_prog l hw, Option.bind_some])
    refine Big.bind (Of.sealed_ref l hw) ?_
    have hlen : ((Of.sealed l).1.length : Int) ≤ 140737488355328 := by
      unfold Of.sealed
      split
      · simp
      · show (((frame_Seal.four l.length ++ frame_Seal.four (Of.sumv l) ++ l).length : Nat) : Int) ≤ _
        rw [List.length_append, List.length_append]
        show ((4 + 4 + l.length : Nat) : Int) ≤ _
        omega
    refine Big.bind (Of.same_self _ hlen) ?_
    exact Big.eq fun k => by simp
end Go.Proofs.YtaadljjfckhinabDoor.Pure
