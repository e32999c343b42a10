/-
  The law FnExactFieldOk's plain function answers true at every field.
-/
import Derived.Test.YtngmpffcgglngaaXx10
import Derived.Test.YtngmpffcgglngaaXx11
import Derived.Test.YtngmpffcgglngaaXx12
import Derived.Test.YtngmpffcgglngaaXx13
import Derived.Test.YtngmpffcgglngaaXx15
import Derived.Test.YtngmpffcgglngaaXx16
import Derived.Test.YtngmpffcgglngaaXx17
import Derived.Test.YtngmpffcgglngaaXx18
import Derived.Test.YtngmpffcgglngaaXx19
import Derived.Laws.Bits64
import Derived.Laws.BitsAllLaws
import Derived.SizedLaws
import Derived.Lib.IndexAny
namespace Go.Proofs.Ytngmpffcgglngaa.Pure
open Go Go.RowKit Go.Proofs.Ytngmpffcgglngaa.X Go.Proofs.YtngmpffcgglngaaW.PrintWords Go.Proofs.YtngmpffcgglngaaW.PrintLast Go.Proofs.YtngmpffcgglngaaW.PrintMore
/-- An answer that is there, and of which P holds. -/
def Te {α : Type} (o : Option α) (P : α → Prop) : Prop := ∃ r, o = some r ∧ P r
theorem Te.bind {α β : Type} {o : Option α} {f : α → Option β} {P : α → Prop} {Q : β → Prop} (h : Te o P) (k : ∀ r, P r → Te (f r) Q) : Te (o.bind f) Q := by
  obtain ⟨r, rfl, hr⟩ := h
  exact k r hr
theorem Te.now {α : Type} {P : α → Prop} {r : α} (h : P r) : Te (some r) P := ⟨r, rfl, h⟩
theorem Te.ite {α : Type} {c : Prop} [Decidable c] {a b : Option α} {P : α → Prop} (h : c → Te a P) (k : ¬ c → Te b P) : Te (if c then a else b) P := by
  by_cases hc : c
  · rw [if_pos hc]; exact h hc
  · rw [if_neg hc]; exact k hc
theorem Te.mono {α : Type} {o : Option α} {P Q : α → Prop} (h : Te o P) (k : ∀ r, P r → Q r) : Te o Q := by
  obtain ⟨r, e, hr⟩ := h
  exact ⟨r, e, k r hr⟩
theorem Te.of_eq {α : Type} {o : Option α} {r : α} {P : α → Prop} (e : o = some r) (h : P r) : Te o P := ⟨r, e, h⟩
theorem Te.tells {α : Type} {o : Option α} {r : α} (h : Te o (fun x => x = r)) : o = some r := by
  obtain ⟨x, e, rfl⟩ := h
  exact e
theorem w64 (n : Int) (h : -9223372036854775808 ≤ n) (h' : n ≤ 9223372036854775807) : wrap64 n = n := by unfold wrap64; omega
theorem u8_range (x : Int) (h : (Lit.int .u8 x).wf = true) : 0 ≤ x ∧ x ≤ 255 := by
  simp [Lit.wf, IntKind.min, IntKind.max, IntKind.bits, IntKind.signed] at h
  omega
theorem xor_nat (a b : Nat) (ha : a < 9223372036854775808) (hb : b < 9223372036854775808) : Go.bits .xor .i64 (a : Int) (b : Int) = ((a ^^^ b : Nat) : Int) := by
  have hx : a ^^^ b < 2 ^ 63 := Nat.xor_lt_two_pow (by omega) (by omega)
  have ha' : a < 18446744073709551616 := by omega
  have hb' : b < 18446744073709551616 := by omega
  show IntKind.i64.wrap ((BitVec.ofInt 64 (a : Int) ^^^ BitVec.ofInt 64 (b : Int)).toNat : Int) = _
  rw [BitVec.toNat_xor, ofInt_u64 a ha', ofInt_u64 b hb', IntKind.wrap_i64]
  omega
theorem rd_range (l : List Int) (hl : ∀ x ∈ l, 0 ≤ x ∧ x ≤ 255) (i : Int) : 0 ≤ rd l i ∧ rd l i ≤ 255 := by
  unfold rd
  by_cases h : i.toNat < l.length
  · rw [List.getD_eq_getElem?_getD, List.getElem?_eq_getElem h]
    exact hl _ (List.getElem_mem h)
  · rw [List.getD_eq_getElem?_getD, List.getElem?_eq_none (by omega)]
    simp
/-- A value of a remainder by a positive number. -/
theorem tmod_rng (x n : Int) (hx : 0 ≤ x) (hn : 1 ≤ n) : 0 ≤ Int.tmod x n ∧ Int.tmod x n < n := by
  rw [Int.tmod_eq_emod_of_nonneg hx]
  exact ⟨Int.emod_nonneg _ (by omega), Int.emod_lt_of_pos _ (by omega)⟩
/-- The signs a word may bear. -/
def SG : ByteArray := ⟨#[101, 116, 97, 111, 105, 110, 115, 114, 104, 108, 48, 49, 50, 51, 52, 53, 54, 55, 56, 57, 100, 99, 117, 109, 102, 112, 103, 119, 121, 98, 118, 107, 120, 106, 113, 122, 58, 47, 45]⟩
def sgn (c : UInt8) : Bool := SG.data.toList.contains c
/-- What WordOk answers. -/
def wordB (s : ByteArray) : Bool := s.data.toList.all sgn && decide (s.size ≤ 16)
theorem bt_byte (s : ByteArray) (i : Nat) (c : UInt8) (l : List UInt8) (h : s.data.toList.drop i = c :: l) : bt s (i : Int) = (c.toNat : Int) := by
  have hi : i < s.data.toList.length := by
    rcases Nat.lt_or_ge i s.data.toList.length with h' | h'
    · exact h'
    · rw [List.drop_eq_nil_of_le h'] at h; cases h
  have hs : ((i : Int)).toNat < s.size := by simpa using hi
  rw [← bt_at s (i : Int) hs]
  rw [List.drop_eq_getElem_cons hi] at h
  have h1 := (List.cons.inj h).1
  rw [← h1]
  rfl
theorem len_drop (s : ByteArray) (i : Nat) (c : UInt8) (l : List UInt8) (h : s.data.toList.drop i = c :: l) : i < s.size ∧ s.data.toList.drop (i + 1) = l ∧ s.size = i + 1 + l.length := by
  have e := congrArg List.length h
  rw [List.length_drop, List.length_cons, Array.length_toList] at e
  have e' : s.data.size = s.size := rfl
  refine ⟨by omega, ?_, by omega⟩
  rw [← List.drop_drop, h]
  rfl
theorem len_nil (s : ByteArray) (i : Nat) (h : s.data.toList.drop i = []) : s.size ≤ i := by
  have e := congrArg List.length h
  rw [List.length_drop, Array.length_toList] at e
  have e' : s.data.size = s.size := rfl
  simp only [List.length_nil] at e
  omega
theorem iWord_l0 (s : ByteArray) (hs : s.size ≤ 4611686018427387904) : ∀ (l : List UInt8) (i : Nat), s.data.toList.drop i = l → ∀ k, l.length < k → impl_WordOk.l0 k s (s.size : Int) (i : Int) = some (l.all sgn && decide (s.size ≤ 16)) := by
  intro l
  induction l with
  | nil =>
    intro i h k hk
    obtain ⟨k, rfl⟩ : ∃ j, k = j + 1 := ⟨k - 1, by simp at hk; omega⟩
    have := len_nil s i h
    rw [impl_WordOk.l0, if_neg (by omega)]
    simp
    omega
  | cons c l ih =>
    intro i h k hk
    obtain ⟨k, rfl⟩ : ∃ j, k = j + 1 := ⟨k - 1, by simp at hk; omega⟩
    obtain ⟨h1, h2, h3⟩ := len_drop s i c l h
    rw [impl_WordOk.l0, if_pos (by omega), if_pos (by omega), if_pos (by omega), bt_byte s i c l h]
    have hsg : sgn c = decide (0 ≤ Lib.indexByte SG.data.toList c) := Lib.contains_iff_indexByte _ _
    have e : strings_IndexByte.f SG (c.toNat : Int) = some (Lib.indexByte SG.data.toList c) := by
      unfold strings_IndexByte.f
      congr 2
      simp
    rw [show strings_IndexByte.f ⟨#[101, 116, 97, 111, 105, 110, 115, 114, 104, 108, 48, 49, 50, 51, 52, 53, 54, 55, 56, 57, 100, 99, 117, 109, 102, 112, 103, 119, 121, 98, 118, 107, 120, 106, 113, 122, 58, 47, 45]⟩ (c.toNat : Int) = some (Lib.indexByte SG.data.toList c) from e]
    rw [Option.bind_some]
    by_cases hc : Lib.indexByte SG.data.toList c < 0
    · rw [if_pos hc, List.all_cons, hsg, decide_eq_false (by omega)]
      rfl
    · rw [if_neg hc, List.all_cons, hsg, decide_eq_true (by omega), Bool.true_and, w64 _ (by omega) (by omega), show ((i : Int) + 1) = ((i + 1 : Nat) : Int) by omega]
      exact ih (i + 1) h2 k (by simp at hk; omega)
theorem iWord (s : ByteArray) (hs : s.size ≤ 4611686018427387904) (k : Nat) (hk : s.size < k) : impl_WordOk.f k s = some (wordB s) :=
  iWord_l0 s hs s.data.toList 0 rfl k (by simpa using hk)
theorem sSign_l0 (c : UInt8) : ∀ (l : List UInt8) (i : Nat), SG.data.toList.drop i = l → ∀ k, l.length < k → ∃ r : Int, spec_l2Sign.l0 k (c.toNat : Int) (i : Int) = some r ∧ (l.contains c = decide (0 ≤ r)) := by
  intro l
  have hsz : SG.size = 39 := rfl
  induction l with
  | nil =>
    intro i h k hk
    obtain ⟨k, rfl⟩ : ∃ j, k = j + 1 := ⟨k - 1, by simp at hk; omega⟩
    have := len_nil SG i h
    rw [spec_l2Sign.l0, if_neg (by omega)]
    exact ⟨_, rfl, rfl⟩
  | cons d l ih =>
    intro i h k hk
    obtain ⟨k, rfl⟩ : ∃ j, k = j + 1 := ⟨k - 1, by simp at hk; omega⟩
    obtain ⟨h1, h2, h3⟩ := len_drop SG i d l h
    have hb := bt_byte SG i d l h
    rw [spec_l2Sign.l0, if_pos (by omega), if_pos (by omega)]
    rw [show bt ⟨#[101, 116, 97, 111, 105, 110, 115, 114, 104, 108, 48, 49, 50, 51, 52, 53, 54, 55, 56, 57, 100, 99, 117, 109, 102, 112, 103, 119, 121, 98, 118, 107, 120, 106, 113, 122, 58, 47, 45]⟩ (i : Int) = (d.toNat : Int) from hb]
    by_cases hd : (d.toNat : Int) = (c.toNat : Int)
    · have e : c = d := UInt8.toNat_inj.1 (by omega)
      rw [if_pos hd, e]
      refine ⟨_, rfl, ?_⟩
      rw [List.contains_cons]
      simp
    · rw [if_neg hd, w64 _ (by omega) (by omega), show ((i : Int) + 1) = ((i + 1 : Nat) : Int) by omega]
      obtain ⟨r, e1, e2⟩ := ih (i + 1) h2 k (by simp at hk; omega)
      refine ⟨r, e1, ?_⟩
      rw [List.contains_cons, e2]
      have : (c == d) = false := by
        rw [beq_eq_false_iff_ne]
        intro e
        exact hd (by rw [e])
      rw [this, Bool.false_or]
theorem sSign (c : UInt8) (k : Nat) (hk : 39 < k) : ∃ r : Int, spec_l2Sign.f k (c.toNat : Int) = some r ∧ sgn c = decide (0 ≤ r) :=
  sSign_l0 c SG.data.toList 0 rfl k hk
theorem sWord_l0 (s : ByteArray) (hs : s.size ≤ 4611686018427387904) : ∀ (l : List UInt8) (i : Nat), s.data.toList.drop i = l → ∀ k, l.length + 40 < k → spec_WordOk.l0 k s (i : Int) = some (l.all sgn && decide (s.size ≤ 16)) := by
  intro l
  induction l with
  | nil =>
    intro i h k hk
    obtain ⟨k, rfl⟩ : ∃ j, k = j + 1 := ⟨k - 1, by simp at hk; omega⟩
    have := len_nil s i h
    rw [spec_WordOk.l0, if_neg (by omega)]
    simp
    omega
  | cons c l ih =>
    intro i h k hk
    obtain ⟨k, rfl⟩ : ∃ j, k = j + 1 := ⟨k - 1, by simp at hk; omega⟩
    obtain ⟨h1, h2, h3⟩ := len_drop s i c l h
    rw [spec_WordOk.l0, if_pos (by omega), if_pos (by omega), bt_byte s i c l h]
    obtain ⟨r, e1, e2⟩ := sSign c k (by simp at hk; omega)
    rw [e1, Option.bind_some]
    by_cases hc : r < 0
    · rw [if_pos hc, List.all_cons, e2, decide_eq_false (by omega)]
      rfl
    · rw [if_neg hc, List.all_cons, e2, decide_eq_true (by omega), Bool.true_and, w64 _ (by omega) (by omega), show ((i : Int) + 1) = ((i + 1 : Nat) : Int) by omega]
      exact ih (i + 1) h2 k (by simp at hk; omega)
theorem sWord (s : ByteArray) (hs : s.size ≤ 4611686018427387904) (k : Nat) (hk : s.size + 40 < k) : spec_WordOk.f k s = some (wordB s) :=
  sWord_l0 s hs s.data.toList 0 rfl k (by simpa using hk)
/-- What FieldOk answers. -/
def fieldB (a b : ByteArray) : Bool := wordB a && (wordB b && (a.toList != ([] : List UInt8)))
theorem iField (a b : ByteArray) (c : Bool) (ha : a.size ≤ 4611686018427387904) (hb : b.size ≤ 4611686018427387904) (k : Nat) (hk : a.size < k) (hk' : b.size < k) : impl_FieldOk.f k a b c = some (fieldB a b) := by
  unfold impl_FieldOk.f fieldB
  rw [iWord a ha k hk, Option.bind_some]
  cases wordB a with
  | false => rfl
  | true =>
    rw [if_pos rfl, iWord b hb k hk', Option.bind_some]
    cases wordB b with
    | false => rfl
    | true => rfl
theorem sField (a b : ByteArray) (c : Bool) (ha : a.size ≤ 4611686018427387904) (hb : b.size ≤ 4611686018427387904) (k : Nat) (hk : a.size + 40 < k) (hk' : b.size + 40 < k) : spec_FieldOk.f k a b c = some (fieldB a b) := by
  unfold spec_FieldOk.f fieldB
  rw [sWord a ha k hk, Option.bind_some]
  cases wordB a with
  | false => rfl
  | true =>
    rw [if_pos rfl]
    by_cases h : a.toList = []
    · rw [if_pos h, h]
      simp
    · rw [if_neg h, sWord b hb k hk', Option.bind_some]
      simp [h]
theorem xFieldOk (a b : ByteArray) (c : Bool) (ha : a.size ≤ 140737488351232) (hb : b.size ≤ 140737488351232) : laws_FnExactFieldOk.f (a.size + b.size + 41) a b c = some true := by
  unfold laws_FnExactFieldOk.f laws_szField.f laws_toField.f
  simp only [w64 ((1048576 : Int) - (a.size : Int)) (by omega) (by omega), w64 ((1048576 : Int) - (a.size : Int) - (b.size : Int)) (by omega) (by omega)]
  have hi := iField a b c (by omega) (by omega) (a.size + b.size + 41) (by omega) (by omega)
  have hs := sField a b c (by omega) (by omega) (a.size + b.size + 41) (by omega) (by omega)
  by_cases h1 : (1048576 : Int) - (a.size : Int) < 0
  · rw [if_pos h1]; rfl
  · rw [if_neg h1]
    by_cases h2 : (1048576 : Int) - (a.size : Int) - (b.size : Int) < 0
    · rw [if_pos h2]; rfl
    · rw [if_neg h2, Option.bind_some, if_neg h2, Option.bind_some]
      dsimp only
      rw [hs, Option.bind_some, Option.bind_some, hi, Option.bind_some]
      simp
end Go.Proofs.Ytngmpffcgglngaa.Pure
