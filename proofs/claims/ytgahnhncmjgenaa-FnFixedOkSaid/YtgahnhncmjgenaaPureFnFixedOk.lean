/-
  The law FnFixedOk's plain function answers true at every argument within the given bounds.
-/
import Derived.Test.YtgahnhncmjgenaaXx0
import Derived.Test.YtgahnhncmjgenaaXx4
import Derived.Test.YtgahnhncmjgenaaXx16
import Derived.Test.YtgahnhncmjgenaaXx22
import Derived.Test.YtgahnhncmjgenaaXx48
import Derived.Test.YtgahnhncmjgenaaXx54
import Derived.Test.YtgahnhncmjgenaaXx65
import Derived.Test.YtgahnhncmjgenaaXx77
import Derived.Test.YtgahnhncmjgenaaXx78
import Derived.Laws.Bits64
import Derived.Laws.BitsAllLaws
import Derived.SizedLaws
import Derived.Lib.IndexAny
namespace Go.Proofs.Ytgahnhncmjgenaa.Pure
open Go Go.RowKit Go.Proofs.Ytgahnhncmjgenaa.X Go.Proofs.YtgahnhncmjgenaaW.PrintWords Go.Proofs.YtgahnhncmjgenaaW.PrintLast Go.Proofs.YtgahnhncmjgenaaW.PrintMore
/-- An answer that is there, and of which P holds. -/
def Te {α : Type} (o : Option α) (P : α → Prop) : Prop := ∃ r, o = some r ∧ P r
theorem Te.bind {α β : Type} {o : Option α} {f : α → Option β} {P : α → Prop} {Q : β → Prop} (h : Te o P) (k : ∀ r, P r → Te (f r) Q) : Te (o.bind f) Q := by
  obtain ⟨r, rfl, hr⟩ := h
  exact k r hr
theorem Te.now {α : Type} {P : α → Prop} {r : α} (h : P r) : Te (some r) P := ⟨r, rfl, h⟩
theorem Te.ite {α : Type} {c : Prop} [Decidable c] {a b : Option α} {P : α → Prop} (h : c → Te a P) (k : ¬ c → Te b P) : Te (if c then a else b) P := by
  by_cases hc : c
  · rw [if_pos hc]; exact h hc
  · rw [if_neg hc]; exact k hc
theorem Te.mono {α : Type} {o : Option α} {P Q : α → Prop} (h : Te o P) (k : ∀ r, P r → Q r) : Te o Q := by
  obtain ⟨r, e, hr⟩ := h
  exact ⟨r, e, k r hr⟩
theorem Te.of_eq {α : Type} {o : Option α} {r : α} {P : α → Prop} (e : o = some r) (h : P r) : Te o P := ⟨r, e, h⟩
theorem Te.tells {α : Type} {o : Option α} {r : α} (h : Te o (fun x => x = r)) : o = some r := by
  obtain ⟨x, e, rfl⟩ := h
  exact e
theorem w64 (n : Int) (h : -9223372036854775808 ≤ n) (h' : n ≤ 9223372036854775807) : wrap64 n = n := by unfold wrap64; omega
theorem u8_range (x : Int) (h : (Lit.int .u8 x).wf = true) : 0 ≤ x ∧ x ≤ 255 := by
  simp [Lit.wf, IntKind.min, IntKind.max, IntKind.bits, IntKind.signed] at h
  omega
theorem xor_nat (a b : Nat) (ha : a < 9223372036854775808) (hb : b < 9223372036854775808) : Go.bits .xor .i64 (a : Int) (b : Int) = ((a ^^^ b : Nat) : Int) := by
  have hx : a ^^^ b < 2 ^ 63 := Nat.xor_lt_two_pow (by omega) (by omega)
  have ha' : a < 18446744073709551616 := by omega
  have hb' : b < 18446744073709551616 := by omega
  show IntKind.i64.wrap ((BitVec.ofInt 64 (a : Int) ^^^ BitVec.ofInt 64 (b : Int)).toNat : Int) = _
  rw [BitVec.toNat_xor, ofInt_u64 a ha', ofInt_u64 b hb', IntKind.wrap_i64]
  omega
theorem rd_range (l : List Int) (hl : ∀ x ∈ l, 0 ≤ x ∧ x ≤ 255) (i : Int) : 0 ≤ rd l i ∧ rd l i ≤ 255 := by
  unfold rd
  by_cases h : i.toNat < l.length
  · rw [List.getD_eq_getElem?_getD, List.getElem?_eq_getElem h]
    exact hl _ (List.getElem_mem h)
  · rw [List.getD_eq_getElem?_getD, List.getElem?_eq_none (by omega)]
    simp
/-- A value of a remainder by a positive number. -/
theorem tmod_rng (x n : Int) (hx : 0 ≤ x) (hn : 1 ≤ n) : 0 ≤ Int.tmod x n ∧ Int.tmod x n < n := by
  rw [Int.tmod_eq_emod_of_nonneg hx]
  exact ⟨Int.emod_nonneg _ (by omega), Int.emod_lt_of_pos _ (by omega)⟩
/-- The signs a word may bear. -/
def SG : ByteArray := ⟨#[101, 116, 97, 111, 105, 110, 115, 114, 104, 108, 48, 49, 50, 51, 52, 53, 54, 55, 56, 57, 100, 99, 117, 109, 102, 112, 103, 119, 121, 98, 118, 107, 120, 106, 113, 122, 58, 47, 45]⟩
def sgn (c : UInt8) : Bool := SG.data.toList.contains c
/-- What WordOk answers. -/
def wordB (s : ByteArray) : Bool := s.data.toList.all sgn && decide (s.size ≤ 16)
theorem bt_byte (s : ByteArray) (i : Nat) (c : UInt8) (l : List UInt8) (h : s.data.toList.drop i = c :: l) : bt s (i : Int) = (c.toNat : Int) := by
  have hi : i < s.data.toList.length := by
    rcases Nat.lt_or_ge i s.data.toList.length with h' | h'
    · exact h'
    · rw [List.drop_eq_nil_of_le h'] at h; cases h
  have hs : ((i : Int)).toNat < s.size := by simpa using hi
  rw [← bt_at s (i : Int) hs]
  rw [List.drop_eq_getElem_cons hi] at h
  have h1 := (List.cons.inj h).1
  rw [← h1]
  rfl
theorem len_drop (s : ByteArray) (i : Nat) (c : UInt8) (l : List UInt8) (h : s.data.toList.drop i = c :: l) : i < s.size ∧ s.data.toList.drop (i + 1) = l ∧ s.size = i + 1 + l.length := by
  have e := congrArg List.length h
  rw [List.length_drop, List.length_cons, Array.length_toList] at e
  have e' : s.data.size = s.size := rfl
  refine ⟨by omega, ?_, by omega⟩
  rw [← List.drop_drop, h]
  rfl
theorem len_nil (s : ByteArray) (i : Nat) (h : s.data.toList.drop i = []) : s.size ≤ i := by
  have e := congrArg List.length h
  rw [List.length_drop, Array.length_toList] at e
  have e' : s.data.size = s.size := rfl
  simp only [List.length_nil] at e
  omega
theorem iWord_l0 (s : ByteArray) (hs : s.size ≤ 4611686018427387904) : ∀ (l : List UInt8) (i : Nat), s.data.toList.drop i = l → ∀ k, l.length < k → impl_WordOk.l0 k s (s.size : Int) (i : Int) = some (l.all sgn && decide (s.size ≤ 16)) := by
  intro l
  induction l with
  | nil =>
    intro i h k hk
    obtain ⟨k, rfl⟩ : ∃ j, k = j + 1 := ⟨k - 1, by simp at hk; omega⟩
    have := len_nil s i h
    rw [impl_WordOk.l0, if_neg (by omega)]
    simp
    omega
  | cons c l ih =>
    intro i h k hk
    obtain ⟨k, rfl⟩ : ∃ j, k = j + 1 := ⟨k - 1, by simp at hk; omega⟩
    obtain ⟨h1, h2, h3⟩ := len_drop s i c l h
    rw [impl_WordOk.l0, if_pos (by omega), if_pos (by omega), if_pos (by omega), bt_byte s i c l h]
    have hsg : sgn c = decide (0 ≤ Lib.indexByte SG.data.toList c) := Lib.contains_iff_indexByte _ _
    have e : strings_IndexByte.f SG (c.toNat : Int) = some (Lib.indexByte SG.data.toList c) := by
      unfold strings_IndexByte.f
      congr 2
      simp
    rw [show strings_IndexByte.f ⟨#[101, 116, 97, 111, 105, 110, 115, 114, 104, 108, 48, 49, 50, 51, 52, 53, 54, 55, 56, 57, 100, 99, 117, 109, 102, 112, 103, 119, 121, 98, 118, 107, 120, 106, 113, 122, 58, 47, 45]⟩ (c.toNat : Int) = some (Lib.indexByte SG.data.toList c) from e]
    rw [Option.bind_some]
    by_cases hc : Lib.indexByte SG.data.toList c < 0
    · rw [if_pos hc, List.all_cons, hsg, decide_eq_false (by omega)]
      rfl
    · rw [if_neg hc, List.all_cons, hsg, decide_eq_true (by omega), Bool.true_and, w64 _ (by omega) (by omega), show ((i : Int) + 1) = ((i + 1 : Nat) : Int) by omega]
      exact ih (i + 1) h2 k (by simp at hk; omega)
theorem iWord (s : ByteArray) (hs : s.size ≤ 4611686018427387904) (k : Nat) (hk : s.size < k) : impl_WordOk.f k s = some (wordB s) :=
  iWord_l0 s hs s.data.toList 0 rfl k (by simpa using hk)
theorem sSign_l0 (c : UInt8) : ∀ (l : List UInt8) (i : Nat), SG.data.toList.drop i = l → ∀ k, l.length < k → ∃ r : Int, spec_l2Sign.l0 k (c.toNat : Int) (i : Int) = some r ∧ (l.contains c = decide (0 ≤ r)) := by
  intro l
  have hsz : SG.size = 39 := rfl
  induction l with
  | nil =>
    intro i h k hk
    obtain ⟨k, rfl⟩ : ∃ j, k = j + 1 := ⟨k - 1, by simp at hk; omega⟩
    have := len_nil SG i h
    rw [spec_l2Sign.l0, if_neg (by omega)]
    exact ⟨_, rfl, rfl⟩
  | cons d l ih =>
    intro i h k hk
    obtain ⟨k, rfl⟩ : ∃ j, k = j + 1 := ⟨k - 1, by simp at hk; omega⟩
    obtain ⟨h1, h2, h3⟩ := len_drop SG i d l h
    have hb := bt_byte SG i d l h
    rw [spec_l2Sign.l0, if_pos (by omega), if_pos (by omega)]
    rw [show bt ⟨#[101, 116, 97, 111, 105, 110, 115, 114, 104, 108, 48, 49, 50, 51, 52, 53, 54, 55, 56, 57, 100, 99, 117, 109, 102, 112, 103, 119, 121, 98, 118, 107, 120, 106, 113, 122, 58, 47, 45]⟩ (i : Int) = (d.toNat : Int) from hb]
    by_cases hd : (d.toNat : Int) = (c.toNat : Int)
    · have e : c = d := UInt8.toNat_inj.1 (by omega)
      rw [if_pos hd, e]
      refine ⟨_, rfl, ?_⟩
      rw [List.contains_cons]
      simp
    · rw [if_neg hd, w64 _ (by omega) (by omega), show ((i : Int) + 1) = ((i + 1 : Nat) : Int) by omega]
      obtain ⟨r, e1, e2⟩ := ih (i + 1) h2 k (by simp at hk; omega)
      refine ⟨r, e1, ?_⟩
      rw [List.contains_cons, e2]
      have : (c == d) = false := by
        rw [beq_eq_false_iff_ne]
        intro e
        exact hd (by rw [e])
      rw [this, Bool.false_or]
theorem sSign (c : UInt8) (k : Nat) (hk : 39 < k) : ∃ r : Int, spec_l2Sign.f k (c.toNat : Int) = some r ∧ sgn c = decide (0 ≤ r) :=
  sSign_l0 c SG.data.toList 0 rfl k hk
theorem sWord_l0 (s : ByteArray) (hs : s.size ≤ 4611686018427387904) : ∀ (l : List UInt8) (i : Nat), s.data.toList.drop i = l → ∀ k, l.length + 40 < k → spec_WordOk.l0 k s (i : Int) = some (l.all sgn && decide (s.size ≤ 16)) := by
  intro l
  induction l with
  | nil =>
    intro i h k hk
    obtain ⟨k, rfl⟩ : ∃ j, k = j + 1 := ⟨k - 1, by simp at hk; omega⟩
    have := len_nil s i h
    rw [spec_WordOk.l0, if_neg (by omega)]
    simp
    omega
  | cons c l ih =>
    intro i h k hk
    obtain ⟨k, rfl⟩ : ∃ j, k = j + 1 := ⟨k - 1, by simp at hk; omega⟩
    obtain ⟨h1, h2, h3⟩ := len_drop s i c l h
    rw [spec_WordOk.l0, if_pos (by omega), if_pos (by omega), bt_byte s i c l h]
    obtain ⟨r, e1, e2⟩ := sSign c k (by simp at hk; omega)
    rw [e1, Option.bind_some]
    by_cases hc : r < 0
    · rw [if_pos hc, List.all_cons, e2, decide_eq_false (by omega)]
      rfl
    · rw [if_neg hc, List.all_cons, e2, decide_eq_true (by omega), Bool.true_and, w64 _ (by omega) (by omega), show ((i : Int) + 1) = ((i + 1 : Nat) : Int) by omega]
      exact ih (i + 1) h2 k (by simp at hk; omega)
theorem sWord (s : ByteArray) (hs : s.size ≤ 4611686018427387904) (k : Nat) (hk : s.size + 40 < k) : spec_WordOk.f k s = some (wordB s) :=
  sWord_l0 s hs s.data.toList 0 rfl k (by simpa using hk)
/-- What FieldOk answers. -/
def fieldB (a b : ByteArray) : Bool := wordB a && (wordB b && (a.toList != ([] : List UInt8)))
theorem iField (a b : ByteArray) (c : Bool) (ha : a.size ≤ 4611686018427387904) (hb : b.size ≤ 4611686018427387904) (k : Nat) (hk : a.size < k) (hk' : b.size < k) : impl_FieldOk.f k a b c = some (fieldB a b) := by
  unfold impl_FieldOk.f fieldB
  rw [iWord a ha k hk, Option.bind_some]
  cases wordB a with
  | false => rfl
  | true =>
    rw [if_pos rfl, iWord b hb k hk', Option.bind_some]
    cases wordB b with
    | false => rfl
    | true => rfl
theorem sField (a b : ByteArray) (c : Bool) (ha : a.size ≤ 4611686018427387904) (hb : b.size ≤ 4611686018427387904) (k : Nat) (hk : a.size + 40 < k) (hk' : b.size + 40 < k) : spec_FieldOk.f k a b c = some (fieldB a b) := by
  unfold spec_FieldOk.f fieldB
  rw [sWord a ha k hk, Option.bind_some]
  cases wordB a with
  | false => rfl
  | true =>
    rw [if_pos rfl]
    by_cases h : a.toList = []
    · rw [if_pos h, h]
      simp
    · rw [if_neg h, sWord b hb k hk', Option.bind_some]
      simp [h]
def fB (x : S32) : Bool := fieldB x.f0 x.f1
/-- The fields of a list are no longer than m. -/
def Bd (m : Nat) (l : List S32) : Prop := ∀ x ∈ l, x.f0.size ≤ m ∧ x.f1.size ≤ m
theorem Bd.drop {m : Nat} {l : List S32} (h : Bd m l) (i : Nat) : Bd m (l.drop i) := fun x hx => h x (List.mem_of_mem_drop hx)
theorem Bd.take {m : Nat} {l : List S32} (h : Bd m l) (i : Nat) : Bd m (l.take i) := fun x hx => h x (List.mem_of_mem_take hx)
theorem Bd.append {m : Nat} {l t : List S32} (h : Bd m l) (k : Bd m t) : Bd m (l ++ t) := fun x hx => (List.mem_append.1 hx).elim (h x) (k x)
theorem Bd.mono {m n : Nat} {l : List S32} (h : Bd m l) (k : m ≤ n) : Bd n l := fun x hx => ⟨Nat.le_trans (h x hx).1 k, Nat.le_trans (h x hx).2 k⟩
theorem Bd.nil (m : Nat) : Bd m [] := fun x hx => by cases hx
theorem Bd.one {m : Nat} (x : S32) (h : x.f0.size ≤ m) (k : x.f1.size ≤ m) : Bd m [x] := fun y hy => by
  rw [List.mem_singleton] at hy
  rw [hy]
  exact ⟨h, k⟩
theorem drop_cons (l : List S32) (i : Nat) (x : S32) (t : List S32) (h : l.drop i = x :: t) : i < l.length ∧ l.drop (i + 1) = t ∧ rd_T32 l (i : Int) = x ∧ x ∈ l ∧ l.length = i + 1 + t.length := by
  have e := congrArg List.length h
  rw [List.length_drop, List.length_cons] at e
  have hi : i < l.length := by omega
  refine ⟨hi, ?_, ?_, ?_, by omega⟩
  · rw [← List.drop_drop, h]
    rfl
  · rw [rd_drop l i hi] at h
    exact (List.cons.inj h).1
  · have : x ∈ l.drop i := by rw [h]; exact List.mem_cons_self
    exact List.mem_of_mem_drop this
theorem drop_none (l : List S32) (i : Nat) (h : l.drop i = []) : l.length ≤ i := by
  have e := congrArg List.length h
  rw [List.length_drop] at e
  simp only [List.length_nil] at e
  omega
/-- The place of the first that p takes. -/
def idxB (p : S32 → Bool) : List S32 → Int → Int
  | [], _ => -1
  | x :: l, i => if p x = true then i else idxB p l (i + 1)
theorem idxO_B (F : S32 → Option Bool) (p : S32 → Bool) : ∀ (l : List S32) (i : Int), (∀ x ∈ l, F x = some (p x)) → idxO F l i = some (idxB p l i)
  | [], _, _ => rfl
  | x :: l, i, h => by
    unfold idxO idxB
    rw [h x List.mem_cons_self, Option.bind_some]
    cases p x with
    | true => rfl
    | false =>
      rw [if_neg (by decide), if_neg (by decide)]
      exact idxO_B F p l (i + 1) (fun y hy => h y (List.mem_cons_of_mem _ hy))
theorem idxB_any (p : S32 → Bool) : ∀ (l : List S32) (i : Int), 0 ≤ i → decide (idxB p l i ≥ 0) = l.any p
  | [], _, _ => rfl
  | x :: l, i, h => by
    unfold idxB
    rw [List.any_cons]
    cases p x with
    | true => rw [if_pos rfl, decide_eq_true h]; rfl
    | false => rw [if_neg (by decide), Bool.false_or]; exact idxB_any p l (i + 1) (by omega)
theorem any_not (p : S32 → Bool) (l : List S32) : (l.any fun x => !p x) = !(l.all p) := by
  induction l with
  | nil => rfl
  | cons x l ih => rw [List.any_cons, List.all_cons, ih, Bool.not_and]
theorem iF (k : Nat) (x : S32) (m : Nat) (hm : m ≤ 4611686018427387904) (h : x.f0.size ≤ m ∧ x.f1.size ≤ m) (hk : m < k) : impl_FieldOk.f k x.f0 x.f1 x.f2 = some (fB x) :=
  iField x.f0 x.f1 x.f2 (by omega) (by omega) k (by omega) (by omega)
theorem sF (k : Nat) (x : S32) (m : Nat) (hm : m ≤ 4611686018427387904) (h : x.f0.size ≤ m ∧ x.f1.size ≤ m) (hk : m + 40 < k) : spec_FieldOk.f k x.f0 x.f1 x.f2 = some (fB x) :=
  sField x.f0 x.f1 x.f2 (by omega) (by omega) k (by omega) (by omega)
theorem toList_nil (s : ByteArray) : s.toList = ([] : List UInt8) ↔ s.size = 0 := by
  rw [ByteArray.toList_eq]
  constructor
  · intro h
    have := congrArg List.length h
    simpa using this
  · intro h
    apply List.eq_nil_of_length_eq_zero
    simpa using h
def ok2 (x : S32) : Bool := fB x && !x.f2
def szB : List S32 → Int
  | [] => 0
  | x :: t => ((x.f0.size : Int) + (x.f1.size : Int) + 4) + szB t
def tabB (l : List S32) (M : Int) : Bool := l.all ok2 && ((decide (0 ≤ M) && decide (M ≤ 64)) && decide (szB l ≤ M))
theorem szB_pos : ∀ l : List S32, 0 ≤ szB l
  | [] => Int.le_refl 0
  | x :: t => by
    have := szB_pos t
    unfold szB
    omega
theorem szB_le (m : Nat) : ∀ l : List S32, Bd m l → szB l ≤ (l.length : Int) * (2 * (m : Int) + 4)
  | [], _ => by simp [szB]
  | x :: t, h => by
    have ih := szB_le m t (fun y hy => h y (List.mem_cons_of_mem _ hy))
    have h1 := h x List.mem_cons_self
    unfold szB
    rw [List.length_cons, show (((t.length + 1 : Nat) : Int)) = (t.length : Int) + 1 by omega, Int.add_mul, Int.one_mul]
    omega
theorem szB_small (l : List S32) (hb : Bd 1048576 l) (hn : l.length ≤ 1048600) : szB l ≤ 4611686018427387904 := by
  have h := szB_le 1048576 l hb
  have h2 : (l.length : Int) * (2 * ((1048576 : Nat) : Int) + 4) ≤ 1048600 * (2 * ((1048576 : Nat) : Int) + 4) := Int.mul_le_mul_of_nonneg_right (by omega) (by omega)
  omega
theorem iSize_l0 (l : List S32) (hn : l.length ≤ 4611686018427387904) : ∀ (t : List S32) (i : Nat), l.drop i = t → ∀ k (s : Int), 0 ≤ s → s + szB t ≤ 4611686018427387904 → t.length < k → impl_Table_size.l0 k s l (l.length : Int) (i : Int) = some (s + szB t) := by
  intro t
  induction t with
  | nil =>
    intro i h k s h0 h1 hk
    obtain ⟨k, rfl⟩ : ∃ j, k = j + 1 := ⟨k - 1, by omega⟩
    have := drop_none l i h
    rw [impl_Table_size.l0, if_neg (by omega)]
    simp [szB]
  | cons x t ih =>
    intro i h k s h0 h1 hk
    simp only [List.length_cons] at hk
    obtain ⟨k, rfl⟩ : ∃ j, k = j + 1 := ⟨k - 1, by omega⟩
    obtain ⟨g1, g2, g3, g4, g5⟩ := drop_cons l i x t h
    have hp := szB_pos t
    unfold szB at h1 ⊢
    rw [impl_Table_size.l0, if_pos (by omega), if_pos (by omega), if_pos (by omega), g3]
    rw [w64 ((x.f0.size : Int) + (x.f1.size : Int)) (by omega) (by omega), w64 ((x.f0.size : Int) + (x.f1.size : Int) + 4) (by omega) (by omega), w64 (s + _) (by omega) (by omega), w64 ((i : Int) + 1) (by omega) (by omega), show ((i : Int) + 1) = ((i + 1 : Nat) : Int) by omega, ih (i + 1) g2 k _ (by omega) (by omega) (by omega)]
    congr 1
    omega
theorem iSize (l : List S32) (M : Int) (hn : l.length ≤ 4611686018427387904) (hs : szB l ≤ 4611686018427387904) (k : Nat) (hk : l.length < k) : impl_Table_size.f k l M = some (szB l) := by
  have h := iSize_l0 l hn l 0 rfl k 0 (Int.le_refl 0) (by omega) hk
  rw [Int.zero_add] at h
  exact h
theorem sSize_l0 (l : List S32) (hn : l.length ≤ 4611686018427387904) : ∀ (t : List S32) (i : Nat), l.drop i = t → ∀ k (s : Int), 0 ≤ s → s + szB t ≤ 4611686018427387904 → t.length < k → spec_l3Size.l0 k l s (i : Int) = some (s + szB t) := by
  intro t
  induction t with
  | nil =>
    intro i h k s h0 h1 hk
    obtain ⟨k, rfl⟩ : ∃ j, k = j + 1 := ⟨k - 1, by omega⟩
    have := drop_none l i h
    rw [spec_l3Size.l0, if_neg (by omega)]
    simp [szB]
  | cons x t ih =>
    intro i h k s h0 h1 hk
    simp only [List.length_cons] at hk
    obtain ⟨k, rfl⟩ : ∃ j, k = j + 1 := ⟨k - 1, by omega⟩
    obtain ⟨g1, g2, g3, g4, g5⟩ := drop_cons l i x t h
    have hp := szB_pos t
    unfold szB at h1 ⊢
    rw [spec_l3Size.l0, if_pos (by omega), if_pos (by omega), g3]
    unfold spec_l3One.f
    rw [Option.bind_some, w64 ((x.f0.size : Int) + (x.f1.size : Int)) (by omega) (by omega), w64 ((x.f0.size : Int) + (x.f1.size : Int) + 4) (by omega) (by omega), w64 (s + _) (by omega) (by omega), w64 ((i : Int) + 1) (by omega) (by omega), show ((i : Int) + 1) = ((i + 1 : Nat) : Int) by omega, ih (i + 1) g2 k _ (by omega) (by omega) (by omega)]
    congr 1
    omega
theorem sSize (l : List S32) (hn : l.length ≤ 4611686018427387904) (hs : szB l ≤ 4611686018427387904) (k : Nat) (hk : l.length < k) : spec_l3Size.f k l = some (szB l) := by
  have h := sSize_l0 l hn l 0 rfl k 0 (Int.le_refl 0) (by omega) hk
  rw [Int.zero_add] at h
  exact h
theorem iIn (a b c : Int) : impl_in.f a b c = some (decide (b ≤ a) && decide (a ≤ c)) := by
  unfold impl_in.f
  by_cases h : b ≤ a
  · rw [if_pos h, decide_eq_true h, Bool.true_and]
  · rw [if_neg h, decide_eq_false h, Bool.false_and]
theorem sIn (a b c : Int) : spec_l6In.f a b c = some (decide (b ≤ a) && decide (a ≤ c)) := iIn a b c
theorem sTab_l0 (l : List S32) (M : Int) (hb : Bd 1048576 l) (hn : l.length ≤ 1048600) : ∀ (t : List S32) (i : Nat), l.drop i = t → ∀ k, t.length + 2200000 < k → spec_TableOk.l0 k (i : Int) l M = some (t.all ok2 && ((decide (0 ≤ M) && decide (M ≤ 64)) && decide (szB l ≤ M))) := by
  intro t
  induction t with
  | nil =>
    intro i h k hk
    obtain ⟨k, rfl⟩ : ∃ j, k = j + 1 := ⟨k - 1, by omega⟩
    have := drop_none l i h
    rw [spec_TableOk.l0, if_neg (by omega), sIn, Option.bind_some]
    cases (decide (0 ≤ M) && decide (M ≤ 64)) with
    | false => rfl
    | true =>
      rw [if_pos rfl, sSize l (by omega) (szB_small l hb hn) k (by omega), Option.bind_some]
      rfl
  | cons x t ih =>
    intro i h k hk
    simp only [List.length_cons] at hk
    obtain ⟨k, rfl⟩ : ∃ j, k = j + 1 := ⟨k - 1, by omega⟩
    obtain ⟨g1, g2, g3, g4, g5⟩ := drop_cons l i x t h
    rw [spec_TableOk.l0, if_pos (by omega), if_pos (by omega), g3, sF k x 1048576 (by omega) (hb x g4) (by omega), Option.bind_some, List.all_cons]
    unfold ok2
    cases fB x with
    | false => rfl
    | true =>
      rw [if_pos rfl]
      cases x.f2 with
      | true => rfl
      | false =>
        rw [if_neg (by decide), w64 ((i : Int) + 1) (by omega) (by omega), show ((i : Int) + 1) = ((i + 1 : Nat) : Int) by omega, ih (i + 1) g2 k (by omega)]
        rfl
theorem sTab (l : List S32) (M : Int) (hb : Bd 1048576 l) (hn : l.length ≤ 1048600) (k : Nat) (hk : l.length + 2200000 < k) : spec_TableOk.f k l M = some (tabB l M) :=
  sTab_l0 l M hb hn l 0 rfl k hk
theorem iTab (l : List S32) (M : Int) (hb : Bd 1048576 l) (hn : l.length ≤ 1048600) (k : Nat) (hk : l.length + 2200000 < k) : impl_TableOk.f k l M = some (tabB l M) := by
  have hF : ∀ x ∈ l, impl_TableOk_1.F k x = some (!(ok2 x)) := fun x hx => by
    unfold impl_TableOk_1.F ok2
    rw [iF k x 1048576 (by omega) (hb x hx) (by omega), Option.bind_some]
    cases fB x with
    | false => rfl
    | true => rw [if_pos rfl]; simp
  unfold impl_TableOk.f impl_TableOk_1c.f tabB
  rw [iIn, Option.bind_some, if_pos (show l.length ≤ 9223372036854775806 by omega), idxO_B _ _ l 0 hF, Option.bind_some, idxB_any _ l 0 (Int.le_refl 0), any_not]
  cases (decide (0 ≤ M) && decide (M ≤ 64)) with
  | false =>
    rw [if_neg (by decide), Bool.false_and, Bool.and_false]
  | true =>
    rw [if_pos rfl, Option.bind_some, Bool.true_and]
    cases l.all ok2 with
    | false => rfl
    | true =>
      rw [if_neg (by decide), iSize l M (by omega) (szB_small l hb hn) k (by omega), Option.bind_some]
      rfl
def fixedL : List S32 := [⟨⟨#[58, 112, 97, 116, 104]⟩, ⟨#[]⟩, false⟩, ⟨⟨#[58, 115, 116, 97, 116, 117, 115]⟩, ⟨#[48]⟩, false⟩, ⟨⟨#[58, 115, 116, 97, 116, 117, 115]⟩, ⟨#[49, 50]⟩, false⟩, ⟨⟨#[107, 105, 110, 100]⟩, ⟨#[116, 101, 120, 116]⟩, false⟩, ⟨⟨#[115, 105, 122, 101]⟩, ⟨#[]⟩, false⟩, ⟨⟨#[116, 101]⟩, ⟨#[116, 114, 97, 105, 108, 101, 114, 115]⟩, false⟩]
theorem fixedL_len : fixedL.length = 6 := rfl
theorem iFixed : impl_TableFixed.f = some fixedL := rfl
theorem sFixed : spec_TableFixed.f = some fixedL := rfl
theorem sAll (l : List S32) (M : Int) (hn : l.length ≤ 1048600) : spec_l3All.f l M = some (fixedL ++ l) := by
  unfold spec_l3All.f
  rw [sFixed, Option.bind_some, fixedL_len, if_pos (by omega)]
theorem concat_l1 (a b : List S32) (ha : a.length ≤ 10) (hn : b.length ≤ 1048600) (k : Nat) (hk : 10 < k) : impl_Field_81.l1 k [] [a, b] 2 0 = some (a ++ b) := by
  obtain ⟨k, rfl⟩ : ∃ j, k = j + 3 := ⟨k - 3, by omega⟩
  rw [impl_Field_81.l1, if_pos (by decide), if_pos (by decide), if_pos (by simp), show rd_L6 [a, b] 0 = a from rfl, if_pos (by simp; omega), show wrap64 (0 + 1) = 1 from w64 1 (by omega) (by omega)]
  rw [impl_Field_81.l1, if_pos (by decide), if_pos (by decide), if_pos (by simp), show rd_L6 [a, b] 1 = b from rfl, if_pos (by simp; omega), show wrap64 (1 + 1) = 2 from w64 2 (by omega) (by omega)]
  rw [impl_Field_81.l1, if_neg (by decide)]
  rfl
theorem concat_l0 (a b : List S32) (ha : a.length ≤ 10) (hn : b.length ≤ 1048600) (k : Nat) (hk : 20 < k) : impl_Field_81.f k [a, b] = some (a ++ b) := by
  unfold impl_Field_81.f
  obtain ⟨k, rfl⟩ : ∃ j, k = j + 3 := ⟨k - 3, by omega⟩
  rw [show ((([a, b] : List (List S32)).length : Nat) : Int) = 2 from rfl]
  rw [impl_Field_81.l0, if_pos (by decide), if_pos (by decide), if_pos (by simp), show rd_L6 [a, b] 0 = a from rfl, w64 (0 + (a.length : Int)) (by omega) (by omega), if_neg (by omega), show wrap64 (0 + 1) = 1 from w64 1 (by omega) (by omega)]
  rw [impl_Field_81.l0, if_pos (by decide), if_pos (by decide), if_pos (by simp), show rd_L6 [a, b] 1 = b from rfl, w64 _ (by omega) (by omega), if_neg (by omega), show wrap64 (1 + 1) = 2 from w64 2 (by omega) (by omega)]
  rw [impl_Field_81.l0, if_neg (by decide)]
  unfold impl_Field_83.f
  rw [if_pos (by omega), if_pos (by omega), Option.bind_some]
  exact concat_l1 a b ha hn k (by omega)
theorem iAll (l : List S32) (M : Int) (hn : l.length ≤ 1048600) (k : Nat) (hk : 20 < k) : impl_Table_all.f k l M = some (fixedL ++ l) := by
  unfold impl_Table_all.f
  rw [iFixed, Option.bind_some, concat_l0 fixedL l (by rw [fixedL_len]; omega) hn k hk, Option.bind_some]
/-- What At answers of the fields of all places. -/
def atB (l : List S32) (a : Int) : ByteArray × ByteArray × Bool × Bool :=
  if (decide (1 ≤ a) && decide (a ≤ ((fixedL ++ l).length : Int))) = true then ((rd_T32 (fixedL ++ l) (a - 1)).f0, (rd_T32 (fixedL ++ l) (a - 1)).f1, (rd_T32 (fixedL ++ l) (a - 1)).f2, true) else (⟨#[]⟩, ⟨#[]⟩, false, false)
def tatB (l : List S32) (M a : Int) : ByteArray × ByteArray × Bool × Bool := if tabB l M = true then atB l a else (⟨#[]⟩, ⟨#[]⟩, false, false)
theorem in_of {a b c : Int} (h : (decide (b ≤ a) && decide (a ≤ c)) = true) : b ≤ a ∧ a ≤ c := by
  rw [Bool.and_eq_true] at h
  exact ⟨of_decide_eq_true h.1, of_decide_eq_true h.2⟩
theorem all_len (l : List S32) : (fixedL ++ l).length = 6 + l.length := by rw [List.length_append, fixedL_len]
theorem iAt (l : List S32) (M a : Int) (hn : l.length ≤ 1048600) (k : Nat) (hk : 20 < k) : impl_Table_at.f k l M a = some (atB l a) := by
  unfold impl_Table_at.f atB
  have hl := all_len l
  rw [iAll l M hn k hk, Option.bind_some, iIn, Option.bind_some]
  by_cases h : (decide (1 ≤ a) && decide (a ≤ ((fixedL ++ l).length : Int))) = true
  · have h2 := in_of h
    rw [if_pos h, if_pos h, w64 (a - 1) (by omega) (by omega), if_pos (by omega), if_pos (by omega)]
  · rw [if_neg h, if_neg h]
theorem sAt (l : List S32) (M a : Int) (hn : l.length ≤ 1048600) : spec_l3At.f l M a = some (atB l a) := by
  unfold spec_l3At.f atB
  have hl := all_len l
  rw [sAll l M hn, Option.bind_some, sIn, Option.bind_some]
  by_cases h : (decide (1 ≤ a) && decide (a ≤ ((fixedL ++ l).length : Int))) = true
  · have h2 := in_of h
    rw [if_pos h, if_pos h, w64 (a - 1) (by omega) (by omega), if_pos (by omega), if_pos (by omega)]
  · rw [if_neg h, if_neg h]
theorem iTAt (l : List S32) (M a : Int) (hb : Bd 1048576 l) (hn : l.length ≤ 1048600) (k : Nat) (hk : l.length + 2200000 < k) : impl_TableAt.f k l M a = some (tatB l M a) := by
  unfold impl_TableAt.f tatB
  rw [iTab l M hb hn k hk, Option.bind_some]
  cases tabB l M with
  | false => rfl
  | true => rw [if_pos rfl, if_pos rfl, iAt l M a hn k (by omega), Option.bind_some]
theorem sTAt (l : List S32) (M a : Int) (hb : Bd 1048576 l) (hn : l.length ≤ 1048600) (k : Nat) (hk : l.length + 2200000 < k) : spec_TableAt.f k l M a = some (tatB l M a) := by
  unfold spec_TableAt.f tatB
  rw [sTab l M hb hn k hk, Option.bind_some]
  cases tabB l M with
  | false => rfl
  | true => rw [if_pos rfl, if_pos rfl, sAt l M a hn, Option.bind_some]
def eqN (n : ByteArray) (x : S32) : Bool := x.f0.toList == n.toList
def eqNV (n v : ByteArray) (x : S32) : Bool := (x.f0.toList == n.toList) && (x.f1.toList == v.toList)
def findB (l : List S32) (n v : ByteArray) : Int × Bool := if idxB (eqNV n v) l 0 ≥ 0 then (idxB (eqNV n v) l 0 + 1, true) else (idxB (eqN n) l 0 + 1, false)
theorem idxB_lt (p : S32 → Bool) : ∀ (l : List S32) (i : Int), 0 ≤ i → -1 ≤ idxB p l i ∧ idxB p l i < i + l.length + 1
  | [], i, h => by simp [idxB]; omega
  | x :: l, i, h => by
    unfold idxB
    have ih := idxB_lt p l (i + 1) (by omega)
    rw [List.length_cons]
    split
    · omega
    · omega
theorem iFind (l : List S32) (M : Int) (n v : ByteArray) (c : Bool) (hn : l.length ≤ 1048600) (k : Nat) (hk : 20 < k) : impl_Table_find.f k l M n v c = some (findB (fixedL ++ l) n v) := by
  unfold impl_Table_find.f findB
  have hl := all_len l
  have h1 := idxB_lt (eqNV n v) (fixedL ++ l) 0 (Int.le_refl 0)
  have h2 := idxB_lt (eqN n) (fixedL ++ l) 0 (Int.le_refl 0)
  rw [iAll l M hn k hk, Option.bind_some, if_pos (by omega), idxO_B (find_1.F n v) (eqNV n v) _ 0 (fun x _ => rfl), Option.bind_some]
  by_cases h : idxB (eqNV n v) (fixedL ++ l) 0 ≥ 0
  · rw [if_pos h, if_pos h, w64 _ (by omega) (by omega)]
  · rw [if_neg h, if_neg h, idxO_B (find_2.F n) (eqN n) _ 0 (fun x _ => rfl), Option.bind_some, w64 _ (by omega) (by omega)]
theorem sFind_l1 (l : List S32) (n v : ByteArray) (c : Bool) (hn : l.length ≤ 1048610) (q : Int) : ∀ (t : List S32) (i : Nat), l.drop i = t → ∀ k, t.length < k → spec_l3Find.l1 k l q (i : Int) n v c = some (if idxB (eqNV n v) t (i : Int) ≥ 0 then (idxB (eqNV n v) t (i : Int) + 1, true) else (q, false)) := by
  intro t
  induction t with
  | nil =>
    intro i h k hk
    obtain ⟨k, rfl⟩ : ∃ j, k = j + 1 := ⟨k - 1, by omega⟩
    have := drop_none l i h
    rw [spec_l3Find.l1, if_neg (by omega)]
    rfl
  | cons x t ih =>
    intro i h k hk
    simp only [List.length_cons] at hk
    obtain ⟨k, rfl⟩ : ∃ j, k = j + 1 := ⟨k - 1, by omega⟩
    obtain ⟨g1, g2, g3, g4, g5⟩ := drop_cons l i x t h
    rw [spec_l3Find.l1, if_pos (by omega), if_pos (by omega), g3, w64 ((i : Int) + 1) (by omega) (by omega)]
    unfold idxB
    by_cases c1 : x.f0.toList = n.toList
    · rw [if_pos c1]
      by_cases c2 : x.f1.toList = v.toList
      · have e : eqNV n v x = true := by unfold eqNV; rw [c1, c2]; simp
        rw [if_pos c2, if_pos e, if_pos (show (i : Int) ≥ 0 by omega)]
      · have e : ¬ (eqNV n v x = true) := by unfold eqNV; rw [c1]; simp [c2]
        rw [if_neg c2, if_neg e, show ((i : Int) + 1) = ((i + 1 : Nat) : Int) by omega]
        exact ih (i + 1) g2 k (by omega)
    · have e : ¬ (eqNV n v x = true) := by unfold eqNV; simp [c1]
      rw [if_neg c1, if_neg e, show ((i : Int) + 1) = ((i + 1 : Nat) : Int) by omega]
      exact ih (i + 1) g2 k (by omega)
theorem sFind_l0 (l : List S32) (n v : ByteArray) (c : Bool) (hn : l.length ≤ 1048610) : ∀ (i : Nat), i ≤ l.length → ∀ k, i + l.length + 2 < k → spec_l3Find.l0 k l (idxB (eqN n) (l.drop i) (i : Int) + 1) ((i : Int) - 1) n v c = some (findB l n v) := by
  intro i
  induction i with
  | zero =>
    intro _ k hk
    obtain ⟨k, rfl⟩ : ∃ j, k = j + 1 := ⟨k - 1, by omega⟩
    rw [spec_l3Find.l0, if_neg (by omega)]
    exact sFind_l1 l n v c hn _ l 0 rfl k (by omega)
  | succ i ih =>
    intro hi k hk
    obtain ⟨k, rfl⟩ : ∃ j, k = j + 1 := ⟨k - 1, by omega⟩
    have hd := rd_drop l i (by omega)
    have hr := ih (by omega) k (by omega)
    rw [hd] at hr
    unfold idxB at hr
    rw [spec_l3Find.l0, show (((i + 1 : Nat) : Int) - 1) = (i : Int) by omega, if_pos (by omega), if_pos (by omega), if_pos (by omega), w64 ((i : Int) - 1) (by omega) (by omega)]
    by_cases c1 : (rd_T32 l (i : Int)).f0.toList = n.toList
    · have e : eqN n (rd_T32 l (i : Int)) = true := by unfold eqN; rw [c1]; simp
      rw [if_pos e] at hr
      rw [if_pos c1, w64 ((i : Int) + 1) (by omega) (by omega)]
      exact hr
    · have e : ¬ (eqN n (rd_T32 l (i : Int)) = true) := by unfold eqN; simp [c1]
      rw [if_neg e] at hr
      rw [if_neg c1, show (((i + 1 : Nat) : Int)) = (i : Int) + 1 by omega]
      exact hr
theorem sFind (l : List S32) (M : Int) (n v : ByteArray) (c : Bool) (hn : l.length ≤ 1048600) (k : Nat) (hk : 2 * l.length + 100 < k) : spec_l3Find.f k l M n v c = some (findB (fixedL ++ l) n v) := by
  unfold spec_l3Find.f
  have hl := all_len l
  rw [sAll l M hn, Option.bind_some, w64 _ (by omega) (by omega)]
  have h := sFind_l0 (fixedL ++ l) n v c (by omega) (fixedL ++ l).length (Nat.le_refl _) k (by omega)
  rw [List.drop_length] at h
  exact h
def tfindB (l : List S32) (M : Int) (n v : ByteArray) : Int × Bool := if tabB l M = true then (if fieldB n v = true then findB (fixedL ++ l) n v else (0, false)) else (0, false)
theorem iTFind (l : List S32) (M : Int) (n v : ByteArray) (c : Bool) (hb : Bd 1048576 l) (hn : l.length ≤ 1048600) (h1 : n.size ≤ 1048576) (h2 : v.size ≤ 1048576) (k : Nat) (hk : 2 * l.length + 2200000 < k) : impl_TableFind.f k l M n v c = some (tfindB l M n v) := by
  unfold impl_TableFind.f tfindB
  rw [iTab l M hb hn k (by omega), Option.bind_some]
  cases tabB l M with
  | false => rfl
  | true =>
    rw [if_pos rfl, if_pos rfl, iField n v c (by omega) (by omega) k (by omega) (by omega), Option.bind_some]
    cases fieldB n v with
    | false => rfl
    | true => rw [if_pos rfl, if_pos rfl, iFind l M n v c hn k (by omega), Option.bind_some]
theorem sTFind (l : List S32) (M : Int) (n v : ByteArray) (c : Bool) (hb : Bd 1048576 l) (hn : l.length ≤ 1048600) (h1 : n.size ≤ 1048576) (h2 : v.size ≤ 1048576) (k : Nat) (hk : 2 * l.length + 2200000 < k) : spec_TableFind.f k l M n v c = some (tfindB l M n v) := by
  unfold spec_TableFind.f tfindB
  rw [sTab l M hb hn k (by omega), Option.bind_some]
  cases tabB l M with
  | false => rfl
  | true =>
    rw [if_pos rfl, if_pos rfl, sField n v c (by omega) (by omega) k (by omega) (by omega), Option.bind_some]
    cases fieldB n v with
    | false => rfl
    | true => rw [if_pos rfl, if_pos rfl, sFind l M n v c hn k (by omega), Option.bind_some]
theorem pick_ok (k : Nat) (l : List Int) (p n : Int) (hl : ∀ x ∈ l, 0 ≤ x ∧ x ≤ 255) (hn : l.length ≤ 2000) (hp : 0 ≤ p) (hp' : p ≤ 1000000) (h1 : 1 ≤ n) (h2 : n ≤ 1000000) :
    Te (spec_l6Rd_pick.f (k + 1) l p n) (fun r => r.2 = p + 1 ∧ 0 ≤ r.1 ∧ r.1 < n) := by
  unfold spec_l6Rd_pick.f
  rw [if_neg (by omega), w64 (p + 1) (by omega) (by omega)]
  simp only [spec_l6Rd_pick.j0]
  rw [w64 (p + 1 - 1) (by omega) (by omega), show p + 1 - 1 = p from by omega]
  refine Te.ite (fun _ => Te.now ⟨rfl, by omega, by omega⟩) (fun hz => ?_)
  have hlen : (l.length : Int) ≠ 0 := by simpa using hz
  refine Te.ite (fun hlt => ?_) (fun hge => ?_)
  · rw [if_pos hp, if_neg (by omega)]
    have hr := rd_range l hl p
    rw [w64 (rd l p) (by omega) (by omega)]
    have ht := tmod_rng (rd l p) n hr.1 h1
    exact Te.now ⟨rfl, ht.1, ht.2⟩
  · have hL : (1 : Int) ≤ l.length := by omega
    rw [if_neg hlen]
    have ha := tmod_rng p l.length hp hL
    rw [if_pos ha.1, if_pos ha.2, w64 (p * 7) (by omega) (by omega), w64 (p * 7 + 3) (by omega) (by omega)]
    have hb := tmod_rng (p * 7 + 3) l.length (by omega) hL
    rw [if_pos hb.1, if_pos hb.2, if_neg (by omega)]
    have r1 := rd_range l hl (Int.tmod p l.length)
    have r2 := rd_range l hl (Int.tmod (p * 7 + 3) l.length)
    generalize rd l (Int.tmod p l.length) = x1 at r1 ⊢
    generalize rd l (Int.tmod (p * 7 + 3) l.length) = x2 at r2 ⊢
    have hd0 : 0 ≤ Int.tdiv p l.length := Int.tdiv_nonneg hp (by omega)
    have hd1 : Int.tdiv p l.length ≤ 1000000 := by
      rw [Int.tdiv_eq_ediv_of_nonneg hp]
      exact Int.le_trans (Int.ediv_le_self _ hp) hp'
    generalize Int.tdiv p l.length = d at hd0 hd1 ⊢
    rw [w64 x1 (by omega) (by omega), w64 x2 (by omega) (by omega), w64 d (by omega) (by omega), w64 (x1 * 131) (by omega) (by omega), w64 (x2 * 1117) (by omega) (by omega), w64 (p * 29) (by omega) (by omega), w64 (d * 53) (by omega) (by omega)]
    rw [w64 (x1 * 131 + x2 * 1117) (by omega) (by omega), w64 (x1 * 131 + x2 * 1117 + p * 29) (by omega) (by omega), w64 (x1 * 131 + x2 * 1117 + p * 29 + d * 53) (by omega) (by omega)]
    have hX0 : 0 ≤ x1 * 131 + x2 * 1117 + p * 29 + d * 53 := by omega
    have hX1 : x1 * 131 + x2 * 1117 + p * 29 + d * 53 ≤ 1000000000 := by omega
    generalize x1 * 131 + x2 * 1117 + p * 29 + d * 53 = X at hX0 hX1 ⊢
    obtain ⟨N, rfl⟩ := Int.eq_ofNat_of_zero_le hX0
    have hq : Int.tdiv (N : Int) 64 = ((N / 64 : Nat) : Int) := by rw [Int.tdiv_eq_ediv_of_nonneg hX0]; omega
    rw [hq, w64 ((N / 64 : Nat) : Int) (by omega) (by omega), xor_nat N (N / 64) (by omega) (by omega)]
    have ht := tmod_rng ((N ^^^ N / 64 : Nat) : Int) n (by omega) h1
    exact Te.now ⟨rfl, ht.1, ht.2⟩
/-- What a reader of a code holds: bytes, few of them, and a place. -/
def Rd (l : List Int) (p : Int) : Prop := (∀ x ∈ l, 0 ≤ x ∧ x ≤ 255) ∧ l.length ≤ 2000 ∧ 0 ≤ p
theorem pick_rd (k : Nat) (l : List Int) (p n : Int) (h : Rd l p) (hp' : p ≤ 1000000) (h1 : 1 ≤ n) (h2 : n ≤ 1000000) :
    Te (spec_l6Rd_pick.f (k + 1) l p n) (fun r => r.2 = p + 1 ∧ 0 ≤ r.1 ∧ r.1 < n) := pick_ok k l p n h.1 h.2.1 h.2.2 hp' h1 h2
theorem Rd.next {l : List Int} {p q : Int} (h : Rd l p) (hq : p ≤ q) : Rd l q := ⟨h.1, h.2.1, Int.le_trans h.2.2 hq⟩
theorem open_ok (l : List Int) (hl : ∀ x ∈ l, (Lit.int .u8 x).wf = true) : Te (spec_l6Open.f l) (fun r => Rd r.1 0 ∧ r.2 = 0) := by
  unfold spec_l6Open.f
  refine Te.ite (fun h => ?_) (fun h => ?_)
  · rw [if_pos (by omega)]
    exact Te.now ⟨⟨fun x hx => u8_range x (hl x (List.mem_of_mem_take hx)), by simp; omega, Int.le_refl 0⟩, rfl⟩
  · exact Te.now ⟨⟨fun x hx => u8_range x (hl x hx), by show l.length ≤ 2000; omega, Int.le_refl 0⟩, rfl⟩
theorem l1B_eq (x : Int) : spec_l1Byte.f x = some (strOfNums [x % 256]) := rfl
theorem many_l0 (d : Nat) : ∀ (k : Nat) (x : ByteArray) (n : Int) (y : ByteArray), 0 ≤ n → 1 ≤ (x.size : Int) → n < ((2 ^ d : Nat) : Int) → (x.size : Int) * ((2 ^ d : Nat) : Int) ≤ 100000 → (y.size : Int) + n * (x.size : Int) ≤ 1000000 → d < k →
    Te (spec_l6Many.l0 k x n y) (fun r => (r.size : Int) = (y.size : Int) + n * (x.size : Int)) := by
  induction d with
  | zero =>
    intro k x n y h0 _ h1 _ _ hk
    obtain ⟨k, rfl⟩ : ∃ m, k = m + 1 := ⟨k - 1, by omega⟩
    have hn : n = 0 := by have : ((2 ^ 0 : Nat) : Int) = 1 := rfl; omega
    subst hn
    simp only [spec_l6Many.l0]
    rw [if_neg (by omega)]
    exact Te.now (by omega)
  | succ d ih =>
    intro k x n y h0 hx1 h1 hb hs hk
    obtain ⟨k, rfl⟩ : ∃ m, k = m + 1 := ⟨k - 1, by omega⟩
    have e : ((2 ^ (d + 1) : Nat) : Int) = 2 * ((2 ^ d : Nat) : Int) := by rw [Nat.pow_succ, Int.natCast_mul, Int.mul_comm]; rfl
    have hp : 1 ≤ ((2 ^ d : Nat) : Int) := by have : 0 < 2 ^ d := Nat.pos_of_ne_zero (by simp); omega
    rw [e] at h1 hb
    have hx0 : 0 ≤ (x.size : Int) := by omega
    have hx : (x.size : Int) * 2 ≤ 100000 := Int.le_trans (Int.mul_le_mul_of_nonneg_left (show (2 : Int) ≤ 2 * ((2 ^ d : Nat) : Int) by omega) hx0) hb
    have hny : 0 ≤ n * (x.size : Int) := Int.mul_nonneg h0 hx0
    simp only [spec_l6Many.l0]
    refine Te.ite (fun hn => ?_) (fun hn => ?_)
    · have t1 : Int.tmod n 2 = n % 2 := Int.tmod_eq_emod_of_nonneg h0
      have t2 : Int.tdiv n 2 = n / 2 := Int.tdiv_eq_ediv_of_nonneg h0
      have hn2 : n / 2 < ((2 ^ d : Nat) : Int) := by omega
      have hxx : (((x ++ x).size : Int)) * ((2 ^ d : Nat) : Int) ≤ 100000 := by
        rw [ByteArray.size_append]
        have e2 : (((x.size + x.size : Nat) : Int)) * ((2 ^ d : Nat) : Int) = (x.size : Int) * (2 * ((2 ^ d : Nat) : Int)) := by
          rw [show ((x.size + x.size : Nat) : Int) = (x.size : Int) * 2 from by omega, Int.mul_assoc]
        rw [e2]; exact hb
      have hdiv : n / 2 * (((x ++ x).size : Int)) = (n - n % 2) * (x.size : Int) := by
        rw [ByteArray.size_append, show ((x.size + x.size : Nat) : Int) = 2 * (x.size : Int) from by omega, ← Int.mul_assoc]
        congr 1
        omega
      have hb2 : -9223372036854775808 ≤ n / 2 ∧ n / 2 ≤ 9223372036854775807 := by
        have : n * 1 ≤ n * (x.size : Int) := Int.mul_le_mul_of_nonneg_left hx1 h0
        omega
      rw [t1, t2, w64 (n / 2) hb2.1 hb2.2]
      refine Te.ite (fun hodd => ?_) (fun heven => ?_)
      · rw [if_pos (by omega), if_pos (by omega)]
        have hm : (n - n % 2) * (x.size : Int) = n * (x.size : Int) - (x.size : Int) := by rw [hodd, Int.sub_mul, Int.one_mul]
        refine (ih k (x ++ x) (n / 2) (y ++ x) (by omega) (by rw [ByteArray.size_append]; omega) hn2 hxx (by rw [hdiv, hm, ByteArray.size_append]; omega) (by omega)).mono ?_
        intro r hr
        rw [hr, hdiv, hm, ByteArray.size_append]
        omega
      · rw [if_pos (by omega)]
        have hz : n % 2 = 0 := by omega
        have hm : (n - n % 2) * (x.size : Int) = n * (x.size : Int) := by rw [hz, Int.sub_zero]
        refine (ih k (x ++ x) (n / 2) y (by omega) (by rw [ByteArray.size_append]; omega) hn2 hxx (by rw [hdiv, hm]; omega) (by omega)).mono ?_
        intro r hr
        rw [hr, hdiv, hm]
    · have hn0 : n = 0 := by omega
      subst hn0
      exact Te.now (by omega)
theorem many_ok (k : Nat) (x : ByteArray) (n : Int) (hx : x.size = 1) (h0 : 0 ≤ n) (h1 : n ≤ 250) : Te (spec_l6Many.f (k + 9) x n) (fun r => (r.size : Int) = n) := by
  unfold spec_l6Many.f
  refine (many_l0 8 (k + 9) x n ⟨#[]⟩ h0 (by omega) (by have : ((2 ^ 8 : Nat) : Int) = 256 := rfl; omega) (by rw [hx]; decide) (by rw [hx]; have : (((⟨#[]⟩ : ByteArray).size : Nat) : Int) = 0 := rfl; omega) (by omega)).mono ?_
  intro r hr
  rw [hr, hx]
  have : (((⟨#[]⟩ : ByteArray).size : Nat) : Int) = 0 := rfl
  omega
theorem word_l0 (d : Nat) : ∀ (k : Nat) (x : ByteArray) (n : Int) (l : List Int) (p : Int), n = (d : Int) → d ≤ 20 → x.size + d ≤ 100 → Rd l p → p + 3 * (d : Int) ≤ 910000 →
    Te (spec_l71Word.l0 (k + d + 12) x n l p) (fun r => r.1.size ≤ x.size + d + 20 ∧ p ≤ r.2 ∧ r.2 ≤ p + 3 * d + 2) := by
  induction d with
  | zero =>
    intro k x n l p hn _ hx hr hp
    obtain ⟨K, hK⟩ : ∃ K, K = k + 11 := ⟨_, rfl⟩
    rw [show k + 0 + 12 = K + 1 from by omega]
    simp only [spec_l71Word.l0]
    subst hK
    rw [if_neg (by omega)]
    refine (pick_rd (k + 10) l p 24 hr (by omega) (by omega) (by omega)).bind ?_
    rintro ⟨v1, p1⟩ ⟨h1, h2, h3⟩
    dsimp only at h1 h2 h3 ⊢
    refine Te.ite (fun _ => ?_) (fun _ => Te.ite (fun _ => ?_) (fun _ => ?_))
    · rw [if_pos (by omega)]
      exact Te.now ⟨by dsimp only; rw [ByteArray.size_append]; have : (⟨#[65]⟩ : ByteArray).size = 1 := rfl; omega, by dsimp only; omega, by dsimp only; omega⟩
    · refine (pick_rd (k + 10) l p1 4 (hr.next (by omega)) (by omega) (by omega) (by omega)).bind ?_
      rintro ⟨v2, p2⟩ ⟨i1, i2, i3⟩
      dsimp only at i1 i2 i3 ⊢
      rw [w64 (15 + v2) (by omega) (by omega)]
      refine (many_ok (k + 2) _ (15 + v2) rfl (by omega) (by omega)).bind ?_
      intro t ht
      exact Te.now ⟨by dsimp only; omega, by dsimp only; omega, by dsimp only; omega⟩
    · exact Te.now ⟨by dsimp only; omega, by dsimp only; omega, by dsimp only; omega⟩
  | succ d ih =>
    intro k x n l p hn hd hx hr hp
    obtain ⟨K, hK⟩ : ∃ K, K = k + d + 12 := ⟨_, rfl⟩
    rw [show k + (d + 1) + 12 = K + 1 from by omega]
    simp only [spec_l71Word.l0]
    subst hK
    rw [if_pos (by omega)]
    refine (pick_rd (k + d + 11) l p 24 hr (by omega) (by omega) (by omega)).bind ?_
    rintro ⟨v1, p1⟩ ⟨h1, h2, h3⟩
    dsimp only at h1 h2 h3 ⊢
    refine (pick_rd (k + d + 11) l p1 4 (hr.next (by omega)) (by omega) (by omega) (by omega)).bind ?_
    rintro ⟨v2, p2⟩ ⟨i1, i2, i3⟩
    dsimp only at i1 i2 i3 ⊢
    rw [w64 (n - 1) (by omega) (by omega)]
    refine Te.ite (fun _ => ?_) (fun _ => ?_)
    · refine (pick_rd (k + d + 11) l p2 39 (hr.next (by omega)) (by omega) (by omega) (by omega)).bind ?_
      rintro ⟨v3, p3⟩ ⟨j1, j2, j3⟩
      dsimp only at j1 j2 j3 ⊢
      rw [if_pos j2, if_pos j3, l1B_eq]
      simp only [Option.bind_some]
      rw [if_pos (by rw [strOfNums_size]; simp; omega)]
      refine (ih k _ (n - 1) l p3 (by omega) (by omega) (by rw [ByteArray.size_append, strOfNums_size]; simp; omega) (hr.next (by omega)) (by omega)).mono ?_
      rintro ⟨r, q⟩ ⟨g1, g2, g3⟩
      rw [ByteArray.size_append, strOfNums_size] at g1
      simp at g1 g2 g3 ⊢
      omega
    · rw [if_pos h2, if_pos (by omega), l1B_eq]
      simp only [Option.bind_some]
      rw [if_pos (by rw [strOfNums_size]; simp; omega)]
      refine (ih k _ (n - 1) l p2 (by omega) (by omega) (by rw [ByteArray.size_append, strOfNums_size]; simp; omega) (hr.next (by omega)) (by omega)).mono ?_
      rintro ⟨r, q⟩ ⟨g1, g2, g3⟩
      rw [ByteArray.size_append, strOfNums_size] at g1
      simp at g1 g2 g3 ⊢
      omega
theorem word_ok (k : Nat) (l : List Int) (p : Int) (hr : Rd l p) (hp : p ≤ 900000) :
    Te (spec_l71Word.f (k + 40) l p) (fun r => r.1.size ≤ 60 ∧ p ≤ r.2 ∧ r.2 ≤ p + 100) := by
  unfold spec_l71Word.f
  refine (pick_rd (k + 39) l p 9 hr (by omega) (by omega) (by omega)).bind ?_
  rintro ⟨v1, p1⟩ ⟨h1, h2, h3⟩
  dsimp only at h1 h2 h3 ⊢
  refine (pick_rd (k + 39) l p1 6 (hr.next (by omega)) (by omega) (by omega) (by omega)).bind ?_
  rintro ⟨v2, p2⟩ ⟨i1, i2, i3⟩
  dsimp only at i1 i2 i3 ⊢
  have t2 : Int.tdiv v2 5 = v2 / 5 := Int.tdiv_eq_ediv_of_nonneg i2
  rw [t2, w64 (v2 / 5) (by omega) (by omega), w64 (v2 / 5 * 8) (by omega) (by omega), w64 (v1 + v2 / 5 * 8) (by omega) (by omega)]
  have hd : ∃ d : Nat, v1 + v2 / 5 * 8 = (d : Int) ∧ d ≤ 16 := ⟨(v1 + v2 / 5 * 8).toNat, by omega, by omega⟩
  obtain ⟨d, hd1, hd2⟩ := hd
  have hk : k + 40 = (k + 28 - d) + d + 12 := by omega
  rw [hk]
  refine (word_l0 d (k + 28 - d) ⟨#[]⟩ _ l p2 hd1 (by omega) (by have : (⟨#[]⟩ : ByteArray).size = 0 := rfl; omega) (hr.next (by omega)) (by omega)).mono ?_
  rintro ⟨r, q⟩ ⟨g1, g2, g3⟩
  have : (⟨#[]⟩ : ByteArray).size = 0 := rfl
  dsimp only at g1 g2 g3 ⊢
  omega
theorem of_ok (k : Nat) (l : List Int) (p : Int) (c : List ByteArray) (m : Nat) (hr : Rd l p) (hp : p ≤ 900000) (hc : 1 ≤ c.length) (hc' : c.length ≤ 1000) (hm : ∀ s ∈ c, s.size ≤ m) :
    Te (spec_l6Rd_of.f (k + 1) l p c) (fun r => r.1.size ≤ m ∧ r.2 = p + 1) := by
  unfold spec_l6Rd_of.f
  refine (pick_rd k l p c.length hr (by omega) (by omega) (by omega)).bind ?_
  rintro ⟨v, q⟩ ⟨h1, h2, h3⟩
  dsimp only at h1 h2 h3 ⊢
  rw [if_pos h2, if_pos h3]
  refine Te.now ⟨?_, h1⟩
  dsimp only
  unfold rdOf
  rw [List.getD_eq_getElem?_getD, List.getElem?_eq_getElem (show v.toNat < c.length by omega)]
  exact hm _ (List.getElem_mem _)
theorem field_ok (k : Nat) (l : List Int) (p : Int) (hr : Rd l p) (hp : p ≤ 800000) : Te (spec_l71Field.f (k + 50) l p) (fun r => r.1.size ≤ 70 ∧ r.2.1.size ≤ 70 ∧ p ≤ r.2.2.2 ∧ r.2.2.2 ≤ p + 110) := by
  unfold spec_l71Field.f
  refine (of_ok (k + 49) l p _ 20 (hr.next (by omega)) (by omega) (by decide) (by decide) (by decide)).bind ?_
  rintro ⟨v1, p1⟩ ⟨a1, a2⟩
  dsimp only at a1 a2 ⊢
  refine (of_ok (k + 49) l p1 _ 20 (hr.next (by omega)) (by omega) (by decide) (by decide) (by decide)).bind ?_
  rintro ⟨v2, p2⟩ ⟨b1, b2⟩
  dsimp only at b1 b2 ⊢
  refine (pick_rd (k + 49) l p2 8 (hr.next (by omega)) (by omega) (by omega) (by omega)).bind ?_
  rintro ⟨v3, p3⟩ ⟨c1, c2, c3⟩
  dsimp only at c1 c2 c3 ⊢
  refine (pick_rd (k + 49) l p3 24 (hr.next (by omega)) (by omega) (by omega) (by omega)).bind ?_
  rintro ⟨v4, p4⟩ ⟨d1, d2, d3⟩
  dsimp only at d1 d2 d3 ⊢
  refine Te.ite (fun _ => ?_) (fun _ => Te.ite (fun _ => ?_) (fun _ => ?_))
  · refine (of_ok (k + 49) l p4 _ 20 (hr.next (by omega)) (by omega) (by decide) (by decide) (by decide)).bind ?_
    rintro ⟨v5, p5⟩ ⟨e1, e2⟩
    dsimp only at e1 e2 ⊢
    exact Te.now ⟨by dsimp only; omega, by dsimp only; omega, by dsimp only; omega, by dsimp only; omega⟩
  · refine (word_ok (k + 10) l p4 (hr.next (by omega)) (by omega)).bind ?_
    rintro ⟨v5, p5⟩ ⟨e1, e2, e3⟩
    dsimp only at e1 e2 e3 ⊢
    exact Te.now ⟨by dsimp only; omega, by dsimp only; omega, by dsimp only; omega, by dsimp only; omega⟩
  · exact Te.now ⟨by dsimp only; omega, by dsimp only; omega, by dsimp only; omega, by dsimp only; omega⟩
theorem fit_l0 (y : List S32) (M : Int) (hM : 0 ≤ M) : ∀ (d : Nat) (x : List S32), x.length = d → x.length ≤ 20 → Bd 70 x → ∀ k, d + 30 < k → Te (spec_l3Fit.l0 k x y M) (fun r => r.1.length ≤ d ∧ Bd 70 r.1 ∧ r.2 = M) := by
  intro d
  induction d with
  | zero =>
    intro x hx hl hb k hk
    obtain ⟨k, rfl⟩ : ∃ j, k = j + 1 := ⟨k - 1, by omega⟩
    obtain rfl : x = [] := List.eq_nil_of_length_eq_zero hx
    rw [spec_l3Fit.l0, sSize [] (by simp) (by simp [szB]) k (by simp; omega), Option.bind_some, if_neg (show ¬ (szB [] > M) from by simp only [szB]; omega)]
    exact Te.now ⟨by simp, Bd.nil _, rfl⟩
  | succ d ih =>
    intro x hx hl hb k hk
    obtain ⟨k, rfl⟩ : ∃ j, k = j + 1 := ⟨k - 1, by omega⟩
    rw [spec_l3Fit.l0, sSize x (by omega) (szB_small x (hb.mono (by omega)) (by omega)) k (by omega), Option.bind_some]
    refine Te.ite (fun _ => ?_) (fun _ => Te.now ⟨by dsimp only; omega, hb, rfl⟩)
    rw [w64 _ (by omega) (by omega), if_pos (by omega), if_pos (by omega)]
    refine (ih _ (by rw [List.length_take]; omega) (by rw [List.length_take]; omega) (hb.take _) k (by omega)).mono ?_
    rintro ⟨r, q⟩ ⟨h1, h2, h3⟩
    exact ⟨by dsimp only at h1 ⊢; omega, h2, h3⟩
theorem add_ok (k : Nat) (l : List S32) (M : Int) (a b : ByteArray) (c : Bool) (hM : 0 ≤ M) (hl : l.length ≤ 15) (hb : Bd 70 l) (ha : a.size ≤ 70) (hb2 : b.size ≤ 70) : Te (spec_l3Add.f (k + 60) l M a b c) (fun r => r.1.length ≤ l.length + 1 ∧ Bd 70 r.1 ∧ r.2 = M) := by
  unfold spec_l3Add.f
  rw [Option.bind_some]
  have e : ([(⟨a, b, false⟩ : S32)] ++ l).length = l.length + 1 := by simp <;> omega
  rw [if_pos (by simp; omega)]
  unfold spec_l3Fit.f
  rw [Option.bind_some, List.nil_append, if_pos (by rw [e]; simp; omega)]
  obtain ⟨r, e2, h1, h2, h3⟩ := fit_l0 ([(⟨a, b, false⟩ : S32)] ++ l) M hM (l.length + 1) _ e (by omega) ((Bd.one (m := 70) ⟨a, b, false⟩ ha hb2).append hb) (k + 60) (by omega)
  rw [e2, Option.bind_some]
  exact Te.now ⟨h1, h2, h3⟩
theorem tab_l0 (d : Nat) : ∀ (k : Nat) (n : Int) (l : List Int) (p : Int) (x : List S32) (M : Int), n = (d : Int) → x.length + d ≤ 7 → Bd 70 x → 0 ≤ M ∧ M ≤ 64 → Rd l p → p + 110 * (d : Int) ≤ 2000 →
    Te (spec_l71Table.l0 (k + d + 200) n l p x M) (fun r => r.1.length ≤ 10 ∧ Bd 70 r.1 ∧ -1 ≤ r.2.1 ∧ r.2.1 ≤ 65 ∧ p ≤ r.2.2 ∧ r.2.2 ≤ p + 110 * d + 400) := by
  induction d with
  | zero =>
    intro k n l p x M hn hx hb hM hr hp
    obtain ⟨K, hK⟩ : ∃ K, K = k + 199 := ⟨_, rfl⟩
    rw [show k + 0 + 200 = K + 1 from by omega]
    simp only [spec_l71Table.l0]
    subst hK
    rw [if_neg (by omega)]
    refine (pick_rd (k + 198) l p 24 hr (by omega) (by omega) (by omega)).bind ?_
    rintro ⟨v1, p1⟩ ⟨h1, h2, h3⟩
    dsimp only at h1 h2 h3 ⊢
    simp only [Option.bind_some]
    refine Te.ite (fun _ => ?_) (fun _ => Te.ite (fun _ => ?_) (fun _ => ?_))
    · refine (pick_rd (k + 198) l p1 3 (hr.next (by omega)) (by omega) (by omega) (by omega)).bind ?_
      rintro ⟨v2, p2⟩ ⟨i1, i2, i3⟩
      dsimp only at i1 i2 i3 ⊢
      rw [if_pos i2, if_pos (by simpa using i3)]
      have hq : -1 ≤ rd [-1, 65, 3] v2 ∧ rd [-1, 65, 3] v2 ≤ 65 := by
        have hv : v2 = 0 ∨ v2 = 1 ∨ v2 = 2 := by omega
        rcases hv with rfl | rfl | rfl <;> decide
      exact Te.now ⟨by dsimp only; omega, hb, hq.1, hq.2, by dsimp only; omega, by dsimp only; omega⟩
    · refine (field_ok (k + 149) l p1 (hr.next (by omega)) (by omega)).bind ?_
      rintro ⟨a1, a2, a3, p2⟩ ⟨f1, f2, f3, f4⟩
      dsimp only at f1 f2 f3 f4 ⊢
      refine (field_ok (k + 149) l p2 (hr.next (by omega)) (by omega)).bind ?_
      rintro ⟨b1, b2, b3, p3⟩ ⟨g1, g2, g3, g4⟩
      dsimp only at g1 g2 g3 g4 ⊢
      refine (field_ok (k + 149) l p3 (hr.next (by omega)) (by omega)).bind ?_
      rintro ⟨c1, c2, c3, p4⟩ ⟨j1, j2, j3, j4⟩
      dsimp only at j1 j2 j3 j4 ⊢
      rw [if_pos (by simp; omega)]
      refine Te.now ⟨by dsimp only; rw [List.length_append]; simp; omega, ?_, by dsimp only; omega, by dsimp only; omega, by dsimp only; omega, by dsimp only; omega⟩
      refine hb.append (fun y hy => ?_)
      simp only [List.mem_cons, List.not_mem_nil, or_false] at hy
      rcases hy with rfl | rfl | rfl
      · exact ⟨f1, f2⟩
      · exact ⟨g1, g2⟩
      · exact ⟨j1, j2⟩
    · exact Te.now ⟨by dsimp only; omega, hb, by dsimp only; omega, by dsimp only; omega, by dsimp only; omega, by dsimp only; omega⟩
  | succ d ih =>
    intro k n l p x M hn hx hb hM hr hp
    obtain ⟨K, hK⟩ : ∃ K, K = k + d + 200 := ⟨_, rfl⟩
    rw [show k + (d + 1) + 200 = K + 1 from by omega]
    simp only [spec_l71Table.l0]
    subst hK
    rw [if_pos (by omega)]
    refine (field_ok (k + d + 150) l p hr (by omega)).bind ?_
    rintro ⟨a1, a2, a3, p1⟩ ⟨g1, g2, g3, g4⟩
    dsimp only at g1 g2 g3 g4 ⊢
    rw [sField a1 a2 a3 (by omega) (by omega) _ (by omega) (by omega), Option.bind_some, w64 _ (by omega) (by omega)]
    refine Te.ite (fun _ => ?_) (fun _ => ?_)
    · refine (add_ok (k + d + 140) x M a1 a2 a3 hM.1 (by omega) hb g1 g2).bind ?_
      rintro ⟨y, q⟩ ⟨f1, f2, f3⟩
      dsimp only at f1 f2 f3 ⊢
      refine (ih k (n - 1) l p1 y q (by omega) (by omega) f2 (by omega) (hr.next (by omega)) (by omega)).mono ?_
      rintro ⟨r, s, t⟩ ⟨e1, e2, e3, e4, e5, e6⟩
      exact ⟨e1, e2, e3, e4, by dsimp only at e5 ⊢; omega, by dsimp only at e6 ⊢; omega⟩
    · refine (ih k (n - 1) l p1 x M (by omega) (by omega) hb hM (hr.next (by omega)) (by omega)).mono ?_
      rintro ⟨r, s, t⟩ ⟨e1, e2, e3, e4, e5, e6⟩
      exact ⟨e1, e2, e3, e4, by dsimp only at e5 ⊢; omega, by dsimp only at e6 ⊢; omega⟩
theorem table_ok (k : Nat) (l : List Int) (p : Int) (hr : Rd l p) (hp : p ≤ 100) : Te (spec_l71Table.f (k + 300) l p) (fun r => r.1.length ≤ 10 ∧ Bd 70 r.1 ∧ -1 ≤ r.2.1 ∧ r.2.1 ≤ 65 ∧ p ≤ r.2.2 ∧ r.2.2 ≤ p + 1200) := by
  unfold spec_l71Table.f
  rw [Option.bind_some]
  refine (pick_rd (k + 299) l p 5 hr (by omega) (by omega) (by omega)).bind ?_
  rintro ⟨v1, p1⟩ ⟨h1, h2, h3⟩
  dsimp only at h1 h2 h3 ⊢
  rw [if_pos h2, if_pos (by simpa using h3)]
  refine (pick_rd (k + 299) l p1 7 (hr.next (by omega)) (by omega) (by omega) (by omega)).bind ?_
  rintro ⟨v2, p2⟩ ⟨i1, i2, i3⟩
  dsimp only at i1 i2 i3 ⊢
  have hq : 0 ≤ rd [64, 64, 40, 20, 0] v1 ∧ rd [64, 64, 40, 20, 0] v1 ≤ 64 := by
    have hv : v1 = 0 ∨ v1 = 1 ∨ v1 = 2 ∨ v1 = 3 ∨ v1 = 4 := by omega
    rcases hv with rfl | rfl | rfl | rfl | rfl <;> decide
  obtain ⟨d, rfl⟩ := Int.eq_ofNat_of_zero_le i2
  rw [show k + 300 = (k + 100 - d) + d + 200 by omega]
  refine (tab_l0 d (k + 100 - d) _ l p2 [] _ rfl (by simp; omega) (Bd.nil _) hq (hr.next (by omega)) (by omega)).mono ?_
  rintro ⟨r, s, t⟩ ⟨e1, e2, e3, e4, e5, e6⟩
  exact ⟨e1, e2, e3, e4, by dsimp only at e5 ⊢; omega, by dsimp only at e6 ⊢; omega⟩
theorem rd_mem (t : List S32) (i : Int) (h0 : 0 ≤ i) (h : i < (t.length : Int)) : rd_T32 t i ∈ t := by
  unfold rd_T32
  rw [List.getD_eq_getElem?_getD, List.getElem?_eq_getElem (show i.toNat < t.length by omega)]
  exact List.getElem_mem _
theorem drawTableFind_ok (k : Nat) (l : List Int) (hl : ∀ x ∈ l, (Lit.int .u8 x).wf = true) : Te (spec_DrawTableFind.f (k + 300) l) (fun r => r.1.length ≤ 10 ∧ Bd 70 r.1 ∧ r.2.2.1.size ≤ 70 ∧ r.2.2.2.1.size ≤ 70) := by
  unfold spec_DrawTableFind.f
  refine (open_ok l hl).bind ?_
  rintro ⟨c, p⟩ ⟨hr, rfl⟩
  refine (table_ok k c 0 hr (by omega)).bind ?_
  rintro ⟨r1, r2, p1⟩ ⟨g1, g2, g3, g4, g5, g6⟩
  dsimp only at g1 g2 g3 g4 g5 g6 ⊢
  refine (field_ok (k + 250) c p1 (hr.next (by omega)) (by omega)).bind ?_
  rintro ⟨a1, a2, a3, p2⟩ ⟨f1, f2, f3, f4⟩
  dsimp only at f1 f2 f3 f4 ⊢
  refine Te.ite (fun hz => ?_) (fun _ => Te.now ⟨g1, g2, f1, f2⟩)
  refine (pick_rd (k + 299) c p2 3 (hr.next (by omega)) (by omega) (by omega) (by omega)).bind ?_
  rintro ⟨v1, p3⟩ ⟨h1, h2, h3⟩
  dsimp only at h1 h2 h3 ⊢
  refine Te.ite (fun _ => ?_) (fun _ => Te.now ⟨g1, g2, f1, f2⟩)
  refine (pick_rd (k + 299) c p3 (r1.length : Int) (hr.next (by omega)) (by omega) (by omega) (by omega)).bind ?_
  rintro ⟨v2, p4⟩ ⟨i1, i2, i3⟩
  dsimp only at i1 i2 i3 ⊢
  rw [if_pos i2, if_pos i3]
  have hm := g2 _ (rd_mem r1 v2 i2 i3)
  exact Te.now ⟨g1, g2, hm.1, hm.2⟩
theorem rd_app1 (a b : List S32) (i : Int) (h0 : 0 ≤ i) (h : i < (a.length : Int)) : rd_T32 (a ++ b) i = rd_T32 a i := by
  unfold rd_T32
  rw [List.getD_eq_getElem?_getD, List.getD_eq_getElem?_getD, List.getElem?_append_left (by omega)]
theorem rd_app2 (a b : List S32) (i : Int) (h : (a.length : Int) ≤ i) : rd_T32 (a ++ b) i = rd_T32 b (i - (a.length : Int)) := by
  unfold rd_T32
  rw [List.getD_eq_getElem?_getD, List.getD_eq_getElem?_getD, List.getElem?_append_right (by omega), show (i - (a.length : Int)).toNat = i.toNat - a.length by omega]
theorem same3 (a b : ByteArray) (c : Bool) : (a.toList == a.toList && (b.toList == b.toList && (c == c))) = true := by simp
theorem idx_le (p : S32 → Bool) : ∀ (l : List S32) (i : Int) (j : Nat) (x : S32) (s : List S32), l.drop j = x :: s → p x = true → i ≤ idxB p l i ∧ idxB p l i ≤ i + (j : Int)
  | [], _, j, x, s, h, _ => by simp at h
  | y :: l, i, 0, x, s, h, hx => by
    rw [List.drop_zero] at h
    obtain ⟨rfl, rfl⟩ := List.cons.inj h
    unfold idxB
    rw [if_pos hx]
    omega
  | y :: l, i, j + 1, x, s, h, hx => by
    rw [List.drop_succ_cons] at h
    have ih := idx_le p l (i + 1) j x s h hx
    unfold idxB
    split
    · omega
    · omega
theorem idx_hit (p : S32 → Bool) : ∀ (l : List S32) (i : Int), 0 ≤ i → 0 ≤ idxB p l i → i ≤ idxB p l i ∧ idxB p l i < i + (l.length : Int) ∧ p (rd_T32 l (idxB p l i - i)) = true
  | [], i, _, h => by
    unfold idxB at h
    omega
  | y :: l, i, hi, h => by
    unfold idxB at h ⊢
    by_cases c : p y = true
    · rw [if_pos c, show i - i = 0 by omega, List.length_cons]
      exact ⟨by omega, by omega, c⟩
    · rw [if_neg c] at h ⊢
      obtain ⟨h1, h2, h3⟩ := idx_hit p l (i + 1) (by omega) h
      refine ⟨by omega, by rw [List.length_cons]; omega, ?_⟩
      have e : rd_T32 (y :: l) (idxB p l (i + 1) - i) = rd_T32 l (idxB p l (i + 1) - (i + 1)) := by
        unfold rd_T32
        rw [show (idxB p l (i + 1) - i).toNat = (idxB p l (i + 1) - (i + 1)).toNat + 1 by omega, List.getD_cons_succ]
      rw [e]
      exact h3
theorem eqN_iff (n : ByteArray) (x : S32) : eqN n x = true ↔ x.f0.toList = n.toList := by
  unfold eqN
  exact beq_iff_eq
theorem eqNV_iff (n v : ByteArray) (x : S32) : eqNV n v x = true ↔ x.f0.toList = n.toList ∧ x.f1.toList = v.toList := by
  unfold eqNV
  rw [Bool.and_eq_true, beq_iff_eq, beq_iff_eq]
theorem find_row (L : List S32) (n v : ByteArray) (j : Nat) (x : S32) (s : List S32) (h : L.drop j = x :: s) (hn : x.f0.toList = n.toList) :
    (findB L n v).1 ≠ 0 ∧ (x.f1.toList = v.toList → (findB L n v).2 = true ∧ (findB L n v).1 ≤ (j : Int) + 1) ∧ ((findB L n v).2 = true ∨ (findB L n v).1 ≤ (j : Int) + 1) := by
  have h1 := idx_le (eqN n) L 0 j x s h ((eqN_iff n x).2 hn)
  have h2 : x.f1.toList = v.toList → _ := fun hv => idx_le (eqNV n v) L 0 j x s h ((eqNV_iff n v x).2 ⟨hn, hv⟩)
  unfold findB
  by_cases c : idxB (eqNV n v) L 0 ≥ 0
  · rw [if_pos c]
    exact ⟨by dsimp only; omega, fun hv => ⟨rfl, by have := h2 hv; dsimp only; omega⟩, .inl rfl⟩
  · rw [if_neg c]
    exact ⟨by dsimp only; omega, fun hv => absurd (h2 hv).1 c, .inr (by dsimp only; omega)⟩
theorem find_end (L : List S32) (n v : ByteArray) : ((findB L n v).1 = 0 → (findB L n v).2 = false) ∧ ((findB L n v).1 ≠ 0 → 1 ≤ (findB L n v).1 ∧ (findB L n v).1 ≤ (L.length : Int) ∧ (rd_T32 L ((findB L n v).1 - 1)).f0.toList = n.toList ∧ ((findB L n v).2 = true → (rd_T32 L ((findB L n v).1 - 1)).f1.toList = v.toList)) := by
  unfold findB
  by_cases c : idxB (eqNV n v) L 0 ≥ 0
  · rw [if_pos c]
    obtain ⟨h1, h2, h3⟩ := idx_hit (eqNV n v) L 0 (Int.le_refl 0) c
    rw [Int.sub_zero] at h3
    have h4 := (eqNV_iff n v _).1 h3
    refine ⟨fun e => ?_, fun _ => ⟨by dsimp only; omega, by dsimp only; omega, ?_, fun _ => ?_⟩⟩
    · dsimp only at e; omega
    · dsimp only
      rw [show idxB (eqNV n v) L 0 + 1 - 1 = idxB (eqNV n v) L 0 by omega]
      exact h4.1
    · dsimp only
      rw [show idxB (eqNV n v) L 0 + 1 - 1 = idxB (eqNV n v) L 0 by omega]
      exact h4.2
  · rw [if_neg c]
    refine ⟨fun _ => rfl, fun e => ?_⟩
    dsimp only at e ⊢
    have hb := idxB_lt (eqN n) L 0 (Int.le_refl 0)
    obtain ⟨h1, h2, h3⟩ := idx_hit (eqN n) L 0 (Int.le_refl 0) (by omega)
    rw [Int.sub_zero] at h3
    refine ⟨by omega, by omega, ?_, fun e => by cases e⟩
    rw [show idxB (eqN n) L 0 + 1 - 1 = idxB (eqN n) L 0 by omega]
    exact (eqN_iff n _).1 h3
theorem tatB_in (t : List S32) (M a : Int) (hw : tabB t M = true) (h1 : 1 ≤ a) (h2 : a ≤ ((fixedL ++ t).length : Int)) : tatB t M a = ((rd_T32 (fixedL ++ t) (a - 1)).f0, (rd_T32 (fixedL ++ t) (a - 1)).f1, (rd_T32 (fixedL ++ t) (a - 1)).f2, true) := by
  unfold tatB atB
  rw [if_pos hw, decide_eq_true h1, decide_eq_true h2, if_pos (show (true && true) = true from rfl)]
theorem rdF (m : Nat) (hm : m < 6) : fieldB (rd_T32 fixedL (m : Int)).f0 (rd_T32 fixedL (m : Int)).f1 = true := by
  have h : m = 0 ∨ m = 1 ∨ m = 2 ∨ m = 3 ∨ m = 4 ∨ m = 5 := by omega
  unfold fieldB
  rw [ByteArray.toList_eq]
  rcases h with rfl | rfl | rfl | rfl | rfl | rfl <;> decide +kernel
theorem rd_small (m : Nat) (hm : m < 6) : (rd_T32 fixedL (m : Int)).f0.size ≤ 20 ∧ (rd_T32 fixedL (m : Int)).f1.size ≤ 20 := by
  have h : m = 0 ∨ m = 1 ∨ m = 2 ∨ m = 3 ∨ m = 4 ∨ m = 5 := by omega
  rcases h with rfl | rfl | rfl | rfl | rfl | rfl <;> decide +kernel
theorem idxF (t : List S32) (m : Nat) (hm : m < 6) : idxB (eqNV (rd_T32 fixedL (m : Int)).f0 (rd_T32 fixedL (m : Int)).f1) (fixedL ++ t) 0 = (m : Int) := by
  have h : m = 0 ∨ m = 1 ∨ m = 2 ∨ m = 3 ∨ m = 4 ∨ m = 5 := by omega
  rcases h with rfl | rfl | rfl | rfl | rfl | rfl <;> simp [idxB, eqNV, fixedL, rd_T32, ByteArray.toList_eq]
theorem findF (t : List S32) (m : Nat) (hm : m < 6) : findB (fixedL ++ t) (rd_T32 fixedL (m : Int)).f0 (rd_T32 fixedL (m : Int)).f1 = ((m : Int) + 1, true) := by
  unfold findB
  rw [idxF t m hm, if_pos (by omega)]
theorem fo_j1t (k : Nat) (l1 : List Int) (a : Int) (b : Bool) (t : List S32) (M : Int) : laws_FnFixedOk.j1 (k + 1) l1 a b a b true t M = some true := by
  simp only [laws_FnFixedOk.j1]
  simp
theorem fo_j1 (k : Nat) (l1 : List Int) (a : Int) (b : Bool) (t : List S32) (M : Int) (hk : 2300020 < k) (ht : t.length ≤ 10) (hb : Bd 1048576 t) (hw : tabB t M = true) : laws_FnFixedOk.j1 (k + 1) l1 a b a b false t M = some true := by
  have hl := all_len t
  simp only [laws_FnFixedOk.j1]
  rw [if_neg (by decide), iFixed, Option.bind_some]
  have g0 : 0 ≤ (l1.length : Int) % 6 := Int.emod_nonneg _ (by omega)
  have g1 : (l1.length : Int) % 6 < 6 := Int.emod_lt_of_pos _ (by omega)
  generalize (l1.length : Int) % 6 = q at g0 g1 ⊢
  obtain ⟨m, rfl⟩ := Int.eq_ofNat_of_zero_le g0
  have hm : m < 6 := by omega
  have hs := (rd_small m hm)
  rw [if_pos g0, if_pos (show ((m : Nat) : Int) < (fixedL.length : Int) from by rw [fixedL_len]; omega)]
  rw [iTFind t M _ _ _ hb (by omega) (by omega) (by omega) k (by omega), Option.bind_some]
  rw [iTAt t M _ hb (by omega) k (by omega), Option.bind_some]
  rw [tatB_in t M _ hw (by omega) (by omega), show (m : Int) + 1 - 1 = (m : Int) by omega, rd_app1 _ _ _ (by omega) (by rw [fixedL_len]; omega)]
  have hf : tfindB t M (rd_T32 fixedL (m : Int)).f0 (rd_T32 fixedL (m : Int)).f1 = ((m : Int) + 1, true) := by
    unfold tfindB
    rw [if_pos hw, if_pos (rdF m hm), findF t m hm]
  rw [hf, if_pos (by rw [fixedL_len]; rfl), iField _ _ _ (by omega) (by omega) k (by omega) (by omega), Option.bind_some, if_pos (rdF m hm), if_pos rfl, if_pos rfl, if_pos rfl, same3]
theorem fo_j0 (k : Nat) (l0 l1 : List Int) (b : Bool) (hk : 2300020 < k) (h0 : ∀ x ∈ l0, (Lit.int .u8 x).wf = true) : laws_FnFixedOk.j0 (k + 2) l0 l1 b = some true := by
  simp only [laws_FnFixedOk.j0]
  cases b with
  | true => rw [if_pos rfl]
  | false =>
    rw [if_neg (by decide)]
    obtain ⟨⟨t, M, n, v, c⟩, e, ht, hb, h1, h2⟩ := drawTableFind_ok (k - 299) l0 h0
    dsimp only at ht hb h1 h2
    rw [show k - 299 + 300 = k + 1 by omega] at e
    have hb2 : Bd 1048576 t := hb.mono (by omega)
    rw [e, Option.bind_some]
    dsimp only
    rw [sTFind t M n v c hb2 (by omega) (by omega) (by omega) (k + 1) (by omega), Option.bind_some, iTFind t M n v c hb2 (by omega) (by omega) (by omega) (k + 1) (by omega), Option.bind_some, if_pos rfl, if_neg (by simp), sTab t M hb2 (by omega) (k + 1) (by omega), Option.bind_some]
    cases hw : tabB t M with
    | true => exact fo_j1 k l1 _ _ t M hk ht hb2 hw
    | false => exact fo_j1t k l1 _ _ t M
theorem FnFixedOk : laws_FnFixedOk.Pure := by
  intro l0 l1 _ _ h0 _ _ _
  obtain ⟨k, hk⟩ : ∃ k, k = 2300301 := ⟨_, rfl⟩
  refine ⟨k + 2, ?_⟩
  unfold laws_FnFixedOk.f
  by_cases h : (l0.length : Int) > 1048576
  · rw [if_pos h]
    exact fo_j0 k l0 l1 true (by omega) h0
  · rw [if_neg h]
    exact fo_j0 k l0 l1 _ (by omega) h0
end Go.Proofs.Ytgahnhncmjgenaa.Pure
