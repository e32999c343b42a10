/-
  The law FnExactTableAt's plain function answers true at every argument within the given bounds.
-/
import Derived.Test.YtgahnhncmjgenaaXx0
import Derived.Test.YtgahnhncmjgenaaXx2
import Derived.Test.YtgahnhncmjgenaaXx4
import Derived.Test.YtgahnhncmjgenaaXx43
import Derived.Test.YtgahnhncmjgenaaXx54
import Derived.Test.YtgahnhncmjgenaaXx64
import Derived.Laws.Bits64
import Derived.Laws.BitsAllLaws
import Derived.SizedLaws
import Derived.Lib.IndexAny
namespace Go.Proofs.Ytgahnhncmjgenaa.Pure
open Go Go.RowKit Go.Proofs.Ytgahnhncmjgenaa.X Go.Proofs.YtgahnhncmjgenaaW.PrintWords Go.Proofs.YtgahnhncmjgenaaW.PrintLast Go.Proofs.YtgahnhncmjgenaaW.PrintMore
/-- An answer that is there, and of which P holds. -/
def Te {α : Type} (o : Option α) (P : α → Prop) : Prop := ∃ r, o = some r ∧ P r
theorem Te.bind {α β : Type} {o : Option α} {f : α → Option β} {P : α → Prop} {Q : β → Prop} (h : Te o P) (k : ∀ r, P r → Te (f r) Q) : Te (o.bind f) Q := by
  obtain ⟨r, rfl, hr⟩ := h
  exact k r hr
theorem Te.now {α : Type} {P : α → Prop} {r : α} (h : P r) : Te (some r) P := ⟨r, rfl, h⟩
theorem Te.ite {α : Type} {c : Prop} [Decidable c] {a b : Option α} {P : α → Prop} (h : c → Te a P) (k : ¬ c → Te b P) : Te (if c then a else b) P := by
  by_cases hc : c
  · rw [if_pos hc]; exact h hc
  · rw [if_neg hc]; exact k hc
theorem Te.mono {α : Type} {o : Option α} {P Q : α → Prop} (h : Te o P) (k : ∀ r, P r → Q r) : Te o Q := by
  obtain ⟨r, e, hr⟩ := h
  exact ⟨r, e, k r hr⟩
theorem Te.of_eq {α : Type} {o : Option α} {r : α} {P : α → Prop} (e : o = some r) (h : P r) : Te o P := ⟨r, e, h⟩
theorem Te.tells {α : Type} {o : Option α} {r : α} (h : Te o (fun x => x = r)) : o = some r := by
  obtain ⟨x, e, rfl⟩ := h
  exact e
theorem w64 (n : Int) (h : -9223372036854775808 ≤ n) (h' : n ≤ 9223372036854775807) : wrap64 n = n := by unfold wrap64; omega
theorem u8_range (x : Int) (h : (Lit.int .u8 x).wf = true) : 0 ≤ x ∧ x ≤ 255 := by
  simp [Lit.wf, IntKind.min, IntKind.max, IntKind.bits, IntKind.signed] at h
  omega
theorem xor_nat (a b : Nat) (ha : a < 9223372036854775808) (hb : b < 9223372036854775808) : Go.bits .xor .i64 (a : Int) (b : Int) = ((a ^^^ b : Nat) : Int) := by
  have hx : a ^^^ b < 2 ^ 63 := Nat.xor_lt_two_pow (by omega) (by omega)
  have ha' : a < 18446744073709551616 := by omega
  have hb' : b < 18446744073709551616 := by omega
  show IntKind.i64.wrap ((BitVec.ofInt 64 (a : Int) ^^^ BitVec.ofInt 64 (b : Int)).toNat : Int) = _
  rw [BitVec.toNat_xor, ofInt_u64 a ha', ofInt_u64 b hb', IntKind.wrap_i64]
  omega
theorem rd_range (l : List Int) (hl : ∀ x ∈ l, 0 ≤ x ∧ x ≤ 255) (i : Int) : 0 ≤ rd l i ∧ rd l i ≤ 255 := by
  unfold rd
  by_cases h : i.toNat < l.length
  · rw [List.getD_eq_getElem?_getD, List.getElem?_eq_getElem h]
    exact hl _ (List.getElem_mem h)
  · rw [List.getD_eq_getElem?_getD, List.getElem?_eq_none (by omega)]
    simp
/-- A value of a remainder by a positive number. -/
theorem tmod_rng (x n : Int) (hx : 0 ≤ x) (hn : 1 ≤ n) : 0 ≤ Int.tmod x n ∧ Int.tmod x n < n := by
  rw [Int.tmod_eq_emod_of_nonneg hx]
  exact ⟨Int.emod_nonneg _ (by omega), Int.emod_lt_of_pos _ (by omega)⟩
/-- The signs a word may bear. -/
def SG : ByteArray := ⟨#[101, 116, 97, 111, 105, 110, 115, 114, 104, 108, 48, 49, 50, 51, 52, 53, 54, 55, 56, 57, 100, 99, 117, 109, 102, 112, 103, 119, 121, 98, 118, 107, 120, 106, 113, 122, 58, 47, 45]⟩
def sgn (c : UInt8) : Bool := SG.data.toList.contains c
/-- What WordOk answers. -/
def wordB (s : ByteArray) : Bool := s.data.toList.all sgn && decide (s.size ≤ 16)
theorem bt_byte (s : ByteArray) (i : Nat) (c : UInt8) (l : List UInt8) (h : s.data.toList.drop i = c :: l) : bt s (i : Int) = (c.toNat : Int) := by
  have hi : i < s.data.toList.length := by
    rcases Nat.lt_or_ge i s.data.toList.length with h' | h'
    · exact h'
    · rw [List.drop_eq_nil_of_le h'] at h; cases h
  have hs : ((i : Int)).toNat < s.size := by simpa using hi
  rw [← bt_at s (i : Int) hs]
  rw [List.drop_eq_getElem_cons hi] at h
  have h1 := (List.cons.inj h).1
  rw [← h1]
  rfl
theorem len_drop (s : ByteArray) (i : Nat) (c : UInt8) (l : List UInt8) (h : s.data.toList.drop i = c :: l) : i < s.size ∧ s.data.toList.drop (i + 1) = l ∧ s.size = i + 1 + l.length := by
  have e := congrArg List.length h
  rw [List.length_drop, List.length_cons, Array.length_toList] at e
  have e' : s.data.size = s.size := rfl
  refine ⟨by omega, ?_, by omega⟩
  rw [← List.drop_drop, h]
  rfl
theorem len_nil (s : ByteArray) (i : Nat) (h : s.data.toList.drop i = []) : s.size ≤ i := by
  have e := congrArg List.length h
  rw [List.length_drop, Array.length_toList] at e
  have e' : s.data.size = s.size := rfl
  simp only [List.length_nil] at e
  omega
theorem iWord_l0 (s : ByteArray) (hs : s.size ≤ 4611686018427387904) : ∀ (l : List UInt8) (i : Nat), s.data.toList.drop i = l → ∀ k, l.length < k → impl_WordOk.l0 k s (s.size : Int) (i : Int) = some (l.all sgn && decide (s.size ≤ 16)) := by
  intro l
  induction l with
  | nil =>
    intro i h k hk
    obtain ⟨k, rfl⟩ : ∃ j, k = j + 1 := ⟨k - 1, by simp at hk; omega⟩
    have := len_nil s i h
    rw [impl_WordOk.l0, if_neg (by omega)]
    simp
    omega
  | cons c l ih =>
    intro i h k hk
    obtain ⟨k, rfl⟩ : ∃ j, k = j + 1 := ⟨k - 1, by simp at hk; omega⟩
    obtain ⟨h1, h2, h3⟩ := len_drop s i c l h
    rw [impl_WordOk.l0, if_pos (by omega), if_pos (by omega), if_pos (by omega), bt_byte s i c l h]
    have hsg : sgn c = decide (0 ≤ Lib.indexByte SG.data.toList c) := Lib.contains_iff_indexByte _ _
    have e : strings_IndexByte.f SG (c.toNat : Int) = some (Lib.indexByte SG.data.toList c) := by
      unfold strings_IndexByte.f
      congr 2
      simp
    rw [show strings_IndexByte.f ⟨#[101, 116, 97, 111, 105, 110, 115, 114, 104, 108, 48, 49, 50, 51, 52, 53, 54, 55, 56, 57, 100, 99, 117, 109, 102, 112, 103, 119, 121, 98, 118, 107, 120, 106, 113, 122, 58, 47, 45]⟩ (c.toNat : Int) = some (Lib.indexByte SG.data.toList c) from e]
    rw [Option.bind_some]
    by_cases hc : Lib.indexByte SG.data.toList c < 0
    · rw [if_pos hc, List.all_cons, hsg, decide_eq_false (by omega)]
      rfl
    · rw [if_neg hc, List.all_cons, hsg, decide_eq_true (by omega), Bool.true_and, w64 _ (by omega) (by omega), show ((i : Int) + 1) = ((i + 1 : Nat) : Int) by omega]
      exact ih (i + 1) h2 k (by simp at hk; omega)
theorem iWord (s : ByteArray) (hs : s.size ≤ 4611686018427387904) (k : Nat) (hk : s.size < k) : impl_WordOk.f k s = some (wordB s) :=
  iWord_l0 s hs s.data.toList 0 rfl k (by simpa using hk)
theorem sSign_l0 (c : UInt8) : ∀ (l : List UInt8) (i : Nat), SG.data.toList.drop i = l → ∀ k, l.length < k → ∃ r : Int, spec_l2Sign.l0 k (c.toNat : Int) (i : Int) = some r ∧ (l.contains c = decide (0 ≤ r)) := by
  intro l
  have hsz : SG.size = 39 := rfl
  induction l with
  | nil =>
    intro i h k hk
    obtain ⟨k, rfl⟩ : ∃ j, k = j + 1 := ⟨k - 1, by simp at hk; omega⟩
    have := len_nil SG i h
    rw [spec_l2Sign.l0, if_neg (by omega)]
    exact ⟨_, rfl, rfl⟩
  | cons d l ih =>
    intro i h k hk
    obtain ⟨k, rfl⟩ : ∃ j, k = j + 1 := ⟨k - 1, by simp at hk; omega⟩
    obtain ⟨h1, h2, h3⟩ := len_drop SG i d l h
    have hb := bt_byte SG i d l h
    rw [spec_l2Sign.l0, if_pos (by omega), if_pos (by omega)]
    rw [show bt ⟨#[101, 116, 97, 111, 105, 110, 115, 114, 104, 108, 48, 49, 50, 51, 52, 53, 54, 55, 56, 57, 100, 99, 117, 109, 102, 112, 103, 119, 121, 98, 118, 107, 120, 106, 113, 122, 58, 47, 45]⟩ (i : Int) = (d.toNat : Int) from hb]
    by_cases hd : (d.toNat : Int) = (c.toNat : Int)
    · have e : c = d := UInt8.toNat_inj.1 (by omega)
      rw [if_pos hd, e]
      refine ⟨_, rfl, ?_⟩
      rw [List.contains_cons]
      simp
    · rw [if_neg hd, w64 _ (by omega) (by omega), show ((i : Int) + 1) = ((i + 1 : Nat) : Int) by omega]
      obtain ⟨r, e1, e2⟩ := ih (i + 1) h2 k (by simp at hk; omega)
      refine ⟨r, e1, ?_⟩
      rw [List.contains_cons, e2]
      have : (c == d) = false := by
        rw [beq_eq_false_iff_ne]
        intro e
        exact hd (by rw [e])
      rw [this, Bool.false_or]
theorem sSign (c : UInt8) (k : Nat) (hk : 39 < k) : ∃ r : Int, spec_l2Sign.f k (c.toNat : Int) = some r ∧ sgn c = decide (0 ≤ r) :=
  sSign_l0 c SG.data.toList 0 rfl k hk
theorem sWord_l0 (s : ByteArray) (hs : s.size ≤ 4611686018427387904) : ∀ (l : List UInt8) (i : Nat), s.data.toList.drop i = l → ∀ k, l.length + 40 < k → spec_WordOk.l0 k s (i : Int) = some (l.all sgn && decide (s.size ≤ 16)) := by
  intro l
  induction l with
  | nil =>
    intro i h k hk
    obtain ⟨k, rfl⟩ : ∃ j, k = j + 1 := ⟨k - 1, by simp at hk; omega⟩
    have := len_nil s i h
    rw [spec_WordOk.l0, if_neg (by omega)]
    simp
    omega
  | cons c l ih =>
    intro i h k hk
    obtain ⟨k, rfl⟩ : ∃ j, k = j + 1 := ⟨k - 1, by simp at hk; omega⟩
    obtain ⟨h1, h2, h3⟩ := len_drop s i c l h
    rw [spec_WordOk.l0, if_pos (by omega), if_pos (by omega), bt_byte s i c l h]
    obtain ⟨r, e1, e2⟩ := sSign c k (by simp at hk; omega)
    rw [e1, Option.bind_some]
    by_cases hc : r < 0
    · rw [if_pos hc, List.all_cons, e2, decide_eq_false (by omega)]
      rfl
    · rw [if_neg hc, List.all_cons, e2, decide_eq_true (by omega), Bool.true_and, w64 _ (by omega) (by omega), show ((i : Int) + 1) = ((i + 1 : Nat) : Int) by omega]
      exact ih (i + 1) h2 k (by simp at hk; omega)
theorem sWord (s : ByteArray) (hs : s.size ≤ 4611686018427387904) (k : Nat) (hk : s.size + 40 < k) : spec_WordOk.f k s = some (wordB s) :=
  sWord_l0 s hs s.data.toList 0 rfl k (by simpa using hk)
/-- What FieldOk answers. -/
def fieldB (a b : ByteArray) : Bool := wordB a && (wordB b && (a.toList != ([] : List UInt8)))
theorem iField (a b : ByteArray) (c : Bool) (ha : a.size ≤ 4611686018427387904) (hb : b.size ≤ 4611686018427387904) (k : Nat) (hk : a.size < k) (hk' : b.size < k) : impl_FieldOk.f k a b c = some (fieldB a b) := by
  unfold impl_FieldOk.f fieldB
  rw [iWord a ha k hk, Option.bind_some]
  cases wordB a with
  | false => rfl
  | true =>
    rw [if_pos rfl, iWord b hb k hk', Option.bind_some]
    cases wordB b with
    | false => rfl
    | true => rfl
theorem sField (a b : ByteArray) (c : Bool) (ha : a.size ≤ 4611686018427387904) (hb : b.size ≤ 4611686018427387904) (k : Nat) (hk : a.size + 40 < k) (hk' : b.size + 40 < k) : spec_FieldOk.f k a b c = some (fieldB a b) := by
  unfold spec_FieldOk.f fieldB
  rw [sWord a ha k hk, Option.bind_some]
  cases wordB a with
  | false => rfl
  | true =>
    rw [if_pos rfl]
    by_cases h : a.toList = []
    · rw [if_pos h, h]
      simp
    · rw [if_neg h, sWord b hb k hk', Option.bind_some]
      simp [h]
def fB (x : S32) : Bool := fieldB x.f0 x.f1
/-- The fields of a list are no longer than m. -/
def Bd (m : Nat) (l : List S32) : Prop := ∀ x ∈ l, x.f0.size ≤ m ∧ x.f1.size ≤ m
theorem Bd.drop {m : Nat} {l : List S32} (h : Bd m l) (i : Nat) : Bd m (l.drop i) := fun x hx => h x (List.mem_of_mem_drop hx)
theorem Bd.take {m : Nat} {l : List S32} (h : Bd m l) (i : Nat) : Bd m (l.take i) := fun x hx => h x (List.mem_of_mem_take hx)
theorem Bd.append {m : Nat} {l t : List S32} (h : Bd m l) (k : Bd m t) : Bd m (l ++ t) := fun x hx => (List.mem_append.1 hx).elim (h x) (k x)
theorem Bd.mono {m n : Nat} {l : List S32} (h : Bd m l) (k : m ≤ n) : Bd n l := fun x hx => ⟨Nat.le_trans (h x hx).1 k, Nat.le_trans (h x hx).2 k⟩
theorem Bd.nil (m : Nat) : Bd m [] := fun x hx => by cases hx
theorem Bd.one {m : Nat} (x : S32) (h : x.f0.size ≤ m) (k : x.f1.size ≤ m) : Bd m [x] := fun y hy => by
  rw [List.mem_singleton] at hy
  rw [hy]
  exact ⟨h, k⟩
theorem drop_cons (l : List S32) (i : Nat) (x : S32) (t : List S32) (h : l.drop i = x :: t) : i < l.length ∧ l.drop (i + 1) = t ∧ rd_T32 l (i : Int) = x ∧ x ∈ l ∧ l.length = i + 1 + t.length := by
  have e := congrArg List.length h
  rw [List.length_drop, List.length_cons] at e
  have hi : i < l.length := by omega
  refine ⟨hi, ?_, ?_, ?_, by omega⟩
  · rw [← List.drop_drop, h]
    rfl
  · rw [rd_drop l i hi] at h
    exact (List.cons.inj h).1
  · have : x ∈ l.drop i := by rw [h]; exact List.mem_cons_self
    exact List.mem_of_mem_drop this
theorem drop_none (l : List S32) (i : Nat) (h : l.drop i = []) : l.length ≤ i := by
  have e := congrArg List.length h
  rw [List.length_drop] at e
  simp only [List.length_nil] at e
  omega
/-- The place of the first that p takes. -/
def idxB (p : S32 → Bool) : List S32 → Int → Int
  | [], _ => -1
  | x :: l, i => if p x = true then i else idxB p l (i + 1)
theorem idxO_B (F : S32 → Option Bool) (p : S32 → Bool) : ∀ (l : List S32) (i : Int), (∀ x ∈ l, F x = some (p x)) → idxO F l i = some (idxB p l i)
  | [], _, _ => rfl
  | x :: l, i, h => by
    unfold idxO idxB
    rw [h x List.mem_cons_self, Option.bind_some]
    cases p x with
    | true => rfl
    | false =>
      rw [if_neg (by decide), if_neg (by decide)]
      exact idxO_B F p l (i + 1) (fun y hy => h y (List.mem_cons_of_mem _ hy))
theorem idxB_any (p : S32 → Bool) : ∀ (l : List S32) (i : Int), 0 ≤ i → decide (idxB p l i ≥ 0) = l.any p
  | [], _, _ => rfl
  | x :: l, i, h => by
    unfold idxB
    rw [List.any_cons]
    cases p x with
    | true => rw [if_pos rfl, decide_eq_true h]; rfl
    | false => rw [if_neg (by decide), Bool.false_or]; exact idxB_any p l (i + 1) (by omega)
theorem any_not (p : S32 → Bool) (l : List S32) : (l.any fun x => !p x) = !(l.all p) := by
  induction l with
  | nil => rfl
  | cons x l ih => rw [List.any_cons, List.all_cons, ih, Bool.not_and]
theorem iF (k : Nat) (x : S32) (m : Nat) (hm : m ≤ 4611686018427387904) (h : x.f0.size ≤ m ∧ x.f1.size ≤ m) (hk : m < k) : impl_FieldOk.f k x.f0 x.f1 x.f2 = some (fB x) :=
  iField x.f0 x.f1 x.f2 (by omega) (by omega) k (by omega) (by omega)
theorem sF (k : Nat) (x : S32) (m : Nat) (hm : m ≤ 4611686018427387904) (h : x.f0.size ≤ m ∧ x.f1.size ≤ m) (hk : m + 40 < k) : spec_FieldOk.f k x.f0 x.f1 x.f2 = some (fB x) :=
  sField x.f0 x.f1 x.f2 (by omega) (by omega) k (by omega) (by omega)
def ok2 (x : S32) : Bool := fB x && !x.f2
def szB : List S32 → Int
  | [] => 0
  | x :: t => ((x.f0.size : Int) + (x.f1.size : Int) + 4) + szB t
def tabB (l : List S32) (M : Int) : Bool := l.all ok2 && ((decide (0 ≤ M) && decide (M ≤ 64)) && decide (szB l ≤ M))
theorem szB_pos : ∀ l : List S32, 0 ≤ szB l
  | [] => Int.le_refl 0
  | x :: t => by
    have := szB_pos t
    unfold szB
    omega
theorem szB_le (m : Nat) : ∀ l : List S32, Bd m l → szB l ≤ (l.length : Int) * (2 * (m : Int) + 4)
  | [], _ => by simp [szB]
  | x :: t, h => by
    have ih := szB_le m t (fun y hy => h y (List.mem_cons_of_mem _ hy))
    have h1 := h x List.mem_cons_self
    unfold szB
    rw [List.length_cons, show (((t.length + 1 : Nat) : Int)) = (t.length : Int) + 1 by omega, Int.add_mul, Int.one_mul]
    omega
theorem szB_small (l : List S32) (hb : Bd 1048576 l) (hn : l.length ≤ 1048600) : szB l ≤ 4611686018427387904 := by
  have h := szB_le 1048576 l hb
  have h2 : (l.length : Int) * (2 * ((1048576 : Nat) : Int) + 4) ≤ 1048600 * (2 * ((1048576 : Nat) : Int) + 4) := Int.mul_le_mul_of_nonneg_right (by omega) (by omega)
  omega
theorem iSize_l0 (l : List S32) (hn : l.length ≤ 4611686018427387904) : ∀ (t : List S32) (i : Nat), l.drop i = t → ∀ k (s : Int), 0 ≤ s → s + szB t ≤ 4611686018427387904 → t.length < k → impl_Table_size.l0 k s l (l.length : Int) (i : Int) = some (s + szB t) := by
  intro t
  induction t with
  | nil =>
    intro i h k s h0 h1 hk
    obtain ⟨k, rfl⟩ : ∃ j, k = j + 1 := ⟨k - 1, by omega⟩
    have := drop_none l i h
    rw [impl_Table_size.l0, if_neg (by omega)]
    simp [szB]
  | cons x t ih =>
    intro i h k s h0 h1 hk
    simp only [List.length_cons] at hk
    obtain ⟨k, rfl⟩ : ∃ j, k = j + 1 := ⟨k - 1, by omega⟩
    obtain ⟨g1, g2, g3, g4, g5⟩ := drop_cons l i x t h
    have hp := szB_pos t
    unfold szB at h1 ⊢
    rw [impl_Table_size.l0, if_pos (by omega), if_pos (by omega), if_pos (by omega), g3]
    rw [w64 ((x.f0.size : Int) + (x.f1.size : Int)) (by omega) (by omega), w64 ((x.f0.size : Int) + (x.f1.size : Int) + 4) (by omega) (by omega), w64 (s + _) (by omega) (by omega), w64 ((i : Int) + 1) (by omega) (by omega), show ((i : Int) + 1) = ((i + 1 : Nat) : Int) by omega, ih (i + 1) g2 k _ (by omega) (by omega) (by omega)]
    congr 1
    omega
theorem iSize (l : List S32) (M : Int) (hn : l.length ≤ 4611686018427387904) (hs : szB l ≤ 4611686018427387904) (k : Nat) (hk : l.length < k) : impl_Table_size.f k l M = some (szB l) := by
  have h := iSize_l0 l hn l 0 rfl k 0 (Int.le_refl 0) (by omega) hk
  rw [Int.zero_add] at h
  exact h
theorem sSize_l0 (l : List S32) (hn : l.length ≤ 4611686018427387904) : ∀ (t : List S32) (i : Nat), l.drop i = t → ∀ k (s : Int), 0 ≤ s → s + szB t ≤ 4611686018427387904 → t.length < k → spec_l3Size.l0 k l s (i : Int) = some (s + szB t) := by
  intro t
  induction t with
  | nil =>
    intro i h k s h0 h1 hk
    obtain ⟨k, rfl⟩ : ∃ j, k = j + 1 := ⟨k - 1, by omega⟩
    have := drop_none l i h
    rw [spec_l3Size.l0, if_neg (by omega)]
    simp [szB]
  | cons x t ih =>
    intro i h k s h0 h1 hk
    simp only [List.length_cons] at hk
    obtain ⟨k, rfl⟩ : ∃ j, k = j + 1 := ⟨k - 1, by omega⟩
    obtain ⟨g1, g2, g3, g4, g5⟩ := drop_cons l i x t h
    have hp := szB_pos t
    unfold szB at h1 ⊢
    rw [spec_l3Size.l0, if_pos (by omega), if_pos (by omega), g3]
    unfold spec_l3One.f
    rw [Option.bind_some, w64 ((x.f0.size : Int) + (x.f1.size : Int)) (by omega) (by omega), w64 ((x.f0.size : Int) + (x.f1.size : Int) + 4) (by omega) (by omega), w64 (s + _) (by omega) (by omega), w64 ((i : Int) + 1) (by omega) (by omega), show ((i : Int) + 1) = ((i + 1 : Nat) : Int) by omega, ih (i + 1) g2 k _ (by omega) (by omega) (by omega)]
    congr 1
    omega
theorem sSize (l : List S32) (hn : l.length ≤ 4611686018427387904) (hs : szB l ≤ 4611686018427387904) (k : Nat) (hk : l.length < k) : spec_l3Size.f k l = some (szB l) := by
  have h := sSize_l0 l hn l 0 rfl k 0 (Int.le_refl 0) (by omega) hk
  rw [Int.zero_add] at h
  exact h
theorem iIn (a b c : Int) : impl_in.f a b c = some (decide (b ≤ a) && decide (a ≤ c)) := by
  unfold impl_in.f
  by_cases h : b ≤ a
  · rw [if_pos h, decide_eq_true h, Bool.true_and]
  · rw [if_neg h, decide_eq_false h, Bool.false_and]
theorem sIn (a b c : Int) : spec_l6In.f a b c = some (decide (b ≤ a) && decide (a ≤ c)) := iIn a b c
theorem sTab_l0 (l : List S32) (M : Int) (hb : Bd 1048576 l) (hn : l.length ≤ 1048600) : ∀ (t : List S32) (i : Nat), l.drop i = t → ∀ k, t.length + 2200000 < k → spec_TableOk.l0 k (i : Int) l M = some (t.all ok2 && ((decide (0 ≤ M) && decide (M ≤ 64)) && decide (szB l ≤ M))) := by
  intro t
  induction t with
  | nil =>
    intro i h k hk
    obtain ⟨k, rfl⟩ : ∃ j, k = j + 1 := ⟨k - 1, by omega⟩
    have := drop_none l i h
    rw [spec_TableOk.l0, if_neg (by omega), sIn, Option.bind_some]
    cases (decide (0 ≤ M) && decide (M ≤ 64)) with
    | false => rfl
    | true =>
      rw [if_pos rfl, sSize l (by omega) (szB_small l hb hn) k (by omega), Option.bind_some]
      rfl
  | cons x t ih =>
    intro i h k hk
    simp only [List.length_cons] at hk
    obtain ⟨k, rfl⟩ : ∃ j, k = j + 1 := ⟨k - 1, by omega⟩
    obtain ⟨g1, g2, g3, g4, g5⟩ := drop_cons l i x t h
    rw [spec_TableOk.l0, if_pos (by omega), if_pos (by omega), g3, sF k x 1048576 (by omega) (hb x g4) (by omega), Option.bind_some, List.all_cons]
    unfold ok2
    cases fB x with
    | false => rfl
    | true =>
      rw [if_pos rfl]
      cases x.f2 with
      | true => rfl
      | false =>
        rw [if_neg (by decide), w64 ((i : Int) + 1) (by omega) (by omega), show ((i : Int) + 1) = ((i + 1 : Nat) : Int) by omega, ih (i + 1) g2 k (by omega)]
        rfl
theorem sTab (l : List S32) (M : Int) (hb : Bd 1048576 l) (hn : l.length ≤ 1048600) (k : Nat) (hk : l.length + 2200000 < k) : spec_TableOk.f k l M = some (tabB l M) :=
  sTab_l0 l M hb hn l 0 rfl k hk
theorem iTab (l : List S32) (M : Int) (hb : Bd 1048576 l) (hn : l.length ≤ 1048600) (k : Nat) (hk : l.length + 2200000 < k) : impl_TableOk.f k l M = some (tabB l M) := by
  have hF : ∀ x ∈ l, impl_TableOk_1.F k x = some (!(ok2 x)) := fun x hx => by
    unfold impl_TableOk_1.F ok2
    rw [iF k x 1048576 (by omega) (hb x hx) (by omega), Option.bind_some]
    cases fB x with
    | false => rfl
    | true => rw [if_pos rfl]; simp
  unfold impl_TableOk.f impl_TableOk_1c.f tabB
  rw [iIn, Option.bind_some, if_pos (show l.length ≤ 9223372036854775806 by omega), idxO_B _ _ l 0 hF, Option.bind_some, idxB_any _ l 0 (Int.le_refl 0), any_not]
  cases (decide (0 ≤ M) && decide (M ≤ 64)) with
  | false =>
    rw [if_neg (by decide), Bool.false_and, Bool.and_false]
  | true =>
    rw [if_pos rfl, Option.bind_some, Bool.true_and]
    cases l.all ok2 with
    | false => rfl
    | true =>
      rw [if_neg (by decide), iSize l M (by omega) (szB_small l hb hn) k (by omega), Option.bind_some]
      rfl
theorem iTSize (l : List S32) (M : Int) (hb : Bd 1048576 l) (hn : l.length ≤ 1048600) (k : Nat) (hk : l.length + 2200000 < k) : impl_TableSize.f k l M = some (if tabB l M = true then szB l else -1) := by
  unfold impl_TableSize.f
  rw [iTab l M hb hn k hk, Option.bind_some]
  cases tabB l M with
  | false => rfl
  | true => rw [if_pos rfl, iSize l M (by omega) (szB_small l hb hn) k (by omega), Option.bind_some, if_pos rfl]
theorem sTSize (l : List S32) (M : Int) (hb : Bd 1048576 l) (hn : l.length ≤ 1048600) (k : Nat) (hk : l.length + 2200000 < k) : spec_TableSize.f k l M = some (if tabB l M = true then szB l else -1) := by
  unfold spec_TableSize.f
  rw [sTab l M hb hn k hk, Option.bind_some]
  cases tabB l M with
  | false => rfl
  | true => rw [if_pos rfl, sSize l (by omega) (szB_small l hb hn) k (by omega), Option.bind_some, if_pos rfl]
def cv (x : S56) : S32 := ⟨x.f0, x.f1, x.f2⟩
def Bd56 (m : Nat) (l : List S56) : Prop := ∀ x ∈ l, x.f0.size ≤ m ∧ x.f1.size ≤ m
theorem bd_map (m : Nat) (l : List S56) (h : Bd56 m l) : Bd m (l.map cv) := fun x hx => by
  obtain ⟨y, hy, rfl⟩ := List.mem_map.1 hx
  exact h y hy
theorem drop_cons56 (l : List S56) (i : Nat) (x : S56) (t : List S56) (h : l.drop i = x :: t) : i < l.length ∧ l.drop (i + 1) = t ∧ rd_T56 l (i : Int) = x ∧ x ∈ l ∧ l.length = i + 1 + t.length := by
  have e := congrArg List.length h
  rw [List.length_drop, List.length_cons] at e
  have hi : i < l.length := by omega
  refine ⟨hi, ?_, ?_, ?_, by omega⟩
  · rw [← List.drop_drop, h]
    rfl
  · rw [List.drop_eq_getElem_cons hi] at h
    have h1 := (List.cons.inj h).1
    rw [← h1]
    unfold rd_T56
    rw [List.getD_eq_getElem?_getD, Int.toNat_natCast, List.getElem?_eq_getElem hi]
    rfl
  · have : x ∈ l.drop i := by rw [h]; exact List.mem_cons_self
    exact List.mem_of_mem_drop this
theorem drop_none56 (l : List S56) (i : Nat) (h : l.drop i = []) : l.length ≤ i := by
  have e := congrArg List.length h
  rw [List.length_drop] at e
  simp only [List.length_nil] at e
  omega
theorem szF (a b : ByteArray) (c : Bool) (n : Int) (hn : n ≤ 1048576) (h0 : 0 ≤ n) (ha : a.size ≤ 140737488351232) (hb : b.size ≤ 140737488351232) :
    Te (laws_szField.f a b c n) (fun r => r = -1 ∨ (0 ≤ r ∧ r ≤ n ∧ a.size ≤ 1048576 ∧ b.size ≤ 1048576)) := by
  unfold laws_szField.f
  rw [w64 (n - (a.size : Int)) (by omega) (by omega), w64 (n - (a.size : Int) - (b.size : Int)) (by omega) (by omega)]
  refine Te.ite (fun _ => Te.now (.inl rfl)) (fun _ => Te.ite (fun _ => Te.now (.inl rfl)) (fun _ => Te.now (.inr ⟨by omega, by omega, by omega, by omega⟩)))
theorem szFS_l0 (l : List S56) (hl : l.length ≤ 1048576) (hb : Bd56 140737488351232 l) : ∀ (t : List S56) (i : Nat), l.drop i = t → ∀ k (n : Int), 0 ≤ n → n ≤ 1048576 → t.length < k →
    Te (laws_szFieldS.l0 k l n (i : Int)) (fun r => r = -1 ∨ (0 ≤ r ∧ r ≤ 1048576 ∧ ∀ x ∈ t, x.f0.size ≤ 1048576 ∧ x.f1.size ≤ 1048576)) := by
  intro t
  induction t with
  | nil =>
    intro i h k n h0 h1 hk
    obtain ⟨k, rfl⟩ : ∃ j, k = j + 1 := ⟨k - 1, by omega⟩
    have := drop_none56 l i h
    rw [laws_szFieldS.l0, if_neg (by omega)]
    exact Te.now (.inr ⟨h0, h1, fun x hx => by cases hx⟩)
  | cons x t ih =>
    intro i h k n h0 h1 hk
    simp only [List.length_cons] at hk
    obtain ⟨k, rfl⟩ : ∃ j, k = j + 1 := ⟨k - 1, by omega⟩
    obtain ⟨g1, g2, g3, g4, g5⟩ := drop_cons56 l i x t h
    rw [laws_szFieldS.l0, if_pos (by omega), if_pos (by omega), g3]
    refine (szF x.f0 x.f1 x.f2 n h1 h0 (hb x g4).1 (hb x g4).2).bind ?_
    intro r hr
    refine Te.ite (fun _ => Te.now (.inl rfl)) (fun hn => ?_)
    rcases hr with hr | ⟨r0, r1, r2, r3⟩
    · omega
    rw [w64 _ (by omega) (by omega), show ((i : Int) + 1) = ((i + 1 : Nat) : Int) by omega]
    refine (ih (i + 1) g2 k r r0 (by omega) (by omega)).mono ?_
    intro s hs
    rcases hs with hs | ⟨s0, s1, s2⟩
    · exact .inl hs
    · refine .inr ⟨s0, s1, fun y hy => ?_⟩
      rcases List.mem_cons.1 hy with rfl | hy
      · exact ⟨r2, r3⟩
      · exact s2 y hy
theorem szFS (l : List S56) (hn : l.length ≤ 4611686018427387904) (hb : Bd56 140737488351232 l) (k : Nat) (hk : 1048577 < k) :
    Te (laws_szFieldS.f k l 1048576) (fun r => r = -1 ∨ (0 ≤ r ∧ r ≤ 1048576 ∧ l.length ≤ 1048576 ∧ Bd56 1048576 l)) := by
  unfold laws_szFieldS.f
  rw [w64 _ (by omega) (by omega)]
  refine Te.ite (fun _ => Te.now (.inl rfl)) (fun h => ?_)
  refine (szFS_l0 l (by omega) hb l 0 rfl k _ (by omega) (by omega) (by omega)).mono ?_
  intro r hr
  rcases hr with hr | ⟨r0, r1, r2⟩
  · exact .inl hr
  · exact .inr ⟨r0, r1, by omega, r2⟩
theorem toFS_l0 (l : List S56) (hl : l.length ≤ 1048576) : ∀ (t : List S56) (i : Nat), l.drop i = t → ∀ k, t.length < k → ∀ y : List S32, y.length = l.length →
    laws_toFieldS.l0 k l y (i : Int) = some (y.take i ++ t.map cv) := by
  intro t
  induction t with
  | nil =>
    intro i h k hk y hy
    obtain ⟨k, rfl⟩ : ∃ j, k = j + 1 := ⟨k - 1, by omega⟩
    have := drop_none56 l i h
    rw [laws_toFieldS.l0, if_neg (by omega), List.take_of_length_le (by omega)]
    simp
  | cons x t ih =>
    intro i h k hk y hy
    simp only [List.length_cons] at hk
    obtain ⟨k, rfl⟩ : ∃ j, k = j + 1 := ⟨k - 1, by omega⟩
    obtain ⟨g1, g2, g3, g4, g5⟩ := drop_cons56 l i x t h
    rw [laws_toFieldS.l0, if_pos (by omega), if_pos (by omega), g3]
    unfold laws_toField.f
    rw [Option.bind_some, if_pos (by omega), w64 _ (by omega) (by omega), show ((i : Int) + 1) = ((i + 1 : Nat) : Int) by omega, ih (i + 1) g2 k (by omega) _ (by rw [List.length_set]; exact hy)]
    congr 1
    rw [Int.toNat_natCast, List.map_cons, List.take_add_one, List.getElem?_set_self (by omega), List.take_set_of_le (Nat.le_refl i)]
    simp
    rfl
theorem toFS (l : List S56) (hl : l.length ≤ 1048576) (k : Nat) (hk : l.length < k) : laws_toFieldS.f k l = some (l.map cv) := by
  unfold laws_toFieldS.f
  rw [if_pos (by omega), if_pos (by omega)]
  have h := toFS_l0 l hl l 0 rfl k hk (List.replicate ((l.length : Int)).toNat z32) (by simp)
  simpa using h
theorem eqF_self (x : S32) : laws_eqField.f x.f0 x.f1 x.f2 x.f0 x.f1 x.f2 = some true := by
  unfold laws_eqField.f
  rw [if_pos rfl, if_pos rfl, if_neg (by simp)]
theorem eqFS_l0 (l : List S32) (hl : l.length ≤ 1048576) : ∀ (t : List S32) (i : Nat), l.drop i = t → ∀ k, t.length < k → laws_eqFieldS.l0 k l l (i : Int) = some true := by
  intro t
  induction t with
  | nil =>
    intro i h k hk
    obtain ⟨k, rfl⟩ : ∃ j, k = j + 1 := ⟨k - 1, by omega⟩
    have := drop_none l i h
    rw [laws_eqFieldS.l0, if_neg (by omega)]
  | cons x t ih =>
    intro i h k hk
    simp only [List.length_cons] at hk
    obtain ⟨k, rfl⟩ : ∃ j, k = j + 1 := ⟨k - 1, by omega⟩
    obtain ⟨g1, g2, g3, g4, g5⟩ := drop_cons l i x t h
    rw [laws_eqFieldS.l0, if_pos (by omega), if_pos (by omega), if_pos (by omega), eqF_self, Option.bind_some, if_pos rfl, w64 _ (by omega) (by omega), show ((i : Int) + 1) = ((i + 1 : Nat) : Int) by omega]
    exact ih (i + 1) g2 k (by omega)
theorem eqFS_self (l : List S32) (hl : l.length ≤ 1048576) (k : Nat) (hk : l.length < k) : laws_eqFieldS.f k l l = some true := by
  unfold laws_eqFieldS.f
  rw [if_pos rfl]
  exact eqFS_l0 l hl l 0 rfl k hk
theorem szT (l : List S56) (M : Int) (hn : l.length ≤ 4611686018427387904) (hb : Bd56 140737488351232 l) (k : Nat) (hk : 1048577 < k) :
    Te (laws_szTable.f k l M 1048576) (fun r => r = -1 ∨ (0 ≤ r ∧ r ≤ 1048576 ∧ l.length ≤ 1048576 ∧ Bd56 1048576 l)) := by
  unfold laws_szTable.f
  refine (szFS l hn hb k hk).bind ?_
  intro r hr
  exact Te.ite (fun _ => Te.now (.inl rfl)) (fun h => Te.now hr)
theorem toT (l : List S56) (M : Int) (hl : l.length ≤ 1048576) (k : Nat) (hk : l.length < k) : laws_toTable.f k l M = some (l.map cv, M) := by
  unfold laws_toTable.f
  rw [toFS l hl k hk, Option.bind_some]
theorem eqT_self (l : List S32) (M : Int) (hl : l.length ≤ 1048576) (k : Nat) (hk : l.length < k) : laws_eqTable.f k l M l M = some true := by
  unfold laws_eqTable.f
  rw [eqFS_self l hl k hk, Option.bind_some, if_pos rfl, if_pos rfl]
def fixedL : List S32 := [⟨⟨#[58, 112, 97, 116, 104]⟩, ⟨#[]⟩, false⟩, ⟨⟨#[58, 115, 116, 97, 116, 117, 115]⟩, ⟨#[48]⟩, false⟩, ⟨⟨#[58, 115, 116, 97, 116, 117, 115]⟩, ⟨#[49, 50]⟩, false⟩, ⟨⟨#[107, 105, 110, 100]⟩, ⟨#[116, 101, 120, 116]⟩, false⟩, ⟨⟨#[115, 105, 122, 101]⟩, ⟨#[]⟩, false⟩, ⟨⟨#[116, 101]⟩, ⟨#[116, 114, 97, 105, 108, 101, 114, 115]⟩, false⟩]
theorem fixedL_len : fixedL.length = 6 := rfl
theorem iFixed : impl_TableFixed.f = some fixedL := rfl
theorem sFixed : spec_TableFixed.f = some fixedL := rfl
theorem sAll (l : List S32) (M : Int) (hn : l.length ≤ 1048600) : spec_l3All.f l M = some (fixedL ++ l) := by
  unfold spec_l3All.f
  rw [sFixed, Option.bind_some, fixedL_len, if_pos (by omega)]
theorem concat_l1 (a b : List S32) (ha : a.length ≤ 10) (hn : b.length ≤ 1048600) (k : Nat) (hk : 10 < k) : impl_Field_81.l1 k [] [a, b] 2 0 = some (a ++ b) := by
  obtain ⟨k, rfl⟩ : ∃ j, k = j + 3 := ⟨k - 3, by omega⟩
  rw [impl_Field_81.l1, if_pos (by decide), if_pos (by decide), if_pos (by simp), show rd_L6 [a, b] 0 = a from rfl, if_pos (by simp; omega), show wrap64 (0 + 1) = 1 from w64 1 (by omega) (by omega)]
  rw [impl_Field_81.l1, if_pos (by decide), if_pos (by decide), if_pos (by simp), show rd_L6 [a, b] 1 = b from rfl, if_pos (by simp; omega), show wrap64 (1 + 1) = 2 from w64 2 (by omega) (by omega)]
  rw [impl_Field_81.l1, if_neg (by decide)]
  rfl
theorem concat_l0 (a b : List S32) (ha : a.length ≤ 10) (hn : b.length ≤ 1048600) (k : Nat) (hk : 20 < k) : impl_Field_81.f k [a, b] = some (a ++ b) := by
  unfold impl_Field_81.f
  obtain ⟨k, rfl⟩ : ∃ j, k = j + 3 := ⟨k - 3, by omega⟩
  rw [show ((([a, b] : List (List S32)).length : Nat) : Int) = 2 from rfl]
  rw [impl_Field_81.l0, if_pos (by decide), if_pos (by decide), if_pos (by simp), show rd_L6 [a, b] 0 = a from rfl, w64 (0 + (a.length : Int)) (by omega) (by omega), if_neg (by omega), show wrap64 (0 + 1) = 1 from w64 1 (by omega) (by omega)]
  rw [impl_Field_81.l0, if_pos (by decide), if_pos (by decide), if_pos (by simp), show rd_L6 [a, b] 1 = b from rfl, w64 _ (by omega) (by omega), if_neg (by omega), show wrap64 (1 + 1) = 2 from w64 2 (by omega) (by omega)]
  rw [impl_Field_81.l0, if_neg (by decide)]
  unfold impl_Field_83.f
  rw [if_pos (by omega), if_pos (by omega), Option.bind_some]
  exact concat_l1 a b ha hn k (by omega)
theorem iAll (l : List S32) (M : Int) (hn : l.length ≤ 1048600) (k : Nat) (hk : 20 < k) : impl_Table_all.f k l M = some (fixedL ++ l) := by
  unfold impl_Table_all.f
  rw [iFixed, Option.bind_some, concat_l0 fixedL l (by rw [fixedL_len]; omega) hn k hk, Option.bind_some]
/-- What At answers of the fields of all places. -/
def atB (l : List S32) (a : Int) : ByteArray × ByteArray × Bool × Bool :=
  if (decide (1 ≤ a) && decide (a ≤ ((fixedL ++ l).length : Int))) = true then ((rd_T32 (fixedL ++ l) (a - 1)).f0, (rd_T32 (fixedL ++ l) (a - 1)).f1, (rd_T32 (fixedL ++ l) (a - 1)).f2, true) else (⟨#[]⟩, ⟨#[]⟩, false, false)
def tatB (l : List S32) (M a : Int) : ByteArray × ByteArray × Bool × Bool := if tabB l M = true then atB l a else (⟨#[]⟩, ⟨#[]⟩, false, false)
theorem in_of {a b c : Int} (h : (decide (b ≤ a) && decide (a ≤ c)) = true) : b ≤ a ∧ a ≤ c := by
  rw [Bool.and_eq_true] at h
  exact ⟨of_decide_eq_true h.1, of_decide_eq_true h.2⟩
theorem all_len (l : List S32) : (fixedL ++ l).length = 6 + l.length := by rw [List.length_append, fixedL_len]
theorem iAt (l : List S32) (M a : Int) (hn : l.length ≤ 1048600) (k : Nat) (hk : 20 < k) : impl_Table_at.f k l M a = some (atB l a) := by
  unfold impl_Table_at.f atB
  have hl := all_len l
  rw [iAll l M hn k hk, Option.bind_some, iIn, Option.bind_some]
  by_cases h : (decide (1 ≤ a) && decide (a ≤ ((fixedL ++ l).length : Int))) = true
  · have h2 := in_of h
    rw [if_pos h, if_pos h, w64 (a - 1) (by omega) (by omega), if_pos (by omega), if_pos (by omega)]
  · rw [if_neg h, if_neg h]
theorem sAt (l : List S32) (M a : Int) (hn : l.length ≤ 1048600) : spec_l3At.f l M a = some (atB l a) := by
  unfold spec_l3At.f atB
  have hl := all_len l
  rw [sAll l M hn, Option.bind_some, sIn, Option.bind_some]
  by_cases h : (decide (1 ≤ a) && decide (a ≤ ((fixedL ++ l).length : Int))) = true
  · have h2 := in_of h
    rw [if_pos h, if_pos h, w64 (a - 1) (by omega) (by omega), if_pos (by omega), if_pos (by omega)]
  · rw [if_neg h, if_neg h]
theorem iTAt (l : List S32) (M a : Int) (hb : Bd 1048576 l) (hn : l.length ≤ 1048600) (k : Nat) (hk : l.length + 2200000 < k) : impl_TableAt.f k l M a = some (tatB l M a) := by
  unfold impl_TableAt.f tatB
  rw [iTab l M hb hn k hk, Option.bind_some]
  cases tabB l M with
  | false => rfl
  | true => rw [if_pos rfl, if_pos rfl, iAt l M a hn k (by omega), Option.bind_some]
theorem sTAt (l : List S32) (M a : Int) (hb : Bd 1048576 l) (hn : l.length ≤ 1048600) (k : Nat) (hk : l.length + 2200000 < k) : spec_TableAt.f k l M a = some (tatB l M a) := by
  unfold spec_TableAt.f tatB
  rw [sTab l M hb hn k hk, Option.bind_some]
  cases tabB l M with
  | false => rfl
  | true => rw [if_pos rfl, if_pos rfl, sAt l M a hn, Option.bind_some]
theorem eqP_self (p : ByteArray × ByteArray × Bool × Bool) : laws_eqField.f p.1 p.2.1 p.2.2.1 p.1 p.2.1 p.2.2.1 = some true := eqF_self ⟨p.1, p.2.1, p.2.2.1⟩
theorem xTableAt (l : List S56) (M a : Int) (hn : l.length ≤ 4611686018427387904) (hb : Bd56 140737488351232 l) : laws_FnExactTableAt.f 4000000 l M a = some true := by
  unfold laws_FnExactTableAt.f
  obtain ⟨r, e, hr⟩ := szT l M hn hb 4000000 (by omega)
  rw [e, Option.bind_some]
  rcases hr with rfl | ⟨r0, r1, r2, r3⟩
  · rw [if_pos (by decide)]
  · have hl : (l.map cv).length ≤ 1048576 := by simpa using r2
    rw [if_neg (by omega), toT l M r2 4000000 (by omega), Option.bind_some]
    dsimp only
    rw [sTAt _ M a (bd_map _ _ r3) (by omega) 4000000 (by omega), Option.bind_some, Option.bind_some]
    dsimp only
    rw [iTAt _ M a (bd_map _ _ r3) (by omega) 4000000 (by omega), Option.bind_some, eqP_self, Option.bind_some, if_pos rfl]
    rw [show (4000000 : Nat) = 3999999 + 1 from rfl, laws_FnExactTableAt.j0, if_neg (by simp), toT l M r2 3999999 (by omega), Option.bind_some]
    dsimp only
    rw [eqT_self _ M hl 3999999 (by omega), Option.bind_some, if_pos rfl]
end Go.Proofs.Ytgahnhncmjgenaa.Pure
