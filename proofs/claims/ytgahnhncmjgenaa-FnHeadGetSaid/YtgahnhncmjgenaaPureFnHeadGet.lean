/-
  The law FnHeadGet's plain function answers true at every argument within the given bounds.
-/
import Derived.Test.YtgahnhncmjgenaaXx0
import Derived.Test.YtgahnhncmjgenaaXx4
import Derived.Test.YtgahnhncmjgenaaXx5
import Derived.Test.YtgahnhncmjgenaaXx6
import Derived.Test.YtgahnhncmjgenaaXx7
import Derived.Test.YtgahnhncmjgenaaXx10
import Derived.Test.YtgahnhncmjgenaaXx11
import Derived.Test.YtgahnhncmjgenaaXx12
import Derived.Test.YtgahnhncmjgenaaXx16
import Derived.Test.YtgahnhncmjgenaaXx17
import Derived.Test.YtgahnhncmjgenaaXx18
import Derived.Test.YtgahnhncmjgenaaXx19
import Derived.Test.YtgahnhncmjgenaaXx20
import Derived.Test.YtgahnhncmjgenaaXx21
import Derived.Test.YtgahnhncmjgenaaXx22
import Derived.Test.YtgahnhncmjgenaaXx23
import Derived.Test.YtgahnhncmjgenaaXx26
import Derived.Test.YtgahnhncmjgenaaXx27
import Derived.Test.YtgahnhncmjgenaaXx28
import Derived.Test.YtgahnhncmjgenaaXx30
import Derived.Test.YtgahnhncmjgenaaXx31
import Derived.Test.YtgahnhncmjgenaaXx69
import Derived.Test.YtgahnhncmjgenaaXx70
import Derived.Test.YtgahnhncmjgenaaXx71
import Derived.Laws.Bits64
import Derived.Laws.BitsAllLaws
import Derived.SizedLaws
import Derived.Lib.IndexAny
namespace Go.Proofs.Ytgahnhncmjgenaa.Pure
open Go Go.RowKit Go.Proofs.Ytgahnhncmjgenaa.X Go.Proofs.YtgahnhncmjgenaaW.PrintWords Go.Proofs.YtgahnhncmjgenaaW.PrintLast Go.Proofs.YtgahnhncmjgenaaW.PrintMore
/-- An answer that is there, and of which P holds. -/
def Te {α : Type} (o : Option α) (P : α → Prop) : Prop := ∃ r, o = some r ∧ P r
theorem Te.bind {α β : Type} {o : Option α} {f : α → Option β} {P : α → Prop} {Q : β → Prop} (h : Te o P) (k : ∀ r, P r → Te (f r) Q) : Te (o.bind f) Q := by
  obtain ⟨r, rfl, hr⟩ := h
  exact k r hr
theorem Te.now {α : Type} {P : α → Prop} {r : α} (h : P r) : Te (some r) P := ⟨r, rfl, h⟩
theorem Te.ite {α : Type} {c : Prop} [Decidable c] {a b : Option α} {P : α → Prop} (h : c → Te a P) (k : ¬ c → Te b P) : Te (if c then a else b) P := by
  by_cases hc : c
  · rw [if_pos hc]; exact h hc
  · rw [if_neg hc]; exact k hc
theorem Te.mono {α : Type} {o : Option α} {P Q : α → Prop} (h : Te o P) (k : ∀ r, P r → Q r) : Te o Q := by
  obtain ⟨r, e, hr⟩ := h
  exact ⟨r, e, k r hr⟩
theorem Te.of_eq {α : Type} {o : Option α} {r : α} {P : α → Prop} (e : o = some r) (h : P r) : Te o P := ⟨r, e, h⟩
theorem Te.tells {α : Type} {o : Option α} {r : α} (h : Te o (fun x => x = r)) : o = some r := by
  obtain ⟨x, e, rfl⟩ := h
  exact e
theorem w64 (n : Int) (h : -9223372036854775808 ≤ n) (h' : n ≤ 9223372036854775807) : wrap64 n = n := by unfold wrap64; omega
theorem u8_range (x : Int) (h : (Lit.int .u8 x).wf = true) : 0 ≤ x ∧ x ≤ 255 := by
  simp [Lit.wf, IntKind.min, IntKind.max, IntKind.bits, IntKind.signed] at h
  omega
theorem xor_nat (a b : Nat) (ha : a < 9223372036854775808) (hb : b < 9223372036854775808) : Go.bits .xor .i64 (a : Int) (b : Int) = ((a ^^^ b : Nat) : Int) := by
  have hx : a ^^^ b < 2 ^ 63 := Nat.xor_lt_two_pow (by omega) (by omega)
  have ha' : a < 18446744073709551616 := by omega
  have hb' : b < 18446744073709551616 := by omega
  show IntKind.i64.wrap ((BitVec.ofInt 64 (a : Int) ^^^ BitVec.ofInt 64 (b : Int)).toNat : Int) = _
  rw [BitVec.toNat_xor, ofInt_u64 a ha', ofInt_u64 b hb', IntKind.wrap_i64]
  omega
theorem rd_range (l : List Int) (hl : ∀ x ∈ l, 0 ≤ x ∧ x ≤ 255) (i : Int) : 0 ≤ rd l i ∧ rd l i ≤ 255 := by
  unfold rd
  by_cases h : i.toNat < l.length
  · rw [List.getD_eq_getElem?_getD, List.getElem?_eq_getElem h]
    exact hl _ (List.getElem_mem h)
  · rw [List.getD_eq_getElem?_getD, List.getElem?_eq_none (by omega)]
    simp
/-- A value of a remainder by a positive number. -/
theorem tmod_rng (x n : Int) (hx : 0 ≤ x) (hn : 1 ≤ n) : 0 ≤ Int.tmod x n ∧ Int.tmod x n < n := by
  rw [Int.tmod_eq_emod_of_nonneg hx]
  exact ⟨Int.emod_nonneg _ (by omega), Int.emod_lt_of_pos _ (by omega)⟩
/-- The signs a word may bear. -/
def SG : ByteArray := ⟨#[101, 116, 97, 111, 105, 110, 115, 114, 104, 108, 48, 49, 50, 51, 52, 53, 54, 55, 56, 57, 100, 99, 117, 109, 102, 112, 103, 119, 121, 98, 118, 107, 120, 106, 113, 122, 58, 47, 45]⟩
def sgn (c : UInt8) : Bool := SG.data.toList.contains c
/-- What WordOk answers. -/
def wordB (s : ByteArray) : Bool := s.data.toList.all sgn && decide (s.size ≤ 16)
theorem bt_byte (s : ByteArray) (i : Nat) (c : UInt8) (l : List UInt8) (h : s.data.toList.drop i = c :: l) : bt s (i : Int) = (c.toNat : Int) := by
  have hi : i < s.data.toList.length := by
    rcases Nat.lt_or_ge i s.data.toList.length with h' | h'
    · exact h'
    · rw [List.drop_eq_nil_of_le h'] at h; cases h
  have hs : ((i : Int)).toNat < s.size := by simpa using hi
  rw [← bt_at s (i : Int) hs]
  rw [List.drop_eq_getElem_cons hi] at h
  have h1 := (List.cons.inj h).1
  rw [← h1]
  rfl
theorem len_drop (s : ByteArray) (i : Nat) (c : UInt8) (l : List UInt8) (h : s.data.toList.drop i = c :: l) : i < s.size ∧ s.data.toList.drop (i + 1) = l ∧ s.size = i + 1 + l.length := by
  have e := congrArg List.length h
  rw [List.length_drop, List.length_cons, Array.length_toList] at e
  have e' : s.data.size = s.size := rfl
  refine ⟨by omega, ?_, by omega⟩
  rw [← List.drop_drop, h]
  rfl
theorem len_nil (s : ByteArray) (i : Nat) (h : s.data.toList.drop i = []) : s.size ≤ i := by
  have e := congrArg List.length h
  rw [List.length_drop, Array.length_toList] at e
  have e' : s.data.size = s.size := rfl
  simp only [List.length_nil] at e
  omega
theorem iWord_l0 (s : ByteArray) (hs : s.size ≤ 4611686018427387904) : ∀ (l : List UInt8) (i : Nat), s.data.toList.drop i = l → ∀ k, l.length < k → impl_WordOk.l0 k s (s.size : Int) (i : Int) = some (l.all sgn && decide (s.size ≤ 16)) := by
  intro l
  induction l with
  | nil =>
    intro i h k hk
    obtain ⟨k, rfl⟩ : ∃ j, k = j + 1 := ⟨k - 1, by simp at hk; omega⟩
    have := len_nil s i h
    rw [impl_WordOk.l0, if_neg (by omega)]
    simp
    omega
  | cons c l ih =>
    intro i h k hk
    obtain ⟨k, rfl⟩ : ∃ j, k = j + 1 := ⟨k - 1, by simp at hk; omega⟩
    obtain ⟨h1, h2, h3⟩ := len_drop s i c l h
    rw [impl_WordOk.l0, if_pos (by omega), if_pos (by omega), if_pos (by omega), bt_byte s i c l h]
    have hsg : sgn c = decide (0 ≤ Lib.indexByte SG.data.toList c) := Lib.contains_iff_indexByte _ _
    have e : strings_IndexByte.f SG (c.toNat : Int) = some (Lib.indexByte SG.data.toList c) := by
      unfold strings_IndexByte.f
      congr 2
      simp
    rw [show strings_IndexByte.f ⟨#[101, 116, 97, 111, 105, 110, 115, 114, 104, 108, 48, 49, 50, 51, 52, 53, 54, 55, 56, 57, 100, 99, 117, 109, 102, 112, 103, 119, 121, 98, 118, 107, 120, 106, 113, 122, 58, 47, 45]⟩ (c.toNat : Int) = some (Lib.indexByte SG.data.toList c) from e]
    rw [Option.bind_some]
    by_cases hc : Lib.indexByte SG.data.toList c < 0
    · rw [if_pos hc, List.all_cons, hsg, decide_eq_false (by omega)]
      rfl
    · rw [if_neg hc, List.all_cons, hsg, decide_eq_true (by omega), Bool.true_and, w64 _ (by omega) (by omega), show ((i : Int) + 1) = ((i + 1 : Nat) : Int) by omega]
      exact ih (i + 1) h2 k (by simp at hk; omega)
theorem iWord (s : ByteArray) (hs : s.size ≤ 4611686018427387904) (k : Nat) (hk : s.size < k) : impl_WordOk.f k s = some (wordB s) :=
  iWord_l0 s hs s.data.toList 0 rfl k (by simpa using hk)
theorem sSign_l0 (c : UInt8) : ∀ (l : List UInt8) (i : Nat), SG.data.toList.drop i = l → ∀ k, l.length < k → ∃ r : Int, spec_l2Sign.l0 k (c.toNat : Int) (i : Int) = some r ∧ (l.contains c = decide (0 ≤ r)) := by
  intro l
  have hsz : SG.size = 39 := rfl
  induction l with
  | nil =>
    intro i h k hk
    obtain ⟨k, rfl⟩ : ∃ j, k = j + 1 := ⟨k - 1, by simp at hk; omega⟩
    have := len_nil SG i h
    rw [spec_l2Sign.l0, if_neg (by omega)]
    exact ⟨_, rfl, rfl⟩
  | cons d l ih =>
    intro i h k hk
    obtain ⟨k, rfl⟩ : ∃ j, k = j + 1 := ⟨k - 1, by simp at hk; omega⟩
    obtain ⟨h1, h2, h3⟩ := len_drop SG i d l h
    have hb := bt_byte SG i d l h
    rw [spec_l2Sign.l0, if_pos (by omega), if_pos (by omega)]
    rw [show bt ⟨#[101, 116, 97, 111, 105, 110, 115, 114, 104, 108, 48, 49, 50, 51, 52, 53, 54, 55, 56, 57, 100, 99, 117, 109, 102, 112, 103, 119, 121, 98, 118, 107, 120, 106, 113, 122, 58, 47, 45]⟩ (i : Int) = (d.toNat : Int) from hb]
    by_cases hd : (d.toNat : Int) = (c.toNat : Int)
    · have e : c = d := UInt8.toNat_inj.1 (by omega)
      rw [if_pos hd, e]
      refine ⟨_, rfl, ?_⟩
      rw [List.contains_cons]
      simp
    · rw [if_neg hd, w64 _ (by omega) (by omega), show ((i : Int) + 1) = ((i + 1 : Nat) : Int) by omega]
      obtain ⟨r, e1, e2⟩ := ih (i + 1) h2 k (by simp at hk; omega)
      refine ⟨r, e1, ?_⟩
      rw [List.contains_cons, e2]
      have : (c == d) = false := by
        rw [beq_eq_false_iff_ne]
        intro e
        exact hd (by rw [e])
      rw [this, Bool.false_or]
theorem sSign (c : UInt8) (k : Nat) (hk : 39 < k) : ∃ r : Int, spec_l2Sign.f k (c.toNat : Int) = some r ∧ sgn c = decide (0 ≤ r) :=
  sSign_l0 c SG.data.toList 0 rfl k hk
theorem sWord_l0 (s : ByteArray) (hs : s.size ≤ 4611686018427387904) : ∀ (l : List UInt8) (i : Nat), s.data.toList.drop i = l → ∀ k, l.length + 40 < k → spec_WordOk.l0 k s (i : Int) = some (l.all sgn && decide (s.size ≤ 16)) := by
  intro l
  induction l with
  | nil =>
    intro i h k hk
    obtain ⟨k, rfl⟩ : ∃ j, k = j + 1 := ⟨k - 1, by simp at hk; omega⟩
    have := len_nil s i h
    rw [spec_WordOk.l0, if_neg (by omega)]
    simp
    omega
  | cons c l ih =>
    intro i h k hk
    obtain ⟨k, rfl⟩ : ∃ j, k = j + 1 := ⟨k - 1, by simp at hk; omega⟩
    obtain ⟨h1, h2, h3⟩ := len_drop s i c l h
    rw [spec_WordOk.l0, if_pos (by omega), if_pos (by omega), bt_byte s i c l h]
    obtain ⟨r, e1, e2⟩ := sSign c k (by simp at hk; omega)
    rw [e1, Option.bind_some]
    by_cases hc : r < 0
    · rw [if_pos hc, List.all_cons, e2, decide_eq_false (by omega)]
      rfl
    · rw [if_neg hc, List.all_cons, e2, decide_eq_true (by omega), Bool.true_and, w64 _ (by omega) (by omega), show ((i : Int) + 1) = ((i + 1 : Nat) : Int) by omega]
      exact ih (i + 1) h2 k (by simp at hk; omega)
theorem sWord (s : ByteArray) (hs : s.size ≤ 4611686018427387904) (k : Nat) (hk : s.size + 40 < k) : spec_WordOk.f k s = some (wordB s) :=
  sWord_l0 s hs s.data.toList 0 rfl k (by simpa using hk)
/-- What FieldOk answers. -/
def fieldB (a b : ByteArray) : Bool := wordB a && (wordB b && (a.toList != ([] : List UInt8)))
theorem iField (a b : ByteArray) (c : Bool) (ha : a.size ≤ 4611686018427387904) (hb : b.size ≤ 4611686018427387904) (k : Nat) (hk : a.size < k) (hk' : b.size < k) : impl_FieldOk.f k a b c = some (fieldB a b) := by
  unfold impl_FieldOk.f fieldB
  rw [iWord a ha k hk, Option.bind_some]
  cases wordB a with
  | false => rfl
  | true =>
    rw [if_pos rfl, iWord b hb k hk', Option.bind_some]
    cases wordB b with
    | false => rfl
    | true => rfl
theorem sField (a b : ByteArray) (c : Bool) (ha : a.size ≤ 4611686018427387904) (hb : b.size ≤ 4611686018427387904) (k : Nat) (hk : a.size + 40 < k) (hk' : b.size + 40 < k) : spec_FieldOk.f k a b c = some (fieldB a b) := by
  unfold spec_FieldOk.f fieldB
  rw [sWord a ha k hk, Option.bind_some]
  cases wordB a with
  | false => rfl
  | true =>
    rw [if_pos rfl]
    by_cases h : a.toList = []
    · rw [if_pos h, h]
      simp
    · rw [if_neg h, sWord b hb k hk', Option.bind_some]
      simp [h]
def fB (x : S32) : Bool := fieldB x.f0 x.f1
/-- The fields of a list are no longer than m. -/
def Bd (m : Nat) (l : List S32) : Prop := ∀ x ∈ l, x.f0.size ≤ m ∧ x.f1.size ≤ m
theorem Bd.drop {m : Nat} {l : List S32} (h : Bd m l) (i : Nat) : Bd m (l.drop i) := fun x hx => h x (List.mem_of_mem_drop hx)
theorem Bd.take {m : Nat} {l : List S32} (h : Bd m l) (i : Nat) : Bd m (l.take i) := fun x hx => h x (List.mem_of_mem_take hx)
theorem Bd.append {m : Nat} {l t : List S32} (h : Bd m l) (k : Bd m t) : Bd m (l ++ t) := fun x hx => (List.mem_append.1 hx).elim (h x) (k x)
theorem Bd.mono {m n : Nat} {l : List S32} (h : Bd m l) (k : m ≤ n) : Bd n l := fun x hx => ⟨Nat.le_trans (h x hx).1 k, Nat.le_trans (h x hx).2 k⟩
theorem Bd.nil (m : Nat) : Bd m [] := fun x hx => by cases hx
theorem Bd.one {m : Nat} (x : S32) (h : x.f0.size ≤ m) (k : x.f1.size ≤ m) : Bd m [x] := fun y hy => by
  rw [List.mem_singleton] at hy
  rw [hy]
  exact ⟨h, k⟩
theorem drop_cons (l : List S32) (i : Nat) (x : S32) (t : List S32) (h : l.drop i = x :: t) : i < l.length ∧ l.drop (i + 1) = t ∧ rd_T32 l (i : Int) = x ∧ x ∈ l ∧ l.length = i + 1 + t.length := by
  have e := congrArg List.length h
  rw [List.length_drop, List.length_cons] at e
  have hi : i < l.length := by omega
  refine ⟨hi, ?_, ?_, ?_, by omega⟩
  · rw [← List.drop_drop, h]
    rfl
  · rw [rd_drop l i hi] at h
    exact (List.cons.inj h).1
  · have : x ∈ l.drop i := by rw [h]; exact List.mem_cons_self
    exact List.mem_of_mem_drop this
theorem drop_none (l : List S32) (i : Nat) (h : l.drop i = []) : l.length ≤ i := by
  have e := congrArg List.length h
  rw [List.length_drop] at e
  simp only [List.length_nil] at e
  omega
/-- The place of the first that p takes. -/
def idxB (p : S32 → Bool) : List S32 → Int → Int
  | [], _ => -1
  | x :: l, i => if p x = true then i else idxB p l (i + 1)
theorem idxO_B (F : S32 → Option Bool) (p : S32 → Bool) : ∀ (l : List S32) (i : Int), (∀ x ∈ l, F x = some (p x)) → idxO F l i = some (idxB p l i)
  | [], _, _ => rfl
  | x :: l, i, h => by
    unfold idxO idxB
    rw [h x List.mem_cons_self, Option.bind_some]
    cases p x with
    | true => rfl
    | false =>
      rw [if_neg (by decide), if_neg (by decide)]
      exact idxO_B F p l (i + 1) (fun y hy => h y (List.mem_cons_of_mem _ hy))
theorem idxB_any (p : S32 → Bool) : ∀ (l : List S32) (i : Int), 0 ≤ i → decide (idxB p l i ≥ 0) = l.any p
  | [], _, _ => rfl
  | x :: l, i, h => by
    unfold idxB
    rw [List.any_cons]
    cases p x with
    | true => rw [if_pos rfl, decide_eq_true h]; rfl
    | false => rw [if_neg (by decide), Bool.false_or]; exact idxB_any p l (i + 1) (by omega)
theorem any_not (p : S32 → Bool) (l : List S32) : (l.any fun x => !p x) = !(l.all p) := by
  induction l with
  | nil => rfl
  | cons x l ih => rw [List.any_cons, List.all_cons, ih, Bool.not_and]
theorem iF (k : Nat) (x : S32) (m : Nat) (hm : m ≤ 4611686018427387904) (h : x.f0.size ≤ m ∧ x.f1.size ≤ m) (hk : m < k) : impl_FieldOk.f k x.f0 x.f1 x.f2 = some (fB x) :=
  iField x.f0 x.f1 x.f2 (by omega) (by omega) k (by omega) (by omega)
theorem sF (k : Nat) (x : S32) (m : Nat) (hm : m ≤ 4611686018427387904) (h : x.f0.size ≤ m ∧ x.f1.size ≤ m) (hk : m + 40 < k) : spec_FieldOk.f k x.f0 x.f1 x.f2 = some (fB x) :=
  sField x.f0 x.f1 x.f2 (by omega) (by omega) k (by omega) (by omega)
def headB (l : List S32) : Bool := l.all fB && decide (l.length ≤ 6)
theorem sHead_l0 (m : Nat) (hm : m ≤ 4611686018427387904) (l : List S32) (hb : Bd m l) (hn : l.length ≤ 4611686018427387904) : ∀ (t : List S32) (i : Nat), l.drop i = t → ∀ k, t.length + m + 42 < k → spec_HeadOk.l0 k l (i : Int) = some (t.all fB && decide (l.length ≤ 6)) := by
  intro t
  induction t with
  | nil =>
    intro i h k hk
    obtain ⟨k, rfl⟩ : ∃ j, k = j + 1 := ⟨k - 1, by omega⟩
    have := drop_none l i h
    rw [spec_HeadOk.l0, if_neg (by omega)]
    simp
    omega
  | cons x t ih =>
    intro i h k hk
    obtain ⟨k, rfl⟩ : ∃ j, k = j + 1 := ⟨k - 1, by omega⟩
    obtain ⟨h1, h2, h3, h4, h5⟩ := drop_cons l i x t h
    simp only [List.length_cons] at hk
    rw [spec_HeadOk.l0, if_pos (by omega), if_pos (by omega), h3, sF k x m hm (hb x h4) (by omega), Option.bind_some, List.all_cons]
    cases fB x with
    | false => rfl
    | true =>
      rw [if_pos rfl, w64 _ (by omega) (by omega), show ((i : Int) + 1) = ((i + 1 : Nat) : Int) by omega, Bool.true_and]
      exact ih (i + 1) h2 k (by omega)
theorem sHead (m : Nat) (hm : m ≤ 4611686018427387904) (l : List S32) (hb : Bd m l) (hn : l.length ≤ 4611686018427387904) (k : Nat) (hk : l.length + m + 42 < k) : spec_HeadOk.f k l = some (headB l) :=
  sHead_l0 m hm l hb hn l 0 rfl k hk
theorem iHead (m : Nat) (hm : m ≤ 4611686018427387904) (l : List S32) (hb : Bd m l) (k : Nat) (hk : m < k) : impl_HeadOk.f k l = some (headB l) := by
  have hF : ∀ x ∈ l, impl_HeadOk_1.F k x = some (!(fB x)) := fun x hx => by
    unfold impl_HeadOk_1.F
    rw [iF k x m hm (hb x hx) hk, Option.bind_some]
  unfold impl_HeadOk.f impl_HeadOk_1c.f headB
  by_cases h : (l.length : Int) ≤ 6
  · rw [if_pos h, if_pos (by omega), idxO_B _ _ l 0 hF, Option.bind_some, idxB_any _ l 0 (Int.le_refl 0), any_not, decide_eq_true (show l.length ≤ 6 by omega)]
    simp
  · rw [if_neg h, decide_eq_false (show ¬ l.length ≤ 6 by omega), Bool.and_false]
theorem toList_nil (s : ByteArray) : s.toList = ([] : List UInt8) ↔ s.size = 0 := by
  rw [ByteArray.toList_eq]
  constructor
  · intro h
    have := congrArg List.length h
    simpa using this
  · intro h
    apply List.eq_nil_of_length_eq_zero
    simpa using h
def getB (l : List S32) (n : ByteArray) : ByteArray × Bool := match l with
  | [] => (⟨#[]⟩, false)
  | x :: t => if x.f0.toList = n.toList then (x.f1, true) else getB t n
def hgetB (l : List S32) (n : ByteArray) : ByteArray × Bool := if headB l = true then getB l n else (⟨#[]⟩, false)
theorem iGet_l0 (n : ByteArray) (l : List S32) (hn : l.length ≤ 4611686018427387904) : ∀ (t : List S32) (i : Nat), l.drop i = t → ∀ k, t.length < k → impl_get.l0 k n l (l.length : Int) (i : Int) = some (getB t n) := by
  intro t
  induction t with
  | nil =>
    intro i h k hk
    obtain ⟨k, rfl⟩ : ∃ j, k = j + 1 := ⟨k - 1, by omega⟩
    have := drop_none l i h
    rw [impl_get.l0, if_neg (by omega)]
    rfl
  | cons x t ih =>
    intro i h k hk
    simp only [List.length_cons] at hk
    obtain ⟨k, rfl⟩ : ∃ j, k = j + 1 := ⟨k - 1, by omega⟩
    obtain ⟨h1, h2, h3, h4, h5⟩ := drop_cons l i x t h
    rw [impl_get.l0, if_pos (by omega), if_pos (by omega), if_pos (by omega), h3, getB]
    by_cases c : x.f0.toList = n.toList
    · rw [if_pos c, if_pos c]
    · rw [if_neg c, if_neg c, w64 _ (by omega) (by omega), show ((i : Int) + 1) = ((i + 1 : Nat) : Int) by omega]
      exact ih (i + 1) h2 k (by omega)
theorem sGet_l0 (n : ByteArray) (l : List S32) (hn : l.length ≤ 4611686018427387904) : ∀ (t : List S32) (i : Nat), l.drop i = t → ∀ k, t.length < k → spec_HeadGet.l0 k l n (i : Int) = some (getB t n) := by
  intro t
  induction t with
  | nil =>
    intro i h k hk
    obtain ⟨k, rfl⟩ : ∃ j, k = j + 1 := ⟨k - 1, by omega⟩
    have := drop_none l i h
    rw [spec_HeadGet.l0, if_neg (by omega)]
    rfl
  | cons x t ih =>
    intro i h k hk
    simp only [List.length_cons] at hk
    obtain ⟨k, rfl⟩ : ∃ j, k = j + 1 := ⟨k - 1, by omega⟩
    obtain ⟨h1, h2, h3, h4, h5⟩ := drop_cons l i x t h
    rw [spec_HeadGet.l0, if_pos (by omega), if_pos (by omega), h3, getB]
    by_cases c : x.f0.toList = n.toList
    · rw [if_pos c, if_pos c]
    · rw [if_neg c, if_neg c, w64 _ (by omega) (by omega), show ((i : Int) + 1) = ((i + 1 : Nat) : Int) by omega]
      exact ih (i + 1) h2 k (by omega)
theorem iHGet (m : Nat) (hm : m ≤ 4611686018427387904) (l : List S32) (hb : Bd m l) (hn : l.length ≤ 4611686018427387904) (n : ByteArray) (k : Nat) (hk : l.length + m + 42 < k) : impl_HeadGet.f k l n = some (hgetB l n) := by
  unfold impl_HeadGet.f hgetB
  rw [iHead m hm l hb k (by omega), Option.bind_some]
  cases headB l with
  | false => rfl
  | true =>
    rw [if_pos rfl, if_pos rfl]
    unfold impl_get.f
    rw [show impl_get.l0 k n l (l.length : Int) 0 = some (getB l n) from iGet_l0 n l hn l 0 rfl k (by omega), Option.bind_some]
theorem sHGet (m : Nat) (hm : m ≤ 4611686018427387904) (l : List S32) (hb : Bd m l) (hn : l.length ≤ 4611686018427387904) (n : ByteArray) (k : Nat) (hk : l.length + m + 42 < k) : spec_HeadGet.f k l n = some (hgetB l n) := by
  unfold spec_HeadGet.f hgetB
  rw [sHead m hm l hb hn k (by omega), Option.bind_some]
  cases headB l with
  | false => rfl
  | true =>
    rw [if_pos rfl, if_pos rfl]
    exact sGet_l0 n l hn l 0 rfl k (by omega)
theorem pick_ok (k : Nat) (l : List Int) (p n : Int) (hl : ∀ x ∈ l, 0 ≤ x ∧ x ≤ 255) (hn : l.length ≤ 2000) (hp : 0 ≤ p) (hp' : p ≤ 1000000) (h1 : 1 ≤ n) (h2 : n ≤ 1000000) :
    Te (spec_l6Rd_pick.f (k + 1) l p n) (fun r => r.2 = p + 1 ∧ 0 ≤ r.1 ∧ r.1 < n) := by
  unfold spec_l6Rd_pick.f
  rw [if_neg (by omega), w64 (p + 1) (by omega) (by omega)]
  simp only [spec_l6Rd_pick.j0]
  rw [w64 (p + 1 - 1) (by omega) (by omega), show p + 1 - 1 = p from by omega]
  refine Te.ite (fun _ => Te.now ⟨rfl, by omega, by omega⟩) (fun hz => ?_)
  have hlen : (l.length : Int) ≠ 0 := by simpa using hz
  refine Te.ite (fun hlt => ?_) (fun hge => ?_)
  · rw [if_pos hp, if_neg (by omega)]
    have hr := rd_range l hl p
    rw [w64 (rd l p) (by omega) (by omega)]
    have ht := tmod_rng (rd l p) n hr.1 h1
    exact Te.now ⟨rfl, ht.1, ht.2⟩
  · have hL : (1 : Int) ≤ l.length := by omega
    rw [if_neg hlen]
    have ha := tmod_rng p l.length hp hL
    rw [if_pos ha.1, if_pos ha.2, w64 (p * 7) (by omega) (by omega), w64 (p * 7 + 3) (by omega) (by omega)]
    have hb := tmod_rng (p * 7 + 3) l.length (by omega) hL
    rw [if_pos hb.1, if_pos hb.2, if_neg (by omega)]
    have r1 := rd_range l hl (Int.tmod p l.length)
    have r2 := rd_range l hl (Int.tmod (p * 7 + 3) l.length)
    generalize rd l (Int.tmod p l.length) = x1 at r1 ⊢
    generalize rd l (Int.tmod (p * 7 + 3) l.length) = x2 at r2 ⊢
    have hd0 : 0 ≤ Int.tdiv p l.length := Int.tdiv_nonneg hp (by omega)
    have hd1 : Int.tdiv p l.length ≤ 1000000 := by
      rw [Int.tdiv_eq_ediv_of_nonneg hp]
      exact Int.le_trans (Int.ediv_le_self _ hp) hp'
    generalize Int.tdiv p l.length = d at hd0 hd1 ⊢
    rw [w64 x1 (by omega) (by omega), w64 x2 (by omega) (by omega), w64 d (by omega) (by omega), w64 (x1 * 131) (by omega) (by omega), w64 (x2 * 1117) (by omega) (by omega), w64 (p * 29) (by omega) (by omega), w64 (d * 53) (by omega) (by omega)]
    rw [w64 (x1 * 131 + x2 * 1117) (by omega) (by omega), w64 (x1 * 131 + x2 * 1117 + p * 29) (by omega) (by omega), w64 (x1 * 131 + x2 * 1117 + p * 29 + d * 53) (by omega) (by omega)]
    have hX0 : 0 ≤ x1 * 131 + x2 * 1117 + p * 29 + d * 53 := by omega
    have hX1 : x1 * 131 + x2 * 1117 + p * 29 + d * 53 ≤ 1000000000 := by omega
    generalize x1 * 131 + x2 * 1117 + p * 29 + d * 53 = X at hX0 hX1 ⊢
    obtain ⟨N, rfl⟩ := Int.eq_ofNat_of_zero_le hX0
    have hq : Int.tdiv (N : Int) 64 = ((N / 64 : Nat) : Int) := by rw [Int.tdiv_eq_ediv_of_nonneg hX0]; omega
    rw [hq, w64 ((N / 64 : Nat) : Int) (by omega) (by omega), xor_nat N (N / 64) (by omega) (by omega)]
    have ht := tmod_rng ((N ^^^ N / 64 : Nat) : Int) n (by omega) h1
    exact Te.now ⟨rfl, ht.1, ht.2⟩
/-- What a reader of a code holds: bytes, few of them, and a place. -/
def Rd (l : List Int) (p : Int) : Prop := (∀ x ∈ l, 0 ≤ x ∧ x ≤ 255) ∧ l.length ≤ 2000 ∧ 0 ≤ p
theorem pick_rd (k : Nat) (l : List Int) (p n : Int) (h : Rd l p) (hp' : p ≤ 1000000) (h1 : 1 ≤ n) (h2 : n ≤ 1000000) :
    Te (spec_l6Rd_pick.f (k + 1) l p n) (fun r => r.2 = p + 1 ∧ 0 ≤ r.1 ∧ r.1 < n) := pick_ok k l p n h.1 h.2.1 h.2.2 hp' h1 h2
theorem Rd.next {l : List Int} {p q : Int} (h : Rd l p) (hq : p ≤ q) : Rd l q := ⟨h.1, h.2.1, Int.le_trans h.2.2 hq⟩
theorem open_ok (l : List Int) (hl : ∀ x ∈ l, (Lit.int .u8 x).wf = true) : Te (spec_l6Open.f l) (fun r => Rd r.1 0 ∧ r.2 = 0) := by
  unfold spec_l6Open.f
  refine Te.ite (fun h => ?_) (fun h => ?_)
  · rw [if_pos (by omega)]
    exact Te.now ⟨⟨fun x hx => u8_range x (hl x (List.mem_of_mem_take hx)), by simp; omega, Int.le_refl 0⟩, rfl⟩
  · exact Te.now ⟨⟨fun x hx => u8_range x (hl x hx), by show l.length ≤ 2000; omega, Int.le_refl 0⟩, rfl⟩
theorem l1B_eq (x : Int) : spec_l1Byte.f x = some (strOfNums [x % 256]) := rfl
theorem many_l0 (d : Nat) : ∀ (k : Nat) (x : ByteArray) (n : Int) (y : ByteArray), 0 ≤ n → 1 ≤ (x.size : Int) → n < ((2 ^ d : Nat) : Int) → (x.size : Int) * ((2 ^ d : Nat) : Int) ≤ 100000 → (y.size : Int) + n * (x.size : Int) ≤ 1000000 → d < k →
    Te (spec_l6Many.l0 k x n y) (fun r => (r.size : Int) = (y.size : Int) + n * (x.size : Int)) := by
  induction d with
  | zero =>
    intro k x n y h0 _ h1 _ _ hk
    obtain ⟨k, rfl⟩ : ∃ m, k = m + 1 := ⟨k - 1, by omega⟩
    have hn : n = 0 := by have : ((2 ^ 0 : Nat) : Int) = 1 := rfl; omega
    subst hn
    simp only [spec_l6Many.l0]
    rw [if_neg (by omega)]
    exact Te.now (by omega)
  | succ d ih =>
    intro k x n y h0 hx1 h1 hb hs hk
    obtain ⟨k, rfl⟩ : ∃ m, k = m + 1 := ⟨k - 1, by omega⟩
    have e : ((2 ^ (d + 1) : Nat) : Int) = 2 * ((2 ^ d : Nat) : Int) := by rw [Nat.pow_succ, Int.natCast_mul, Int.mul_comm]; rfl
    have hp : 1 ≤ ((2 ^ d : Nat) : Int) := by have : 0 < 2 ^ d := Nat.pos_of_ne_zero (by simp); omega
    rw [e] at h1 hb
    have hx0 : 0 ≤ (x.size : Int) := by omega
    have hx : (x.size : Int) * 2 ≤ 100000 := Int.le_trans (Int.mul_le_mul_of_nonneg_left (show (2 : Int) ≤ 2 * ((2 ^ d : Nat) : Int) by omega) hx0) hb
    have hny : 0 ≤ n * (x.size : Int) := Int.mul_nonneg h0 hx0
    simp only [spec_l6Many.l0]
    refine Te.ite (fun hn => ?_) (fun hn => ?_)
    · have t1 : Int.tmod n 2 = n % 2 := Int.tmod_eq_emod_of_nonneg h0
      have t2 : Int.tdiv n 2 = n / 2 := Int.tdiv_eq_ediv_of_nonneg h0
      have hn2 : n / 2 < ((2 ^ d : Nat) : Int) := by omega
      have hxx : (((x ++ x).size : Int)) * ((2 ^ d : Nat) : Int) ≤ 100000 := by
        rw [ByteArray.size_append]
        have e2 : (((x.size + x.size : Nat) : Int)) * ((2 ^ d : Nat) : Int) = (x.size : Int) * (2 * ((2 ^ d : Nat) : Int)) := by
          rw [show ((x.size + x.size : Nat) : Int) = (x.size : Int) * 2 from by omega, Int.mul_assoc]
        rw [e2]; exact hb
      have hdiv : n / 2 * (((x ++ x).size : Int)) = (n - n % 2) * (x.size : Int) := by
        rw [ByteArray.size_append, show ((x.size + x.size : Nat) : Int) = 2 * (x.size : Int) from by omega, ← Int.mul_assoc]
        congr 1
        omega
      have hb2 : -9223372036854775808 ≤ n / 2 ∧ n / 2 ≤ 9223372036854775807 := by
        have : n * 1 ≤ n * (x.size : Int) := Int.mul_le_mul_of_nonneg_left hx1 h0
        omega
      rw [t1, t2, w64 (n / 2) hb2.1 hb2.2]
      refine Te.ite (fun hodd => ?_) (fun heven => ?_)
      · rw [if_pos (by omega), if_pos (by omega)]
        have hm : (n - n % 2) * (x.size : Int) = n * (x.size : Int) - (x.size : Int) := by rw [hodd, Int.sub_mul, Int.one_mul]
        refine (ih k (x ++ x) (n / 2) (y ++ x) (by omega) (by rw [ByteArray.size_append]; omega) hn2 hxx (by rw [hdiv, hm, ByteArray.size_append]; omega) (by omega)).mono ?_
        intro r hr
        rw [hr, hdiv, hm, ByteArray.size_append]
        omega
      · rw [if_pos (by omega)]
        have hz : n % 2 = 0 := by omega
        have hm : (n - n % 2) * (x.size : Int) = n * (x.size : Int) := by rw [hz, Int.sub_zero]
        refine (ih k (x ++ x) (n / 2) y (by omega) (by rw [ByteArray.size_append]; omega) hn2 hxx (by rw [hdiv, hm]; omega) (by omega)).mono ?_
        intro r hr
        rw [hr, hdiv, hm]
    · have hn0 : n = 0 := by omega
      subst hn0
      exact Te.now (by omega)
theorem many_ok (k : Nat) (x : ByteArray) (n : Int) (hx : x.size = 1) (h0 : 0 ≤ n) (h1 : n ≤ 250) : Te (spec_l6Many.f (k + 9) x n) (fun r => (r.size : Int) = n) := by
  unfold spec_l6Many.f
  refine (many_l0 8 (k + 9) x n ⟨#[]⟩ h0 (by omega) (by have : ((2 ^ 8 : Nat) : Int) = 256 := rfl; omega) (by rw [hx]; decide) (by rw [hx]; have : (((⟨#[]⟩ : ByteArray).size : Nat) : Int) = 0 := rfl; omega) (by omega)).mono ?_
  intro r hr
  rw [hr, hx]
  have : (((⟨#[]⟩ : ByteArray).size : Nat) : Int) = 0 := rfl
  omega
theorem word_l0 (d : Nat) : ∀ (k : Nat) (x : ByteArray) (n : Int) (l : List Int) (p : Int), n = (d : Int) → d ≤ 20 → x.size + d ≤ 100 → Rd l p → p + 3 * (d : Int) ≤ 1000 →
    Te (spec_l71Word.l0 (k + d + 12) x n l p) (fun r => r.1.size ≤ x.size + d + 20 ∧ p ≤ r.2 ∧ r.2 ≤ p + 3 * d + 2) := by
  induction d with
  | zero =>
    intro k x n l p hn _ hx hr hp
    obtain ⟨K, hK⟩ : ∃ K, K = k + 11 := ⟨_, rfl⟩
    rw [show k + 0 + 12 = K + 1 from by omega]
    simp only [spec_l71Word.l0]
    subst hK
    rw [if_neg (by omega)]
    refine (pick_rd (k + 10) l p 24 hr (by omega) (by omega) (by omega)).bind ?_
    rintro ⟨v1, p1⟩ ⟨h1, h2, h3⟩
    dsimp only at h1 h2 h3 ⊢
    refine Te.ite (fun _ => ?_) (fun _ => Te.ite (fun _ => ?_) (fun _ => ?_))
    · rw [if_pos (by omega)]
      exact Te.now ⟨by dsimp only; rw [ByteArray.size_append]; have : (⟨#[65]⟩ : ByteArray).size = 1 := rfl; omega, by dsimp only; omega, by dsimp only; omega⟩
    · refine (pick_rd (k + 10) l p1 4 (hr.next (by omega)) (by omega) (by omega) (by omega)).bind ?_
      rintro ⟨v2, p2⟩ ⟨i1, i2, i3⟩
      dsimp only at i1 i2 i3 ⊢
      rw [w64 (15 + v2) (by omega) (by omega)]
      refine (many_ok (k + 2) _ (15 + v2) rfl (by omega) (by omega)).bind ?_
      intro t ht
      exact Te.now ⟨by dsimp only; omega, by dsimp only; omega, by dsimp only; omega⟩
    · exact Te.now ⟨by dsimp only; omega, by dsimp only; omega, by dsimp only; omega⟩
  | succ d ih =>
    intro k x n l p hn hd hx hr hp
    obtain ⟨K, hK⟩ : ∃ K, K = k + d + 12 := ⟨_, rfl⟩
    rw [show k + (d + 1) + 12 = K + 1 from by omega]
    simp only [spec_l71Word.l0]
    subst hK
    rw [if_pos (by omega)]
    refine (pick_rd (k + d + 11) l p 24 hr (by omega) (by omega) (by omega)).bind ?_
    rintro ⟨v1, p1⟩ ⟨h1, h2, h3⟩
    dsimp only at h1 h2 h3 ⊢
    refine (pick_rd (k + d + 11) l p1 4 (hr.next (by omega)) (by omega) (by omega) (by omega)).bind ?_
    rintro ⟨v2, p2⟩ ⟨i1, i2, i3⟩
    dsimp only at i1 i2 i3 ⊢
    rw [w64 (n - 1) (by omega) (by omega)]
    refine Te.ite (fun _ => ?_) (fun _ => ?_)
    · refine (pick_rd (k + d + 11) l p2 39 (hr.next (by omega)) (by omega) (by omega) (by omega)).bind ?_
      rintro ⟨v3, p3⟩ ⟨j1, j2, j3⟩
      dsimp only at j1 j2 j3 ⊢
      rw [if_pos j2, if_pos j3, l1B_eq]
      simp only [Option.bind_some]
      rw [if_pos (by rw [strOfNums_size]; simp; omega)]
      refine (ih k _ (n - 1) l p3 (by omega) (by omega) (by rw [ByteArray.size_append, strOfNums_size]; simp; omega) (hr.next (by omega)) (by omega)).mono ?_
      rintro ⟨r, q⟩ ⟨g1, g2, g3⟩
      rw [ByteArray.size_append, strOfNums_size] at g1
      simp at g1 g2 g3 ⊢
      omega
    · rw [if_pos h2, if_pos (by omega), l1B_eq]
      simp only [Option.bind_some]
      rw [if_pos (by rw [strOfNums_size]; simp; omega)]
      refine (ih k _ (n - 1) l p2 (by omega) (by omega) (by rw [ByteArray.size_append, strOfNums_size]; simp; omega) (hr.next (by omega)) (by omega)).mono ?_
      rintro ⟨r, q⟩ ⟨g1, g2, g3⟩
      rw [ByteArray.size_append, strOfNums_size] at g1
      simp at g1 g2 g3 ⊢
      omega
theorem word_ok (k : Nat) (l : List Int) (p : Int) (hr : Rd l p) (hp : p ≤ 900) :
    Te (spec_l71Word.f (k + 40) l p) (fun r => r.1.size ≤ 60 ∧ p ≤ r.2 ∧ r.2 ≤ p + 100) := by
  unfold spec_l71Word.f
  refine (pick_rd (k + 39) l p 9 hr (by omega) (by omega) (by omega)).bind ?_
  rintro ⟨v1, p1⟩ ⟨h1, h2, h3⟩
  dsimp only at h1 h2 h3 ⊢
  refine (pick_rd (k + 39) l p1 6 (hr.next (by omega)) (by omega) (by omega) (by omega)).bind ?_
  rintro ⟨v2, p2⟩ ⟨i1, i2, i3⟩
  dsimp only at i1 i2 i3 ⊢
  have t2 : Int.tdiv v2 5 = v2 / 5 := Int.tdiv_eq_ediv_of_nonneg i2
  rw [t2, w64 (v2 / 5) (by omega) (by omega), w64 (v2 / 5 * 8) (by omega) (by omega), w64 (v1 + v2 / 5 * 8) (by omega) (by omega)]
  have hd : ∃ d : Nat, v1 + v2 / 5 * 8 = (d : Int) ∧ d ≤ 16 := ⟨(v1 + v2 / 5 * 8).toNat, by omega, by omega⟩
  obtain ⟨d, hd1, hd2⟩ := hd
  have hk : k + 40 = (k + 28 - d) + d + 12 := by omega
  rw [hk]
  refine (word_l0 d (k + 28 - d) ⟨#[]⟩ _ l p2 hd1 (by omega) (by have : (⟨#[]⟩ : ByteArray).size = 0 := rfl; omega) (hr.next (by omega)) (by omega)).mono ?_
  rintro ⟨r, q⟩ ⟨g1, g2, g3⟩
  have : (⟨#[]⟩ : ByteArray).size = 0 := rfl
  dsimp only at g1 g2 g3 ⊢
  omega
theorem of_ok (k : Nat) (l : List Int) (p : Int) (c : List ByteArray) (m : Nat) (hr : Rd l p) (hp : p ≤ 900000) (hc : 1 ≤ c.length) (hc' : c.length ≤ 1000) (hm : ∀ s ∈ c, s.size ≤ m) :
    Te (spec_l6Rd_of.f (k + 1) l p c) (fun r => r.1.size ≤ m ∧ r.2 = p + 1) := by
  unfold spec_l6Rd_of.f
  refine (pick_rd k l p c.length hr (by omega) (by omega) (by omega)).bind ?_
  rintro ⟨v, q⟩ ⟨h1, h2, h3⟩
  dsimp only at h1 h2 h3 ⊢
  rw [if_pos h2, if_pos h3]
  refine Te.now ⟨?_, h1⟩
  dsimp only
  unfold rdOf
  rw [List.getD_eq_getElem?_getD, List.getElem?_eq_getElem (show v.toNat < c.length by omega)]
  exact hm _ (List.getElem_mem _)
theorem field_ok (k : Nat) (l : List Int) (p : Int) (hr : Rd l p) (hp : p ≤ 700) : Te (spec_l71Field.f (k + 50) l p) (fun r => r.1.size ≤ 70 ∧ r.2.1.size ≤ 70 ∧ p ≤ r.2.2.2 ∧ r.2.2.2 ≤ p + 110) := by
  unfold spec_l71Field.f
  refine (of_ok (k + 49) l p _ 20 (hr.next (by omega)) (by omega) (by decide) (by decide) (by decide)).bind ?_
  rintro ⟨v1, p1⟩ ⟨a1, a2⟩
  dsimp only at a1 a2 ⊢
  refine (of_ok (k + 49) l p1 _ 20 (hr.next (by omega)) (by omega) (by decide) (by decide) (by decide)).bind ?_
  rintro ⟨v2, p2⟩ ⟨b1, b2⟩
  dsimp only at b1 b2 ⊢
  refine (pick_rd (k + 49) l p2 8 (hr.next (by omega)) (by omega) (by omega) (by omega)).bind ?_
  rintro ⟨v3, p3⟩ ⟨c1, c2, c3⟩
  dsimp only at c1 c2 c3 ⊢
  refine (pick_rd (k + 49) l p3 24 (hr.next (by omega)) (by omega) (by omega) (by omega)).bind ?_
  rintro ⟨v4, p4⟩ ⟨d1, d2, d3⟩
  dsimp only at d1 d2 d3 ⊢
  refine Te.ite (fun _ => ?_) (fun _ => Te.ite (fun _ => ?_) (fun _ => ?_))
  · refine (of_ok (k + 49) l p4 _ 20 (hr.next (by omega)) (by omega) (by decide) (by decide) (by decide)).bind ?_
    rintro ⟨v5, p5⟩ ⟨e1, e2⟩
    dsimp only at e1 e2 ⊢
    exact Te.now ⟨by dsimp only; omega, by dsimp only; omega, by dsimp only; omega, by dsimp only; omega⟩
  · refine (word_ok (k + 10) l p4 (hr.next (by omega)) (by omega)).bind ?_
    rintro ⟨v5, p5⟩ ⟨e1, e2, e3⟩
    dsimp only at e1 e2 e3 ⊢
    exact Te.now ⟨by dsimp only; omega, by dsimp only; omega, by dsimp only; omega, by dsimp only; omega⟩
  · exact Te.now ⟨by dsimp only; omega, by dsimp only; omega, by dsimp only; omega, by dsimp only; omega⟩
theorem head_l1 (d : Nat) : ∀ (k : Nat) (x : List S32) (l : List Int) (p : Int), 7 - x.length ≤ d → x.length ≤ 8 → Bd 70 x → d < k → Te (spec_l71Head.l1 k x l p) (fun r => r.1.length ≤ 8 ∧ Bd 70 r.1 ∧ r.2 = p) := by
  induction d with
  | zero =>
    intro k x l p hd hx hb hk
    obtain ⟨k, rfl⟩ : ∃ j, k = j + 1 := ⟨k - 1, by omega⟩
    simp only [spec_l71Head.l1]
    rw [if_neg (by omega)]
    exact Te.now ⟨hx, hb, rfl⟩
  | succ d ih =>
    intro k x l p hd hx hb hk
    obtain ⟨k, rfl⟩ : ∃ j, k = j + 1 := ⟨k - 1, by omega⟩
    simp only [spec_l71Head.l1]
    refine Te.ite (fun h => ?_) (fun _ => Te.now ⟨hx, hb, rfl⟩)
    rw [if_pos (by omega)]
    exact ih k _ l p (by rw [List.length_append]; simp; omega) (by rw [List.length_append]; simp; omega) (hb.append (Bd.one _ (by decide) (by decide))) (by omega)
theorem head_l0 (d : Nat) : ∀ (k : Nat) (x : List S32) (n : Int) (l : List Int) (p : Int), n = (d : Int) → x.length + d ≤ 8 → Bd 70 x → Rd l p → p + 110 * (d : Int) ≤ 690 →
    Te (spec_l71Head.l0 (k + d + 70) x n l p) (fun r => r.1.length ≤ 8 ∧ Bd 70 r.1 ∧ p ≤ r.2 ∧ r.2 ≤ p + 110 * d + 1) := by
  induction d with
  | zero =>
    intro k x n l p hn hx hb hr hp
    obtain ⟨K, hK⟩ : ∃ K, K = k + 69 := ⟨_, rfl⟩
    rw [show k + 0 + 70 = K + 1 from by omega]
    simp only [spec_l71Head.l0]
    subst hK
    rw [if_neg (by omega)]
    refine (pick_rd (k + 68) l p 24 hr (by omega) (by omega) (by omega)).bind ?_
    rintro ⟨v1, p1⟩ ⟨h1, h2, h3⟩
    dsimp only at h1 h2 h3 ⊢
    refine Te.ite (fun _ => ?_) (fun _ => Te.now ⟨by dsimp only; omega, hb, by dsimp only; omega, by dsimp only; omega⟩)
    refine (head_l1 8 (k + 69) x l p1 (by omega) (by omega) hb (by omega)).mono ?_
    rintro ⟨r, q⟩ ⟨g1, g2, g3⟩
    exact ⟨g1, g2, by dsimp only at g3 ⊢; omega, by dsimp only at g3 ⊢; omega⟩
  | succ d ih =>
    intro k x n l p hn hx hb hr hp
    obtain ⟨K, hK⟩ : ∃ K, K = k + d + 70 := ⟨_, rfl⟩
    rw [show k + (d + 1) + 70 = K + 1 from by omega]
    simp only [spec_l71Head.l0]
    subst hK
    rw [if_pos (by omega)]
    refine (field_ok (k + d + 20) l p hr (by omega)).bind ?_
    rintro ⟨r1, r2, r3, p1⟩ ⟨g1, g2, g3, g4⟩
    dsimp only at g1 g2 g3 g4 ⊢
    rw [if_pos (by omega), w64 _ (by omega) (by omega)]
    refine (ih k _ (n - 1) l p1 (by omega) (by rw [List.length_append]; simp; omega) (hb.append (Bd.one _ g1 g2)) (hr.next (by omega)) (by omega)).mono ?_
    rintro ⟨r, q⟩ ⟨f1, f2, f3, f4⟩
    exact ⟨f1, f2, by dsimp only at f3 ⊢; omega, by dsimp only at f4 ⊢; omega⟩
theorem head_ok (k : Nat) (l : List Int) (p : Int) (hr : Rd l p) (hp : p ≤ 100) : Te (spec_l71Head.f (k + 100) l p) (fun r => r.1.length ≤ 8 ∧ Bd 70 r.1 ∧ p ≤ r.2 ∧ r.2 ≤ p + 700) := by
  unfold spec_l71Head.f
  refine (pick_rd (k + 99) l p 6 hr (by omega) (by omega) (by omega)).bind ?_
  rintro ⟨v1, p1⟩ ⟨h1, h2, h3⟩
  dsimp only at h1 h2 h3 ⊢
  obtain ⟨d, rfl⟩ := Int.eq_ofNat_of_zero_le h2
  have hk : k + 100 = (k + 30 - d) + d + 70 := by omega
  rw [hk]
  refine (head_l0 d (k + 30 - d) [] _ l p1 rfl (by simp; omega) (Bd.nil _) (hr.next (by omega)) (by omega)).mono ?_
  rintro ⟨r, q⟩ ⟨f1, f2, f3, f4⟩
  exact ⟨f1, f2, by dsimp only at f3 ⊢; omega, by dsimp only at f4 ⊢; omega⟩
theorem drawHeadGet_ok (k : Nat) (l : List Int) (hl : ∀ x ∈ l, (Lit.int .u8 x).wf = true) : Te (spec_DrawHeadGet.f (k + 101) l) (fun r => r.1.length ≤ 8 ∧ Bd 70 r.1 ∧ r.2.size ≤ 70) := by
  unfold spec_DrawHeadGet.f
  have hj : ∀ (c : List Int) (t : List S32) (p : Int) (b : Bool), Rd c p → p ≤ 1000 → t.length ≤ 8 → Bd 70 t → (b = true → t.length > 0) → Te (spec_DrawHeadGet.j0 (k + 101) t b c p) (fun r => r.1.length ≤ 8 ∧ Bd 70 r.1 ∧ r.2.size ≤ 70) := by
    intro c t p b hr hp ht hb hbt
    rw [show k + 101 = (k + 100) + 1 from rfl]
    simp only [spec_DrawHeadGet.j0]
    refine Te.ite (fun h => ?_) (fun _ => ?_)
    · have := hbt h
      refine (pick_rd (k + 99) c p (t.length : Int) hr (by omega) (by omega) (by omega)).bind ?_
      rintro ⟨v1, p1⟩ ⟨h1, h2, h3⟩
      dsimp only at h1 h2 h3 ⊢
      rw [if_pos h2, if_pos h3]
      refine Te.now ⟨ht, hb, ?_⟩
      dsimp only
      have hm : rd_T32 t v1 ∈ t := by
        unfold rd_T32
        rw [List.getD_eq_getElem?_getD, List.getElem?_eq_getElem (show v1.toNat < t.length by omega)]
        exact List.getElem_mem _
      exact (hb _ hm).1
    · refine (of_ok (k + 99) c p _ 20 hr (by omega) (by decide) (by decide) (by decide)).bind ?_
      rintro ⟨v2, p3⟩ ⟨i1, i2⟩
      exact Te.now ⟨ht, hb, by dsimp only at i1 ⊢; omega⟩
  refine (open_ok l hl).bind ?_
  rintro ⟨c, p⟩ ⟨hr, rfl⟩
  refine (head_ok (k + 1) c 0 hr (by omega)).bind ?_
  rintro ⟨r1, p1⟩ ⟨g1, g2, g3, g4⟩
  dsimp only at g1 g2 g3 g4 ⊢
  refine Te.ite (fun h => ?_) (fun _ => ?_)
  · refine (pick_rd (k + 100) c p1 3 (hr.next (by omega)) (by omega) (by omega) (by omega)).bind ?_
    rintro ⟨v1, p2⟩ ⟨h1, h2, h3⟩
    dsimp only at h1 h2 h3 ⊢
    exact hj c r1 p2 _ (hr.next (by omega)) (by omega) g1 g2 (fun _ => by omega)
  · exact hj c r1 p1 false (hr.next (by omega)) (by omega) g1 g2 (fun h => by cases h)
theorem get_l0 (n : ByteArray) (l : List S32) (hn : l.length ≤ 8) : ∀ (t : List S32) (i : Nat), l.drop i = t → ∀ k, t.length < k → laws_FnHeadGet.l0 k l n (getB t n).1 (getB t n).2 (i : Int) = some true := by
  intro t
  induction t with
  | nil =>
    intro i h k hk
    obtain ⟨k, rfl⟩ : ∃ j, k = j + 1 := ⟨k - 1, by omega⟩
    have := drop_none l i h
    rw [laws_FnHeadGet.l0, if_neg (by omega)]
    show (if false = true then _ else _) = _
    rw [if_neg (by decide)]
    show some ((⟨#[]⟩ : ByteArray).toList == ([] : List UInt8)) = some true
    rw [(toList_nil (⟨#[]⟩ : ByteArray)).2 rfl]
    rfl
  | cons x t ih =>
    intro i h k hk
    simp only [List.length_cons] at hk
    obtain ⟨k, rfl⟩ : ∃ j, k = j + 1 := ⟨k - 1, by omega⟩
    obtain ⟨h1, h2, h3, h4, h5⟩ := drop_cons l i x t h
    rw [laws_FnHeadGet.l0, if_pos (by omega), if_pos (by omega), h3, getB]
    by_cases c : x.f0.toList = n.toList
    · rw [if_pos c, if_pos c, if_pos rfl]
      simp
    · rw [if_neg c, if_neg c, w64 _ (by omega) (by omega), show ((i : Int) + 1) = ((i + 1 : Nat) : Int) by omega]
      exact ih (i + 1) h2 k (by omega)
theorem FnHeadGet : laws_FnHeadGet.Pure := by
  intro l0 _ _ h0
  refine ⟨301, ?_⟩
  unfold laws_FnHeadGet.f
  by_cases h : (l0.length : Int) > 1048576
  · rw [if_pos h]
  · rw [if_neg h]
    obtain ⟨⟨t, n⟩, e, ht, hb, hn⟩ := drawHeadGet_ok 200 l0 h0
    dsimp only at ht hb hn
    rw [e, Option.bind_some]
    dsimp only
    rw [sHGet 70 (by omega) t hb (by omega) n 301 (by omega), Option.bind_some, iHGet 70 (by omega) t hb (by omega) n 301 (by omega), Option.bind_some, if_neg (by simp), if_pos rfl, sHead 70 (by omega) t hb (by omega) 301 (by omega), Option.bind_some]
    rw [show (301 : Nat) = 300 + 1 from rfl, laws_FnHeadGet.j0]
    cases hh : headB t with
    | false =>
      rw [if_pos (show (!false) = true from rfl), if_pos (by simp)]
      simp
    | true =>
      rw [if_neg (by decide)]
      have e2 : hgetB t n = getB t n := by unfold hgetB; rw [hh, if_pos rfl]
      rw [e2]
      exact get_l0 n t ht t 0 rfl 300 (by omega)
end Go.Proofs.Ytgahnhncmjgenaa.Pure
