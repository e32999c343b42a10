/-
  The law FnExactFrameWrite's plain function answers true at every argument within the given bounds.
-/
import Derived.Test.YtdahdgdnpooegaaQx2
import Derived.Test.YtdahdgdnpooegaaQx3
import Derived.Test.YtdahdgdnpooegaaQx4
import Derived.Test.YtdahdgdnpooegaaQx5
import Derived.Laws.Bits64
import Derived.Laws.BitsAllLaws
import Derived.SizedLaws
namespace Go.Proofs.Ytdahdgdnpooegaa.Pure
open Go Go.RowKit Go.Proofs.Ytdahdgdnpooegaa.Q Go.Proofs.YtdahdgdnpooegaaW.PrintWords Go.Proofs.YtdahdgdnpooegaaW.PrintLast Go.Proofs.YtdahdgdnpooegaaW.PrintMore
/-- An answer that is there, and of which P holds. -/
def Te {α : Type} (o : Option α) (P : α → Prop) : Prop := ∃ r, o = some r ∧ P r
theorem Te.bind {α β : Type} {o : Option α} {f : α → Option β} {P : α → Prop} {Q : β → Prop} (h : Te o P) (k : ∀ r, P r → Te (f r) Q) : Te (o.bind f) Q := by
  obtain ⟨r, rfl, hr⟩ := h
  exact k r hr
theorem Te.now {α : Type} {P : α → Prop} {r : α} (h : P r) : Te (some r) P := ⟨r, rfl, h⟩
theorem Te.ite {α : Type} {c : Prop} [Decidable c] {a b : Option α} {P : α → Prop} (h : c → Te a P) (k : ¬ c → Te b P) : Te (if c then a else b) P := by
  by_cases hc : c
  · rw [if_pos hc]; exact h hc
  · rw [if_neg hc]; exact k hc
theorem Te.mono {α : Type} {o : Option α} {P Q : α → Prop} (h : Te o P) (k : ∀ r, P r → Q r) : Te o Q := by
  obtain ⟨r, e, hr⟩ := h
  exact ⟨r, e, k r hr⟩
theorem Te.of_eq {α : Type} {o : Option α} {r : α} {P : α → Prop} (e : o = some r) (h : P r) : Te o P := ⟨r, e, h⟩
theorem Te.tells {α : Type} {o : Option α} {r : α} (h : Te o (fun x => x = r)) : o = some r := by
  obtain ⟨x, e, rfl⟩ := h
  exact e
theorem w64 (n : Int) (h : -9223372036854775808 ≤ n) (h' : n ≤ 9223372036854775807) : wrap64 n = n := by unfold wrap64; omega
theorem u8_range (x : Int) (h : (Lit.int .u8 x).wf = true) : 0 ≤ x ∧ x ≤ 255 := by
  simp [Lit.wf, IntKind.min, IntKind.max, IntKind.bits, IntKind.signed] at h
  omega
theorem xor_nat (a b : Nat) (ha : a < 9223372036854775808) (hb : b < 9223372036854775808) : Go.bits .xor .i64 (a : Int) (b : Int) = ((a ^^^ b : Nat) : Int) := by
  have hx : a ^^^ b < 2 ^ 63 := Nat.xor_lt_two_pow (by omega) (by omega)
  have ha' : a < 18446744073709551616 := by omega
  have hb' : b < 18446744073709551616 := by omega
  show IntKind.i64.wrap ((BitVec.ofInt 64 (a : Int) ^^^ BitVec.ofInt 64 (b : Int)).toNat : Int) = _
  rw [BitVec.toNat_xor, ofInt_u64 a ha', ofInt_u64 b hb', IntKind.wrap_i64]
  omega
theorem rd_range (l : List Int) (hl : ∀ x ∈ l, 0 ≤ x ∧ x ≤ 255) (i : Int) : 0 ≤ rd l i ∧ rd l i ≤ 255 := by
  unfold rd
  by_cases h : i.toNat < l.length
  · rw [List.getD_eq_getElem?_getD, List.getElem?_eq_getElem h]
    exact hl _ (List.getElem_mem h)
  · rw [List.getD_eq_getElem?_getD, List.getElem?_eq_none (by omega)]
    simp
/-- A value of a remainder by a positive number. -/
theorem tmod_rng (x n : Int) (hx : 0 ≤ x) (hn : 1 ≤ n) : 0 ≤ Int.tmod x n ∧ Int.tmod x n < n := by
  rw [Int.tmod_eq_emod_of_nonneg hx]
  exact ⟨Int.emod_nonneg _ (by omega), Int.emod_lt_of_pos _ (by omega)⟩
theorem str_list (xs : List Int) : (strOfNums xs).toList = xs.map fun n => UInt8.ofNat n.toNat := by
  rw [ByteArray.toList_eq]; rfl
theorem ba_ext {s t : ByteArray} (h : s.toList = t.toList) : s = t := by
  rw [ByteArray.toList_eq, ByteArray.toList_eq] at h
  exact ByteArray.ext (Array.toList_inj.1 h)
theorem str_append (xs ys : List Int) : strOfNums xs ++ strOfNums ys = strOfNums (xs ++ ys) := by
  apply ba_ext
  simp [ByteArray.toList_eq, strOfNums_data, ByteArray.data_append]
theorem bt_str (xs : List Int) (i : Nat) (x : Int) (hx : xs[i]? = some x) (h0 : 0 ≤ x) (h1 : x ≤ 255) : bt (strOfNums xs) (i : Int) = x := by
  have hi : i < xs.length := by
    rcases Nat.lt_or_ge i xs.length with h | h
    · exact h
    · rw [List.getElem?_eq_none h] at hx; cases hx
  have hs : ((i : Int)).toNat < (strOfNums xs).size := by rw [strOfNums_size]; omega
  rw [← bt_at _ _ hs]
  have e : (strOfNums xs)[((i : Int)).toNat]'hs = UInt8.ofNat x.toNat := by
    have h2 : (strOfNums xs).data.toList[i]? = some (UInt8.ofNat x.toNat) := by rw [strOfNums_data, List.getElem?_map, hx]; rfl
    rw [List.getElem?_eq_some_iff] at h2
    obtain ⟨hh, h3⟩ := h2
    exact h3
  rw [e]
  simp
  omega
theorem ext_str (s : ByteArray) (m : Nat) (hm : m ≤ s.size) : s.extract 0 m = strOfNums ((List.range m).map fun i : Nat => bt s (i : Int)) := by
  apply ba_ext
  rw [str_list, ByteArray.toList_eq, ByteArray.data_extract, Array.toList_extract]
  apply List.ext_getElem
  · simp; have : s.data.size = s.size := rfl; omega
  · intro i h1 h2
    have hi : i < m := by simpa using h2
    have hs : ((i : Int)).toNat < s.size := by omega
    simp only [List.getElem_map, List.getElem_range, List.extract_eq_take_drop, Nat.sub_zero, List.drop_zero, List.getElem_take]
    rw [← bt_at s (i : Int) hs]
    simp
    rfl
theorem str_inj (xs : List Int) : ∀ ys : List Int, (∀ x ∈ xs, 0 ≤ x ∧ x ≤ 255) → (∀ y ∈ ys, 0 ≤ y ∧ y ≤ 255) → (strOfNums xs).toList = (strOfNums ys).toList → xs = ys := by
  simp only [str_list]
  induction xs with
  | nil => intro ys _ _ h; cases ys with
    | nil => rfl
    | cons y ys => simp at h
  | cons x xs ih =>
    intro ys hx hy h
    cases ys with
    | nil => simp at h
    | cons y ys =>
      simp only [List.map_cons, List.cons.injEq] at h
      have h1 := hx x List.mem_cons_self
      have h2 := hy y List.mem_cons_self
      have e : x = y := by
        have := congrArg UInt8.toNat h.1
        simp at this
        omega
      rw [e, ih ys (fun z hz => hx z (List.mem_cons_of_mem _ hz)) (fun z hz => hy z (List.mem_cons_of_mem _ hz)) h.2]
theorem toList_nil (s : ByteArray) : s.toList = ([] : List UInt8) ↔ s.size = 0 := by
  rw [ByteArray.toList_eq]
  constructor
  · intro h
    have := congrArg List.length h
    simpa using this
  · intro h
    apply List.eq_nil_of_length_eq_zero
    simpa using h
theorem bytes_range (s : ByteArray) : ∀ x ∈ bytesOf s, 0 ≤ x ∧ x ≤ 255 := by
  intro x hx
  obtain ⟨b, _, rfl⟩ := List.mem_map.1 hx
  have := b.toNat_lt
  omega
theorem ba_str (s : ByteArray) : s = strOfNums (bytesOf s) := by
  apply ba_ext
  rw [str_list, ByteArray.toList_eq]
  unfold bytesOf
  rw [List.map_map]
  symm
  exact List.map_id'' (fun b => by simp) _
theorem ext_of (L : List Int) (a b : Nat) : (strOfNums L).extract a b = strOfNums ((L.take b).drop a) := by
  apply ba_ext
  rw [str_list, ByteArray.toList_eq, ByteArray.data_extract, Array.toList_extract, strOfNums_data, List.extract_eq_take_drop, List.map_drop, List.map_take, List.drop_take]
theorem bt0 (x : Int) (r : List Int) (h : 0 ≤ x ∧ x ≤ 255) : bt (strOfNums (x :: r)) 0 = x := bt_str (x :: r) 0 x rfl h.1 h.2
theorem bt1 (x y : Int) (r : List Int) (h : 0 ≤ y ∧ y ≤ 255) : bt (strOfNums (x :: y :: r)) 1 = y := bt_str (x :: y :: r) 1 y rfl h.1 h.2
theorem bt2 (x y z : Int) (r : List Int) (h : 0 ≤ z ∧ z ≤ 255) : bt (strOfNums (x :: y :: z :: r)) 2 = z := bt_str (x :: y :: z :: r) 2 z rfl h.1 h.2
theorem ext_back (s t : ByteArray) : (s ++ t).extract s.size (s ++ t).size = t := by
  rw [ByteArray.size_append]
  apply ba_ext
  rw [ByteArray.toList_eq, ByteArray.toList_eq, ByteArray.data_extract, Array.toList_extract, ByteArray.data_append, Array.toList_append, List.extract_eq_take_drop]
  have h1 : s.data.toList.length = s.size := by simp
  have h2 : t.data.toList.length = t.size := by simp
  rw [← h1, List.drop_left, ← h2, Nat.add_sub_cancel_left, List.take_length]
theorem l6In_eq (a b c : Int) : spec_l6In.f a b c = some (decide (b ≤ a ∧ a ≤ c)) := by
  unfold spec_l6In.f
  by_cases h : b ≤ a <;> simp [h]
theorem in_eq (a b c : Int) : impl_in.f a b c = some (decide (b ≤ a ∧ a ≤ c)) := by
  unfold impl_in.f
  by_cases h : b ≤ a <;> simp [h]
/-- The number of a stream. -/
def st (s : Int) : Prop := 1 ≤ s ∧ s ≤ 7 ∧ s % 2 = 1
instance (s : Int) : Decidable (st s) := by unfold st; infer_instance
/-- A frame that is ok. -/
def frP (q : Int) (l : Bool) (s : Int) (b : ByteArray) : Prop :=
  (q = 8 ∧ (s = 0 ∨ st s) ∧ l = false ∧ b.size = 1 ∧ 1 ≤ bt b 0 ∧ bt b 0 ≤ 31) ∨ ((q = 0 ∨ q = 1) ∧ st s ∧ b.size ≤ 200) ∨ (q = 3 ∧ st s ∧ b.size = 0 ∧ l = false)
instance (q : Int) (l : Bool) (s : Int) (b : ByteArray) : Decidable (frP q l s b) := by unfold frP; infer_instance
def frB (q : Int) (l : Bool) (s : Int) (b : ByteArray) : Bool := decide (frP q l s b)
theorem frB_iff (q : Int) (l : Bool) (s : Int) (b : ByteArray) : frB q l s b = true ↔ frP q l s b := by unfold frB; exact decide_eq_true_iff
theorem frB_no (q : Int) (l : Bool) (s : Int) (b : ByteArray) : frB q l s b = false ↔ ¬ frP q l s b := by unfold frB; exact decide_eq_false_iff_not
theorem isStream_eq (s : Int) : impl_isStream.f s = some (decide (st s)) := by
  unfold impl_isStream.f
  simp only [in_eq, Option.bind_some]
  by_cases h : 1 ≤ s ∧ s ≤ 7
  · rw [if_pos (by simpa using h), Int.tmod_eq_emod_of_nonneg (by omega)]
    congr 1
    by_cases h2 : s % 2 = 1
    · rw [decide_eq_true (show st s from ⟨h.1, h.2, h2⟩)]; simp [h2]
    · rw [decide_eq_false (show ¬ st s from fun q => h2 q.2.2)]; simp [h2]
  · rw [if_neg (by simpa using h), decide_eq_false (show ¬ st s from fun q => h ⟨q.1, q.2.1⟩)]
theorem l12Stream_eq (s : Int) : spec_l12Stream.f s = some (decide (st s)) := by
  unfold spec_l12Stream.f
  simp only [l6In_eq, Option.bind_some]
  by_cases h : 1 ≤ s ∧ s ≤ 7
  · rw [if_pos (by simpa using h), Int.tmod_eq_emod_of_nonneg (by omega)]
    congr 1
    by_cases h2 : s % 2 = 1
    · rw [decide_eq_true (show st s from ⟨h.1, h.2, h2⟩)]; simp [h2]
    · rw [decide_eq_false (show ¬ st s from fun q => h2 q.2.2)]; simp [h2]
  · rw [if_neg (by simpa using h), decide_eq_false (show ¬ st s from fun q => h ⟨q.1, q.2.1⟩)]
theorem some_dec {p q : Prop} [Decidable p] [Decidable q] (h : p ↔ q) : some (decide p) = some (decide q) := by
  congr 1
  exact decide_eq_decide.2 h
theorem some_dec' {p : Prop} [Decidable p] {b : Bool} (h : b = true ↔ p) : some b = some (decide p) := by
  congr 1
  by_cases hp : p
  · rw [decide_eq_true hp]; exact h.2 hp
  · rw [decide_eq_false hp]
    cases b with
    | false => rfl
    | true => exact absurd (h.1 rfl) hp
theorem iFrameOk_eq (q : Int) (l : Bool) (s : Int) (b : ByteArray) : impl_FrameOk.f q l s b = some (frB q l s b) := by
  have r0 := bt_range b 0
  unfold impl_FrameOk.f frB
  simp only [in_eq, isStream_eq, Option.bind_some, w64 (bt b 0) (by omega) (by omega), decide_eq_true_eq]
  by_cases h8 : q = 8
  · subst h8
    rw [if_pos rfl]
    by_cases hs : s = 0
    · rw [if_pos hs]
      cases l with
      | true => rw [if_pos rfl]; exact some_dec' ⟨by simp, by unfold frP; simp⟩
      | false =>
        rw [if_neg (by decide)]
        by_cases h1 : (b.size : Int) = 1
        · rw [if_pos h1, if_pos (by omega)]
          exact some_dec ⟨fun h => Or.inl ⟨rfl, Or.inl hs, rfl, by omega, h.1, h.2⟩, by unfold frP; simp <;> intros <;> omega⟩
        · rw [if_neg h1]; exact some_dec' ⟨by simp, by unfold frP; simp <;> intros <;> omega⟩
    · rw [if_neg hs]
      by_cases hst : st s
      · rw [if_pos hst]
        cases l with
        | true => rw [if_pos rfl]; exact some_dec' ⟨by simp, by unfold frP; simp⟩
        | false =>
          rw [if_neg (by decide)]
          by_cases h1 : (b.size : Int) = 1
          · rw [if_pos h1, if_pos (by omega)]
            exact some_dec ⟨fun h => Or.inl ⟨rfl, Or.inr hst, rfl, by omega, h.1, h.2⟩, by unfold frP; simp <;> intros <;> omega⟩
          · rw [if_neg h1]; exact some_dec' ⟨by simp, by unfold frP; simp <;> intros <;> omega⟩
      · rw [if_neg hst]; exact some_dec' ⟨by simp, by unfold frP; simp [hs, hst]⟩
  · rw [if_neg h8]
    by_cases hst : st s
    · rw [if_pos hst]
      by_cases h0 : q = 0
      · rw [if_pos h0]; exact some_dec ⟨fun h => Or.inr (Or.inl ⟨Or.inl h0, hst, by omega⟩), by unfold frP; simp [h0]; intros; omega⟩
      · rw [if_neg h0]
        by_cases h1 : q = 1
        · rw [if_pos h1]; exact some_dec ⟨fun h => Or.inr (Or.inl ⟨Or.inr h1, hst, by omega⟩), by unfold frP; simp [h1]; intros; omega⟩
        · rw [if_neg h1]
          by_cases h3 : q = 3
          · rw [if_pos h3]
            by_cases hb : b.toList = ([] : List UInt8)
            · rw [if_pos hb]
              have hz := (toList_nil b).1 hb
              exact some_dec' ⟨fun h => Or.inr (Or.inr ⟨h3, hst, hz, by simpa using h⟩), by unfold frP; simp [h3]⟩
            · rw [if_neg hb]
              have hz : ¬ b.size = 0 := fun h => hb ((toList_nil b).2 h)
              exact some_dec' ⟨by simp, by unfold frP; simp [h3, hz]⟩
          · rw [if_neg h3]; exact some_dec' ⟨by simp, by unfold frP; simp [h8, h0, h1, h3]⟩
    · rw [if_neg hst]; exact some_dec' ⟨by simp, by unfold frP; simp [h8, hst]⟩
theorem sFrameOk_eq (k : Nat) (q : Int) (l : Bool) (s : Int) (b : ByteArray) : spec_FrameOk.f (k + 1) q l s b = some (frB q l s b) := by
  have r0 := bt_range b 0
  unfold spec_FrameOk.f frB
  simp only [spec_FrameOk.j0, l6In_eq, l12Stream_eq, Option.bind_some, w64 (bt b 0) (by omega) (by omega), decide_eq_true_eq, beq_iff_eq]
  by_cases h0 : q = 0
  · rw [if_pos h0, if_pos h0]
    by_cases hst : st s
    · rw [if_pos hst]; exact some_dec ⟨fun h => Or.inr (Or.inl ⟨Or.inl h0, hst, by omega⟩), by unfold frP; simp [h0]; intros; omega⟩
    · rw [if_neg hst]; exact some_dec' ⟨by simp, by unfold frP; simp [h0, hst]⟩
  · rw [if_neg h0]
    by_cases h1 : q = 1
    · rw [if_pos h1]
      by_cases hst : st s
      · rw [if_pos hst]; exact some_dec ⟨fun h => Or.inr (Or.inl ⟨Or.inr h1, hst, by omega⟩), by unfold frP; simp [h1]; intros; omega⟩
      · rw [if_neg hst]; exact some_dec' ⟨by simp, by unfold frP; simp [h1, hst]⟩
    · rw [if_neg h1]
      by_cases h3 : q = 3
      · rw [if_pos h3]
        by_cases hst : st s
        · rw [if_pos hst]
          cases l with
          | true => rw [if_pos rfl]; exact some_dec' ⟨by simp, by unfold frP; simp [h3]⟩
          | false =>
            rw [if_neg (by decide)]
            exact some_dec' ⟨fun h => Or.inr (Or.inr ⟨h3, hst, (toList_nil b).1 (by simpa using h), rfl⟩), by intro h; unfold frP at h; rcases h with h | h | h <;> first | omega | exact beq_iff_eq.2 ((toList_nil b).2 h.2.2.1)⟩
        · rw [if_neg hst]; exact some_dec' ⟨by simp, by unfold frP; simp [h3, hst]⟩
      · rw [if_neg h3]
        by_cases h8 : q = 8
        · rw [if_pos h8]
          subst h8
          by_cases hs : s = 0
          · rw [if_pos hs]
            cases l with
            | true => rw [if_pos rfl]; exact some_dec' ⟨by simp, by unfold frP; simp⟩
            | false =>
              rw [if_neg (by decide)]
              by_cases hz : (b.size : Int) = 1
              · rw [if_pos hz, if_pos (by omega)]
                exact some_dec ⟨fun h => Or.inl ⟨rfl, Or.inl hs, rfl, by omega, h.1, h.2⟩, by unfold frP; simp <;> intros <;> omega⟩
              · rw [if_neg hz]; exact some_dec' ⟨by simp, by unfold frP; simp <;> intros <;> omega⟩
          · rw [if_neg hs]
            by_cases hst : st s
            · rw [if_pos hst]
              cases l with
              | true => rw [if_pos rfl]; exact some_dec' ⟨by simp, by unfold frP; simp⟩
              | false =>
                rw [if_neg (by decide)]
                by_cases hz : (b.size : Int) = 1
                · rw [if_pos hz, if_pos (by omega)]
                  exact some_dec ⟨fun h => Or.inl ⟨rfl, Or.inr hst, rfl, by omega, h.1, h.2⟩, by unfold frP; simp <;> intros <;> omega⟩
                · rw [if_neg hz]; exact some_dec' ⟨by simp, by unfold frP; simp <;> intros <;> omega⟩
            · rw [if_neg hst]; exact some_dec' ⟨by simp, by unfold frP; simp [hs, hst]⟩
        · rw [if_neg h8]; exact some_dec' ⟨by simp, by unfold frP; simp [h8, h0, h1, h3]⟩
/-- The four bytes ahead of a frame's body. -/
def frL (q : Int) (l : Bool) (s : Int) (b : ByteArray) : List Int := [(b.size : Int), q, if l = true then 1 else 0, s]
def frW (q : Int) (l : Bool) (s : Int) (b : ByteArray) : ByteArray := if frB q l s b = true then strOfNums (frL q l s b) ++ b else ⟨#[]⟩
theorem frP_range {q : Int} {l : Bool} {s : Int} {b : ByteArray} (h : frP q l s b) : 0 ≤ q ∧ q ≤ 8 ∧ 0 ≤ s ∧ s ≤ 7 ∧ b.size ≤ 200 := by
  unfold frP st at h
  omega
theorem iFrameWrite_eq (q : Int) (l : Bool) (s : Int) (b : ByteArray) : impl_FrameWrite.f q l s b = some (frW q l s b) := by
  unfold impl_FrameWrite.f frW
  rw [iFrameOk_eq]
  simp only [Option.bind_some]
  by_cases h : frB q l s b = true
  · have hr := frP_range ((frB_iff q l s b).1 h)
    rw [if_pos h, if_pos h]
    unfold impl_Frame_bytes.f frL
    simp only [Option.bind_some]
    have e1 : ((b.size : Int)) % 256 = (b.size : Int) := by omega
    have e2 : q % 256 = q := by omega
    have e3 : s % 256 = s := by omega
    cases l with
    | true => rw [if_pos rfl, if_pos (by rw [strOfNums_size]; simp; omega), e1, e2, e3]; rfl
    | false => rw [if_neg (by decide), if_pos (by rw [strOfNums_size]; simp; omega), e1, e2, e3]; rfl
  · rw [if_neg h, if_neg h]
theorem l1Byte_eq (x : Int) : spec_l1Byte.f x = some (strOfNums [x % 256]) := rfl
theorem sFrameWrite_eq (k : Nat) (q : Int) (l : Bool) (s : Int) (b : ByteArray) : spec_FrameWrite.f (k + 1) q l s b = some (frW q l s b) := by
  unfold spec_FrameWrite.f frW
  rw [sFrameOk_eq]
  simp only [Option.bind_some]
  by_cases h : frB q l s b = true
  · have hr := frP_range ((frB_iff q l s b).1 h)
    rw [if_pos h, if_pos h]
    have e1 : ((b.size : Int)) % 256 = (b.size : Int) := by omega
    have e2 : q % 256 = q := by omega
    have e3 : s % 256 = s := by omega
    have hj : ∀ x : Int, x % 256 = x → spec_l12Write.j0 (k + 1) x q l s b = some (strOfNums [(b.size : Int), q, x, s] ++ b) := by
      intro x hx
      simp only [spec_l12Write.j0, l1Byte_eq, Option.bind_some]
      rw [e1, e2, e3, hx, if_pos (by rw [strOfNums_size, strOfNums_size]; simp), if_pos (by rw [ByteArray.size_append, strOfNums_size, strOfNums_size, strOfNums_size]; simp), if_pos (by rw [ByteArray.size_append, ByteArray.size_append, strOfNums_size, strOfNums_size, strOfNums_size, strOfNums_size]; simp), if_pos (by rw [ByteArray.size_append, ByteArray.size_append, ByteArray.size_append, strOfNums_size, strOfNums_size, strOfNums_size, strOfNums_size]; simp; omega), str_append, str_append, str_append]
      rfl
    unfold spec_l12Write.f frL
    cases l with
    | true => rw [if_pos rfl, hj 1 rfl]; rfl
    | false => rw [if_neg (by decide), hj 0 rfl]; rfl
  · rw [if_neg h, if_neg h]
theorem sz_tells (q : Int) (l : Bool) (s : Int) (b : ByteArray) : ∃ z, laws_szFrame.f q l s b 1048576 = some z := by
  unfold laws_szFrame.f
  split <;> exact ⟨_, rfl⟩
theorem xFrameWrite (q : Int) (l : Bool) (s : Int) (b : ByteArray) : laws_FnExactFrameWrite.f 1 q l s b = some true := by
  unfold laws_FnExactFrameWrite.f laws_toFrame.f
  obtain ⟨z, hz⟩ := sz_tells q l s b
  rw [hz]
  simp only [Option.bind_some, sFrameWrite_eq, iFrameWrite_eq]
  by_cases h : z < 0
  · rw [if_pos h]
  · rw [if_neg h, if_pos trivial]
end Go.Proofs.Ytdahdgdnpooegaa.Pure
