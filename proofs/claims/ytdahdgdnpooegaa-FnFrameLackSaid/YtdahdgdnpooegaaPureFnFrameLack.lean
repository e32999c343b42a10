/-
  The law FnFrameLack's plain function answers true at every argument within the given bounds.
-/
import Derived.Test.YtdahdgdnpooegaaFx2
import Derived.Test.YtdahdgdnpooegaaFx3
import Derived.Test.YtdahdgdnpooegaaFx4
import Derived.Test.YtdahdgdnpooegaaFx5
import Derived.Test.YtdahdgdnpooegaaFx6
import Derived.Test.YtdahdgdnpooegaaFx7
import Derived.Test.YtdahdgdnpooegaaFx8
import Derived.Test.YtdahdgdnpooegaaFx9
import Derived.Test.YtdahdgdnpooegaaFx10
import Derived.Test.YtdahdgdnpooegaaFx11
import Derived.Test.YtdahdgdnpooegaaFx12
import Derived.Test.YtdahdgdnpooegaaFx13
import Derived.Test.YtdahdgdnpooegaaFx16
import Derived.Test.YtdahdgdnpooegaaFx17
import Derived.Test.YtdahdgdnpooegaaFx18
import Derived.Test.YtdahdgdnpooegaaFx19
import Derived.Test.YtdahdgdnpooegaaFx20
import Derived.Test.YtdahdgdnpooegaaFx22
import Derived.Test.YtdahdgdnpooegaaFx24
import Derived.Laws.Bits64
import Derived.Laws.BitsAllLaws
import Derived.SizedLaws
namespace Go.Proofs.Ytdahdgdnpooegaa.Pure
open Go Go.RowKit Go.Proofs.Ytdahdgdnpooegaa.F Go.Proofs.YtdahdgdnpooegaaW.PrintWords Go.Proofs.YtdahdgdnpooegaaW.PrintLast Go.Proofs.YtdahdgdnpooegaaW.PrintMore
/-- An answer that is there, and of which P holds. -/
def Te {α : Type} (o : Option α) (P : α → Prop) : Prop := ∃ r, o = some r ∧ P r
theorem Te.bind {α β : Type} {o : Option α} {f : α → Option β} {P : α → Prop} {Q : β → Prop} (h : Te o P) (k : ∀ r, P r → Te (f r) Q) : Te (o.bind f) Q := by
  obtain ⟨r, rfl, hr⟩ := h
  exact k r hr
theorem Te.now {α : Type} {P : α → Prop} {r : α} (h : P r) : Te (some r) P := ⟨r, rfl, h⟩
theorem Te.ite {α : Type} {c : Prop} [Decidable c] {a b : Option α} {P : α → Prop} (h : c → Te a P) (k : ¬ c → Te b P) : Te (if c then a else b) P := by
  by_cases hc : c
  · rw [if_pos hc]; exact h hc
  · rw [if_neg hc]; exact k hc
theorem Te.mono {α : Type} {o : Option α} {P Q : α → Prop} (h : Te o P) (k : ∀ r, P r → Q r) : Te o Q := by
  obtain ⟨r, e, hr⟩ := h
  exact ⟨r, e, k r hr⟩
theorem Te.of_eq {α : Type} {o : Option α} {r : α} {P : α → Prop} (e : o = some r) (h : P r) : Te o P := ⟨r, e, h⟩
theorem Te.tells {α : Type} {o : Option α} {r : α} (h : Te o (fun x => x = r)) : o = some r := by
  obtain ⟨x, e, rfl⟩ := h
  exact e
theorem w64 (n : Int) (h : -9223372036854775808 ≤ n) (h' : n ≤ 9223372036854775807) : wrap64 n = n := by unfold wrap64; omega
theorem u8_range (x : Int) (h : (Lit.int .u8 x).wf = true) : 0 ≤ x ∧ x ≤ 255 := by
  simp [Lit.wf, IntKind.min, IntKind.max, IntKind.bits, IntKind.signed] at h
  omega
theorem xor_nat (a b : Nat) (ha : a < 9223372036854775808) (hb : b < 9223372036854775808) : Go.bits .xor .i64 (a : Int) (b : Int) = ((a ^^^ b : Nat) : Int) := by
  have hx : a ^^^ b < 2 ^ 63 := Nat.xor_lt_two_pow (by omega) (by omega)
  have ha' : a < 18446744073709551616 := by omega
  have hb' : b < 18446744073709551616 := by omega
  show IntKind.i64.wrap ((BitVec.ofInt 64 (a : Int) ^^^ BitVec.ofInt 64 (b : Int)).toNat : Int) = _
  rw [BitVec.toNat_xor, ofInt_u64 a ha', ofInt_u64 b hb', IntKind.wrap_i64]
  omega
theorem rd_range (l : List Int) (hl : ∀ x ∈ l, 0 ≤ x ∧ x ≤ 255) (i : Int) : 0 ≤ rd l i ∧ rd l i ≤ 255 := by
  unfold rd
  by_cases h : i.toNat < l.length
  · rw [List.getD_eq_getElem?_getD, List.getElem?_eq_getElem h]
    exact hl _ (List.getElem_mem h)
  · rw [List.getD_eq_getElem?_getD, List.getElem?_eq_none (by omega)]
    simp
/-- A value of a remainder by a positive number. -/
theorem tmod_rng (x n : Int) (hx : 0 ≤ x) (hn : 1 ≤ n) : 0 ≤ Int.tmod x n ∧ Int.tmod x n < n := by
  rw [Int.tmod_eq_emod_of_nonneg hx]
  exact ⟨Int.emod_nonneg _ (by omega), Int.emod_lt_of_pos _ (by omega)⟩
theorem pick_ok (k : Nat) (l : List Int) (p n : Int) (hl : ∀ x ∈ l, 0 ≤ x ∧ x ≤ 255) (hn : l.length ≤ 2000) (hp : 0 ≤ p) (hp' : p ≤ 1000000) (h1 : 1 ≤ n) (h2 : n ≤ 1000000) :
    Te (spec_l6Rd_pick.f (k + 1) l p n) (fun r => r.2 = p + 1 ∧ 0 ≤ r.1 ∧ r.1 < n) := by
  unfold spec_l6Rd_pick.f
  rw [if_neg (by omega), w64 (p + 1) (by omega) (by omega)]
  simp only [spec_l6Rd_pick.j0]
  rw [w64 (p + 1 - 1) (by omega) (by omega), show p + 1 - 1 = p from by omega]
  refine Te.ite (fun _ => Te.now ⟨rfl, by omega, by omega⟩) (fun hz => ?_)
  have hlen : (l.length : Int) ≠ 0 := by simpa using hz
  refine Te.ite (fun hlt => ?_) (fun hge => ?_)
  · rw [if_pos hp, if_neg (by omega)]
    have hr := rd_range l hl p
    rw [w64 (rd l p) (by omega) (by omega)]
    have ht := tmod_rng (rd l p) n hr.1 h1
    exact Te.now ⟨rfl, ht.1, ht.2⟩
  · have hL : (1 : Int) ≤ l.length := by omega
    rw [if_neg hlen]
    have ha := tmod_rng p l.length hp hL
    rw [if_pos ha.1, if_pos ha.2, w64 (p * 7) (by omega) (by omega), w64 (p * 7 + 3) (by omega) (by omega)]
    have hb := tmod_rng (p * 7 + 3) l.length (by omega) hL
    rw [if_pos hb.1, if_pos hb.2, if_neg (by omega)]
    have r1 := rd_range l hl (Int.tmod p l.length)
    have r2 := rd_range l hl (Int.tmod (p * 7 + 3) l.length)
    generalize rd l (Int.tmod p l.length) = x1 at r1 ⊢
    generalize rd l (Int.tmod (p * 7 + 3) l.length) = x2 at r2 ⊢
    have hd0 : 0 ≤ Int.tdiv p l.length := Int.tdiv_nonneg hp (by omega)
    have hd1 : Int.tdiv p l.length ≤ 1000000 := by
      rw [Int.tdiv_eq_ediv_of_nonneg hp]
      exact Int.le_trans (Int.ediv_le_self _ hp) hp'
    generalize Int.tdiv p l.length = d at hd0 hd1 ⊢
    rw [w64 x1 (by omega) (by omega), w64 x2 (by omega) (by omega), w64 d (by omega) (by omega), w64 (x1 * 131) (by omega) (by omega), w64 (x2 * 1117) (by omega) (by omega), w64 (p * 29) (by omega) (by omega), w64 (d * 53) (by omega) (by omega)]
    rw [w64 (x1 * 131 + x2 * 1117) (by omega) (by omega), w64 (x1 * 131 + x2 * 1117 + p * 29) (by omega) (by omega), w64 (x1 * 131 + x2 * 1117 + p * 29 + d * 53) (by omega) (by omega)]
    have hX0 : 0 ≤ x1 * 131 + x2 * 1117 + p * 29 + d * 53 := by omega
    have hX1 : x1 * 131 + x2 * 1117 + p * 29 + d * 53 ≤ 1000000000 := by omega
    generalize x1 * 131 + x2 * 1117 + p * 29 + d * 53 = X at hX0 hX1 ⊢
    obtain ⟨N, rfl⟩ := Int.eq_ofNat_of_zero_le hX0
    have hq : Int.tdiv (N : Int) 64 = ((N / 64 : Nat) : Int) := by rw [Int.tdiv_eq_ediv_of_nonneg hX0]; omega
    rw [hq, w64 ((N / 64 : Nat) : Int) (by omega) (by omega), xor_nat N (N / 64) (by omega) (by omega)]
    have ht := tmod_rng ((N ^^^ N / 64 : Nat) : Int) n (by omega) h1
    exact Te.now ⟨rfl, ht.1, ht.2⟩
/-- What a reader of a code holds: bytes, few of them, and a place. -/
def Rd (l : List Int) (p : Int) : Prop := (∀ x ∈ l, 0 ≤ x ∧ x ≤ 255) ∧ l.length ≤ 2000 ∧ 0 ≤ p
theorem pick_rd (k : Nat) (l : List Int) (p n : Int) (h : Rd l p) (hp' : p ≤ 1000000) (h1 : 1 ≤ n) (h2 : n ≤ 1000000) :
    Te (spec_l6Rd_pick.f (k + 1) l p n) (fun r => r.2 = p + 1 ∧ 0 ≤ r.1 ∧ r.1 < n) := pick_ok k l p n h.1 h.2.1 h.2.2 hp' h1 h2
theorem Rd.next {l : List Int} {p q : Int} (h : Rd l p) (hq : p ≤ q) : Rd l q := ⟨h.1, h.2.1, Int.le_trans h.2.2 hq⟩
theorem open_ok (l : List Int) (hl : ∀ x ∈ l, (Lit.int .u8 x).wf = true) : Te (spec_l6Open.f l) (fun r => Rd r.1 0 ∧ r.2 = 0) := by
  unfold spec_l6Open.f
  refine Te.ite (fun h => ?_) (fun h => ?_)
  · rw [if_pos (by omega)]
    exact Te.now ⟨⟨fun x hx => u8_range x (hl x (List.mem_of_mem_take hx)), by simp; omega, Int.le_refl 0⟩, rfl⟩
  · exact Te.now ⟨⟨fun x hx => u8_range x (hl x hx), by show l.length ≤ 2000; omega, Int.le_refl 0⟩, rfl⟩
theorem str_list (xs : List Int) : (strOfNums xs).toList = xs.map fun n => UInt8.ofNat n.toNat := by
  rw [ByteArray.toList_eq]; rfl
theorem ba_ext {s t : ByteArray} (h : s.toList = t.toList) : s = t := by
  rw [ByteArray.toList_eq, ByteArray.toList_eq] at h
  exact ByteArray.ext (Array.toList_inj.1 h)
theorem str_append (xs ys : List Int) : strOfNums xs ++ strOfNums ys = strOfNums (xs ++ ys) := by
  apply ba_ext
  simp [ByteArray.toList_eq, strOfNums_data, ByteArray.data_append]
theorem bt_str (xs : List Int) (i : Nat) (x : Int) (hx : xs[i]? = some x) (h0 : 0 ≤ x) (h1 : x ≤ 255) : bt (strOfNums xs) (i : Int) = x := by
  have hi : i < xs.length := by
    rcases Nat.lt_or_ge i xs.length with h | h
    · exact h
    · rw [List.getElem?_eq_none h] at hx; cases hx
  have hs : ((i : Int)).toNat < (strOfNums xs).size := by rw [strOfNums_size]; omega
  rw [← bt_at _ _ hs]
  have e : (strOfNums xs)[((i : Int)).toNat]'hs = UInt8.ofNat x.toNat := by
    have h2 : (strOfNums xs).data.toList[i]? = some (UInt8.ofNat x.toNat) := by rw [strOfNums_data, List.getElem?_map, hx]; rfl
    rw [List.getElem?_eq_some_iff] at h2
    obtain ⟨hh, h3⟩ := h2
    exact h3
  rw [e]
  simp
  omega
theorem ext_str (s : ByteArray) (m : Nat) (hm : m ≤ s.size) : s.extract 0 m = strOfNums ((List.range m).map fun i : Nat => bt s (i : Int)) := by
  apply ba_ext
  rw [str_list, ByteArray.toList_eq, ByteArray.data_extract, Array.toList_extract]
  apply List.ext_getElem
  · simp; have : s.data.size = s.size := rfl; omega
  · intro i h1 h2
    have hi : i < m := by simpa using h2
    have hs : ((i : Int)).toNat < s.size := by omega
    simp only [List.getElem_map, List.getElem_range, List.extract_eq_take_drop, Nat.sub_zero, List.drop_zero, List.getElem_take]
    rw [← bt_at s (i : Int) hs]
    simp
    rfl
theorem str_inj (xs : List Int) : ∀ ys : List Int, (∀ x ∈ xs, 0 ≤ x ∧ x ≤ 255) → (∀ y ∈ ys, 0 ≤ y ∧ y ≤ 255) → (strOfNums xs).toList = (strOfNums ys).toList → xs = ys := by
  simp only [str_list]
  induction xs with
  | nil => intro ys _ _ h; cases ys with
    | nil => rfl
    | cons y ys => simp at h
  | cons x xs ih =>
    intro ys hx hy h
    cases ys with
    | nil => simp at h
    | cons y ys =>
      simp only [List.map_cons, List.cons.injEq] at h
      have h1 := hx x List.mem_cons_self
      have h2 := hy y List.mem_cons_self
      have e : x = y := by
        have := congrArg UInt8.toNat h.1
        simp at this
        omega
      rw [e, ih ys (fun z hz => hx z (List.mem_cons_of_mem _ hz)) (fun z hz => hy z (List.mem_cons_of_mem _ hz)) h.2]
theorem toList_nil (s : ByteArray) : s.toList = ([] : List UInt8) ↔ s.size = 0 := by
  rw [ByteArray.toList_eq]
  constructor
  · intro h
    have := congrArg List.length h
    simpa using this
  · intro h
    apply List.eq_nil_of_length_eq_zero
    simpa using h
theorem bytes_range (s : ByteArray) : ∀ x ∈ bytesOf s, 0 ≤ x ∧ x ≤ 255 := by
  intro x hx
  obtain ⟨b, _, rfl⟩ := List.mem_map.1 hx
  have := b.toNat_lt
  omega
theorem ba_str (s : ByteArray) : s = strOfNums (bytesOf s) := by
  apply ba_ext
  rw [str_list, ByteArray.toList_eq]
  unfold bytesOf
  rw [List.map_map]
  symm
  exact List.map_id'' (fun b => by simp) _
theorem ext_of (L : List Int) (a b : Nat) : (strOfNums L).extract a b = strOfNums ((L.take b).drop a) := by
  apply ba_ext
  rw [str_list, ByteArray.toList_eq, ByteArray.data_extract, Array.toList_extract, strOfNums_data, List.extract_eq_take_drop, List.map_drop, List.map_take, List.drop_take]
theorem bt0 (x : Int) (r : List Int) (h : 0 ≤ x ∧ x ≤ 255) : bt (strOfNums (x :: r)) 0 = x := bt_str (x :: r) 0 x rfl h.1 h.2
theorem bt1 (x y : Int) (r : List Int) (h : 0 ≤ y ∧ y ≤ 255) : bt (strOfNums (x :: y :: r)) 1 = y := bt_str (x :: y :: r) 1 y rfl h.1 h.2
theorem bt2 (x y z : Int) (r : List Int) (h : 0 ≤ z ∧ z ≤ 255) : bt (strOfNums (x :: y :: z :: r)) 2 = z := bt_str (x :: y :: z :: r) 2 z rfl h.1 h.2
theorem ext_back (s t : ByteArray) : (s ++ t).extract s.size (s ++ t).size = t := by
  rw [ByteArray.size_append]
  apply ba_ext
  rw [ByteArray.toList_eq, ByteArray.toList_eq, ByteArray.data_extract, Array.toList_extract, ByteArray.data_append, Array.toList_append, List.extract_eq_take_drop]
  have h1 : s.data.toList.length = s.size := by simp
  have h2 : t.data.toList.length = t.size := by simp
  rw [← h1, List.drop_left, ← h2, Nat.add_sub_cancel_left, List.take_length]
theorem l6In_eq (a b c : Int) : spec_l6In.f a b c = some (decide (b ≤ a ∧ a ≤ c)) := by
  unfold spec_l6In.f
  by_cases h : b ≤ a <;> simp [h]
theorem in_eq (a b c : Int) : impl_in.f a b c = some (decide (b ≤ a ∧ a ≤ c)) := by
  unfold impl_in.f
  by_cases h : b ≤ a <;> simp [h]
/-- The number of a stream. -/
def st (s : Int) : Prop := 1 ≤ s ∧ s ≤ 7 ∧ s % 2 = 1
instance (s : Int) : Decidable (st s) := by unfold st; infer_instance
/-- A frame that is ok. -/
def frP (q : Int) (l : Bool) (s : Int) (b : ByteArray) : Prop :=
  (q = 8 ∧ (s = 0 ∨ st s) ∧ l = false ∧ b.size = 1 ∧ 1 ≤ bt b 0 ∧ bt b 0 ≤ 31) ∨ ((q = 0 ∨ q = 1) ∧ st s ∧ b.size ≤ 200) ∨ (q = 3 ∧ st s ∧ b.size = 0 ∧ l = false)
instance (q : Int) (l : Bool) (s : Int) (b : ByteArray) : Decidable (frP q l s b) := by unfold frP; infer_instance
def frB (q : Int) (l : Bool) (s : Int) (b : ByteArray) : Bool := decide (frP q l s b)
theorem frB_iff (q : Int) (l : Bool) (s : Int) (b : ByteArray) : frB q l s b = true ↔ frP q l s b := by unfold frB; exact decide_eq_true_iff
theorem frB_no (q : Int) (l : Bool) (s : Int) (b : ByteArray) : frB q l s b = false ↔ ¬ frP q l s b := by unfold frB; exact decide_eq_false_iff_not
theorem isStream_eq (s : Int) : impl_isStream.f s = some (decide (st s)) := by
  unfold impl_isStream.f
  simp only [in_eq, Option.bind_some]
  by_cases h : 1 ≤ s ∧ s ≤ 7
  · rw [if_pos (by simpa using h), Int.tmod_eq_emod_of_nonneg (by omega)]
    congr 1
    by_cases h2 : s % 2 = 1
    · rw [decide_eq_true (show st s from ⟨h.1, h.2, h2⟩)]; simp [h2]
    · rw [decide_eq_false (show ¬ st s from fun q => h2 q.2.2)]; simp [h2]
  · rw [if_neg (by simpa using h), decide_eq_false (show ¬ st s from fun q => h ⟨q.1, q.2.1⟩)]
theorem l12Stream_eq (s : Int) : spec_l12Stream.f s = some (decide (st s)) := by
  unfold spec_l12Stream.f
  simp only [l6In_eq, Option.bind_some]
  by_cases h : 1 ≤ s ∧ s ≤ 7
  · rw [if_pos (by simpa using h), Int.tmod_eq_emod_of_nonneg (by omega)]
    congr 1
    by_cases h2 : s % 2 = 1
    · rw [decide_eq_true (show st s from ⟨h.1, h.2, h2⟩)]; simp [h2]
    · rw [decide_eq_false (show ¬ st s from fun q => h2 q.2.2)]; simp [h2]
  · rw [if_neg (by simpa using h), decide_eq_false (show ¬ st s from fun q => h ⟨q.1, q.2.1⟩)]
theorem some_dec {p q : Prop} [Decidable p] [Decidable q] (h : p ↔ q) : some (decide p) = some (decide q) := by
  congr 1
  exact decide_eq_decide.2 h
theorem some_dec' {p : Prop} [Decidable p] {b : Bool} (h : b = true ↔ p) : some b = some (decide p) := by
  congr 1
  by_cases hp : p
  · rw [decide_eq_true hp]; exact h.2 hp
  · rw [decide_eq_false hp]
    cases b with
    | false => rfl
    | true => exact absurd (h.1 rfl) hp
theorem iFrameOk_eq (q : Int) (l : Bool) (s : Int) (b : ByteArray) : impl_FrameOk.f q l s b = some (frB q l s b) := by
  have r0 := bt_range b 0
  unfold impl_FrameOk.f frB
  simp only [in_eq, isStream_eq, Option.bind_some, w64 (bt b 0) (by omega) (by omega), decide_eq_true_eq]
  by_cases h8 : q = 8
  · subst h8
    rw [if_pos rfl]
    by_cases hs : s = 0
    · rw [if_pos hs]
      cases l with
      | true => rw [if_pos rfl]; exact some_dec' ⟨by simp, by unfold frP; simp⟩
      | false =>
        rw [if_neg (by decide)]
        by_cases h1 : (b.size : Int) = 1
        · rw [if_pos h1, if_pos (by omega)]
          exact some_dec ⟨fun h => Or.inl ⟨rfl, Or.inl hs, rfl, by omega, h.1, h.2⟩, by unfold frP; simp <;> intros <;> omega⟩
        · rw [if_neg h1]; exact some_dec' ⟨by simp, by unfold frP; simp <;> intros <;> omega⟩
    · rw [if_neg hs]
      by_cases hst : st s
      · rw [if_pos hst]
        cases l with
        | true => rw [if_pos rfl]; exact some_dec' ⟨by simp, by unfold frP; simp⟩
        | false =>
          rw [if_neg (by decide)]
          by_cases h1 : (b.size : Int) = 1
          · rw [if_pos h1, if_pos (by omega)]
            exact some_dec ⟨fun h => Or.inl ⟨rfl, Or.inr hst, rfl, by omega, h.1, h.2⟩, by unfold frP; simp <;> intros <;> omega⟩
          · rw [if_neg h1]; exact some_dec' ⟨by simp, by unfold frP; simp <;> intros <;> omega⟩
      · rw [if_neg hst]; exact some_dec' ⟨by simp, by unfold frP; simp [hs, hst]⟩
  · rw [if_neg h8]
    by_cases hst : st s
    · rw [if_pos hst]
      by_cases h0 : q = 0
      · rw [if_pos h0]; exact some_dec ⟨fun h => Or.inr (Or.inl ⟨Or.inl h0, hst, by omega⟩), by unfold frP; simp [h0]; intros; omega⟩
      · rw [if_neg h0]
        by_cases h1 : q = 1
        · rw [if_pos h1]; exact some_dec ⟨fun h => Or.inr (Or.inl ⟨Or.inr h1, hst, by omega⟩), by unfold frP; simp [h1]; intros; omega⟩
        · rw [if_neg h1]
          by_cases h3 : q = 3
          · rw [if_pos h3]
            by_cases hb : b.toList = ([] : List UInt8)
            · rw [if_pos hb]
              have hz := (toList_nil b).1 hb
              exact some_dec' ⟨fun h => Or.inr (Or.inr ⟨h3, hst, hz, by simpa using h⟩), by unfold frP; simp [h3]⟩
            · rw [if_neg hb]
              have hz : ¬ b.size = 0 := fun h => hb ((toList_nil b).2 h)
              exact some_dec' ⟨by simp, by unfold frP; simp [h3, hz]⟩
          · rw [if_neg h3]; exact some_dec' ⟨by simp, by unfold frP; simp [h8, h0, h1, h3]⟩
    · rw [if_neg hst]; exact some_dec' ⟨by simp, by unfold frP; simp [h8, hst]⟩
theorem sFrameOk_eq (k : Nat) (q : Int) (l : Bool) (s : Int) (b : ByteArray) : spec_FrameOk.f (k + 1) q l s b = some (frB q l s b) := by
  have r0 := bt_range b 0
  unfold spec_FrameOk.f frB
  simp only [spec_FrameOk.j0, l6In_eq, l12Stream_eq, Option.bind_some, w64 (bt b 0) (by omega) (by omega), decide_eq_true_eq, beq_iff_eq]
  by_cases h0 : q = 0
  · rw [if_pos h0, if_pos h0]
    by_cases hst : st s
    · rw [if_pos hst]; exact some_dec ⟨fun h => Or.inr (Or.inl ⟨Or.inl h0, hst, by omega⟩), by unfold frP; simp [h0]; intros; omega⟩
    · rw [if_neg hst]; exact some_dec' ⟨by simp, by unfold frP; simp [h0, hst]⟩
  · rw [if_neg h0]
    by_cases h1 : q = 1
    · rw [if_pos h1]
      by_cases hst : st s
      · rw [if_pos hst]; exact some_dec ⟨fun h => Or.inr (Or.inl ⟨Or.inr h1, hst, by omega⟩), by unfold frP; simp [h1]; intros; omega⟩
      · rw [if_neg hst]; exact some_dec' ⟨by simp, by unfold frP; simp [h1, hst]⟩
    · rw [if_neg h1]
      by_cases h3 : q = 3
      · rw [if_pos h3]
        by_cases hst : st s
        · rw [if_pos hst]
          cases l with
          | true => rw [if_pos rfl]; exact some_dec' ⟨by simp, by unfold frP; simp [h3]⟩
          | false =>
            rw [if_neg (by decide)]
            exact some_dec' ⟨fun h => Or.inr (Or.inr ⟨h3, hst, (toList_nil b).1 (by simpa using h), rfl⟩), by intro h; unfold frP at h; rcases h with h | h | h <;> first | omega | exact beq_iff_eq.2 ((toList_nil b).2 h.2.2.1)⟩
        · rw [if_neg hst]; exact some_dec' ⟨by simp, by unfold frP; simp [h3, hst]⟩
      · rw [if_neg h3]
        by_cases h8 : q = 8
        · rw [if_pos h8]
          subst h8
          by_cases hs : s = 0
          · rw [if_pos hs]
            cases l with
            | true => rw [if_pos rfl]; exact some_dec' ⟨by simp, by unfold frP; simp⟩
            | false =>
              rw [if_neg (by decide)]
              by_cases hz : (b.size : Int) = 1
              · rw [if_pos hz, if_pos (by omega)]
                exact some_dec ⟨fun h => Or.inl ⟨rfl, Or.inl hs, rfl, by omega, h.1, h.2⟩, by unfold frP; simp <;> intros <;> omega⟩
              · rw [if_neg hz]; exact some_dec' ⟨by simp, by unfold frP; simp <;> intros <;> omega⟩
          · rw [if_neg hs]
            by_cases hst : st s
            · rw [if_pos hst]
              cases l with
              | true => rw [if_pos rfl]; exact some_dec' ⟨by simp, by unfold frP; simp⟩
              | false =>
                rw [if_neg (by decide)]
                by_cases hz : (b.size : Int) = 1
                · rw [if_pos hz, if_pos (by omega)]
                  exact some_dec ⟨fun h => Or.inl ⟨rfl, Or.inr hst, rfl, by omega, h.1, h.2⟩, by unfold frP; simp <;> intros <;> omega⟩
                · rw [if_neg hz]; exact some_dec' ⟨by simp, by unfold frP; simp <;> intros <;> omega⟩
            · rw [if_neg hst]; exact some_dec' ⟨by simp, by unfold frP; simp [hs, hst]⟩
        · rw [if_neg h8]; exact some_dec' ⟨by simp, by unfold frP; simp [h8, h0, h1, h3]⟩
/-- The four bytes ahead of a frame's body. -/
def frL (q : Int) (l : Bool) (s : Int) (b : ByteArray) : List Int := [(b.size : Int), q, if l = true then 1 else 0, s]
def frW (q : Int) (l : Bool) (s : Int) (b : ByteArray) : ByteArray := if frB q l s b = true then strOfNums (frL q l s b) ++ b else ⟨#[]⟩
theorem frP_range {q : Int} {l : Bool} {s : Int} {b : ByteArray} (h : frP q l s b) : 0 ≤ q ∧ q ≤ 8 ∧ 0 ≤ s ∧ s ≤ 7 ∧ b.size ≤ 200 := by
  unfold frP st at h
  omega
theorem iFrameWrite_eq (q : Int) (l : Bool) (s : Int) (b : ByteArray) : impl_FrameWrite.f q l s b = some (frW q l s b) := by
  unfold impl_FrameWrite.f frW
  rw [iFrameOk_eq]
  simp only [Option.bind_some]
  by_cases h : frB q l s b = true
  · have hr := frP_range ((frB_iff q l s b).1 h)
    rw [if_pos h, if_pos h]
    unfold impl_Frame_bytes.f frL
    simp only [Option.bind_some]
    have e1 : ((b.size : Int)) % 256 = (b.size : Int) := by omega
    have e2 : q % 256 = q := by omega
    have e3 : s % 256 = s := by omega
    cases l with
    | true => rw [if_pos rfl, if_pos (by rw [strOfNums_size]; simp; omega), e1, e2, e3]; rfl
    | false => rw [if_neg (by decide), if_pos (by rw [strOfNums_size]; simp; omega), e1, e2, e3]; rfl
  · rw [if_neg h, if_neg h]
theorem l1Byte_eq (x : Int) : spec_l1Byte.f x = some (strOfNums [x % 256]) := rfl
theorem sFrameWrite_eq (k : Nat) (q : Int) (l : Bool) (s : Int) (b : ByteArray) : spec_FrameWrite.f (k + 1) q l s b = some (frW q l s b) := by
  unfold spec_FrameWrite.f frW
  rw [sFrameOk_eq]
  simp only [Option.bind_some]
  by_cases h : frB q l s b = true
  · have hr := frP_range ((frB_iff q l s b).1 h)
    rw [if_pos h, if_pos h]
    have e1 : ((b.size : Int)) % 256 = (b.size : Int) := by omega
    have e2 : q % 256 = q := by omega
    have e3 : s % 256 = s := by omega
    have hj : ∀ x : Int, x % 256 = x → spec_l12Write.j0 (k + 1) x q l s b = some (strOfNums [(b.size : Int), q, x, s] ++ b) := by
      intro x hx
      simp only [spec_l12Write.j0, l1Byte_eq, Option.bind_some]
      rw [e1, e2, e3, hx, if_pos (by rw [strOfNums_size, strOfNums_size]; simp), if_pos (by rw [ByteArray.size_append, strOfNums_size, strOfNums_size, strOfNums_size]; simp), if_pos (by rw [ByteArray.size_append, ByteArray.size_append, strOfNums_size, strOfNums_size, strOfNums_size, strOfNums_size]; simp), if_pos (by rw [ByteArray.size_append, ByteArray.size_append, ByteArray.size_append, strOfNums_size, strOfNums_size, strOfNums_size, strOfNums_size]; simp; omega), str_append, str_append, str_append]
      rfl
    unfold spec_l12Write.f frL
    cases l with
    | true => rw [if_pos rfl, hj 1 rfl]; rfl
    | false => rw [if_neg (by decide), hj 0 rfl]; rfl
  · rw [if_neg h, if_neg h]
theorem sFrameWrite_ge (k : Nat) (hk : 1 ≤ k) (q : Int) (l : Bool) (s : Int) (b : ByteArray) : spec_FrameWrite.f k q l s b = some (frW q l s b) := by
  obtain ⟨m, rfl⟩ : ∃ m, k = m + 1 := ⟨k - 1, by omega⟩
  exact sFrameWrite_eq m q l s b
/-- What FrameRead answers. -/
def frR (s : ByteArray) : Int × Bool × Int × ByteArray × Int × Int :=
  if (s.size : Int) < 4 then (0, false, 0, ⟨#[]⟩, 0, 0)
  else if bt s 0 > 200 ∨ bt s 2 > 1 then (0, false, 0, ⟨#[]⟩, 0, -1)
  else if (s.size : Int) < 4 + bt s 0 then (0, false, 0, ⟨#[]⟩, 0, 0)
  else if frB (bt s 1) (bt s 2 == 1) (bt s 3) (s.extract 4 (4 + bt s 0).toNat) = true then (bt s 1, bt s 2 == 1, bt s 3, s.extract 4 (4 + bt s 0).toNat, 4 + bt s 0, 1)
  else (0, false, 0, ⟨#[]⟩, 0, -1)
theorem iFrameRead_eq (k : Nat) (s : ByteArray) : impl_FrameRead.f (k + 1) s = some (frR s) := by
  have r0 := bt_range s 0
  have r1 := bt_range s 1
  have r3 := bt_range s 3
  unfold impl_FrameRead.f frR
  simp only [impl_FrameRead.j0, iFrameOk_eq, Option.bind_some]
  rw [w64 (bt s 0) (by omega) (by omega), w64 (4 + bt s 0) (by omega) (by omega), w64 (bt s 1) (by omega) (by omega), w64 (bt s 3) (by omega) (by omega)]
  by_cases h4 : (s.size : Int) < 4
  · rw [if_pos h4, if_pos h4]
  · rw [if_neg h4, if_neg h4, if_pos (by omega)]
    by_cases h0 : bt s 0 > 200
    · rw [if_pos h0, if_pos trivial, if_pos (Or.inl h0)]
    · rw [if_neg h0, if_pos (by omega)]
      by_cases h2 : bt s 2 > 1
      · rw [if_pos (decide_eq_true h2), if_pos (Or.inr h2)]
      · rw [if_neg (by simpa using h2), if_neg (show ¬ (bt s 0 > 200 ∨ bt s 2 > 1) by omega)]
        by_cases hl : (s.size : Int) < 4 + bt s 0
        · rw [if_pos hl, if_pos hl]
        · rw [if_neg hl, if_neg hl, if_pos (by omega), if_pos (by omega), if_pos (by omega), if_pos (by omega), if_pos (by omega)]
          by_cases hb : frB (bt s 1) (bt s 2 == 1) (bt s 3) (s.extract 4 (4 + bt s 0).toNat) = true
          · rw [if_pos hb, if_pos hb]
          · rw [if_neg hb, if_neg hb]
theorem l1B_eq (x : Int) : spec_l1Byte.f x = some (strOfNums [x % 256]) := rfl
theorem many_l0 (d : Nat) : ∀ (k : Nat) (x : ByteArray) (n : Int) (y : ByteArray), 0 ≤ n → 1 ≤ (x.size : Int) → n < ((2 ^ d : Nat) : Int) → (x.size : Int) * ((2 ^ d : Nat) : Int) ≤ 100000 → (y.size : Int) + n * (x.size : Int) ≤ 1000000 → d < k →
    Te (spec_l6Many.l0 k x n y) (fun r => (r.size : Int) = (y.size : Int) + n * (x.size : Int)) := by
  induction d with
  | zero =>
    intro k x n y h0 _ h1 _ _ hk
    obtain ⟨k, rfl⟩ : ∃ m, k = m + 1 := ⟨k - 1, by omega⟩
    have hn : n = 0 := by have : ((2 ^ 0 : Nat) : Int) = 1 := rfl; omega
    subst hn
    simp only [spec_l6Many.l0]
    rw [if_neg (by omega)]
    exact Te.now (by omega)
  | succ d ih =>
    intro k x n y h0 hx1 h1 hb hs hk
    obtain ⟨k, rfl⟩ : ∃ m, k = m + 1 := ⟨k - 1, by omega⟩
    have e : ((2 ^ (d + 1) : Nat) : Int) = 2 * ((2 ^ d : Nat) : Int) := by rw [Nat.pow_succ, Int.natCast_mul, Int.mul_comm]; rfl
    have hp : 1 ≤ ((2 ^ d : Nat) : Int) := by have : 0 < 2 ^ d := Nat.pos_of_ne_zero (by simp); omega
    rw [e] at h1 hb
    have hx0 : 0 ≤ (x.size : Int) := by omega
    have hx : (x.size : Int) * 2 ≤ 100000 := Int.le_trans (Int.mul_le_mul_of_nonneg_left (show (2 : Int) ≤ 2 * ((2 ^ d : Nat) : Int) by omega) hx0) hb
    have hny : 0 ≤ n * (x.size : Int) := Int.mul_nonneg h0 hx0
    simp only [spec_l6Many.l0]
    refine Te.ite (fun hn => ?_) (fun hn => ?_)
    · have t1 : Int.tmod n 2 = n % 2 := Int.tmod_eq_emod_of_nonneg h0
      have t2 : Int.tdiv n 2 = n / 2 := Int.tdiv_eq_ediv_of_nonneg h0
      have hn2 : n / 2 < ((2 ^ d : Nat) : Int) := by omega
      have hxx : (((x ++ x).size : Int)) * ((2 ^ d : Nat) : Int) ≤ 100000 := by
        rw [ByteArray.size_append]
        have e2 : (((x.size + x.size : Nat) : Int)) * ((2 ^ d : Nat) : Int) = (x.size : Int) * (2 * ((2 ^ d : Nat) : Int)) := by
          rw [show ((x.size + x.size : Nat) : Int) = (x.size : Int) * 2 from by omega, Int.mul_assoc]
        rw [e2]; exact hb
      have hdiv : n / 2 * (((x ++ x).size : Int)) = (n - n % 2) * (x.size : Int) := by
        rw [ByteArray.size_append, show ((x.size + x.size : Nat) : Int) = 2 * (x.size : Int) from by omega, ← Int.mul_assoc]
        congr 1
        omega
      have hb2 : -9223372036854775808 ≤ n / 2 ∧ n / 2 ≤ 9223372036854775807 := by
        have : n * 1 ≤ n * (x.size : Int) := Int.mul_le_mul_of_nonneg_left hx1 h0
        omega
      rw [t1, t2, w64 (n / 2) hb2.1 hb2.2]
      refine Te.ite (fun hodd => ?_) (fun heven => ?_)
      · rw [if_pos (by omega), if_pos (by omega)]
        have hm : (n - n % 2) * (x.size : Int) = n * (x.size : Int) - (x.size : Int) := by rw [hodd, Int.sub_mul, Int.one_mul]
        refine (ih k (x ++ x) (n / 2) (y ++ x) (by omega) (by rw [ByteArray.size_append]; omega) hn2 hxx (by rw [hdiv, hm, ByteArray.size_append]; omega) (by omega)).mono ?_
        intro r hr
        rw [hr, hdiv, hm, ByteArray.size_append]
        omega
      · rw [if_pos (by omega)]
        have hz : n % 2 = 0 := by omega
        have hm : (n - n % 2) * (x.size : Int) = n * (x.size : Int) := by rw [hz, Int.sub_zero]
        refine (ih k (x ++ x) (n / 2) y (by omega) (by rw [ByteArray.size_append]; omega) hn2 hxx (by rw [hdiv, hm]; omega) (by omega)).mono ?_
        intro r hr
        rw [hr, hdiv, hm]
    · have hn0 : n = 0 := by omega
      subst hn0
      exact Te.now (by omega)
theorem many_ok (k : Nat) (x : ByteArray) (n : Int) (hx : x.size = 1) (h0 : 0 ≤ n) (h1 : n ≤ 250) : Te (spec_l6Many.f (k + 9) x n) (fun r => (r.size : Int) = n) := by
  unfold spec_l6Many.f
  refine (many_l0 8 (k + 9) x n ⟨#[]⟩ h0 (by omega) (by have : ((2 ^ 8 : Nat) : Int) = 256 := rfl; omega) (by rw [hx]; decide) (by rw [hx]; have : (((⟨#[]⟩ : ByteArray).size : Nat) : Int) = 0 := rfl; omega) (by omega)).mono ?_
  intro r hr
  rw [hr, hx]
  have : (((⟨#[]⟩ : ByteArray).size : Nat) : Int) = 0 := rfl
  omega
theorem word_l0 (d : Nat) : ∀ (k : Nat) (x : ByteArray) (n : Int) (l : List Int) (p : Int), n = (d : Int) → d ≤ 20 → x.size + d ≤ 100 → Rd l p → p + 3 * (d : Int) ≤ 1000 →
    Te (spec_l71Word.l0 (k + d + 12) x n l p) (fun r => r.1.size ≤ x.size + d + 20 ∧ p ≤ r.2 ∧ r.2 ≤ p + 3 * d + 2) := by
  induction d with
  | zero =>
    intro k x n l p hn _ hx hr hp
    obtain ⟨K, hK⟩ : ∃ K, K = k + 11 := ⟨_, rfl⟩
    rw [show k + 0 + 12 = K + 1 from by omega]
    simp only [spec_l71Word.l0]
    subst hK
    rw [if_neg (by omega)]
    refine (pick_rd (k + 10) l p 24 hr (by omega) (by omega) (by omega)).bind ?_
    rintro ⟨v1, p1⟩ ⟨h1, h2, h3⟩
    dsimp only at h1 h2 h3 ⊢
    refine Te.ite (fun _ => ?_) (fun _ => Te.ite (fun _ => ?_) (fun _ => ?_))
    · rw [if_pos (by omega)]
      exact Te.now ⟨by dsimp only; rw [ByteArray.size_append]; have : (⟨#[65]⟩ : ByteArray).size = 1 := rfl; omega, by dsimp only; omega, by dsimp only; omega⟩
    · refine (pick_rd (k + 10) l p1 4 (hr.next (by omega)) (by omega) (by omega) (by omega)).bind ?_
      rintro ⟨v2, p2⟩ ⟨i1, i2, i3⟩
      dsimp only at i1 i2 i3 ⊢
      rw [w64 (15 + v2) (by omega) (by omega)]
      refine (many_ok (k + 2) _ (15 + v2) rfl (by omega) (by omega)).bind ?_
      intro t ht
      exact Te.now ⟨by dsimp only; omega, by dsimp only; omega, by dsimp only; omega⟩
    · exact Te.now ⟨by dsimp only; omega, by dsimp only; omega, by dsimp only; omega⟩
  | succ d ih =>
    intro k x n l p hn hd hx hr hp
    obtain ⟨K, hK⟩ : ∃ K, K = k + d + 12 := ⟨_, rfl⟩
    rw [show k + (d + 1) + 12 = K + 1 from by omega]
    simp only [spec_l71Word.l0]
    subst hK
    rw [if_pos (by omega)]
    refine (pick_rd (k + d + 11) l p 24 hr (by omega) (by omega) (by omega)).bind ?_
    rintro ⟨v1, p1⟩ ⟨h1, h2, h3⟩
    dsimp only at h1 h2 h3 ⊢
    refine (pick_rd (k + d + 11) l p1 4 (hr.next (by omega)) (by omega) (by omega) (by omega)).bind ?_
    rintro ⟨v2, p2⟩ ⟨i1, i2, i3⟩
    dsimp only at i1 i2 i3 ⊢
    rw [w64 (n - 1) (by omega) (by omega)]
    refine Te.ite (fun _ => ?_) (fun _ => ?_)
    · refine (pick_rd (k + d + 11) l p2 39 (hr.next (by omega)) (by omega) (by omega) (by omega)).bind ?_
      rintro ⟨v3, p3⟩ ⟨j1, j2, j3⟩
      dsimp only at j1 j2 j3 ⊢
      rw [if_pos j2, if_pos j3, l1B_eq]
      simp only [Option.bind_some]
      rw [if_pos (by rw [strOfNums_size]; simp; omega)]
      refine (ih k _ (n - 1) l p3 (by omega) (by omega) (by rw [ByteArray.size_append, strOfNums_size]; simp; omega) (hr.next (by omega)) (by omega)).mono ?_
      rintro ⟨r, q⟩ ⟨g1, g2, g3⟩
      rw [ByteArray.size_append, strOfNums_size] at g1
      simp at g1 g2 g3 ⊢
      omega
    · rw [if_pos h2, if_pos (by omega), l1B_eq]
      simp only [Option.bind_some]
      rw [if_pos (by rw [strOfNums_size]; simp; omega)]
      refine (ih k _ (n - 1) l p2 (by omega) (by omega) (by rw [ByteArray.size_append, strOfNums_size]; simp; omega) (hr.next (by omega)) (by omega)).mono ?_
      rintro ⟨r, q⟩ ⟨g1, g2, g3⟩
      rw [ByteArray.size_append, strOfNums_size] at g1
      simp at g1 g2 g3 ⊢
      omega
theorem word_ok (k : Nat) (l : List Int) (p : Int) (hr : Rd l p) (hp : p ≤ 900) :
    Te (spec_l71Word.f (k + 40) l p) (fun r => r.1.size ≤ 60 ∧ p ≤ r.2 ∧ r.2 ≤ p + 100) := by
  unfold spec_l71Word.f
  refine (pick_rd (k + 39) l p 9 hr (by omega) (by omega) (by omega)).bind ?_
  rintro ⟨v1, p1⟩ ⟨h1, h2, h3⟩
  dsimp only at h1 h2 h3 ⊢
  refine (pick_rd (k + 39) l p1 6 (hr.next (by omega)) (by omega) (by omega) (by omega)).bind ?_
  rintro ⟨v2, p2⟩ ⟨i1, i2, i3⟩
  dsimp only at i1 i2 i3 ⊢
  have t2 : Int.tdiv v2 5 = v2 / 5 := Int.tdiv_eq_ediv_of_nonneg i2
  rw [t2, w64 (v2 / 5) (by omega) (by omega), w64 (v2 / 5 * 8) (by omega) (by omega), w64 (v1 + v2 / 5 * 8) (by omega) (by omega)]
  have hd : ∃ d : Nat, v1 + v2 / 5 * 8 = (d : Int) ∧ d ≤ 16 := ⟨(v1 + v2 / 5 * 8).toNat, by omega, by omega⟩
  obtain ⟨d, hd1, hd2⟩ := hd
  have hk : k + 40 = (k + 28 - d) + d + 12 := by omega
  rw [hk]
  refine (word_l0 d (k + 28 - d) ⟨#[]⟩ _ l p2 hd1 (by omega) (by have : (⟨#[]⟩ : ByteArray).size = 0 := rfl; omega) (hr.next (by omega)) (by omega)).mono ?_
  rintro ⟨r, q⟩ ⟨g1, g2, g3⟩
  have : (⟨#[]⟩ : ByteArray).size = 0 := rfl
  dsimp only at g1 g2 g3 ⊢
  omega
theorem frame_j1 (k : Nat) (l : List Int) (p q : Int) (la : Bool) (s : Int) (b : ByteArray) (hr : Rd l p) (hp : p ≤ 2000) (hq : 0 ≤ q ∧ q ≤ 9) (hs : 0 ≤ s ∧ s ≤ 9) (hb : b.size ≤ 300) :
    Te (spec_l71Frame.j1 (k + 12) l p q la s b) (fun r => (0 ≤ r.1 ∧ r.1 ≤ 9) ∧ (0 ≤ r.2.2.1 ∧ r.2.2.1 ≤ 9) ∧ r.2.2.2.1.size ≤ 300 ∧ p ≤ r.2.2.2.2 ∧ r.2.2.2.2 ≤ p + 2) := by
  simp only [spec_l71Frame.j1]
  refine (pick_rd (k + 10) l p 24 hr (by omega) (by omega) (by omega)).bind ?_
  rintro ⟨v1, p1⟩ ⟨h1, h2, h3⟩
  dsimp only at h1 h2 h3 ⊢
  refine Te.ite (fun _ => ?_) (fun _ => Te.ite (fun _ => ?_) (fun _ => Te.ite (fun _ => ?_) (fun _ => ?_)))
  · refine (pick_rd (k + 10) l p1 10 (hr.next (by omega)) (by omega) (by omega) (by omega)).bind ?_
    rintro ⟨v2, p2⟩ ⟨i1, i2, i3⟩
    dsimp only at i1 i2 i3 ⊢
    exact Te.now ⟨by dsimp only; omega, by dsimp only; omega, by dsimp only; omega, by dsimp only; omega, by dsimp only; omega⟩
  · refine (pick_rd (k + 10) l p1 10 (hr.next (by omega)) (by omega) (by omega) (by omega)).bind ?_
    rintro ⟨v2, p2⟩ ⟨i1, i2, i3⟩
    dsimp only at i1 i2 i3 ⊢
    exact Te.now ⟨by dsimp only; omega, by dsimp only; omega, by dsimp only; omega, by dsimp only; omega, by dsimp only; omega⟩
  · refine (pick_rd (k + 10) l p1 10 (hr.next (by omega)) (by omega) (by omega) (by omega)).bind ?_
    rintro ⟨v2, p2⟩ ⟨i1, i2, i3⟩
    dsimp only at i1 i2 i3 ⊢
    rw [w64 (195 + v2) (by omega) (by omega)]
    refine (many_ok (k + 2) _ (195 + v2) rfl (by omega) (by omega)).bind ?_
    intro t ht
    exact Te.now ⟨by dsimp only; omega, by dsimp only; omega, by dsimp only; omega, by dsimp only; omega, by dsimp only; omega⟩
  · exact Te.now ⟨by dsimp only; omega, by dsimp only; omega, by dsimp only; omega, by dsimp only; omega, by dsimp only; omega⟩
theorem frame_j0 (k : Nat) (c : Bool) (l : List Int) (p q : Int) (s : Int) (hr : Rd l p) (hp : p ≤ 800) (hq : 0 ≤ q ∧ q ≤ 9) (hs : 0 ≤ s ∧ s ≤ 9) :
    Te (spec_l71Frame.j0 (k + 50) q c l p q false s ⟨#[]⟩) (fun r => (0 ≤ r.1 ∧ r.1 ≤ 9) ∧ (0 ≤ r.2.2.1 ∧ r.2.2.1 ≤ 9) ∧ r.2.2.2.1.size ≤ 300 ∧ p ≤ r.2.2.2.2 ∧ r.2.2.2.2 ≤ p + 110) := by
  have hz : (⟨#[]⟩ : ByteArray).size = 0 := rfl
  simp only [spec_l71Frame.j0]
  refine Te.ite (fun _ => ?_) (fun _ => Te.ite (fun _ => ?_) (fun _ => ?_))
  · refine (pick_rd (k + 48) l p 2 hr (by omega) (by omega) (by omega)).bind ?_
    rintro ⟨v1, p1⟩ ⟨h1, h2, h3⟩
    dsimp only at h1 h2 h3 ⊢
    refine (word_ok (k + 9) l p1 (hr.next (by omega)) (by omega)).bind ?_
    rintro ⟨w, p2⟩ ⟨i1, i2, i3⟩
    dsimp only at i1 i2 i3 ⊢
    refine (frame_j1 (k + 37) l p2 q (v1 == 0) s w (hr.next (by omega)) (by omega) hq hs (by omega)).mono ?_
    rintro ⟨r1, r2, r3, r4, r5⟩ ⟨g1, g2, g3, g4, g5⟩
    dsimp only at g1 g2 g3 g4 g5 ⊢
    exact ⟨g1, g2, g3, by omega, by omega⟩
  · refine (pick_rd (k + 48) l p 31 hr (by omega) (by omega) (by omega)).bind ?_
    rintro ⟨v1, p1⟩ ⟨h1, h2, h3⟩
    dsimp only at h1 h2 h3 ⊢
    rw [l1B_eq]
    simp only [Option.bind_some]
    refine (pick_rd (k + 48) l p1 2 (hr.next (by omega)) (by omega) (by omega) (by omega)).bind ?_
    rintro ⟨v2, p2⟩ ⟨i1, i2, i3⟩
    dsimp only at i1 i2 i3 ⊢
    have hv : v2 = 0 ∨ v2 = 1 := by omega
    have hs2 : 0 ≤ s * v2 ∧ s * v2 ≤ 9 := by rcases hv with rfl | rfl <;> omega
    rw [w64 (s * v2) (by omega) (by omega)]
    refine (frame_j1 (k + 37) l p2 q false (s * v2) _ (hr.next (by omega)) (by omega) hq hs2 (by rw [strOfNums_size]; simp)).mono ?_
    rintro ⟨r1, r2, r3, r4, r5⟩ ⟨g1, g2, g3, g4, g5⟩
    dsimp only at g1 g2 g3 g4 g5 ⊢
    exact ⟨g1, g2, g3, by omega, by omega⟩
  · refine (frame_j1 (k + 37) l p q false s ⟨#[]⟩ hr (by omega) hq hs (by omega)).mono ?_
    rintro ⟨r1, r2, r3, r4, r5⟩ ⟨g1, g2, g3, g4, g5⟩
    dsimp only at g1 g2 g3 g4 g5 ⊢
    exact ⟨g1, g2, g3, by omega, by omega⟩
theorem frame_ok (k : Nat) (l : List Int) (p : Int) (hr : Rd l p) (hp : p ≤ 700) :
    Te (spec_l71Frame.f (k + 50) l p) (fun r => (0 ≤ r.1 ∧ r.1 ≤ 9) ∧ (0 ≤ r.2.2.1 ∧ r.2.2.1 ≤ 9) ∧ r.2.2.2.1.size ≤ 300 ∧ p ≤ r.2.2.2.2 ∧ r.2.2.2.2 ≤ p + 112) := by
  unfold spec_l71Frame.f
  simp only [Option.bind_some]
  refine (pick_rd (k + 49) l p 4 hr (by omega) (by omega) (by omega)).bind ?_
  rintro ⟨v1, p1⟩ ⟨h1, h2, h3⟩
  dsimp only at h1 h2 h3 ⊢
  rw [if_pos h2, if_pos (by simpa using h3)]
  refine (pick_rd (k + 49) l p1 4 (hr.next (by omega)) (by omega) (by omega) (by omega)).bind ?_
  rintro ⟨v2, p2⟩ ⟨i1, i2, i3⟩
  dsimp only at i1 i2 i3 ⊢
  have hq : 0 ≤ rd [0, 1, 3, 8] v1 ∧ rd [0, 1, 3, 8] v1 ≤ 9 := by
    have hv : v1 = 0 ∨ v1 = 1 ∨ v1 = 2 ∨ v1 = 3 := by omega
    rcases hv with rfl | rfl | rfl | rfl <;> decide
  generalize rd [0, 1, 3, 8] v1 = q at hq ⊢
  rw [w64 (2 * v2) (by omega) (by omega), w64 (1 + 2 * v2) (by omega) (by omega)]
  refine Te.ite (fun _ => ?_) (fun _ => ?_)
  · refine (frame_j0 k _ l p2 q (1 + 2 * v2) (hr.next (by omega)) (by omega) hq (by omega)).mono ?_
    rintro ⟨r1, r2, r3, r4, r5⟩ ⟨g1, g2, g3, g4, g5⟩
    dsimp only at g1 g2 g3 g4 g5 ⊢
    exact ⟨g1, g2, g3, by omega, by omega⟩
  · refine (frame_j0 k _ l p2 q (1 + 2 * v2) (hr.next (by omega)) (by omega) hq (by omega)).mono ?_
    rintro ⟨r1, r2, r3, r4, r5⟩ ⟨g1, g2, g3, g4, g5⟩
    dsimp only at g1 g2 g3 g4 g5 ⊢
    exact ⟨g1, g2, g3, by omega, by omega⟩
/-- What is drawn as a frame. -/
def DrFr (r : Int × Bool × Int × ByteArray) : Prop := (0 ≤ r.1 ∧ r.1 ≤ 9) ∧ (0 ≤ r.2.2.1 ∧ r.2.2.1 ≤ 9) ∧ r.2.2.2.size ≤ 300
theorem drawFrameWrite_ok (k : Nat) (l : List Int) (hl : ∀ x ∈ l, (Lit.int .u8 x).wf = true) : Te (spec_DrawFrameWrite.f (k + 50) l) DrFr := by
  unfold spec_DrawFrameWrite.f
  refine (open_ok l hl).bind ?_
  rintro ⟨c, p⟩ ⟨hr, rfl⟩
  refine (frame_ok k c 0 hr (by omega)).bind ?_
  rintro ⟨r1, r2, r3, r4, r5⟩ ⟨g1, g2, g3, g4, g5⟩
  exact Te.now ⟨g1, g2, g3⟩
theorem frW_ok (q : Int) (l : Bool) (s : Int) (b : ByteArray) (ok : frB q l s b = true) : frW q l s b = strOfNums (frL q l s b) ++ b := by unfold frW; rw [if_pos ok]
theorem frW_no (q : Int) (l : Bool) (s : Int) (b : ByteArray) (ok : ¬ (frB q l s b = true)) : frW q l s b = ⟨#[]⟩ := by unfold frW; rw [if_neg ok]
theorem frW_len (q : Int) (l : Bool) (s : Int) (b : ByteArray) (ok : frB q l s b = true) : (frW q l s b).size = 4 + b.size := by
  rw [frW_ok q l s b ok, ByteArray.size_append, strOfNums_size]
  rfl
theorem frW_nil (q : Int) (l : Bool) (s : Int) (b : ByteArray) : (frW q l s b).toList = ([] : List UInt8) ↔ ¬ (frB q l s b = true) := by
  constructor
  · intro h ok
    have h1 := (toList_nil _).1 h
    rw [frW_len q l s b ok] at h1
    omega
  · intro h
    rw [frW_no q l s b h]
    exact (toList_nil _).2 rfl
theorem ba_nil (t : ByteArray) (h : t.toList = ([] : List UInt8)) : t = ⟨#[]⟩ := by
  apply ba_ext
  rw [h]
  exact ((toList_nil _).2 rfl).symm
theorem bt3 (x y z u : Int) (r : List Int) (h : 0 ≤ u ∧ u ≤ 255) : bt (strOfNums (x :: y :: z :: u :: r)) 3 = u := bt_str (x :: y :: z :: u :: r) 3 u rfl h.1 h.2
theorem last_rng (l : Bool) : 0 ≤ (if l = true then (1 : Int) else 0) ∧ (if l = true then (1 : Int) else 0) ≤ 1 := by cases l <;> decide
theorem last_eq (l : Bool) : ((if l = true then (1 : Int) else 0) == 1) = l := by cases l <;> decide
/-- The bytes of a frame that is ok, as numbers. -/
theorem frW_list (q : Int) (l : Bool) (s : Int) (b : ByteArray) (ok : frB q l s b = true) (ys : List Int) :
    frW q l s b ++ strOfNums ys = strOfNums ((b.size : Int) :: q :: (if l = true then 1 else 0) :: s :: (bytesOf b ++ ys)) := by
  rw [frW_ok q l s b ok]
  conv => lhs; rw [ba_str b]
  rw [str_append, str_append, ← ba_str b]
  rfl
theorem take_bytes (b : ByteArray) (ys : List Int) : (bytesOf b ++ ys).take b.size = bytesOf b := by
  rw [← bytesOf_length b, List.take_left]
theorem frR_list (q : Int) (l : Bool) (s : Int) (b : ByteArray) (ok : frB q l s b = true) (ys : List Int) :
    frR (frW q l s b ++ strOfNums ys) = (q, l, s, b, 4 + (b.size : Int), 1) := by
  have hr := frP_range ((frB_iff q l s b).1 ok)
  have hl := last_rng l
  rw [frW_list q l s b ok ys]
  unfold frR
  rw [bt0 _ _ (by omega), bt1 _ _ _ (by omega), bt2 _ _ _ _ (by omega), bt3 _ _ _ _ _ (by omega), strOfNums_size, last_eq]
  have hlen : (((b.size : Int) :: q :: (if l = true then 1 else 0) :: s :: (bytesOf b ++ ys)).length : Int) = 4 + (b.size : Int) + (ys.length : Int) := by
    simp only [List.length_cons, List.length_append, bytesOf_length]
    omega
  rw [hlen]
  have hb : (strOfNums ((b.size : Int) :: q :: (if l = true then 1 else 0) :: s :: (bytesOf b ++ ys))).extract 4 (4 + (b.size : Int)).toNat = b := by
    rw [ext_of, show (4 + (b.size : Int)).toNat = b.size + 1 + 1 + 1 + 1 from by omega]
    simp only [List.take_succ_cons, List.drop_succ_cons, List.drop_zero]
    rw [take_bytes, ← ba_str]
  rw [hb, if_neg (by omega), if_neg (by omega), if_neg (by omega), if_pos ok]
theorem frR_back (q : Int) (l : Bool) (s : Int) (b : ByteArray) (ok : frB q l s b = true) (t : ByteArray) : frR (frW q l s b ++ t) = (q, l, s, b, 4 + (b.size : Int), 1) := by
  rw [ba_str t]
  exact frR_list q l s b ok _
theorem frR_self (q : Int) (l : Bool) (s : Int) (b : ByteArray) (ok : frB q l s b = true) : frR (frW q l s b) = (q, l, s, b, 4 + (b.size : Int), 1) := by
  have h := frR_list q l s b ok []
  have e : frW q l s b ++ strOfNums [] = frW q l s b := by
    apply ba_ext
    simp [ByteArray.toList_eq, ByteArray.data_append, strOfNums_data]
  rwa [e] at h
theorem frR_lack (q : Int) (l : Bool) (s : Int) (b : ByteArray) (ok : frB q l s b = true) (m : Nat) (hm : m < 4 + b.size) : frR ((frW q l s b).extract 0 m) = (0, false, 0, ⟨#[]⟩, 0, 0) := by
  have hr := frP_range ((frB_iff q l s b).1 ok)
  have hl := last_rng l
  have hw : frW q l s b = strOfNums ((b.size : Int) :: q :: (if l = true then 1 else 0) :: s :: bytesOf b) := by
    rw [frW_ok q l s b ok]
    conv => lhs; rw [ba_str b]
    rw [str_append, ← ba_str b]
    rfl
  rw [hw, ext_of, List.drop_zero]
  by_cases h4 : m < 4
  · unfold frR
    rw [if_pos (by rw [strOfNums_size, List.length_take]; omega)]
  · obtain ⟨n, rfl⟩ : ∃ n, m = n + 1 + 1 + 1 + 1 := ⟨m - 4, by omega⟩
    simp only [List.take_succ_cons]
    unfold frR
    rw [bt0 _ _ (by omega), bt1 _ _ _ (by omega), bt2 _ _ _ _ (by omega), bt3 _ _ _ _ _ (by omega), strOfNums_size]
    have hlen : (((b.size : Int) :: q :: (if l = true then 1 else 0) :: s :: (bytesOf b).take n).length : Int) = 4 + (n : Int) := by
      simp only [List.length_cons, List.length_take, bytesOf_length]
      omega
    rw [hlen, if_neg (by omega), if_neg (by omega), if_pos (by omega)]
theorem frR_nil : frR ⟨#[]⟩ = (0, false, 0, ⟨#[]⟩, 0, 0) := by
  unfold frR
  rw [if_pos (by decide)]
theorem eq4 (q : Int) (l : Bool) (s : Int) (b : ByteArray) : (q == q && (l == l && (s == s && (b.toList == b.toList)))) = true := by simp
theorem ext_join (s : ByteArray) (a b : Nat) (h : a ≤ b) : s.extract 0 a ++ s.extract a b = s.extract 0 b := by
  apply ba_ext
  rw [ByteArray.toList_eq, ByteArray.toList_eq, ByteArray.data_append, Array.toList_append, ByteArray.data_extract, ByteArray.data_extract, ByteArray.data_extract, Array.toList_extract, Array.toList_extract, Array.toList_extract, List.extract_eq_take_drop, List.extract_eq_take_drop, List.extract_eq_take_drop]
  simp only [List.drop_zero, Nat.sub_zero]
  rw [← List.take_add, Nat.add_sub_cancel' h]
theorem bytes4 (s : ByteArray) : ((List.range 4).map fun i : Nat => bt s (i : Int)) = [bt s 0, bt s 1, bt s 2, bt s 3] := rfl
/-- What is read as a frame is one, and the bytes are its own. -/
theorem frR_strict (x : ByteArray) (q : Int) (l : Bool) (s : Int) (b : ByteArray) (u : Int) (h : frR x = (q, l, s, b, u, 1)) :
    frB q l s b = true ∧ 4 ≤ u ∧ u ≤ (x.size : Int) ∧ (bt x 0 = (b.size : Int) ∧ bt x 1 = q ∧ bt x 2 = (if l = true then 1 else 0) ∧ bt x 3 = s) ∧ frW q l s b = x.extract 0 u.toNat := by
  have r0 := bt_range x 0
  have r2 := bt_range x 2
  unfold frR at h
  by_cases h4 : (x.size : Int) < 4
  · rw [if_pos h4] at h; simp at h
  · rw [if_neg h4] at h
    by_cases hb : bt x 0 > 200 ∨ bt x 2 > 1
    · rw [if_pos hb] at h; simp at h
    · rw [if_neg hb] at h
      by_cases hl : (x.size : Int) < 4 + bt x 0
      · rw [if_pos hl] at h; simp at h
      · rw [if_neg hl] at h
        by_cases ok : frB (bt x 1) (bt x 2 == 1) (bt x 3) (x.extract 4 (4 + bt x 0).toNat) = true
        · rw [if_pos ok] at h
          simp only [Prod.mk.injEq, and_true] at h
          obtain ⟨rfl, rfl, rfl, rfl, rfl⟩ := h
          have hsz : ((x.extract 4 (4 + bt x 0).toNat).size : Int) = bt x 0 := by rw [ByteArray.size_extract]; omega
          have hlast : (if (bt x 2 == 1) = true then (1 : Int) else 0) = bt x 2 := by
            by_cases e : bt x 2 = 1
            · rw [e]; rfl
            · have e0 : bt x 2 = 0 := by omega
              rw [e0]; rfl
          refine ⟨ok, by omega, by omega, ⟨hsz.symm, rfl, hlast.symm, rfl⟩, ?_⟩
          rw [frW_ok _ _ _ _ ok]
          unfold frL
          rw [hsz, hlast]
          have e4 := ext_str x 4 (by omega)
          rw [bytes4] at e4
          rw [← e4, ext_join x 4 _ (by omega)]
        · rw [if_neg ok] at h; simp at h
theorem FnFrameLack : laws_FnFrameLack.Pure := by
  intro l0 l1 _ _ h0 _ _ _
  refine ⟨60, Te.tells ?_⟩
  have hj : ∀ c, Te (laws_FnFrameLack.j0 60 l0 l1 c) (fun x => x = true) := by
    intro c
    simp only [laws_FnFrameLack.j0]
    refine Te.ite (fun _ => Te.now rfl) (fun _ => ?_)
    refine (drawFrameWrite_ok 9 l0 h0).bind ?_
    rintro ⟨q, l, s, b⟩ _
    dsimp only
    rw [iFrameWrite_eq, Option.bind_some, sFrameWrite_ge 59 (by omega), Option.bind_some, if_pos rfl]
    by_cases ok : frB q l s b = true
    · have hne : ((frW q l s b).toList == ([] : List UInt8)) = false := by
        rw [beq_eq_false_iff_ne]
        exact fun h => (frW_nil q l s b).1 h ok
      have hz := frW_len q l s b ok
      rw [hne]
      simp only [laws_FnFrameLack.j1]
      have m0 : 0 ≤ (l1.length : Int) % ((frW q l s b).size : Int) := Int.emod_nonneg _ (by omega)
      have m1 : (l1.length : Int) % ((frW q l s b).size : Int) < ((frW q l s b).size : Int) := Int.emod_lt_of_pos _ (by omega)
      generalize (l1.length : Int) % ((frW q l s b).size : Int) = m at m0 m1 ⊢
      rw [if_neg (by decide), if_neg (by omega), if_pos m0, if_pos (by omega), iFrameRead_eq 57, Option.bind_some, iFrameRead_eq 57, Option.bind_some, frR_lack q l s b ok m.toNat (by omega), frR_nil]
      dsimp only
      rw [if_pos rfl, if_pos rfl]
      exact Te.now rfl
    · have hni : ((frW q l s b).toList == ([] : List UInt8)) = true := by
        rw [beq_iff_eq]
        exact (frW_nil q l s b).2 ok
      rw [hni]
      simp only [laws_FnFrameLack.j1]
      rw [if_pos trivial, sFrameWrite_ge 58 (by omega), Option.bind_some]
      exact Te.now (by simp)
  unfold laws_FnFrameLack.f
  exact Te.ite (fun _ => hj _) (fun _ => hj _)
end Go.Proofs.Ytdahdgdnpooegaa.Pure
