/-
  The law FnExactFlowSend's plain function answers true at every flow and number.
-/
import Derived.Test.YtgcmpckfmpfnkaaESendx1
import Derived.Test.YtgcmpckfmpfnkaaESendx2
import Derived.Test.YtgcmpckfmpfnkaaESendx3
import Derived.Laws.Bits64
import Derived.Laws.BitsAllLaws
import Derived.SizedLaws
namespace Go.Proofs.Ytgcmpckfmpfnkaa.Pure
open Go Go.RowKit Go.Proofs.Ytgcmpckfmpfnkaa.ESend Go.Proofs.YtgcmpckfmpfnkaaW.PrintWords Go.Proofs.YtgcmpckfmpfnkaaW.PrintLast Go.Proofs.YtgcmpckfmpfnkaaW.PrintMore
/-- An answer that is there, and of which P holds. -/
def Te {α : Type} (o : Option α) (P : α → Prop) : Prop := ∃ r, o = some r ∧ P r
theorem Te.bind {α β : Type} {o : Option α} {f : α → Option β} {P : α → Prop} {Q : β → Prop} (h : Te o P) (k : ∀ r, P r → Te (f r) Q) : Te (o.bind f) Q := by
  obtain ⟨r, rfl, hr⟩ := h
  exact k r hr
theorem Te.now {α : Type} {P : α → Prop} {r : α} (h : P r) : Te (some r) P := ⟨r, rfl, h⟩
theorem Te.ite {α : Type} {c : Prop} [Decidable c] {a b : Option α} {P : α → Prop} (h : c → Te a P) (k : ¬ c → Te b P) : Te (if c then a else b) P := by
  by_cases hc : c
  · rw [if_pos hc]; exact h hc
  · rw [if_neg hc]; exact k hc
theorem Te.mono {α : Type} {o : Option α} {P Q : α → Prop} (h : Te o P) (k : ∀ r, P r → Q r) : Te o Q := by
  obtain ⟨r, e, hr⟩ := h
  exact ⟨r, e, k r hr⟩
theorem Te.of_eq {α : Type} {o : Option α} {r : α} {P : α → Prop} (e : o = some r) (h : P r) : Te o P := ⟨r, e, h⟩
theorem Te.tells {α : Type} {o : Option α} {r : α} (h : Te o (fun x => x = r)) : o = some r := by
  obtain ⟨x, e, rfl⟩ := h
  exact e
theorem w64 (n : Int) (h : -9223372036854775808 ≤ n) (h' : n ≤ 9223372036854775807) : wrap64 n = n := by unfold wrap64; omega
theorem u8_range (x : Int) (h : (Lit.int .u8 x).wf = true) : 0 ≤ x ∧ x ≤ 255 := by
  simp [Lit.wf, IntKind.min, IntKind.max, IntKind.bits, IntKind.signed] at h
  omega
theorem xor_nat (a b : Nat) (ha : a < 9223372036854775808) (hb : b < 9223372036854775808) : Go.bits .xor .i64 (a : Int) (b : Int) = ((a ^^^ b : Nat) : Int) := by
  have hx : a ^^^ b < 2 ^ 63 := Nat.xor_lt_two_pow (by omega) (by omega)
  have ha' : a < 18446744073709551616 := by omega
  have hb' : b < 18446744073709551616 := by omega
  show IntKind.i64.wrap ((BitVec.ofInt 64 (a : Int) ^^^ BitVec.ofInt 64 (b : Int)).toNat : Int) = _
  rw [BitVec.toNat_xor, ofInt_u64 a ha', ofInt_u64 b hb', IntKind.wrap_i64]
  omega
theorem rd_range (l : List Int) (hl : ∀ x ∈ l, 0 ≤ x ∧ x ≤ 255) (i : Int) : 0 ≤ rd l i ∧ rd l i ≤ 255 := by
  unfold rd
  by_cases h : i.toNat < l.length
  · rw [List.getD_eq_getElem?_getD, List.getElem?_eq_getElem h]
    exact hl _ (List.getElem_mem h)
  · rw [List.getD_eq_getElem?_getD, List.getElem?_eq_none (by omega)]
    simp
/-- A value of a remainder by a positive number. -/
theorem tmod_rng (x n : Int) (hx : 0 ≤ x) (hn : 1 ≤ n) : 0 ≤ Int.tmod x n ∧ Int.tmod x n < n := by
  rw [Int.tmod_eq_emod_of_nonneg hx]
  exact ⟨Int.emod_nonneg _ (by omega), Int.emod_lt_of_pos _ (by omega)⟩
/-- A flow within its bounds. -/
def flB (s r : Int) : Bool := decide (0 ≤ s ∧ s ≤ 31 ∧ 0 ≤ r ∧ r ≤ 31)
theorem l6In_eq (a b c : Int) : spec_l6In.f a b c = some (decide (b ≤ a ∧ a ≤ c)) := by
  unfold spec_l6In.f
  by_cases h : b ≤ a <;> simp [h]
theorem in_eq (a b c : Int) : impl_in.f a b c = some (decide (b ≤ a ∧ a ≤ c)) := by
  unfold impl_in.f
  by_cases h : b ≤ a <;> simp [h]
theorem sFlowOk_eq (s r : Int) : spec_FlowOk.f s r = some (flB s r) := by
  unfold spec_FlowOk.f flB
  simp only [l6In_eq, Option.bind_some]
  by_cases h : 0 ≤ s ∧ s ≤ 31
  · rw [if_pos (by simpa using h)]; congr 1; simp [h.1, h.2]
  · rw [if_neg (by simpa using h)]; congr 1; symm; simp; omega
theorem iFlowOk_eq (s r : Int) : impl_FlowOk.f s r = some (flB s r) := by
  unfold impl_FlowOk.f flB
  simp only [in_eq, Option.bind_some]
  by_cases h : 0 ≤ s ∧ s ≤ 31
  · rw [if_pos (by simpa using h)]; congr 1; simp [h.1, h.2]
  · rw [if_neg (by simpa using h)]; congr 1; symm; simp; omega
theorem flB_iff (s r : Int) : flB s r = true ↔ 0 ≤ s ∧ s ≤ 31 ∧ 0 ≤ r ∧ r ≤ 31 := by unfold flB; simp
/-- What FlowSend answers. -/
def sendF (s r n : Int) : Int × Int × Bool := if flB s r = true ∧ 0 ≤ n ∧ n ≤ s then (s - n, r, true) else (0, 0, false)
theorem sSend_eq (s r n : Int) : spec_FlowSend.f s r n = some (sendF s r n) := by
  unfold spec_FlowSend.f sendF
  simp only [sFlowOk_eq, l6In_eq, Option.bind_some]
  by_cases hf : flB s r = true
  · have hb := (flB_iff s r).1 hf
    rw [if_pos hf]
    by_cases hn : 0 ≤ n ∧ n ≤ s
    · rw [if_pos (by simpa using hn), if_pos ⟨hf, hn⟩, w64 (s - n) (by omega) (by omega)]
    · rw [if_neg (by simpa using hn), if_neg (fun h => hn h.2)]
  · rw [if_neg hf, if_neg (fun h => hf h.1)]
theorem iSend_eq (s r n : Int) : impl_FlowSend.f s r n = some (sendF s r n) := by
  unfold impl_FlowSend.f sendF
  simp only [iFlowOk_eq, in_eq, Option.bind_some]
  by_cases hf : flB s r = true
  · have hb := (flB_iff s r).1 hf
    rw [if_pos hf]
    by_cases hn : 0 ≤ n ∧ n ≤ s
    · rw [if_pos (by simpa using hn), if_pos ⟨hf, hn⟩, w64 (s - n) (by omega) (by omega)]
    · rw [if_neg (by simpa using hn), if_neg (fun h => hn h.2)]
  · rw [if_neg hf, if_neg (fun h => hf h.1)]
theorem eqFlow_self (a b : Int) : laws_eqFlow.f a b a b = some true := by
  unfold laws_eqFlow.f
  rw [if_pos rfl, if_pos rfl]
theorem xFlowSend (s r n : Int) : laws_FnExactFlowSend.f s r n = some true := by
  unfold laws_FnExactFlowSend.f laws_toFlow.f
  simp only [sSend_eq, iSend_eq, eqFlow_self, Option.bind_some]
  rw [if_pos trivial, if_neg (by simp)]
end Go.Proofs.Ytgcmpckfmpfnkaa.Pure
