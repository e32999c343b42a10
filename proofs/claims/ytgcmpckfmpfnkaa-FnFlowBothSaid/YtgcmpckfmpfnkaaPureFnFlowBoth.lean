/-
  The law FnFlowBoth's plain function answers true at every two lists of bytes, no condition beyond the given bounds.
-/
import Derived.Test.YtgcmpckfmpfnkaaQx2
import Derived.Test.YtgcmpckfmpfnkaaQx3
import Derived.Test.YtgcmpckfmpfnkaaQx5
import Derived.Test.YtgcmpckfmpfnkaaQx6
import Derived.Laws.Bits64
import Derived.Laws.BitsAllLaws
import Derived.SizedLaws
namespace Go.Proofs.Ytgcmpckfmpfnkaa.Pure
open Go Go.RowKit Go.Proofs.Ytgcmpckfmpfnkaa.Q Go.Proofs.YtgcmpckfmpfnkaaW.PrintWords Go.Proofs.YtgcmpckfmpfnkaaW.PrintLast Go.Proofs.YtgcmpckfmpfnkaaW.PrintMore
/-- An answer that is there, and of which P holds. -/
def Te {α : Type} (o : Option α) (P : α → Prop) : Prop := ∃ r, o = some r ∧ P r
theorem Te.bind {α β : Type} {o : Option α} {f : α → Option β} {P : α → Prop} {Q : β → Prop} (h : Te o P) (k : ∀ r, P r → Te (f r) Q) : Te (o.bind f) Q := by
  obtain ⟨r, rfl, hr⟩ := h
  exact k r hr
theorem Te.now {α : Type} {P : α → Prop} {r : α} (h : P r) : Te (some r) P := ⟨r, rfl, h⟩
theorem Te.ite {α : Type} {c : Prop} [Decidable c] {a b : Option α} {P : α → Prop} (h : c → Te a P) (k : ¬ c → Te b P) : Te (if c then a else b) P := by
  by_cases hc : c
  · rw [if_pos hc]; exact h hc
  · rw [if_neg hc]; exact k hc
theorem Te.mono {α : Type} {o : Option α} {P Q : α → Prop} (h : Te o P) (k : ∀ r, P r → Q r) : Te o Q := by
  obtain ⟨r, e, hr⟩ := h
  exact ⟨r, e, k r hr⟩
theorem Te.of_eq {α : Type} {o : Option α} {r : α} {P : α → Prop} (e : o = some r) (h : P r) : Te o P := ⟨r, e, h⟩
theorem Te.tells {α : Type} {o : Option α} {r : α} (h : Te o (fun x => x = r)) : o = some r := by
  obtain ⟨x, e, rfl⟩ := h
  exact e
theorem w64 (n : Int) (h : -9223372036854775808 ≤ n) (h' : n ≤ 9223372036854775807) : wrap64 n = n := by unfold wrap64; omega
theorem u8_range (x : Int) (h : (Lit.int .u8 x).wf = true) : 0 ≤ x ∧ x ≤ 255 := by
  simp [Lit.wf, IntKind.min, IntKind.max, IntKind.bits, IntKind.signed] at h
  omega
theorem xor_nat (a b : Nat) (ha : a < 9223372036854775808) (hb : b < 9223372036854775808) : Go.bits .xor .i64 (a : Int) (b : Int) = ((a ^^^ b : Nat) : Int) := by
  have hx : a ^^^ b < 2 ^ 63 := Nat.xor_lt_two_pow (by omega) (by omega)
  have ha' : a < 18446744073709551616 := by omega
  have hb' : b < 18446744073709551616 := by omega
  show IntKind.i64.wrap ((BitVec.ofInt 64 (a : Int) ^^^ BitVec.ofInt 64 (b : Int)).toNat : Int) = _
  rw [BitVec.toNat_xor, ofInt_u64 a ha', ofInt_u64 b hb', IntKind.wrap_i64]
  omega
theorem rd_range (l : List Int) (hl : ∀ x ∈ l, 0 ≤ x ∧ x ≤ 255) (i : Int) : 0 ≤ rd l i ∧ rd l i ≤ 255 := by
  unfold rd
  by_cases h : i.toNat < l.length
  · rw [List.getD_eq_getElem?_getD, List.getElem?_eq_getElem h]
    exact hl _ (List.getElem_mem h)
  · rw [List.getD_eq_getElem?_getD, List.getElem?_eq_none (by omega)]
    simp
/-- A value of a remainder by a positive number. -/
theorem tmod_rng (x n : Int) (hx : 0 ≤ x) (hn : 1 ≤ n) : 0 ≤ Int.tmod x n ∧ Int.tmod x n < n := by
  rw [Int.tmod_eq_emod_of_nonneg hx]
  exact ⟨Int.emod_nonneg _ (by omega), Int.emod_lt_of_pos _ (by omega)⟩
theorem pick_ok (k : Nat) (l : List Int) (p n : Int) (hl : ∀ x ∈ l, 0 ≤ x ∧ x ≤ 255) (hn : l.length ≤ 2000) (hp : 0 ≤ p) (hp' : p ≤ 1000000) (h1 : 1 ≤ n) (h2 : n ≤ 1000000) :
    Te (spec_l6Rd_pick.f (k + 1) l p n) (fun r => r.2 = p + 1 ∧ 0 ≤ r.1 ∧ r.1 < n) := by
  unfold spec_l6Rd_pick.f
  rw [if_neg (by omega), w64 (p + 1) (by omega) (by omega)]
  simp only [spec_l6Rd_pick.j0]
  rw [w64 (p + 1 - 1) (by omega) (by omega), show p + 1 - 1 = p from by omega]
  refine Te.ite (fun _ => Te.now ⟨rfl, by omega, by omega⟩) (fun hz => ?_)
  have hlen : (l.length : Int) ≠ 0 := by simpa using hz
  refine Te.ite (fun hlt => ?_) (fun hge => ?_)
  · rw [if_pos hp, if_neg (by omega)]
    have hr := rd_range l hl p
    rw [w64 (rd l p) (by omega) (by omega)]
    have ht := tmod_rng (rd l p) n hr.1 h1
    exact Te.now ⟨rfl, ht.1, ht.2⟩
  · have hL : (1 : Int) ≤ l.length := by omega
    rw [if_neg hlen]
    have ha := tmod_rng p l.length hp hL
    rw [if_pos ha.1, if_pos ha.2, w64 (p * 7) (by omega) (by omega), w64 (p * 7 + 3) (by omega) (by omega)]
    have hb := tmod_rng (p * 7 + 3) l.length (by omega) hL
    rw [if_pos hb.1, if_pos hb.2, if_neg (by omega)]
    have r1 := rd_range l hl (Int.tmod p l.length)
    have r2 := rd_range l hl (Int.tmod (p * 7 + 3) l.length)
    generalize rd l (Int.tmod p l.length) = x1 at r1 ⊢
    generalize rd l (Int.tmod (p * 7 + 3) l.length) = x2 at r2 ⊢
    have hd0 : 0 ≤ Int.tdiv p l.length := Int.tdiv_nonneg hp (by omega)
    have hd1 : Int.tdiv p l.length ≤ 1000000 := by
      rw [Int.tdiv_eq_ediv_of_nonneg hp]
      exact Int.le_trans (Int.ediv_le_self _ hp) hp'
    generalize Int.tdiv p l.length = d at hd0 hd1 ⊢
    rw [w64 x1 (by omega) (by omega), w64 x2 (by omega) (by omega), w64 d (by omega) (by omega), w64 (x1 * 131) (by omega) (by omega), w64 (x2 * 1117) (by omega) (by omega), w64 (p * 29) (by omega) (by omega), w64 (d * 53) (by omega) (by omega)]
    rw [w64 (x1 * 131 + x2 * 1117) (by omega) (by omega), w64 (x1 * 131 + x2 * 1117 + p * 29) (by omega) (by omega), w64 (x1 * 131 + x2 * 1117 + p * 29 + d * 53) (by omega) (by omega)]
    have hX0 : 0 ≤ x1 * 131 + x2 * 1117 + p * 29 + d * 53 := by omega
    have hX1 : x1 * 131 + x2 * 1117 + p * 29 + d * 53 ≤ 1000000000 := by omega
    generalize x1 * 131 + x2 * 1117 + p * 29 + d * 53 = X at hX0 hX1 ⊢
    obtain ⟨N, rfl⟩ := Int.eq_ofNat_of_zero_le hX0
    have hq : Int.tdiv (N : Int) 64 = ((N / 64 : Nat) : Int) := by rw [Int.tdiv_eq_ediv_of_nonneg hX0]; omega
    rw [hq, w64 ((N / 64 : Nat) : Int) (by omega) (by omega), xor_nat N (N / 64) (by omega) (by omega)]
    have ht := tmod_rng ((N ^^^ N / 64 : Nat) : Int) n (by omega) h1
    exact Te.now ⟨rfl, ht.1, ht.2⟩
/-- What a reader of a code holds: bytes, few of them, and a place. -/
def Rd (l : List Int) (p : Int) : Prop := (∀ x ∈ l, 0 ≤ x ∧ x ≤ 255) ∧ l.length ≤ 2000 ∧ 0 ≤ p
theorem pick_rd (k : Nat) (l : List Int) (p n : Int) (h : Rd l p) (hp' : p ≤ 1000000) (h1 : 1 ≤ n) (h2 : n ≤ 1000000) :
    Te (spec_l6Rd_pick.f (k + 1) l p n) (fun r => r.2 = p + 1 ∧ 0 ≤ r.1 ∧ r.1 < n) := pick_ok k l p n h.1 h.2.1 h.2.2 hp' h1 h2
theorem Rd.next {l : List Int} {p q : Int} (h : Rd l p) (hq : p ≤ q) : Rd l q := ⟨h.1, h.2.1, Int.le_trans h.2.2 hq⟩
theorem open_ok (l : List Int) (hl : ∀ x ∈ l, (Lit.int .u8 x).wf = true) : Te (spec_l6Open.f l) (fun r => Rd r.1 0 ∧ r.2 = 0) := by
  unfold spec_l6Open.f
  refine Te.ite (fun h => ?_) (fun h => ?_)
  · rw [if_pos (by omega)]
    exact Te.now ⟨⟨fun x hx => u8_range x (hl x (List.mem_of_mem_take hx)), by simp; omega, Int.le_refl 0⟩, rfl⟩
  · exact Te.now ⟨⟨fun x hx => u8_range x (hl x hx), by show l.length ≤ 2000; omega, Int.le_refl 0⟩, rfl⟩
/-- A flow within its bounds. -/
def flB (s r : Int) : Bool := decide (0 ≤ s ∧ s ≤ 31 ∧ 0 ≤ r ∧ r ≤ 31)
theorem l6In_eq (a b c : Int) : spec_l6In.f a b c = some (decide (b ≤ a ∧ a ≤ c)) := by
  unfold spec_l6In.f
  by_cases h : b ≤ a <;> simp [h]
theorem in_eq (a b c : Int) : impl_in.f a b c = some (decide (b ≤ a ∧ a ≤ c)) := by
  unfold impl_in.f
  by_cases h : b ≤ a <;> simp [h]
theorem sFlowOk_eq (s r : Int) : spec_FlowOk.f s r = some (flB s r) := by
  unfold spec_FlowOk.f flB
  simp only [l6In_eq, Option.bind_some]
  by_cases h : 0 ≤ s ∧ s ≤ 31
  · rw [if_pos (by simpa using h)]; congr 1; simp [h.1, h.2]
  · rw [if_neg (by simpa using h)]; congr 1; symm; simp; omega
theorem iFlowOk_eq (s r : Int) : impl_FlowOk.f s r = some (flB s r) := by
  unfold impl_FlowOk.f flB
  simp only [in_eq, Option.bind_some]
  by_cases h : 0 ≤ s ∧ s ≤ 31
  · rw [if_pos (by simpa using h)]; congr 1; simp [h.1, h.2]
  · rw [if_neg (by simpa using h)]; congr 1; symm; simp; omega
theorem flB_iff (s r : Int) : flB s r = true ↔ 0 ≤ s ∧ s ≤ 31 ∧ 0 ≤ r ∧ r ≤ 31 := by unfold flB; simp
theorem l71Flow_ok (k : Nat) (l : List Int) (p : Int) (h : Rd l p) (hp : p ≤ 1000) :
    Te (spec_l71Flow.f (k + 1) l p) (fun r => p ≤ r.2.2 ∧ r.2.2 ≤ p + 4 ∧ -1 ≤ r.1 ∧ r.1 ≤ 32 ∧ 0 ≤ r.2.1 ∧ r.2.1 ≤ 31) := by
  unfold spec_l71Flow.f
  refine (pick_rd k l p 32 h (by omega) (by omega) (by omega)).bind ?_
  rintro ⟨v1, p1⟩ ⟨h1, h2, h3⟩
  refine (pick_rd k l p1 32 (h.next (by omega)) (by omega) (by omega) (by omega)).bind ?_
  rintro ⟨v2, p2⟩ ⟨h4, h5, h6⟩
  refine (pick_rd k l p2 20 (h.next (by omega)) (by omega) (by omega) (by omega)).bind ?_
  rintro ⟨v3, p3⟩ ⟨h7, h8, h9⟩
  refine Te.ite (fun _ => ?_) (fun _ => ?_)
  · rw [Option.bind_some]
    refine (pick_rd k l p3 2 (h.next (by omega)) (by omega) (by omega) (by omega)).bind ?_
    rintro ⟨v4, p4⟩ ⟨ha, hb, hc⟩
    rw [if_pos hb, if_pos (by simpa using hc)]
    have hv : v4 = 0 ∨ v4 = 1 := by omega
    rcases hv with rfl | rfl
    · exact Te.now ⟨by simp at *; omega, by simp at *; omega, by simp [rd], by simp [rd], by simp; omega, by simp; omega⟩
    · exact Te.now ⟨by simp at *; omega, by simp at *; omega, by simp [rd], by simp [rd], by simp; omega, by simp; omega⟩
  · exact Te.now ⟨by simp at *; omega, by simp at *; omega, by simp; omega, by simp; omega, by simp; omega, by simp; omega⟩
theorem drawFlowSend_ok (k : Nat) (l : List Int) (hl : ∀ x ∈ l, (Lit.int .u8 x).wf = true) :
    Te (spec_DrawFlowSend.f (k + 1) l) (fun r => -1 ≤ r.1 ∧ r.1 ≤ 32 ∧ 0 ≤ r.2.1 ∧ r.2.1 ≤ 31 ∧ -1 ≤ r.2.2 ∧ r.2.2 ≤ 20) := by
  unfold spec_DrawFlowSend.f
  refine (open_ok l hl).bind ?_
  rintro ⟨b, p⟩ ⟨hr, rfl⟩
  refine (l71Flow_ok k b 0 hr (by omega)).bind ?_
  rintro ⟨s, r, q⟩ ⟨h1, h2, h3, h4, h5, h6⟩
  dsimp only at h1 h2 h3 h4 h5 h6 ⊢
  refine (pick_rd k b q 20 (hr.next (by omega)) (by omega) (by omega) (by omega)).bind ?_
  rintro ⟨v, q2⟩ ⟨h7, h8, h9⟩
  dsimp only at h7 h8 h9 ⊢
  rw [w64 _ (by omega) (by omega)]
  exact Te.now ⟨h3, h4, h5, h6, by dsimp only; omega, by dsimp only; omega⟩
/-- What FlowSend answers. -/
def sendF (s r n : Int) : Int × Int × Bool := if flB s r = true ∧ 0 ≤ n ∧ n ≤ s then (s - n, r, true) else (0, 0, false)
theorem sSend_eq (s r n : Int) : spec_FlowSend.f s r n = some (sendF s r n) := by
  unfold spec_FlowSend.f sendF
  simp only [sFlowOk_eq, l6In_eq, Option.bind_some]
  by_cases hf : flB s r = true
  · have hb := (flB_iff s r).1 hf
    rw [if_pos hf]
    by_cases hn : 0 ≤ n ∧ n ≤ s
    · rw [if_pos (by simpa using hn), if_pos ⟨hf, hn⟩, w64 (s - n) (by omega) (by omega)]
    · rw [if_neg (by simpa using hn), if_neg (fun h => hn h.2)]
  · rw [if_neg hf, if_neg (fun h => hf h.1)]
theorem iSend_eq (s r n : Int) : impl_FlowSend.f s r n = some (sendF s r n) := by
  unfold impl_FlowSend.f sendF
  simp only [iFlowOk_eq, in_eq, Option.bind_some]
  by_cases hf : flB s r = true
  · have hb := (flB_iff s r).1 hf
    rw [if_pos hf]
    by_cases hn : 0 ≤ n ∧ n ≤ s
    · rw [if_pos (by simpa using hn), if_pos ⟨hf, hn⟩, w64 (s - n) (by omega) (by omega)]
    · rw [if_neg (by simpa using hn), if_neg (fun h => hn h.2)]
  · rw [if_neg hf, if_neg (fun h => hf h.1)]
/-- What FlowGot answers. -/
def gotF (s r n : Int) : Int × Int × Bool := if flB s r = true ∧ 0 ≤ n ∧ n ≤ r then (s, r - n, true) else (0, 0, false)
theorem iGot_eq (s r n : Int) : impl_FlowGot.f s r n = some (gotF s r n) := by
  unfold impl_FlowGot.f gotF
  simp only [iFlowOk_eq, in_eq, Option.bind_some]
  by_cases hf : flB s r = true
  · have hb := (flB_iff s r).1 hf
    rw [if_pos hf]
    by_cases hn : 0 ≤ n ∧ n ≤ r
    · rw [if_pos (by simpa using hn), if_pos ⟨hf, hn⟩, w64 (r - n) (by omega) (by omega)]
    · rw [if_neg (by simpa using hn), if_neg (fun h => hn h.2)]
  · rw [if_neg hf, if_neg (fun h => hf h.1)]
theorem FnFlowBoth : laws_FnFlowBoth.Pure := by
  intro l0 l1 _ _ h0 _ _ h1
  refine ⟨3, Te.tells ?_⟩
  have hj : ∀ b, Te (laws_FnFlowBoth.j0 3 l0 l1 b) (fun x => x = true) := by
    intro b
    simp only [laws_FnFlowBoth.j0]
    refine Te.ite (fun _ => Te.now rfl) (fun _ => ?_)
    refine (drawFlowSend_ok 1 l0 h0).bind ?_
    rintro ⟨s, r, n⟩ ⟨a1, a2, a3, a4, a5, a6⟩
    dsimp only at a1 a2 a3 a4 a5 a6 ⊢
    simp only [iSend_eq, sSend_eq, iGot_eq, Option.bind_some, laws_FnFlowBoth.j1]
    rw [if_neg (by simp), if_neg (by simp)]
    by_cases hs : flB s r = true ∧ 0 ≤ n ∧ n ≤ s
    · have hb := (flB_iff s r).1 hs.1
      have e1 : sendF s r n = (s - n, r, true) := by unfold sendF; rw [if_pos hs]
      rw [e1]
      dsimp only
      rw [if_neg (by decide)]
      have hk0 : 0 ≤ (l1.length : Int) % 10 := by omega
      generalize (l1.length : Int) % 10 = m at hk0 ⊢
      by_cases hm : m ≤ r
      · have e2 : gotF s r m = (s, r - m, true) := by unfold gotF; rw [if_pos ⟨hs.1, hk0, hm⟩]
        have e3 : gotF (s - n) r m = (s - n, r - m, true) := by unfold gotF; rw [if_pos ⟨(flB_iff _ _).2 ⟨by omega, by omega, hb.2.2⟩, hk0, hm⟩]
        have e4 : sendF s (r - m) n = (s - n, r - m, true) := by unfold sendF; rw [if_pos ⟨(flB_iff _ _).2 ⟨by omega, by omega, by omega, by omega⟩, hs.2⟩]
        rw [e2, e3]
        dsimp only
        rw [e4, if_pos rfl, if_pos rfl]
        dsimp only
        rw [if_pos rfl]
        exact Te.now (by simp)
      · have e2 : gotF s r m = (0, 0, false) := by unfold gotF; rw [if_neg (fun h => hm h.2.2)]
        have e3 : gotF (s - n) r m = (0, 0, false) := by unfold gotF; rw [if_neg (fun h => hm h.2.2)]
        rw [e2, e3]
        exact Te.now rfl
    · have e1 : sendF s r n = (0, 0, false) := by unfold sendF; rw [if_neg hs]
      rw [e1]
      exact Te.now rfl
  unfold laws_FnFlowBoth.f
  exact Te.ite (fun _ => hj _) (fun _ => hj _)
end Go.Proofs.Ytgcmpckfmpfnkaa.Pure
