/-
  The law FnNumStrict's plain function answers true at every argument within the given bounds.
-/
import Derived.Test.YtngmpffcgglngaaQx1
import Derived.Test.YtngmpffcgglngaaQx2
import Derived.Test.YtngmpffcgglngaaQx3
import Derived.Test.YtngmpffcgglngaaQx4
import Derived.Test.YtngmpffcgglngaaQx5
import Derived.Test.YtngmpffcgglngaaQx6
import Derived.Test.YtngmpffcgglngaaQx12
import Derived.Test.YtngmpffcgglngaaQx13
import Derived.Laws.Bits64
import Derived.Laws.BitsAllLaws
import Derived.SizedLaws
namespace Go.Proofs.Ytngmpffcgglngaa.Pure
open Go Go.RowKit Go.Proofs.Ytngmpffcgglngaa.Q Go.Proofs.YtngmpffcgglngaaW.PrintWords Go.Proofs.YtngmpffcgglngaaW.PrintLast Go.Proofs.YtngmpffcgglngaaW.PrintMore
/-- An answer that is there, and of which P holds. -/
def Te {α : Type} (o : Option α) (P : α → Prop) : Prop := ∃ r, o = some r ∧ P r
theorem Te.bind {α β : Type} {o : Option α} {f : α → Option β} {P : α → Prop} {Q : β → Prop} (h : Te o P) (k : ∀ r, P r → Te (f r) Q) : Te (o.bind f) Q := by
  obtain ⟨r, rfl, hr⟩ := h
  exact k r hr
theorem Te.now {α : Type} {P : α → Prop} {r : α} (h : P r) : Te (some r) P := ⟨r, rfl, h⟩
theorem Te.ite {α : Type} {c : Prop} [Decidable c] {a b : Option α} {P : α → Prop} (h : c → Te a P) (k : ¬ c → Te b P) : Te (if c then a else b) P := by
  by_cases hc : c
  · rw [if_pos hc]; exact h hc
  · rw [if_neg hc]; exact k hc
theorem Te.mono {α : Type} {o : Option α} {P Q : α → Prop} (h : Te o P) (k : ∀ r, P r → Q r) : Te o Q := by
  obtain ⟨r, e, hr⟩ := h
  exact ⟨r, e, k r hr⟩
theorem Te.of_eq {α : Type} {o : Option α} {r : α} {P : α → Prop} (e : o = some r) (h : P r) : Te o P := ⟨r, e, h⟩
theorem Te.tells {α : Type} {o : Option α} {r : α} (h : Te o (fun x => x = r)) : o = some r := by
  obtain ⟨x, e, rfl⟩ := h
  exact e
theorem w64 (n : Int) (h : -9223372036854775808 ≤ n) (h' : n ≤ 9223372036854775807) : wrap64 n = n := by unfold wrap64; omega
theorem u8_range (x : Int) (h : (Lit.int .u8 x).wf = true) : 0 ≤ x ∧ x ≤ 255 := by
  simp [Lit.wf, IntKind.min, IntKind.max, IntKind.bits, IntKind.signed] at h
  omega
theorem xor_nat (a b : Nat) (ha : a < 9223372036854775808) (hb : b < 9223372036854775808) : Go.bits .xor .i64 (a : Int) (b : Int) = ((a ^^^ b : Nat) : Int) := by
  have hx : a ^^^ b < 2 ^ 63 := Nat.xor_lt_two_pow (by omega) (by omega)
  have ha' : a < 18446744073709551616 := by omega
  have hb' : b < 18446744073709551616 := by omega
  show IntKind.i64.wrap ((BitVec.ofInt 64 (a : Int) ^^^ BitVec.ofInt 64 (b : Int)).toNat : Int) = _
  rw [BitVec.toNat_xor, ofInt_u64 a ha', ofInt_u64 b hb', IntKind.wrap_i64]
  omega
theorem rd_range (l : List Int) (hl : ∀ x ∈ l, 0 ≤ x ∧ x ≤ 255) (i : Int) : 0 ≤ rd l i ∧ rd l i ≤ 255 := by
  unfold rd
  by_cases h : i.toNat < l.length
  · rw [List.getD_eq_getElem?_getD, List.getElem?_eq_getElem h]
    exact hl _ (List.getElem_mem h)
  · rw [List.getD_eq_getElem?_getD, List.getElem?_eq_none (by omega)]
    simp
/-- A value of a remainder by a positive number. -/
theorem tmod_rng (x n : Int) (hx : 0 ≤ x) (hn : 1 ≤ n) : 0 ≤ Int.tmod x n ∧ Int.tmod x n < n := by
  rw [Int.tmod_eq_emod_of_nonneg hx]
  exact ⟨Int.emod_nonneg _ (by omega), Int.emod_lt_of_pos _ (by omega)⟩
theorem pick_ok (k : Nat) (l : List Int) (p n : Int) (hl : ∀ x ∈ l, 0 ≤ x ∧ x ≤ 255) (hn : l.length ≤ 2000) (hp : 0 ≤ p) (hp' : p ≤ 1000000) (h1 : 1 ≤ n) (h2 : n ≤ 1000000) :
    Te (spec_l6Rd_pick.f (k + 1) l p n) (fun r => r.2 = p + 1 ∧ 0 ≤ r.1 ∧ r.1 < n) := by
  unfold spec_l6Rd_pick.f
  rw [if_neg (by omega), w64 (p + 1) (by omega) (by omega)]
  simp only [spec_l6Rd_pick.j0]
  rw [w64 (p + 1 - 1) (by omega) (by omega), show p + 1 - 1 = p from by omega]
  refine Te.ite (fun _ => Te.now ⟨rfl, by omega, by omega⟩) (fun hz => ?_)
  have hlen : (l.length : Int) ≠ 0 := by simpa using hz
  refine Te.ite (fun hlt => ?_) (fun hge => ?_)
  · rw [if_pos hp, if_neg (by omega)]
    have hr := rd_range l hl p
    rw [w64 (rd l p) (by omega) (by omega)]
    have ht := tmod_rng (rd l p) n hr.1 h1
    exact Te.now ⟨rfl, ht.1, ht.2⟩
  · have hL : (1 : Int) ≤ l.length := by omega
    rw [if_neg hlen]
    have ha := tmod_rng p l.length hp hL
    rw [if_pos ha.1, if_pos ha.2, w64 (p * 7) (by omega) (by omega), w64 (p * 7 + 3) (by omega) (by omega)]
    have hb := tmod_rng (p * 7 + 3) l.length (by omega) hL
    rw [if_pos hb.1, if_pos hb.2, if_neg (by omega)]
    have r1 := rd_range l hl (Int.tmod p l.length)
    have r2 := rd_range l hl (Int.tmod (p * 7 + 3) l.length)
    generalize rd l (Int.tmod p l.length) = x1 at r1 ⊢
    generalize rd l (Int.tmod (p * 7 + 3) l.length) = x2 at r2 ⊢
    have hd0 : 0 ≤ Int.tdiv p l.length := Int.tdiv_nonneg hp (by omega)
    have hd1 : Int.tdiv p l.length ≤ 1000000 := by
      rw [Int.tdiv_eq_ediv_of_nonneg hp]
      exact Int.le_trans (Int.ediv_le_self _ hp) hp'
    generalize Int.tdiv p l.length = d at hd0 hd1 ⊢
    rw [w64 x1 (by omega) (by omega), w64 x2 (by omega) (by omega), w64 d (by omega) (by omega), w64 (x1 * 131) (by omega) (by omega), w64 (x2 * 1117) (by omega) (by omega), w64 (p * 29) (by omega) (by omega), w64 (d * 53) (by omega) (by omega)]
    rw [w64 (x1 * 131 + x2 * 1117) (by omega) (by omega), w64 (x1 * 131 + x2 * 1117 + p * 29) (by omega) (by omega), w64 (x1 * 131 + x2 * 1117 + p * 29 + d * 53) (by omega) (by omega)]
    have hX0 : 0 ≤ x1 * 131 + x2 * 1117 + p * 29 + d * 53 := by omega
    have hX1 : x1 * 131 + x2 * 1117 + p * 29 + d * 53 ≤ 1000000000 := by omega
    generalize x1 * 131 + x2 * 1117 + p * 29 + d * 53 = X at hX0 hX1 ⊢
    obtain ⟨N, rfl⟩ := Int.eq_ofNat_of_zero_le hX0
    have hq : Int.tdiv (N : Int) 64 = ((N / 64 : Nat) : Int) := by rw [Int.tdiv_eq_ediv_of_nonneg hX0]; omega
    rw [hq, w64 ((N / 64 : Nat) : Int) (by omega) (by omega), xor_nat N (N / 64) (by omega) (by omega)]
    have ht := tmod_rng ((N ^^^ N / 64 : Nat) : Int) n (by omega) h1
    exact Te.now ⟨rfl, ht.1, ht.2⟩
/-- What a reader of a code holds: bytes, few of them, and a place. -/
def Rd (l : List Int) (p : Int) : Prop := (∀ x ∈ l, 0 ≤ x ∧ x ≤ 255) ∧ l.length ≤ 2000 ∧ 0 ≤ p
theorem pick_rd (k : Nat) (l : List Int) (p n : Int) (h : Rd l p) (hp' : p ≤ 1000000) (h1 : 1 ≤ n) (h2 : n ≤ 1000000) :
    Te (spec_l6Rd_pick.f (k + 1) l p n) (fun r => r.2 = p + 1 ∧ 0 ≤ r.1 ∧ r.1 < n) := pick_ok k l p n h.1 h.2.1 h.2.2 hp' h1 h2
theorem Rd.next {l : List Int} {p q : Int} (h : Rd l p) (hq : p ≤ q) : Rd l q := ⟨h.1, h.2.1, Int.le_trans h.2.2 hq⟩
theorem open_ok (l : List Int) (hl : ∀ x ∈ l, (Lit.int .u8 x).wf = true) : Te (spec_l6Open.f l) (fun r => Rd r.1 0 ∧ r.2 = 0) := by
  unfold spec_l6Open.f
  refine Te.ite (fun h => ?_) (fun h => ?_)
  · rw [if_pos (by omega)]
    exact Te.now ⟨⟨fun x hx => u8_range x (hl x (List.mem_of_mem_take hx)), by simp; omega, Int.le_refl 0⟩, rfl⟩
  · exact Te.now ⟨⟨fun x hx => u8_range x (hl x hx), by show l.length ≤ 2000; omega, Int.le_refl 0⟩, rfl⟩
theorem or_nat (a b : Nat) (ha : a < 9223372036854775808) (hb : b < 9223372036854775808) : Go.bits .or .i64 (a : Int) (b : Int) = ((a ||| b : Nat) : Int) := by
  have hx : a ||| b < 2 ^ 63 := Nat.or_lt_two_pow (by omega) (by omega)
  have ha' : a < 18446744073709551616 := by omega
  have hb' : b < 18446744073709551616 := by omega
  show IntKind.i64.wrap ((BitVec.ofInt 64 (a : Int) ||| BitVec.ofInt 64 (b : Int)).toNat : Int) = _
  rw [BitVec.toNat_or, ofInt_u64 a ha', ofInt_u64 b hb', IntKind.wrap_i64]
  omega
theorem and_nat (a b : Nat) (ha : a < 9223372036854775808) (hb : b < 9223372036854775808) : Go.bits .and .i64 (a : Int) (b : Int) = ((a &&& b : Nat) : Int) := by
  have hx : a &&& b < 2 ^ 63 := Nat.and_lt_two_pow _ (by omega)
  have ha' : a < 18446744073709551616 := by omega
  have hb' : b < 18446744073709551616 := by omega
  show IntKind.i64.wrap ((BitVec.ofInt 64 (a : Int) &&& BitVec.ofInt 64 (b : Int)).toNat : Int) = _
  rw [BitVec.toNat_and, ofInt_u64 a ha', ofInt_u64 b hb', IntKind.wrap_i64]
  omega
/-- Bits joined: what is ahead, and what is less than a power of two. -/
theorem or_add (i : Nat) (h n : Int) (hi : i ≤ 8) (h0 : 0 ≤ h) (h1 : h ≤ 1000) (n0 : 0 ≤ n) (n1 : n < ((2 ^ i : Nat) : Int)) : Go.bits .or .i64 (h * ((2 ^ i : Nat) : Int)) n = h * ((2 ^ i : Nat) : Int) + n := by
  obtain ⟨H, rfl⟩ := Int.eq_ofNat_of_zero_le h0
  obtain ⟨M, rfl⟩ := Int.eq_ofNat_of_zero_le n0
  have hp : 2 ^ i ≤ 2 ^ 8 := Nat.pow_le_pow_right (by decide) hi
  have hb : H * 2 ^ i ≤ 1000 * 2 ^ 8 := Nat.mul_le_mul (by omega) hp
  have e : ((H : Int) * ((2 ^ i : Nat) : Int)) = ((H * 2 ^ i : Nat) : Int) := (Int.natCast_mul _ _).symm
  have hM : M < 2 ^ i := Int.ofNat_lt.1 n1
  rw [e, or_nat _ _ (by omega) (by omega), nat_join i (H * 2 ^ i) M (Nat.mul_mod_left _ _) hM]
  exact Int.natCast_add _ _
theorem and_mod (i : Nat) (n : Int) (hi : i ≤ 8) (n0 : 0 ≤ n) (n1 : n ≤ 1000000) : Go.bits .and .i64 n (((2 ^ i : Nat) : Int) - 1) = n % ((2 ^ i : Nat) : Int) := by
  obtain ⟨M, rfl⟩ := Int.eq_ofNat_of_zero_le n0
  have hp : 2 ^ i ≤ 2 ^ 8 := Nat.pow_le_pow_right (by decide) hi
  have hq : 0 < 2 ^ i := Nat.pos_of_ne_zero (by simp)
  have e : (((2 ^ i : Nat) : Int) - 1) = ((2 ^ i - 1 : Nat) : Int) := by omega
  rw [e, and_nat _ _ (by omega) (by omega), Nat.and_two_pow_sub_one_eq_mod]
  exact Int.natCast_emod _ _
theorem shl_eq (x b : Int) (i : Nat) (hb : b = (i : Int)) (hi : i ≤ 20) (h0 : 0 ≤ x) (h1 : x ≤ 1000000) : shl .i64 x b = x * ((2 ^ i : Nat) : Int) := by
  subst hb
  unfold shl
  have hp : 2 ^ i ≤ 2 ^ 20 := Nat.pow_le_pow_right (by decide) hi
  obtain ⟨M, rfl⟩ := Int.eq_ofNat_of_zero_le h0
  have hm : M * 2 ^ i ≤ 1000000 * 2 ^ 20 := Nat.mul_le_mul (by omega) hp
  have e1 : min ((i : Int)).toNat IntKind.i64.bits = i := by
    have : IntKind.i64.bits = 64 := rfl
    rw [this]; omega
  have e : ((M : Int) * ((2 ^ i : Nat) : Int)) = ((M * 2 ^ i : Nat) : Int) := (Int.natCast_mul _ _).symm
  rw [e1, show ((M : Int) * (2 : Int) ^ i) = ((M * 2 ^ i : Nat) : Int) from by rw [← e]; simp, e, IntKind.wrap_i64]
  omega
theorem shr_eq (x b : Int) (i : Nat) (hb : b = (i : Int)) (hi : i ≤ 8) : shr .i64 x b = x / ((2 ^ i : Nat) : Int) := by
  subst hb
  unfold shr
  have e1 : min ((i : Int)).toNat IntKind.i64.bits = i := by
    have : IntKind.i64.bits = 64 := rfl
    rw [this]; omega
  rw [e1]; simp
theorem str_list (xs : List Int) : (strOfNums xs).toList = xs.map fun n => UInt8.ofNat n.toNat := by
  rw [ByteArray.toList_eq]; rfl
theorem ba_ext {s t : ByteArray} (h : s.toList = t.toList) : s = t := by
  rw [ByteArray.toList_eq, ByteArray.toList_eq] at h
  exact ByteArray.ext (Array.toList_inj.1 h)
theorem str_append (xs ys : List Int) : strOfNums xs ++ strOfNums ys = strOfNums (xs ++ ys) := by
  apply ba_ext
  simp [ByteArray.toList_eq, strOfNums_data, ByteArray.data_append]
theorem bt_str (xs : List Int) (i : Nat) (x : Int) (hx : xs[i]? = some x) (h0 : 0 ≤ x) (h1 : x ≤ 255) : bt (strOfNums xs) (i : Int) = x := by
  have hi : i < xs.length := by
    rcases Nat.lt_or_ge i xs.length with h | h
    · exact h
    · rw [List.getElem?_eq_none h] at hx; cases hx
  have hs : ((i : Int)).toNat < (strOfNums xs).size := by rw [strOfNums_size]; omega
  rw [← bt_at _ _ hs]
  have e : (strOfNums xs)[((i : Int)).toNat]'hs = UInt8.ofNat x.toNat := by
    have h2 : (strOfNums xs).data.toList[i]? = some (UInt8.ofNat x.toNat) := by rw [strOfNums_data, List.getElem?_map, hx]; rfl
    rw [List.getElem?_eq_some_iff] at h2
    obtain ⟨hh, h3⟩ := h2
    exact h3
  rw [e]
  simp
  omega
/-- The power of two of so many bits, of 3 to 7. -/
def pw (b : Int) : Int := if b = 3 then 8 else if b = 4 then 16 else if b = 5 then 32 else if b = 6 then 64 else 128
theorem pw_all (b : Int) (h3 : 3 ≤ b) (h7 : b ≤ 7) : (b = 3 ∧ pw b = 8) ∨ (b = 4 ∧ pw b = 16) ∨ (b = 5 ∧ pw b = 32) ∨ (b = 6 ∧ pw b = 64) ∨ (b = 7 ∧ pw b = 128) := by
  have h : b = 3 ∨ b = 4 ∨ b = 5 ∨ b = 6 ∨ b = 7 := by omega
  rcases h with rfl | rfl | rfl | rfl | rfl <;> simp [pw]
theorem pw_nat (b : Int) (h3 : 3 ≤ b) (h7 : b ≤ 7) : ∃ i : Nat, b = (i : Int) ∧ i ≤ 7 ∧ 3 ≤ i ∧ pw b = ((2 ^ i : Nat) : Int) ∧ 256 / pw b = ((2 ^ (8 - i) : Nat) : Int) := by
  rcases pw_all b h3 h7 with ⟨rfl, e⟩ | ⟨rfl, e⟩ | ⟨rfl, e⟩ | ⟨rfl, e⟩ | ⟨rfl, e⟩ <;> rw [e]
  · exact ⟨3, rfl, by decide, by decide, by decide, by decide⟩
  · exact ⟨4, rfl, by decide, by decide, by decide, by decide⟩
  · exact ⟨5, rfl, by decide, by decide, by decide, by decide⟩
  · exact ⟨6, rfl, by decide, by decide, by decide, by decide⟩
  · exact ⟨7, rfl, by decide, by decide, by decide, by decide⟩
theorem shl1 (b : Int) (h3 : 3 ≤ b) (h7 : b ≤ 7) : shl .i64 1 b = pw b := by
  obtain ⟨i, e, hi, _, hp, _⟩ := pw_nat b h3 h7
  rw [shl_eq 1 b i e (by omega) (by omega) (by omega), hp]; omega
theorem shlh (h b : Int) (h3 : 3 ≤ b) (h7 : b ≤ 7) (h0 : 0 ≤ h) (h1 : h ≤ 1000000) : shl .i64 h b = h * pw b := by
  obtain ⟨i, e, hi, _, hp, _⟩ := pw_nat b h3 h7
  rw [shl_eq h b i e (by omega) h0 h1, hp]
theorem shl8 (b : Int) (h3 : 3 ≤ b) (h7 : b ≤ 7) : shl .i64 1 (8 - b) = 256 / pw b := by
  obtain ⟨i, e, hi, hj, _, hp⟩ := pw_nat b h3 h7
  rw [shl_eq 1 (8 - b) (8 - i) (by omega) (by omega) (by omega) (by omega), hp]; omega
theorem shrh (x b : Int) (h3 : 3 ≤ b) (h7 : b ≤ 7) : shr .i64 x b = x / pw b := by
  obtain ⟨i, e, hi, _, hp, _⟩ := pw_nat b h3 h7
  rw [shr_eq x b i e (by omega), hp]
theorem orh (h b n : Int) (h3 : 3 ≤ b) (h7 : b ≤ 7) (h0 : 0 ≤ h) (h1 : h ≤ 1000) (n0 : 0 ≤ n) (n1 : n < pw b) : Go.bits .or .i64 (h * pw b) n = h * pw b + n := by
  obtain ⟨i, e, hi, _, hp, _⟩ := pw_nat b h3 h7
  rw [hp] at n1 ⊢
  exact or_add i h n (by omega) h0 h1 n0 n1
theorem andh (x b : Int) (h3 : 3 ≤ b) (h7 : b ≤ 7) (h0 : 0 ≤ x) (h1 : x ≤ 1000000) : Go.bits .and .i64 x (pw b - 1) = x % pw b := by
  obtain ⟨i, e, hi, _, hp, _⟩ := pw_nat b h3 h7
  rw [hp]
  exact and_mod i x (by omega) h0 h1
theorem and127 (x : Int) (h0 : 0 ≤ x) (h1 : x ≤ 1000000) : Go.bits .and .i64 x 127 = x % 128 := and_mod 7 x (by omega) h0 h1
theorem or128 (x : Int) (h0 : 0 ≤ x) (h1 : x < 128) : Go.bits .or .i64 128 x = 128 + x :=
  or_add 7 1 x (by omega) (by omega) (by omega) h0 (show x < (128 : Int) from h1)
theorem pw_q (b : Int) (h3 : 3 ≤ b) (h7 : b ≤ 7) : 2 ≤ 256 / pw b ∧ 256 / pw b ≤ 32 ∧ 8 ≤ pw b ∧ pw b ≤ 128 := by
  rcases pw_all b h3 h7 with ⟨-, e⟩ | ⟨-, e⟩ | ⟨-, e⟩ | ⟨-, e⟩ | ⟨-, e⟩ <;> (rw [e]; decide)
theorem l1Top_l0 (d : Nat) : ∀ (k : Nat) (x0 x3 x4 : Int), x0 - x4 = (d : Int) → -1000 ≤ x4 → x0 ≤ 1000 → 0 ≤ x3 → x3 * ((2 ^ d : Nat) : Int) ≤ 1000000 → d < k → spec_l1Top.l0 k x0 x3 x4 = some (x3 * ((2 ^ d : Nat) : Int)) := by
  induction d with
  | zero =>
    intro k x0 x3 x4 hd h4 h0 h3 _ hk
    obtain ⟨k, rfl⟩ : ∃ m, k = m + 1 := ⟨k - 1, by omega⟩
    simp only [spec_l1Top.l0]
    rw [if_neg (by omega)]
    simp
  | succ d ih =>
    intro k x0 x3 x4 hd h4 h0 h3 hb hk
    obtain ⟨k, rfl⟩ : ∃ m, k = m + 1 := ⟨k - 1, by omega⟩
    have e : x3 * ((2 ^ (d + 1) : Nat) : Int) = (2 * x3) * ((2 ^ d : Nat) : Int) := by
      rw [Nat.pow_succ, Int.natCast_mul, Int.mul_comm 2 x3, Int.mul_assoc, Int.mul_comm ((2 ^ d : Nat) : Int)]
      rfl
    have hp : 1 ≤ ((2 ^ d : Nat) : Int) := by have : 0 < 2 ^ d := Nat.pos_of_ne_zero (by simp); omega
    rw [e] at hb ⊢
    have hx : 2 * x3 ≤ 1000000 := Int.le_trans (by have := Int.mul_le_mul_of_nonneg_left hp (show 0 ≤ 2 * x3 by omega); omega) hb
    simp only [spec_l1Top.l0]
    rw [if_pos (by omega), w64 _ (by omega) (by omega), w64 _ (by omega) (by omega)]
    exact ih k x0 (2 * x3) (x4 + 1) (by omega) (by omega) h0 (by omega) hb (by omega)
theorem l1Top_eq (k : Nat) (b : Int) (i : Nat) (hb : b = (i : Int)) (hi : i ≤ 8) : spec_l1Top.f (k + 9) b = some ((2 ^ i : Nat) : Int) := by
  unfold spec_l1Top.f
  have hp : 2 ^ i ≤ 2 ^ 8 := Nat.pow_le_pow_right (by decide) hi
  rw [l1Top_l0 i (k + 9) b 1 0 (by omega) (by omega) (by omega) (by omega) (by omega) (by omega)]
  simp
theorem l1Top_pw (k : Nat) (b : Int) (h3 : 3 ≤ b) (h7 : b ≤ 7) : spec_l1Top.f (k + 9) b = some (pw b) := by
  obtain ⟨i, e, hi, _, hp, _⟩ := pw_nat b h3 h7
  rw [l1Top_eq k b i e (by omega), hp]
theorem l1Top_8 (k : Nat) (b : Int) (h3 : 3 ≤ b) (h7 : b ≤ 7) : spec_l1Top.f (k + 9) (8 - b) = some (256 / pw b) := by
  obtain ⟨i, e, hi, _, _, hp⟩ := pw_nat b h3 h7
  rw [l1Top_eq k (8 - b) (8 - i) (by omega) (by omega), hp]
/-- The bytes of a number n in bits whose power of two is T, with h ahead. -/
def numL (n T h : Int) : List Int :=
  if n < T - 1 then [h * T + n]
  else if n - (T - 1) < 128 then [h * T + (T - 1), n - (T - 1)]
  else [h * T + (T - 1), 128 + (n - (T - 1)) % 128, (n - (T - 1)) / 128]
def numOk (n b h : Int) : Bool := decide (0 ≤ n ∧ n ≤ 9999 ∧ 3 ≤ b ∧ b ≤ 7 ∧ 0 ≤ h ∧ h ≤ 256 / pw b - 1)
def numW (n b h : Int) : ByteArray := if numOk n b h = true then strOfNums (numL n (pw b) h) else ⟨#[]⟩
theorem numOk_iff (n b h : Int) : numOk n b h = true ↔ 0 ≤ n ∧ n ≤ 9999 ∧ 3 ≤ b ∧ b ≤ 7 ∧ 0 ≤ h ∧ h ≤ 256 / pw b - 1 := by unfold numOk; simp
theorem l6In_eq (a b c : Int) : spec_l6In.f a b c = some (decide (b ≤ a ∧ a ≤ c)) := by
  unfold spec_l6In.f
  by_cases h : b ≤ a <;> simp [h]
theorem in_eq (a b c : Int) : impl_in.f a b c = some (decide (b ≤ a ∧ a ≤ c)) := by
  unfold impl_in.f
  by_cases h : b ≤ a <;> simp [h]
theorem iNumWrite_eq (k : Nat) (n b h : Int) : impl_NumWrite.f (k + 4) n b h = some (numW n b h) := by
  unfold impl_NumWrite.f
  simp only [in_eq, Option.bind_some]
  have hbad : ∀ q : ¬ (numOk n b h = true), impl_NumWrite.j0 (k + 4) n b h true = some (numW n b h) := by
    intro q
    simp only [impl_NumWrite.j0]
    unfold numW
    rw [if_pos trivial, if_neg q]
  by_cases hn : 0 ≤ n ∧ n ≤ 9999
  · rw [if_pos (by simpa using hn)]
    by_cases hb : 3 ≤ b ∧ b ≤ 7
    · rw [if_pos (by simpa using hb), w64 (8 - b) (by omega) (by omega), if_pos (by omega), shl8 b hb.1 hb.2]
      have hpw := pw_all b hb.1 hb.2
      have hq := pw_q b hb.1 hb.2
      rw [w64 (256 / pw b - 1) (by omega) (by omega)]
      by_cases hh : 0 ≤ h ∧ h ≤ 256 / pw b - 1
      · have hok : numOk n b h = true := (numOk_iff n b h).2 ⟨hn.1, hn.2, hb.1, hb.2, hh.1, hh.2⟩
        have e : (!decide (0 ≤ h ∧ h ≤ 256 / pw b - 1)) = false := by simp only [hh, and_self, decide_true, Bool.not_true]
        rw [e]
        simp only [impl_NumWrite.j0]
        rw [if_neg (by decide), if_pos (by omega), shl1 b hb.1 hb.2, w64 (pw b - 1) (by omega) (by omega)]
        have hsl : shl .i64 h b = h * pw b := shlh h b hb.1 hb.2 hh.1 (by omega)
        rw [hsl]
        unfold numW numL
        rw [if_pos hok]
        by_cases h1 : n < pw b - 1
        · rw [if_pos h1, if_pos h1, orh h b n hb.1 hb.2 hh.1 (by omega) hn.1 (by omega)]
          rcases hpw with ⟨-, e⟩ | ⟨-, e⟩ | ⟨-, e⟩ | ⟨-, e⟩ | ⟨-, e⟩ <;> (rw [e] at hh h1 ⊢; congr 3; omega)
        · rw [if_neg h1, if_neg h1, orh h b (pw b - 1) hb.1 hb.2 hh.1 (by omega) (by omega) (by omega), w64 (n - (pw b - 1)) (by omega) (by omega)]
          have e0 : (h * pw b + (pw b - 1)) % 256 = h * pw b + (pw b - 1) := by
            rcases hpw with ⟨-, e⟩ | ⟨-, e⟩ | ⟨-, e⟩ | ⟨-, e⟩ | ⟨-, e⟩ <;> (rw [e] at hh ⊢; omega)
          rw [e0]
          generalize hm : n - (pw b - 1) = m
          have hm0 : 0 ≤ m := by omega
          have hm1 : m ≤ 9999 := by omega
          by_cases h2 : m < 128
          · simp only [impl_NumWrite.l0]
            rw [if_neg (by omega), if_pos (by simp), if_pos h2, show m % 256 = m from by omega]
            rfl
          · simp only [impl_NumWrite.l0]
            rw [if_pos (by omega), if_pos (by simp), if_neg (by omega), if_pos (by simp), if_neg h2, and127 m hm0 (by omega), or128 (m % 128) (by omega) (by omega), show (128 + m % 128) % 256 = 128 + m % 128 from by omega, show m / 128 % 256 = m / 128 from by omega]
            rfl
      · have e : (!decide (0 ≤ h ∧ h ≤ 256 / pw b - 1)) = true := by simp only [Bool.not_eq_true', decide_eq_false_iff_not]; exact hh
        rw [e]
        exact hbad (fun q => hh ((numOk_iff n b h).1 q).2.2.2.2)
    · rw [if_neg (by simpa using hb)]
      exact hbad (fun q => hb ⟨((numOk_iff n b h).1 q).2.2.1, ((numOk_iff n b h).1 q).2.2.2.1⟩)
  · rw [if_neg (by simpa using hn)]
    exact hbad (fun q => hn ⟨((numOk_iff n b h).1 q).1, ((numOk_iff n b h).1 q).2.1⟩)
theorem l1Byte_eq (x : Int) : spec_l1Byte.f x = some (strOfNums [x % 256]) := rfl
theorem sNumWrite_eq (k : Nat) (n b h : Int) : spec_NumWrite.f (k + 9) n b h = some (numW n b h) := by
  unfold spec_NumWrite.f
  simp only [l6In_eq, Option.bind_some]
  by_cases hb : 3 ≤ b ∧ b ≤ 7
  · rw [if_pos (by simpa using hb)]
    by_cases hn : 0 ≤ n ∧ n ≤ 9999
    · rw [if_pos (by simpa using hn), w64 (8 - b) (by omega) (by omega), l1Top_8 k b hb.1 hb.2]
      simp only [Option.bind_some]
      have hpw := pw_all b hb.1 hb.2
      have hq := pw_q b hb.1 hb.2
      rw [w64 (256 / pw b - 1) (by omega) (by omega)]
      by_cases hh : 0 ≤ h ∧ h ≤ 256 / pw b - 1
      · have hok : numOk n b h = true := (numOk_iff n b h).2 ⟨hn.1, hn.2, hb.1, hb.2, hh.1, hh.2⟩
        rw [if_pos (by simpa using hh)]
        unfold spec_l1Write.f numW numL
        rw [if_pos hok, l1Top_pw k b hb.1 hb.2]
        simp only [Option.bind_some, l1Byte_eq]
        rw [w64 (pw b - 1) (by omega) (by omega), show pw b - 1 + 1 = pw b from by omega, w64 (pw b) (by omega) (by omega)]
        have hr : 0 ≤ h * pw b ∧ h * pw b + (pw b - 1) ≤ 255 := by
          rcases hpw with ⟨-, e⟩ | ⟨-, e⟩ | ⟨-, e⟩ | ⟨-, e⟩ | ⟨-, e⟩ <;> (rw [e] at hh ⊢; omega)
        generalize h * pw b = X at hr ⊢
        rw [w64 X (by omega) (by omega)]
        by_cases h1 : n < pw b - 1
        · rw [if_pos h1, if_pos h1, w64 _ (by omega) (by omega), show (X + n) % 256 = X + n from by omega]
          rfl
        · rw [if_neg h1, if_neg h1, w64 (X + (pw b - 1)) (by omega) (by omega), w64 (n - (pw b - 1)) (by omega) (by omega), show (X + (pw b - 1)) % 256 = X + (pw b - 1) from by omega]
          generalize hm : n - (pw b - 1) = m
          have hm0 : 0 ≤ m := by omega
          have hm1 : m ≤ 9999 := by omega
          by_cases h2 : m < 128
          · simp only [spec_l1Write.l0, l1Byte_eq, Option.bind_some]
            rw [if_neg (by omega), if_pos (by simp [strOfNums_size]), if_pos h2, show m % 256 = m from by omega, str_append]
            rfl
          · simp only [spec_l1Write.l0, l1Byte_eq, Option.bind_some]
            have t1 : Int.tmod m 128 = m % 128 := Int.tmod_eq_emod_of_nonneg hm0
            have t2 : Int.tdiv m 128 = m / 128 := Int.tdiv_eq_ediv_of_nonneg hm0
            rw [t1, t2, if_pos (by omega), w64 (m % 128 + 128) (by omega) (by omega), w64 (m / 128) (by omega) (by omega), if_pos (by simp [strOfNums_size]), if_neg (by omega), if_pos (by simp [strOfNums_size]), if_neg h2, show (m % 128 + 128) % 256 = 128 + m % 128 from by omega, show m / 128 % 256 = m / 128 from by omega, str_append, str_append]
            rfl
      · rw [if_neg (by simpa using hh)]
        unfold numW
        rw [if_neg (fun q => hh ((numOk_iff n b h).1 q).2.2.2.2)]
    · rw [if_neg (by simpa using hn)]
      unfold numW
      rw [if_neg (fun q => hn ⟨((numOk_iff n b h).1 q).1, ((numOk_iff n b h).1 q).2.1⟩)]
  · rw [if_neg (by simpa using hb)]
    unfold numW
    rw [if_neg (fun q => hb ⟨((numOk_iff n b h).1 q).2.2.1, ((numOk_iff n b h).1 q).2.2.2.1⟩)]
/-- What NumRead answers. -/
def numR (s : ByteArray) (b : Int) : Int × Int × Bool :=
  if 3 ≤ b ∧ b ≤ 7 ∧ 1 ≤ (s.size : Int) then
    (if bt s 0 % pw b < pw b - 1 then (bt s 0 % pw b, 1, true)
     else if 2 ≤ (s.size : Int) ∧ bt s 1 < 128 then (pw b - 1 + bt s 1, 2, true)
     else if 3 ≤ (s.size : Int) ∧ bt s 2 < 128 ∧ bt s 2 ≠ 0 ∧ pw b - 1 + (bt s 1 - 128) + 128 * bt s 2 ≤ 9999 then (pw b - 1 + (bt s 1 - 128) + 128 * bt s 2, 3, true)
     else (0, 0, false))
  else (0, 0, false)
theorem toList_nil (s : ByteArray) : s.toList = ([] : List UInt8) ↔ s.size = 0 := by
  rw [ByteArray.toList_eq]
  constructor
  · intro h
    have := congrArg List.length h
    simpa using this
  · intro h
    apply List.eq_nil_of_length_eq_zero
    simpa using h
theorem sNumRead_eq (k : Nat) (s : ByteArray) (b : Int) (hs : s.size ≤ 140737488351232) : spec_NumRead.f (k + 9) s b = some (numR s b) := by
  unfold spec_NumRead.f numR
  simp only [l6In_eq, Option.bind_some]
  by_cases hb : 3 ≤ b ∧ b ≤ 7
  · rw [if_pos (by simpa using hb)]
    unfold spec_l1Read.f
    by_cases h0 : s.size = 0
    · rw [if_pos ((toList_nil s).2 h0), if_neg (by omega)]
      rfl
    · rw [if_neg (fun q => h0 ((toList_nil s).1 q)), l1Top_pw k b hb.1 hb.2, if_pos (show 3 ≤ b ∧ b ≤ 7 ∧ 1 ≤ (s.size : Int) from ⟨hb.1, hb.2, by omega⟩)]
      simp only [Option.bind_some]
      have hq := pw_q b hb.1 hb.2
      have r0 := bt_range s 0
      rw [if_pos (by omega), w64 (pw b - 1) (by omega) (by omega), show pw b - 1 + 1 = pw b from by omega, w64 (pw b) (by omega) (by omega), if_neg (by omega), w64 (bt s 0) (by omega) (by omega)]
      have t0 : Int.tmod (bt s 0) (pw b) = bt s 0 % pw b := Int.tmod_eq_emod_of_nonneg r0.1
      rw [t0]
      by_cases h1 : bt s 0 % pw b < pw b - 1
      · rw [if_pos h1, if_pos h1]
        rfl
      · rw [if_neg h1, if_neg h1]
        have hn : bt s 0 % pw b = pw b - 1 := by
          have := Int.emod_lt_of_pos (bt s 0) (show 0 < pw b by omega)
          omega
        rw [hn]
        have r1 := bt_range s 1
        have r2 := bt_range s 2
        have r3 := bt_range s 3
        have m1 : Int.tmod (bt s 1) 128 = bt s 1 % 128 := Int.tmod_eq_emod_of_nonneg r1.1
        have m2 : Int.tmod (bt s 2) 128 = bt s 2 % 128 := Int.tmod_eq_emod_of_nonneg r2.1
        have m3 : Int.tmod (bt s 3) 128 = bt s 3 % 128 := Int.tmod_eq_emod_of_nonneg r3.1
        simp only [spec_l1Read.l0]
        by_cases h2 : 2 ≤ (s.size : Int)
        · rw [if_pos (by omega)]
          simp only [spec_l1Read.j1]
          rw [if_pos (by decide), if_pos (by omega), if_pos (by omega), w64 (bt s 1) (by omega) (by omega), m1, w64 (1 * (bt s 1 % 128)) (by omega) (by omega), w64 (pw b - 1 + 1 * (bt s 1 % 128)) (by omega) (by omega), w64 (1 + 1) (by omega) (by omega), w64 (128 * 1) (by omega) (by omega)]
          by_cases h3 : bt s 1 < 128
          · rw [if_pos (show 2 ≤ (s.size : Int) ∧ bt s 1 < 128 from ⟨h2, h3⟩), if_pos h3]
            have e : 1 * (bt s 1 % 128) = bt s 1 := by omega
            rw [e]
            by_cases hz : bt s 1 = 0
            · rw [if_pos hz, if_neg (by omega), if_neg (by omega)]
              rfl
            · rw [if_neg hz, if_neg (by omega)]
              rfl
          · rw [if_neg h3, if_neg (by omega)]
            have e : 1 * (bt s 1 % 128) = bt s 1 - 128 := by omega
            rw [e]
            simp only [spec_l1Read.l0]
            by_cases h4 : 3 ≤ (s.size : Int)
            · rw [if_pos (by omega)]
              simp only [spec_l1Read.j1]
              rw [if_pos (by decide), if_pos (by omega), if_pos (by omega), show (1 + 1 : Int) = 2 from rfl, w64 (bt s 2) (by omega) (by omega), m2, w64 (128 * 1 * (bt s 2 % 128)) (by omega) (by omega), w64 (pw b - 1 + (bt s 1 - 128) + 128 * 1 * (bt s 2 % 128)) (by omega) (by omega), w64 (2 + 1) (by omega) (by omega), w64 (128 * (128 * 1)) (by omega) (by omega)]
              by_cases h5 : bt s 2 < 128
              · rw [if_pos h5]
                have e2 : 128 * 1 * (bt s 2 % 128) = 128 * bt s 2 := by omega
                rw [e2]
                by_cases h6 : bt s 2 = 0
                · rw [if_pos h6, if_pos (by omega), if_neg (by omega)]
                  rfl
                · rw [if_neg h6]
                  by_cases h7 : pw b - 1 + (bt s 1 - 128) + 128 * bt s 2 > 9999
                  · rw [if_pos h7, if_neg (by omega)]
                    rfl
                  · rw [if_neg h7, if_pos (show 3 ≤ (s.size : Int) ∧ bt s 2 < 128 ∧ bt s 2 ≠ 0 ∧ pw b - 1 + (bt s 1 - 128) + 128 * bt s 2 ≤ 9999 from ⟨h4, h5, h6, by omega⟩)]
                    rfl
              · rw [if_neg h5, if_neg (by omega)]
                have e2 : 128 * 1 * (bt s 2 % 128) = 128 * (bt s 2 - 128) := by omega
                rw [e2]
                simp only [spec_l1Read.l0]
                by_cases h8 : 4 ≤ (s.size : Int)
                · rw [if_pos (by omega)]
                  simp only [spec_l1Read.j1]
                  rw [if_pos (by decide), if_pos (by omega), if_pos (by omega), show (2 + 1 : Int) = 3 from rfl, w64 (bt s 3) (by omega) (by omega), m3, w64 (128 * (128 * 1) * (bt s 3 % 128)) (by omega) (by omega), w64 (pw b - 1 + (bt s 1 - 128) + 128 * (bt s 2 - 128) + 128 * (128 * 1) * (bt s 3 % 128)) (by omega) (by omega), w64 (3 + 1) (by omega) (by omega), w64 (128 * (128 * (128 * 1))) (by omega) (by omega)]
                  by_cases h9 : bt s 3 < 128
                  · rw [if_pos h9]
                    by_cases ha : bt s 3 = 0
                    · rw [if_pos ha, if_pos (by omega)]
                      rfl
                    · rw [if_neg ha, if_pos (by omega)]
                      rfl
                  · rw [if_neg h9]
                    simp only [spec_l1Read.l0, spec_l1Read.j1]
                    split <;> rfl
                · rw [if_neg (by omega)]
                  simp only [spec_l1Read.j1]
                  rfl
            · rw [if_neg (by omega), if_neg (by omega)]
              simp only [spec_l1Read.j1]
              rfl
        · rw [if_neg (by omega), if_neg (by omega), if_neg (by omega)]
          simp only [spec_l1Read.j1]
          rfl
  · rw [if_neg (by simpa using hb), if_neg (by omega)]
theorem ext_str (s : ByteArray) (m : Nat) (hm : m ≤ s.size) : s.extract 0 m = strOfNums ((List.range m).map fun i : Nat => bt s (i : Int)) := by
  apply ba_ext
  rw [str_list, ByteArray.toList_eq, ByteArray.data_extract, Array.toList_extract]
  apply List.ext_getElem
  · simp; have : s.data.size = s.size := rfl; omega
  · intro i h1 h2
    have hi : i < m := by simpa using h2
    have hs : ((i : Int)).toNat < s.size := by omega
    simp only [List.getElem_map, List.getElem_range, List.extract_eq_take_drop, Nat.sub_zero, List.drop_zero, List.getElem_take]
    rw [← bt_at s (i : Int) hs]
    simp
    rfl
theorem str_inj (xs : List Int) : ∀ ys : List Int, (∀ x ∈ xs, 0 ≤ x ∧ x ≤ 255) → (∀ y ∈ ys, 0 ≤ y ∧ y ≤ 255) → (strOfNums xs).toList = (strOfNums ys).toList → xs = ys := by
  simp only [str_list]
  induction xs with
  | nil => intro ys _ _ h; cases ys with
    | nil => rfl
    | cons y ys => simp at h
  | cons x xs ih =>
    intro ys hx hy h
    cases ys with
    | nil => simp at h
    | cons y ys =>
      simp only [List.map_cons, List.cons.injEq] at h
      have h1 := hx x List.mem_cons_self
      have h2 := hy y List.mem_cons_self
      have e : x = y := by
        have := congrArg UInt8.toNat h.1
        simp at this
        omega
      rw [e, ih ys (fun z hz => hx z (List.mem_cons_of_mem _ hz)) (fun z hz => hy z (List.mem_cons_of_mem _ hz)) h.2]
theorem numL_range (n b h : Int) (ok : numOk n b h = true) : ∀ x ∈ numL n (pw b) h, 0 ≤ x ∧ x ≤ 255 := by
  obtain ⟨n0, n1, b0, b1, h0, h1⟩ := (numOk_iff n b h).1 ok
  have hpw := pw_all b b0 b1
  have hr : 0 ≤ h * pw b ∧ h * pw b + (pw b - 1) ≤ 255 ∧ 8 ≤ pw b := by
    rcases hpw with ⟨-, e⟩ | ⟨-, e⟩ | ⟨-, e⟩ | ⟨-, e⟩ | ⟨-, e⟩ <;> (rw [e] at h1 ⊢; omega)
  intro x hx
  unfold numL at hx
  generalize h * pw b = X at hr hx
  by_cases q1 : n < pw b - 1
  · rw [if_pos q1] at hx
    simp only [List.mem_cons, List.not_mem_nil, or_false] at hx
    omega
  · rw [if_neg q1] at hx
    by_cases q2 : n - (pw b - 1) < 128
    · rw [if_pos q2] at hx
      simp only [List.mem_cons, List.not_mem_nil, or_false] at hx
      omega
    · rw [if_neg q2] at hx
      simp only [List.mem_cons, List.not_mem_nil, or_false] at hx
      omega
theorem numL_len (n T h : Int) : 1 ≤ (numL n T h).length ∧ (numL n T h).length ≤ 3 := by
  unfold numL
  split
  · simp
  · split <;> simp
/-- What is compared behind a number that was read. -/
theorem cmp_iff (s : ByteArray) (m : Nat) (hm : m ≤ s.size) (v b h : Int) (ok : numOk v b h = true) :
    (numW v b h).toList = (s.extract 0 m).toList ↔ numL v (pw b) h = (List.range m).map fun i : Nat => bt s (i : Int) := by
  rw [ext_str s m hm]
  unfold numW
  rw [if_pos ok]
  constructor
  · intro q
    refine str_inj _ _ (numL_range v b h ok) (fun y hy => ?_) q
    obtain ⟨i, _, rfl⟩ := List.mem_map.1 hy
    exact bt_range s _
  · intro q
    rw [q]
theorem cmp_no (s : ByteArray) (m : Nat) (hm : m ≤ s.size) (h1 : 1 ≤ m) (v b h : Int) (ok : ¬ (numOk v b h = true)) : ¬ (numW v b h).toList = (s.extract 0 m).toList := by
  unfold numW
  rw [if_neg ok, ByteArray.toList_eq, ByteArray.toList_eq]
  intro q
  have := congrArg List.length q
  simp at this
  omega
theorem shlsh (x : Int) (h0 : 0 ≤ x) (h1 : x ≤ 127) : shl .i64 x 0 = x ∧ shl .i64 x 7 = x * 128 ∧ shl .i64 x 14 = x * 16384 := by
  refine ⟨?_, ?_, ?_⟩
  · rw [shl_eq x 0 0 rfl (by omega) h0 (by omega)]; simp
  · rw [shl_eq x 7 7 rfl (by omega) h0 (by omega)]; rfl
  · rw [shl_eq x 14 14 rfl (by omega) h0 (by omega)]; rfl
/-- One round of NumRead's loop, at a place m, where a byte is there. -/
theorem read_last (k : Nat) (s : ByteArray) (b n v : Int) (m : Nat) (sh : Int) (hb : 3 ≤ b ∧ b ≤ 7) (hm : 1 ≤ m ∧ m ≤ 3) (hs : m < s.size) (hsh : 0 ≤ sh) (_h14 : sh ≤ 14)
    (hv : wrap64 (n + shl .i64 (bt s (m : Int) % 128) sh) = v) :
    impl_NumRead.j2 (k + 9) s b n (m : Int) sh false =
      (if bt s (m : Int) < 128 then (if (numW v b (bt s 0 / pw b)).toList = (s.extract 0 (m + 1)).toList then some (v, (m : Int) + 1, true) else some (0, 0, false)) else impl_NumRead.l0 (k + 8) s b v ((m : Int) + 1) (sh + 7)) := by
  have r0 := bt_range s 0
  have rm := bt_range s (m : Int)
  simp only [impl_NumRead.j2]
  rw [if_neg (by decide), if_pos (by omega), if_pos (by omega), if_pos hsh, w64 ((m : Int) + 1) (by omega) (by omega), w64 ((m : Int) + 1 - 1) (by omega) (by omega), show (m : Int) + 1 - 1 = (m : Int) from by omega, if_pos (by omega), if_pos (by omega),
    w64 (bt s (m : Int)) (by omega) (by omega), w64 (bt s 0) (by omega) (by omega), and127 (bt s (m : Int)) rm.1 (by omega), hv, shrh (bt s 0) b hb.1 hb.2, iNumWrite_eq (k + 4) v b (bt s 0 / pw b), w64 (sh + 7) (by omega) (by omega)]
  by_cases h : bt s (m : Int) < 128
  · rw [if_pos h, if_pos h, if_pos (by omega), if_pos (by omega)]
    simp only [Option.bind_some]
    rw [if_pos (show (0 : Int) ≤ (m : Int) + 1 by omega), if_pos (show (m : Int) + 1 ≤ (s.size : Int) by omega), show ((m : Int) + 1).toNat = m + 1 from by omega]
  · rw [if_neg h, if_neg h]
theorem read_end (k : Nat) (s : ByteArray) (b n x9 sh : Int) (h : x9 = (s.size : Int) ∨ sh > 14) : impl_NumRead.l0 (k + 2) s b n x9 sh = some (0, 0, false) := by
  simp only [impl_NumRead.l0]
  by_cases h1 : x9 = (s.size : Int)
  · rw [if_pos h1]
    simp only [impl_NumRead.j2]
    rfl
  · rw [if_neg h1, show decide (sh > 14) = true from by simp; omega]
    simp only [impl_NumRead.j2]
    rfl
theorem read_on (k : Nat) (s : ByteArray) (b n x9 sh : Int) (h1 : x9 ≠ (s.size : Int)) (h2 : sh ≤ 14) : impl_NumRead.l0 (k + 1) s b n x9 sh = impl_NumRead.j2 k s b n x9 sh false := by
  simp only [impl_NumRead.l0]
  rw [if_neg h1, show decide (sh > 14) = false from by simp; omega]
theorem bytes2 (s : ByteArray) : ((List.range 2).map fun i : Nat => bt s (i : Int)) = [bt s 0, bt s 1] := rfl
theorem bytes3 (s : ByteArray) : ((List.range 3).map fun i : Nat => bt s (i : Int)) = [bt s 0, bt s 1, bt s 2] := rfl
theorem bytes4 (s : ByteArray) : ((List.range 4).map fun i : Nat => bt s (i : Int)) = [bt s 0, bt s 1, bt s 2, bt s 3] := rfl
theorem bytes1 (s : ByteArray) : ((List.range 1).map fun i : Nat => bt s (i : Int)) = [bt s 0] := rfl
theorem head_back (x b : Int) (hb : 3 ≤ b ∧ b ≤ 7) (h0 : 0 ≤ x) (h1 : x ≤ 255) : 0 ≤ x / pw b ∧ x / pw b ≤ 256 / pw b - 1 ∧ x / pw b * pw b + x % pw b = x := by
  rcases pw_all b hb.1 hb.2 with ⟨-, e⟩ | ⟨-, e⟩ | ⟨-, e⟩ | ⟨-, e⟩ | ⟨-, e⟩ <;> (rw [e]; omega)
theorem iNumRead_eq (k : Nat) (s : ByteArray) (b : Int) (hs : s.size ≤ 140737488351232) : impl_NumRead.f (k + 20) s b = some (numR s b) := by
  unfold impl_NumRead.f numR
  by_cases h0 : s.size = 0
  · rw [if_pos ((toList_nil s).2 h0), if_neg (by omega)]
    simp only [impl_NumRead.j0]
    rfl
  · rw [if_neg (fun q => h0 ((toList_nil s).1 q))]
    simp only [in_eq, Option.bind_some]
    by_cases hb : 3 ≤ b ∧ b ≤ 7
    · have e : (!decide (3 ≤ b ∧ b ≤ 7)) = false := by simp only [hb, and_self, decide_true, Bool.not_true]
      have hq := pw_q b hb.1 hb.2
      have r0 := bt_range s 0
      rw [e, if_pos (show 3 ≤ b ∧ b ≤ 7 ∧ 1 ≤ (s.size : Int) from ⟨hb.1, hb.2, by omega⟩)]
      simp only [impl_NumRead.j0]
      rw [if_neg (by decide), if_pos (by omega), if_pos (by omega), w64 (bt s 0) (by omega) (by omega), shl1 b hb.1 hb.2, w64 (pw b - 1) (by omega) (by omega), andh (bt s 0) b hb.1 hb.2 r0.1 (by omega), shrh (bt s 0) b hb.1 hb.2]
      have hh := head_back (bt s 0) b hb r0.1 r0.2
      have hm := Int.emod_lt_of_pos (bt s 0) (show 0 < pw b by omega)
      have hm0 := Int.emod_nonneg (bt s 0) (show pw b ≠ 0 by omega)
      by_cases h1 : bt s 0 % pw b < pw b - 1
      · rw [if_neg (by omega), if_pos h1, iNumWrite_eq (k + 15)]
        simp only [Option.bind_some]
        have ok : numOk (bt s 0 % pw b) b (bt s 0 / pw b) = true := (numOk_iff _ _ _).2 ⟨hm0, by omega, hb.1, hb.2, hh.1, hh.2.1⟩
        rw [if_pos (by omega), if_pos (by omega), if_pos ((cmp_iff s 1 (by omega) _ b _ ok).2 (by rw [bytes1]; unfold numL; rw [if_pos h1, hh.2.2]))]
      · have hn : bt s 0 % pw b = pw b - 1 := by omega
        rw [if_pos hn, if_neg h1, hn]
        rw [hn] at hh
        have r1 := bt_range s 1
        have r2 := bt_range s 2
        have r3 := bt_range s 3
        by_cases h2 : 2 ≤ (s.size : Int)
        · rw [read_on (k + 18) s b _ 1 0 (by omega) (by omega)]
          have s1 := (shlsh (bt s 1 % 128) (by omega) (by omega)).1
          have e1 := read_last (k + 9) s b (pw b - 1) (pw b - 1 + bt s 1 % 128) 1 0 hb (by omega) (by omega) (by omega) (by omega) (by
            rw [show ((1 : Nat) : Int) = 1 from rfl, s1, w64 _ (by omega) (by omega)])
          rw [show ((1 : Nat) : Int) = 1 from rfl] at e1
          rw [e1]
          by_cases h3 : bt s 1 < 128
          · rw [if_pos h3, if_pos (show 2 ≤ (s.size : Int) ∧ bt s 1 < 128 from ⟨h2, h3⟩), show bt s 1 % 128 = bt s 1 from by omega]
            have ok : numOk (pw b - 1 + bt s 1) b (bt s 0 / pw b) = true := (numOk_iff _ _ _).2 ⟨by omega, by omega, hb.1, hb.2, hh.1, hh.2.1⟩
            rw [if_pos ((cmp_iff s 2 (by omega) _ b _ ok).2 (by
              rw [bytes2]; unfold numL; rw [if_neg (by omega), if_pos (by omega), hh.2.2, show pw b - 1 + bt s 1 - (pw b - 1) = bt s 1 from by omega]))]
            rfl
          · rw [if_neg h3, if_neg (show ¬ (2 ≤ (s.size : Int) ∧ bt s 1 < 128) by omega), show bt s 1 % 128 = bt s 1 - 128 from by omega, show (1 : Int) + 1 = 2 from rfl, show (0 : Int) + 7 = 7 from rfl]
            by_cases h4 : 3 ≤ (s.size : Int)
            · rw [read_on (k + 16) s b _ 2 7 (by omega) (by omega)]
              have s2 := (shlsh (bt s 2 % 128) (by omega) (by omega)).2.1
              have e2 := read_last (k + 7) s b (pw b - 1 + (bt s 1 - 128)) (pw b - 1 + (bt s 1 - 128) + bt s 2 % 128 * 128) 2 7 hb (by omega) (by omega) (by omega) (by omega) (by
                rw [show ((2 : Nat) : Int) = 2 from rfl, s2, w64 _ (by omega) (by omega)])
              rw [show ((2 : Nat) : Int) = 2 from rfl] at e2
              rw [e2]
              by_cases h5 : bt s 2 < 128
              · rw [if_pos h5, show bt s 2 % 128 * 128 = 128 * bt s 2 from by omega, show (2 : Nat) + 1 = 3 from rfl, show (2 : Int) + 1 = 3 from rfl]
                by_cases h7 : pw b - 1 + (bt s 1 - 128) + 128 * bt s 2 ≤ 9999
                · have ok : numOk (pw b - 1 + (bt s 1 - 128) + 128 * bt s 2) b (bt s 0 / pw b) = true := (numOk_iff _ _ _).2 ⟨by omega, h7, hb.1, hb.2, hh.1, hh.2.1⟩
                  have hc := cmp_iff s 3 (by omega) _ b _ ok
                  rw [bytes3] at hc
                  by_cases h6 : bt s 2 = 0
                  · rw [if_neg (fun q => by
                      have q2 := hc.1 q
                      unfold numL at q2
                      rw [if_neg (by omega), if_pos (by omega)] at q2
                      have := congrArg List.length q2
                      simp at this), if_neg (by omega)]
                  · rw [if_pos (hc.2 (by
                      unfold numL
                      rw [if_neg (by omega), if_neg (by omega), hh.2.2, show pw b - 1 + (bt s 1 - 128) + 128 * bt s 2 - (pw b - 1) = (bt s 1 - 128) + 128 * bt s 2 from by omega, show 128 + (bt s 1 - 128 + 128 * bt s 2) % 128 = bt s 1 from by omega, show (bt s 1 - 128 + 128 * bt s 2) / 128 = bt s 2 from by omega])),
                      if_pos (show 3 ≤ (s.size : Int) ∧ bt s 2 < 128 ∧ bt s 2 ≠ 0 ∧ pw b - 1 + (bt s 1 - 128) + 128 * bt s 2 ≤ 9999 from ⟨h4, h5, h6, h7⟩)]
                · rw [if_neg (cmp_no s 3 (by omega) (by omega) _ b _ (fun q => h7 ((numOk_iff _ _ _).1 q).2.1)), if_neg (by omega)]
              · rw [if_neg h5, if_neg (show ¬ (3 ≤ (s.size : Int) ∧ bt s 2 < 128 ∧ bt s 2 ≠ 0 ∧ pw b - 1 + (bt s 1 - 128) + 128 * bt s 2 ≤ 9999) by omega), show (2 : Int) + 1 = 3 from rfl, show (7 : Int) + 7 = 14 from rfl]
                by_cases h8 : 4 ≤ (s.size : Int)
                · rw [read_on (k + 14) s b _ 3 14 (by omega) (by omega)]
                  have s3 := (shlsh (bt s 3 % 128) (by omega) (by omega)).2.2
                  have e3 := read_last (k + 5) s b (pw b - 1 + (bt s 1 - 128) + bt s 2 % 128 * 128) (pw b - 1 + (bt s 1 - 128) + bt s 2 % 128 * 128 + bt s 3 % 128 * 16384) 3 14 hb (by omega) (by omega) (by omega) (by omega) (by
                    rw [show ((3 : Nat) : Int) = 3 from rfl, s3, w64 _ (by omega) (by omega)])
                  rw [show ((3 : Nat) : Int) = 3 from rfl] at e3
                  rw [e3]
                  by_cases h9 : bt s 3 < 128
                  · rw [if_pos h9]
                    generalize hv : pw b - 1 + (bt s 1 - 128) + bt s 2 % 128 * 128 + bt s 3 % 128 * 16384 = v
                    by_cases ok : numOk v b (bt s 0 / pw b) = true
                    · rw [if_neg (fun q => by
                        have q2 := (cmp_iff s 4 (by omega) v b _ ok).1 q
                        rw [bytes4] at q2
                        have := congrArg List.length q2
                        have := numL_len v (pw b) (bt s 0 / pw b)
                        simp at *
                        omega)]
                    · rw [if_neg (cmp_no s 4 (by omega) (by omega) v b _ ok)]
                  · rw [if_neg h9]
                    exact read_end (k + 11) s b _ _ _ (Or.inr (by omega))
                · exact read_end (k + 13) s b _ _ _ (Or.inl (by omega))
            · rw [if_neg (show ¬ (3 ≤ (s.size : Int) ∧ bt s 2 < 128 ∧ bt s 2 ≠ 0 ∧ pw b - 1 + (bt s 1 - 128) + 128 * bt s 2 ≤ 9999) by omega)]
              exact read_end (k + 15) s b _ _ _ (Or.inl (by omega))
        · rw [if_neg (show ¬ (2 ≤ (s.size : Int) ∧ bt s 1 < 128) by omega), if_neg (show ¬ (3 ≤ (s.size : Int) ∧ bt s 2 < 128 ∧ bt s 2 ≠ 0 ∧ pw b - 1 + (bt s 1 - 128) + 128 * bt s 2 ≤ 9999) by omega)]
          exact read_end (k + 17) s b _ _ _ (Or.inl (by omega))
    · have e : (!decide (3 ≤ b ∧ b ≤ 7)) = true := by simp only [Bool.not_eq_true', decide_eq_false_iff_not]; exact hb
      rw [e, if_neg (by omega)]
      simp only [impl_NumRead.j0]
      rfl
theorem lit5 (a b c d e i : Int) (lo hi : Int) (ha : lo ≤ a ∧ a ≤ hi) (hb : lo ≤ b ∧ b ≤ hi) (hc : lo ≤ c ∧ c ≤ hi) (hd : lo ≤ d ∧ d ≤ hi) (he : lo ≤ e ∧ e ≤ hi) (h0 : 0 ≤ i) (h5 : i < 5) : lo ≤ rd [a, b, c, d, e] i ∧ rd [a, b, c, d, e] i ≤ hi := by
  have h : i = 0 ∨ i = 1 ∨ i = 2 ∨ i = 3 ∨ i = 4 := by omega
  rcases h with rfl | rfl | rfl | rfl | rfl
  · exact ha
  · exact hb
  · exact hc
  · exact hd
  · exact he
theorem lit2 (a b i : Int) (lo hi : Int) (ha : lo ≤ a ∧ a ≤ hi) (hb : lo ≤ b ∧ b ≤ hi) (h0 : 0 ≤ i) (h2 : i < 2) : lo ≤ rd [a, b] i ∧ rd [a, b] i ≤ hi := by
  have h : i = 0 ∨ i = 1 := by omega
  rcases h with rfl | rfl
  · exact ha
  · exact hb
/-- What DrawNumWrite draws. -/
theorem drawNumWrite_ok (k : Nat) (l : List Int) (hl : ∀ x ∈ l, (Lit.int .u8 x).wf = true) :
    Te (spec_DrawNumWrite.f (k + 9) l) (fun r => (-1 ≤ r.1 ∧ r.1 ≤ 10000) ∧ (2 ≤ r.2.1 ∧ r.2.1 ≤ 8) ∧ (-1 ≤ r.2.2 ∧ r.2.2 ≤ 32)) := by
  unfold spec_DrawNumWrite.f
  refine (open_ok l hl).bind ?_
  rintro ⟨c, p⟩ ⟨hr, rfl⟩
  refine (pick_rd (k + 8) c 0 5 hr (by omega) (by omega) (by omega)).bind ?_
  rintro ⟨v1, p1⟩ ⟨h1, h2, h3⟩
  dsimp only at h1 h2 h3 ⊢
  refine (pick_rd (k + 8) c p1 8 (hr.next (by omega)) (by omega) (by omega) (by omega)).bind ?_
  rintro ⟨v2, p2⟩ ⟨h4, h5, h6⟩
  dsimp only at h4 h5 h6 ⊢
  refine (pick_rd (k + 8) c p2 40 (hr.next (by omega)) (by omega) (by omega) (by omega)).bind ?_
  rintro ⟨v3, p3⟩ ⟨h7, h8, h9⟩
  dsimp only at h7 h8 h9 ⊢
  refine (pick_rd (k + 8) c p3 300 (hr.next (by omega)) (by omega) (by omega) (by omega)).bind ?_
  rintro ⟨v4, p4⟩ ⟨i1, i2, i3⟩
  dsimp only at i1 i2 i3 ⊢
  refine (pick_rd (k + 8) c p4 10000 (hr.next (by omega)) (by omega) (by omega) (by omega)).bind ?_
  rintro ⟨v5, p5⟩ ⟨i4, i5, i6⟩
  dsimp only at i4 i5 i6 ⊢
  rw [w64 (3 + v1) (by omega) (by omega), l1Top_pw k (3 + v1) (by omega) (by omega)]
  have hq := pw_q (3 + v1) (by omega) (by omega)
  simp only [Option.bind_some]
  refine (pick_rd (k + 8) c p5 4 (hr.next (by omega)) (by omega) (by omega) (by omega)).bind ?_
  rintro ⟨v6, p6⟩ ⟨i7, i8, i9⟩
  dsimp only at i7 i8 i9 ⊢
  refine (pick_rd (k + 8) c p6 5 (hr.next (by omega)) (by omega) (by omega) (by omega)).bind ?_
  rintro ⟨v7, p7⟩ ⟨j1, j2, j3⟩
  dsimp only at j1 j2 j3 ⊢
  rw [if_pos j2, if_pos (by simpa using j3), w64 (8 - (3 + v1)) (by omega) (by omega), l1Top_8 k (3 + v1) (by omega) (by omega)]
  simp only [Option.bind_some]
  rw [w64 (pw (3 + v1) - 2) (by omega) (by omega), w64 (pw (3 + v1) - 2 + v6) (by omega) (by omega)]
  have hn := lit5 v2 v3 v4 v5 (pw (3 + v1) - 2 + v6) v7 (-1) 10000 (by omega) (by omega) (by omega) (by omega) (by omega) j2 j3
  refine (pick_rd (k + 8) c p7 (256 / pw (3 + v1)) (hr.next (by omega)) (by omega) (by omega) (by omega)).bind ?_
  rintro ⟨v8, p8⟩ ⟨j4, j5, j6⟩
  dsimp only at j4 j5 j6 ⊢
  refine (pick_rd (k + 8) c p8 20 (hr.next (by omega)) (by omega) (by omega) (by omega)).bind ?_
  rintro ⟨v9, p9⟩ ⟨j7, j8, j9⟩
  dsimp only at j7 j8 j9 ⊢
  refine Te.ite (fun _ => ?_) (fun _ => Te.ite (fun _ => ?_) (fun _ => Te.ite (fun _ => ?_) (fun _ => ?_)))
  · refine (pick_rd (k + 8) c p9 2 (hr.next (by omega)) (by omega) (by omega) (by omega)).bind ?_
    rintro ⟨va, pa⟩ ⟨_, a2, a3⟩
    dsimp only at a2 a3 ⊢
    rw [if_pos a2, if_pos (by simpa using a3)]
    exact Te.now ⟨lit2 (-1) 10000 va (-1) 10000 (by omega) (by omega) a2 a3, by dsimp only; omega, by dsimp only; omega⟩
  · refine (pick_rd (k + 8) c p9 2 (hr.next (by omega)) (by omega) (by omega) (by omega)).bind ?_
    rintro ⟨va, pa⟩ ⟨_, a2, a3⟩
    dsimp only at a2 a3 ⊢
    rw [if_pos a2, if_pos (by simpa using a3)]
    exact Te.now ⟨hn, lit2 2 8 va 2 8 (by omega) (by omega) a2 a3, by dsimp only; omega⟩
  · refine (pick_rd (k + 8) c p9 2 (hr.next (by omega)) (by omega) (by omega) (by omega)).bind ?_
    rintro ⟨va, pa⟩ ⟨_, a2, a3⟩
    dsimp only at a2 a3 ⊢
    rw [if_pos a2, if_pos (by simpa using a3)]
    exact Te.now ⟨hn, by dsimp only; omega, lit2 (-1) 32 va (-1) 32 (by omega) (by omega) a2 a3⟩
  · exact Te.now ⟨hn, by dsimp only; omega, by dsimp only; omega⟩
theorem bytes_range (s : ByteArray) : ∀ x ∈ bytesOf s, 0 ≤ x ∧ x ≤ 255 := by
  intro x hx
  obtain ⟨b, _, rfl⟩ := List.mem_map.1 hx
  have := b.toNat_lt
  omega
theorem ba_str (s : ByteArray) : s = strOfNums (bytesOf s) := by
  apply ba_ext
  rw [str_list, ByteArray.toList_eq]
  unfold bytesOf
  rw [List.map_map]
  symm
  exact List.map_id'' (fun b => by simp) _
theorem ext_of (L : List Int) (a b : Nat) : (strOfNums L).extract a b = strOfNums ((L.take b).drop a) := by
  apply ba_ext
  rw [str_list, ByteArray.toList_eq, ByteArray.data_extract, Array.toList_extract, strOfNums_data, List.extract_eq_take_drop, List.map_drop, List.map_take, List.drop_take]
theorem bt0 (x : Int) (r : List Int) (h : 0 ≤ x ∧ x ≤ 255) : bt (strOfNums (x :: r)) 0 = x := bt_str (x :: r) 0 x rfl h.1 h.2
theorem bt1 (x y : Int) (r : List Int) (h : 0 ≤ y ∧ y ≤ 255) : bt (strOfNums (x :: y :: r)) 1 = y := bt_str (x :: y :: r) 1 y rfl h.1 h.2
theorem bt2 (x y z : Int) (r : List Int) (h : 0 ≤ z ∧ z ≤ 255) : bt (strOfNums (x :: y :: z :: r)) 2 = z := bt_str (x :: y :: z :: r) 2 z rfl h.1 h.2
theorem tail_of (n T : Int) : ∃ tl : List Int, ∀ h, numL n T h = (h * T + (if n < T - 1 then n else T - 1)) :: tl := by
  by_cases h1 : n < T - 1
  · exact ⟨[], fun h => by unfold numL; rw [if_pos h1, if_pos h1]⟩
  · by_cases h2 : n - (T - 1) < 128
    · exact ⟨[n - (T - 1)], fun h => by unfold numL; rw [if_neg h1, if_pos h2, if_neg h1]⟩
    · exact ⟨[128 + (n - (T - 1)) % 128, (n - (T - 1)) / 128], fun h => by unfold numL; rw [if_neg h1, if_neg h2, if_neg h1]⟩
theorem numW_ok (n b h : Int) (ok : numOk n b h = true) : numW n b h = strOfNums (numL n (pw b) h) := by unfold numW; rw [if_pos ok]
theorem numW_no (n b h : Int) (ok : ¬ (numOk n b h = true)) : numW n b h = ⟨#[]⟩ := by unfold numW; rw [if_neg ok]
theorem numW_nil (n b h : Int) : (numW n b h).toList = ([] : List UInt8) ↔ ¬ (numOk n b h = true) := by
  constructor
  · intro q ok
    rw [numW_ok n b h ok] at q
    have q1 := (toList_nil _).1 q
    rw [strOfNums_size] at q1
    have := (numL_len n (pw b) h).1
    omega
  · intro q
    rw [numW_no n b h q]
    exact (toList_nil _).2 rfl
theorem numW_size (n b h : Int) : (numW n b h).size ≤ 3 := by
  by_cases ok : numOk n b h = true
  · rw [numW_ok n b h ok, strOfNums_size]
    exact (numL_len _ _ _).2
  · rw [numW_no n b h ok]
    decide
/-- A number is read back from its bytes, whatever follows. -/
theorem numR_back (n b h : Int) (ok : numOk n b h = true) (ys : List Int) : numR (strOfNums (numL n (pw b) h ++ ys)) b = (n, ((numL n (pw b) h).length : Int), true) := by
  have hrange := numL_range n b h ok
  obtain ⟨n0, n1, b0, b1, h0, h1⟩ := (numOk_iff n b h).1 ok
  have hq := pw_q b b0 b1
  have hlen := (numL_len n (pw b) h).1
  have hx : ∀ (T : Int), pw b = T → (T = 8 ∨ T = 16 ∨ T = 32 ∨ T = 64 ∨ T = 128) := by
    rintro T rfl
    rcases pw_all b b0 b1 with ⟨-, e⟩ | ⟨-, e⟩ | ⟨-, e⟩ | ⟨-, e⟩ | ⟨-, e⟩ <;> (rw [e]; decide)
  unfold numR
  rw [if_pos ⟨b0, b1, by rw [strOfNums_size, List.length_append]; omega⟩, strOfNums_size, List.length_append]
  by_cases c1 : n < pw b - 1
  · have e : numL n (pw b) h = [h * pw b + n] := by unfold numL; rw [if_pos c1]
    rw [e] at hrange ⊢
    have g0 := hrange (h * pw b + n) List.mem_cons_self
    simp only [List.cons_append, List.nil_append]
    rw [bt0 _ _ g0]
    have em : (h * pw b + n) % pw b = n := by
      generalize hT : pw b = T at *
      rcases hx T rfl with rfl | rfl | rfl | rfl | rfl <;> omega
    rw [em, if_pos c1]
    rfl
  · by_cases c2 : n - (pw b - 1) < 128
    · have e : numL n (pw b) h = [h * pw b + (pw b - 1), n - (pw b - 1)] := by unfold numL; rw [if_neg c1, if_pos c2]
      rw [e] at hrange ⊢
      have g0 := hrange (h * pw b + (pw b - 1)) List.mem_cons_self
      have g1 := hrange (n - (pw b - 1)) (by simp)
      simp only [List.cons_append, List.nil_append]
      rw [bt0 _ _ g0, bt1 _ _ _ g1]
      have em : (h * pw b + (pw b - 1)) % pw b = pw b - 1 := by
        generalize hT : pw b = T at *
        rcases hx T rfl with rfl | rfl | rfl | rfl | rfl <;> omega
      rw [em, if_neg (by omega), if_pos ⟨by simp; omega, c2⟩, show pw b - 1 + (n - (pw b - 1)) = n from by omega]
      rfl
    · have e : numL n (pw b) h = [h * pw b + (pw b - 1), 128 + (n - (pw b - 1)) % 128, (n - (pw b - 1)) / 128] := by unfold numL; rw [if_neg c1, if_neg c2]
      rw [e] at hrange ⊢
      have g0 := hrange (h * pw b + (pw b - 1)) List.mem_cons_self
      have g1 := hrange (128 + (n - (pw b - 1)) % 128) (by simp)
      have g2 := hrange ((n - (pw b - 1)) / 128) (by simp)
      simp only [List.cons_append, List.nil_append]
      rw [bt0 _ _ g0, bt1 _ _ _ g1, bt2 _ _ _ _ g2]
      have em : (h * pw b + (pw b - 1)) % pw b = pw b - 1 := by
        generalize hT : pw b = T at *
        rcases hx T rfl with rfl | rfl | rfl | rfl | rfl <;> omega
      rw [em, if_neg (by omega), if_neg (by omega), if_pos ⟨by simp; omega, by omega, by omega, by omega⟩, show pw b - 1 + (128 + (n - (pw b - 1)) % 128 - 128) + 128 * ((n - (pw b - 1)) / 128) = n from by omega]
      rfl
theorem numR_str (n b h : Int) (ok : numOk n b h = true) (t : ByteArray) : numR (numW n b h ++ t) b = (n, ((numW n b h).size : Int), true) := by
  rw [numW_ok n b h ok, strOfNums_size, ba_str t, str_append, numR_back n b h ok]
theorem numR_self (n b h : Int) (ok : numOk n b h = true) : numR (numW n b h) b = (n, ((numW n b h).size : Int), true) := by
  have := numR_back n b h ok []
  rw [List.append_nil] at this
  rw [numW_ok n b h ok, strOfNums_size, this]
theorem lkTop_l0 (d : Nat) : ∀ (k : Nat) (x0 x3 x4 : Int), x0 - x4 = (d : Int) → -1000 ≤ x4 → x0 ≤ 1000 → 0 ≤ x3 → x3 * ((2 ^ d : Nat) : Int) ≤ 1000000 → d < k → laws_lkTop.l0 k x0 x3 x4 = some (x3 * ((2 ^ d : Nat) : Int) - 1) := by
  induction d with
  | zero =>
    intro k x0 x3 x4 hd h4 h0 h3 hb hk
    obtain ⟨k, rfl⟩ : ∃ m, k = m + 1 := ⟨k - 1, by omega⟩
    have e : x3 * ((2 ^ 0 : Nat) : Int) = x3 := by simp
    rw [e] at hb ⊢
    simp only [laws_lkTop.l0]
    rw [if_neg (by omega), w64 _ (by omega) (by omega)]
  | succ d ih =>
    intro k x0 x3 x4 hd h4 h0 h3 hb hk
    obtain ⟨k, rfl⟩ : ∃ m, k = m + 1 := ⟨k - 1, by omega⟩
    have e : x3 * ((2 ^ (d + 1) : Nat) : Int) = (2 * x3) * ((2 ^ d : Nat) : Int) := by
      rw [Nat.pow_succ, Int.natCast_mul, Int.mul_comm 2 x3, Int.mul_assoc, Int.mul_comm ((2 ^ d : Nat) : Int)]
      rfl
    have hp : 1 ≤ ((2 ^ d : Nat) : Int) := by have : 0 < 2 ^ d := Nat.pos_of_ne_zero (by simp); omega
    rw [e] at hb ⊢
    have hx : 2 * x3 ≤ 1000000 := Int.le_trans (by have := Int.mul_le_mul_of_nonneg_left hp (show 0 ≤ 2 * x3 by omega); omega) hb
    simp only [laws_lkTop.l0]
    rw [if_pos (by omega), w64 _ (by omega) (by omega), w64 _ (by omega) (by omega)]
    exact ih k x0 (2 * x3) (x4 + 1) (by omega) (by omega) h0 (by omega) hb (by omega)
theorem lkTop_eq (k : Nat) (b : Int) (i : Nat) (hb : b = (i : Int)) (hi : i ≤ 8) : laws_lkTop.f (k + 9) b = some (((2 ^ i : Nat) : Int) - 1) := by
  unfold laws_lkTop.f
  have hp : 2 ^ i ≤ 2 ^ 8 := Nat.pow_le_pow_right (by decide) hi
  rw [lkTop_l0 i (k + 9) b 1 0 (by omega) (by omega) (by omega) (by omega) (by omega) (by omega)]
  simp
theorem lkTop_pw (k : Nat) (b : Int) (h3 : 3 ≤ b) (h7 : b ≤ 7) : laws_lkTop.f (k + 9) b = some (pw b - 1) := by
  obtain ⟨i, e, hi, _, hp, _⟩ := pw_nat b h3 h7
  rw [lkTop_eq k b i e (by omega), hp]
theorem lkTop_8 (k : Nat) (b : Int) (h3 : 3 ≤ b) (h7 : b ≤ 7) : laws_lkTop.f (k + 9) (8 - b) = some (256 / pw b - 1) := by
  obtain ⟨i, e, hi, _, _, hp⟩ := pw_nat b h3 h7
  rw [lkTop_eq k (8 - b) (8 - i) (by omega) (by omega), hp]
theorem drawNumRead_ok (k : Nat) (l : List Int) (hl : ∀ x ∈ l, (Lit.int .u8 x).wf = true) : Te (spec_DrawNumRead.f (k + 30) l) (fun r => r.1.size ≤ 10) := by
  unfold spec_DrawNumRead.f
  refine (open_ok l hl).bind ?_
  rintro ⟨c, p⟩ ⟨hr, rfl⟩
  dsimp only at hr ⊢
  refine (drawNumWrite_ok (k + 21) l hl).bind ?_
  rintro ⟨n, b, h⟩ ⟨a1, a2, a3⟩
  dsimp only at a1 a2 a3 ⊢
  rw [sNumWrite_eq (k + 21) n b h]
  simp only [Option.bind_some, l1Byte_eq]
  have hz := numW_size n b h
  generalize numW n b h = s at hz ⊢
  refine (pick_rd (k + 29) c 0 6 hr (by omega) (by omega) (by omega)).bind ?_
  rintro ⟨v1, p1⟩ ⟨h1, h2, h3⟩
  dsimp only at h1 h2 h3 ⊢
  refine Te.ite (fun _ => ?_) (fun _ => Te.ite (fun _ => ?_) (fun _ => Te.ite (fun _ => ?_) (fun _ => ?_)))
  · refine (pick_rd (k + 29) c p1 256 (hr.next (by omega)) (by omega) (by omega) (by omega)).bind ?_
    rintro ⟨v2, p2⟩ _
    dsimp only
    rw [if_pos (by rw [strOfNums_size]; simp; omega)]
    exact Te.now (by dsimp only; rw [ByteArray.size_append, strOfNums_size]; simp; omega)
  · rw [w64 ((s.size : Int) + 1) (by omega) (by omega)]
    refine (pick_rd (k + 29) c p1 ((s.size : Int) + 1) (hr.next (by omega)) (by omega) (by omega) (by omega)).bind ?_
    rintro ⟨v2, p2⟩ ⟨i1, i2, i3⟩
    dsimp only at i1 i2 i3 ⊢
    rw [if_pos i2, if_pos (by omega)]
    exact Te.now (by dsimp only; rw [ByteArray.size_extract]; omega)
  · refine (pick_rd (k + 29) c p1 128 (hr.next (by omega)) (by omega) (by omega) (by omega)).bind ?_
    rintro ⟨v2, p2⟩ ⟨i1, i2, i3⟩
    dsimp only at i1 i2 i3 ⊢
    rw [if_pos (by rw [strOfNums_size, strOfNums_size]; simp)]
    refine (pick_rd (k + 29) c p2 3 (hr.next (by omega)) (by omega) (by omega) (by omega)).bind ?_
    rintro ⟨v3, p3⟩ _
    dsimp only
    rw [if_pos (by rw [ByteArray.size_append, strOfNums_size, strOfNums_size, strOfNums_size]; simp)]
    exact Te.now (by dsimp only; rw [ByteArray.size_append, ByteArray.size_append, strOfNums_size, strOfNums_size, strOfNums_size]; simp)
  · exact Te.now (by dsimp only; omega)
/-- What is read is written in one way. -/
theorem numR_strict (s : ByteArray) (b : Int) (n u : Int) (h : numR s b = (n, u, true)) : (3 ≤ b ∧ b ≤ 7) ∧ 1 ≤ u ∧ u ≤ 3 ∧ u ≤ (s.size : Int) ∧ (numW n b (bt s 0 / pw b)).toList = (s.extract 0 u.toNat).toList := by
  unfold numR at h
  by_cases hb : 3 ≤ b ∧ b ≤ 7 ∧ 1 ≤ (s.size : Int)
  · rw [if_pos hb] at h
    have hq := pw_q b hb.1 hb.2.1
    have r0 := bt_range s 0
    have r1 := bt_range s 1
    have r2 := bt_range s 2
    have hh := head_back (bt s 0) b ⟨hb.1, hb.2.1⟩ r0.1 r0.2
    have hm := Int.emod_lt_of_pos (bt s 0) (show 0 < pw b by omega)
    have hm0 := Int.emod_nonneg (bt s 0) (show pw b ≠ 0 by omega)
    by_cases c1 : bt s 0 % pw b < pw b - 1
    · rw [if_pos c1] at h
      simp only [Prod.mk.injEq, and_true] at h
      obtain ⟨rfl, rfl⟩ := h
      have ok : numOk (bt s 0 % pw b) b (bt s 0 / pw b) = true := (numOk_iff _ _ _).2 ⟨hm0, by omega, hb.1, hb.2.1, hh.1, hh.2.1⟩
      exact ⟨⟨hb.1, hb.2.1⟩, by omega, by omega, by omega, (cmp_iff s 1 (by omega) _ b _ ok).2 (by rw [bytes1]; unfold numL; rw [if_pos c1, hh.2.2])⟩
    · rw [if_neg c1] at h
      have hn : bt s 0 % pw b = pw b - 1 := by omega
      rw [hn] at hh
      by_cases c2 : 2 ≤ (s.size : Int) ∧ bt s 1 < 128
      · rw [if_pos c2] at h
        simp only [Prod.mk.injEq, and_true] at h
        obtain ⟨rfl, rfl⟩ := h
        have ok : numOk (pw b - 1 + bt s 1) b (bt s 0 / pw b) = true := (numOk_iff _ _ _).2 ⟨by omega, by omega, hb.1, hb.2.1, hh.1, hh.2.1⟩
        exact ⟨⟨hb.1, hb.2.1⟩, by omega, by omega, by omega, (cmp_iff s 2 (by omega) _ b _ ok).2 (by
          rw [bytes2]; unfold numL; rw [if_neg (by omega), if_pos (by omega), hh.2.2, show pw b - 1 + bt s 1 - (pw b - 1) = bt s 1 from by omega])⟩
      · rw [if_neg c2] at h
        by_cases c3 : 3 ≤ (s.size : Int) ∧ bt s 2 < 128 ∧ bt s 2 ≠ 0 ∧ pw b - 1 + (bt s 1 - 128) + 128 * bt s 2 ≤ 9999
        · rw [if_pos c3] at h
          simp only [Prod.mk.injEq, and_true] at h
          obtain ⟨rfl, rfl⟩ := h
          have ok : numOk (pw b - 1 + (bt s 1 - 128) + 128 * bt s 2) b (bt s 0 / pw b) = true := (numOk_iff _ _ _).2 ⟨by omega, c3.2.2.2, hb.1, hb.2.1, hh.1, hh.2.1⟩
          exact ⟨⟨hb.1, hb.2.1⟩, by omega, by omega, by omega, (cmp_iff s 3 (by omega) _ b _ ok).2 (by
            rw [bytes3]; unfold numL
            rw [if_neg (by omega), if_neg (by omega), hh.2.2, show pw b - 1 + (bt s 1 - 128) + 128 * bt s 2 - (pw b - 1) = (bt s 1 - 128) + 128 * bt s 2 from by omega, show 128 + (bt s 1 - 128 + 128 * bt s 2) % 128 = bt s 1 from by omega, show (bt s 1 - 128 + 128 * bt s 2) / 128 = bt s 2 from by omega])⟩
        · rw [if_neg c3] at h
          simp at h
  · rw [if_neg hb] at h
    simp at h
theorem FnNumStrict : laws_FnNumStrict.Pure := by
  intro l0 _ _ h0
  refine ⟨80, Te.tells ?_⟩
  unfold laws_FnNumStrict.f
  refine Te.ite (fun _ => Te.now rfl) (fun _ => ?_)
  refine (drawNumRead_ok 50 l0 h0).bind ?_
  rintro ⟨s, b⟩ hs
  dsimp only at hs ⊢
  rw [sNumRead_eq 71 s b (by omega), iNumRead_eq 60 s b (by omega)]
  simp only [Option.bind_some]
  rw [if_neg (by simp), if_pos trivial, if_pos trivial]
  generalize hR : numR s b = R
  obtain ⟨n, u, f⟩ := R
  cases f with
  | false =>
    simp only [laws_FnNumStrict.j0]
    exact Te.now (by simp)
  | true =>
    obtain ⟨hb, u1, u2, u3, e⟩ := numR_strict s b n u hR
    have hq := pw_q b hb.1 hb.2
    have r0 := bt_range s 0
    simp only [laws_FnNumStrict.j0]
    rw [if_neg (by decide), if_pos (by omega), lkTop_pw 70 b hb.1 hb.2]
    simp only [Option.bind_some]
    rw [show pw b - 1 + 1 = pw b from by omega, w64 (pw b) (by omega) (by omega), if_neg (by omega), w64 (bt s 0) (by omega) (by omega), Int.tdiv_eq_ediv_of_nonneg r0.1]
    have hd : 0 ≤ bt s 0 / pw b ∧ bt s 0 / pw b ≤ 255 := ⟨Int.ediv_nonneg r0.1 (by omega), Int.le_trans (Int.ediv_le_self _ r0.1) r0.2⟩
    rw [w64 (bt s 0 / pw b) (by omega) (by omega), iNumWrite_eq 75 n b (bt s 0 / pw b)]
    simp only [Option.bind_some]
    rw [if_pos (by omega), if_pos (by omega), e]
    exact Te.now (by simp)
end Go.Proofs.Ytngmpffcgglngaa.Pure
