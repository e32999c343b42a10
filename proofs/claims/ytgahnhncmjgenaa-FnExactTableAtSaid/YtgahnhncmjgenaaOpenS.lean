/-
  A slice of fields (three one-cell parts each), opened at every index, with the bounds on its texts.
-/
import Derived.Test.YtgahnhncmjgenaaXx0
import Derived.Deep.Slices
import Derived.WalkKit
import Derived.ProofKit
import Derived.ChangeSame
import Derived.SizedLaws
import Derived.DataReads
import Derived.ChangeArms
namespace Go.Proofs.Ytgahnhncmjgenaa.OpenS
open Go Go.Deep Go.ChangeShapes Go.WideShapes Go.RowKit Go.Proofs.Ytgahnhncmjgenaa.X Go.Proofs.YtgahnhncmjgenaaW.PrintWords Go.Proofs.YtgahnhncmjgenaaW.PrintLast Go.Proofs.YtgahnhncmjgenaaW.PrintMore
theorem mem_all {H : Type} {P : Program} {e : TypeId} : ∀ {l : List (DataW H)} {d : DataW H} {n : Nat}, d ∈ l → n ∈ d.weights P e → n ∈ DataW.weightsAll P e l
  | [], _, _, h, _ => by cases h
  | x :: l, d, n, h, hn => by
    simp only [DataW.weightsAll, List.mem_append]
    rcases List.mem_cons.1 h with rfl | h
    · exact .inl hn
    · exact .inr (mem_all h hn)
instance : Inhabited S56 := ⟨z56⟩
set_option maxRecDepth 100000 in
theorem open_fields {H : Type} {enc : TypeId × Value → H} {W : World} {spare : Nat → Bool} {held : Bool} {fuel : Nat} {cs : List Value} {x : DataW H × List MemPlace} (h : DataW.trod enc Try.prog W 0 spare held fuel 22 cs = some x) :
    ∃ (A : Option Addr) (l : List S56) (c : Nat), cs = [.slice A l.length c] ∧ Kd.C k56 W A l.length l ∧ l.length ≤ c ∧ ((∀ n ∈ x.1.weights Try.prog 22, n ≤ reachBytes) → (l.length ≤ 4611686018427387904 ∧ ∀ y ∈ l, y.f0.size ≤ 140737488351232 ∧ y.f1.size ≤ 140737488351232)) := by
  have hb40 : Try.prog.bytesOf 56 = 40 := by kernel_rfl
  have ce : Try.prog.cellsOf 56 = 3 := by kernel_rfl
  have c9 : Try.prog.cellsOf 9 = 1 := by kernel_rfl
  have c4 : Try.prog.cellsOf 4 = 1 := by kernel_rfl
  rcases open_slice Try.underlying22 h with ⟨rfl, rfl⟩ | ⟨a, len, cap, m, n, D, Pl, rfl, hb, hl, hm, hmm, rfl, hx⟩
  · exact ⟨none, [], 0, rfl, ⟨rfl, by simp, fun h => absurd h (by simp)⟩, Nat.le_refl _, fun _ => ⟨by simp, fun y hy => by cases hy⟩⟩
  have hlm : len ≤ m := by rw [hmm]; split <;> omega
  have each : ∀ i, i < len → ∃ q : S56, (∀ j u, ([.string q.f0, .string q.f1, .bool q.f2] : List Value)[j]? = some u → W.cell? (a.add (i * 3 + j)) = some u) ∧ D i = .agg [.lit (.string q.f0.data.toList), .lit (.string q.f1.data.toList), .lit (.bool q.f2)] := by
    intro i hi
    obtain ⟨cs', h1, h2⟩ := hx i (by omega)
    rw [ce] at h1
    obtain ⟨_, hlen, hcell⟩ := World.cells?_some h1
    obtain ⟨xs, k, hk, hxy, _, hxl, hf⟩ := DataW.trod_struct Try.underlying56 h2
    match xs, hxl, cs', hlen with
    | [y0, y1, y2], _, [v0, v1, v2], _ =>
      have g0 := hf 0 _ rfl
      have g1 := hf 1 _ rfl
      have g2 := hf 2 _ rfl
      simp [c9, c4] at g0 g1 g2
      obtain ⟨s0, e0, rfl, _⟩ := DataW.trod_string Try.underlying9 g0
      obtain ⟨s1, e1, rfl, _⟩ := DataW.trod_string Try.underlying9 g1
      obtain ⟨b2, e2, rfl⟩ := DataW.trod_bool Try.underlying4 g2
      simp only [List.cons.injEq, and_true] at e0 e1 e2
      subst e0 e1 e2
      simp only [Prod.mk.injEq] at hxy
      refine ⟨⟨s0, s1, b2⟩, fun j u hj => ?_, by simpa using hxy.1⟩
      have hj3 : j < 3 := by
        rcases Nat.lt_or_ge j 3 with h | h
        · exact h
        · rw [List.getElem?_eq_none (by simpa using h)] at hj; cases hj
      have := hcell j hj3
      rw [Deep.add_add] at this
      rw [this]
      exact hj
  obtain ⟨q, hq⟩ := choose_lt each
  have hlen : ((List.range len).map q).length = len := by simp
  refine ⟨some a, (List.range len).map q, cap, by rw [hlen], ?_, by rw [hlen]; exact hl, fun hw => ?_⟩
  · refine ⟨rfl, by rw [hlen]; unfold maxLen at hm; omega, fun _ => ⟨a, rfl, fun j p hp => ?_⟩⟩
    have hj : j < len := by
      rcases Nat.lt_or_ge j len with h | h
      · exact h
      · rw [List.getElem?_eq_none (by rw [hlen]; exact h)] at hp; cases hp
    rw [List.getElem?_map, List.getElem?_range hj] at hp
    simp only [Option.map_some, Option.some.injEq] at hp
    subst hp
    exact ⟨_, rfl, k56_mk W _, (hq j hj).1⟩
  · simp only [DataW.weights, Try.underlying22, List.mem_cons, List.mem_append] at hw
    constructor
    · have := hw _ (.inl rfl)
      rw [hb40] at this
      simp only [List.length_map, List.length_range] at this
      rw [hlen]
      unfold reachBytes at this
      omega
    · intro y hy
      obtain ⟨i, hi, rfl⟩ := List.mem_map.1 hy
      have hi' : i < len := by simpa using hi
      have hd : D i ∈ (List.range len).map D := List.mem_map.2 ⟨i, hi, rfl⟩
      have key : ∀ n ∈ (D i).weights Try.prog 56, n ≤ reachBytes := fun n hn => hw n (.inr (.inl (mem_all hd hn)))
      rw [(hq i hi').2] at key
      simp only [DataW.weights, Try.underlying56, DataW.weightsEach, List.map_cons, List.map_nil] at key
      have k0 := key (q i).f0.data.toList.length (by simp)
      have k1 := key (q i).f1.data.toList.length (by simp)
      rw [Array.length_toList] at k0 k1
      exact ⟨k0, k1⟩
end Go.Proofs.Ytgahnhncmjgenaa.OpenS
