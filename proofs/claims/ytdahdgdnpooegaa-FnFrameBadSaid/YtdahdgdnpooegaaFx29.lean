-- Written by a program of this session's (wip/tools) out of the translation. Not trusted: Lean checks it.
import Derived.Test.YtdahdgdnpooegaaFx0
import Derived.Test.YtdahdgdnpooegaaFx1
import Derived.Test.YtdahdgdnpooegaaFx22
import Derived.Test.YtdahdgdnpooegaaFx27
import Derived.Test.YtdahdgdnpooegaaFx28
namespace Go.Proofs.Ytdahdgdnpooegaa.F
open Go.RowKit Go.Proofs.YtdahdgdnpooegaaW.PrintWords Go.Proofs.YtdahdgdnpooegaaW.PrintLast Go.Proofs.YtdahdgdnpooegaaW.PrintMore
attribute [local go_sem] max2_int min2_int max_two min_two max_three min_three max_four min_four   -- for this text's walks alone
set_option linter.unusedVariables false
set_option linter.unusedSimpArgs false

attribute [local go_sem high] eqA26
/-! ### laws_FnFrameBad: function 11 -/
mutual
def laws_FnFrameBad.j0 : Nat → List Int → List Int → Bool → Option (Bool)
  | 0, _, _, _ => none
  | k + 1, x0, x1, x27 => if x27 = true then (some true) else ((spec_DrawFrameRead.f k x0).bind fun t345 => ((spec_FrameRead.f k t345).bind fun bt346 => ((impl_FrameRead.f k t345).bind fun bt353 => (if bt353.2.2.2.2.2 = bt346.2.2.2.2.2 then (if (!(bt353.1 == bt346.1) || (!(bt353.2.1 == bt346.2.1) || (!(bt353.2.2.1 == bt346.2.2.1) || (!(bt353.2.2.2.1.toList == bt346.2.2.2.1.toList))))) = true then (laws_FnFrameBad.j1 k x1 t345 bt346.2.2.2.2.1 bt346.2.2.2.2.2 bt353.2.2.2.2.1 bt353.2.2.2.2.2 true bt346.1 bt346.2.1 bt346.2.2.1 bt346.2.2.2.1 bt353.1 bt353.2.1 bt353.2.2.1 bt353.2.2.2.1) else (if bt353.2.2.2.2.1 = bt346.2.2.2.2.1 then (laws_FnFrameBad.j1 k x1 t345 bt346.2.2.2.2.1 bt346.2.2.2.2.2 bt353.2.2.2.2.1 bt353.2.2.2.2.2 (bt353.2.2.2.2.2 != 1) bt346.1 bt346.2.1 bt346.2.2.1 bt346.2.2.2.1 bt353.1 bt353.2.1 bt353.2.2.1 bt353.2.2.2.1) else (laws_FnFrameBad.j1 k x1 t345 bt346.2.2.2.2.1 bt346.2.2.2.2.2 bt353.2.2.2.2.1 bt353.2.2.2.2.2 true bt346.1 bt346.2.1 bt346.2.2.1 bt346.2.2.2.1 bt353.1 bt353.2.1 bt353.2.2.1 bt353.2.2.2.1))) else (laws_FnFrameBad.j1 k x1 t345 bt346.2.2.2.2.1 bt346.2.2.2.2.2 bt353.2.2.2.2.1 bt353.2.2.2.2.2 true bt346.1 bt346.2.1 bt346.2.2.1 bt346.2.2.2.1 bt353.1 bt353.2.1 bt353.2.2.1 bt353.2.2.2.1)))))
def laws_FnFrameBad.j1 : Nat → List Int → ByteArray → Int → Int → Int → Int → Bool → Int → Bool → Int → ByteArray → Int → Bool → Int → ByteArray → Option (Bool)
  | 0, _, _, _, _, _, _, _, _, _, _, _, _, _, _, _ => none
  | k + 1, x1, x5, x7, x8, x10, x11, x58, x353000, x353001, x353002, x353003, x360000, x360001, x360002, x360003 => if x58 = true then (if x11 = x8 then (if (x360000 == x353000 && (x360001 == x353001 && (x360002 == x353002 && (x360003.toList == x353003.toList)))) = true then (some (x10 == x7)) else (some false)) else (some false)) else (if 0 ≤ ((x1.length : Int) % 4) then (if ((x1.length : Int) % 4) ≤ (x5.size : Int) then (if ((x1.length : Int) % 4) < (x5.size : Int) then ((some (([((bt x5 ((x1.length : Int) % 4)) + 1) % 256] : List Int) : List Int)).bind fun y360 => (if (x5.extract 0 (((x1.length : Int) % 4) : Int).toNat).size + (strOfNums y360).size ≤ 9223372036854775807 then (if 0 ≤ (((x1.length : Int) % 4) + 1) then (if (((x1.length : Int) % 4) + 1) ≤ (x5.size : Int) then (if ((x5.extract 0 (((x1.length : Int) % 4) : Int).toNat) ++ (strOfNums y360)).size + (x5.extract ((((x1.length : Int) % 4) + 1) : Int).toNat x5.size).size ≤ 9223372036854775807 then ((impl_FrameRead.f k (((x5.extract 0 (((x1.length : Int) % 4) : Int).toNat) ++ (strOfNums y360)) ++ (x5.extract ((((x1.length : Int) % 4) + 1) : Int).toNat x5.size))).bind fun bt363 => ((impl_FrameRead.f k (⟨#[201, 0, 0, 1]⟩ : ByteArray)).bind fun bt370 => (if bt363.2.2.2.2.2 = 1 then (if (!(bt363.1 == x360000) || (!(bt363.2.1 == x360001) || (!(bt363.2.2.1 == x360002) || (!(bt363.2.2.2.1.toList == x360003.toList))))) = true then (some (bt370.2.2.2.2.2 == (-1))) else (some false)) else (some (bt370.2.2.2.2.2 == (-1)))))) else (none)) else (none)) else (none)) else (none))) else (none)) else (none)) else (none))
end
def laws_FnFrameBad.f (k : Nat) (l0 : List Int) (l1 : List Int) : Option (Bool) := if (l0.length : Int) > 1048576 then (laws_FnFrameBad.j0 k l0 l1 true) else (laws_FnFrameBad.j0 k l0 l1 (decide ((l1.length : Int) > 1048576)))
theorem laws_FnFrameBad.mono_l : ∀ k, (∀ y0 y1 y2, LeO (laws_FnFrameBad.j0 k y0 y1 y2) (laws_FnFrameBad.j0 (k + 1) y0 y1 y2)) ∧ (∀ y0 y1 y2 y3 y4 y5 y6 y7 y8 y9 y10 y11 y12 y13 y14, LeO (laws_FnFrameBad.j1 k y0 y1 y2 y3 y4 y5 y6 y7 y8 y9 y10 y11 y12 y13 y14) (laws_FnFrameBad.j1 (k + 1) y0 y1 y2 y3 y4 y5 y6 y7 y8 y9 y10 y11 y12 y13 y14))
  | 0 => ⟨fun _ _ _ r h => by simp [laws_FnFrameBad.j0] at h, fun _ _ _ _ _ _ _ _ _ _ _ _ _ _ _ r h => by simp [laws_FnFrameBad.j1] at h⟩
  | k + 1 => by
    obtain ⟨ih0, ih1⟩ := laws_FnFrameBad.mono_l k
    refine ⟨?_, ?_⟩
    · intro y0 y1 y2
      unfold laws_FnFrameBad.j0
      repeat' first
      | (with_reducible exact ih0 _ _ _)
      | (with_reducible exact ih1 _ _ _ _ _ _ _ _ _ _ _ _ _ _ _)
      | (with_reducible exact impl_FrameRead.mono _ _)
      | (with_reducible exact spec_DrawFrameRead.mono _ _)
      | (with_reducible exact spec_FrameRead.mono _ _)
      | (with_reducible exact LeO.refl _)
      | (with_reducible exact LeO.none _)
      | (with_reducible refine LeO.ite ?_ ?_)
      | (with_reducible refine LeO.bind ?_ (fun _ => ?_))
      | exact ih0 _ _ _
      | exact ih1 _ _ _ _ _ _ _ _ _ _ _ _ _ _ _
      | exact impl_FrameRead.mono _ _
      | exact spec_DrawFrameRead.mono _ _
      | exact spec_FrameRead.mono _ _
      | exact LeO.none _
      | refine LeO.ite ?_ ?_
      | refine LeO.bind ?_ (fun _ => ?_)
    · intro y0 y1 y2 y3 y4 y5 y6 y7 y8 y9 y10 y11 y12 y13 y14
      unfold laws_FnFrameBad.j1
      repeat' first
      | (with_reducible exact ih0 _ _ _)
      | (with_reducible exact ih1 _ _ _ _ _ _ _ _ _ _ _ _ _ _ _)
      | (with_reducible exact impl_FrameRead.mono _ _)
      | (with_reducible exact spec_DrawFrameRead.mono _ _)
      | (with_reducible exact spec_FrameRead.mono _ _)
      | (with_reducible exact LeO.refl _)
      | (with_reducible exact LeO.none _)
      | (with_reducible refine LeO.ite ?_ ?_)
      | (with_reducible refine LeO.bind ?_ (fun _ => ?_))
      | exact ih0 _ _ _
      | exact ih1 _ _ _ _ _ _ _ _ _ _ _ _ _ _ _
      | exact impl_FrameRead.mono _ _
      | exact spec_DrawFrameRead.mono _ _
      | exact spec_FrameRead.mono _ _
      | exact LeO.none _
      | refine LeO.ite ?_ ?_
      | refine LeO.bind ?_ (fun _ => ?_)
theorem laws_FnFrameBad.mono : ∀ a0 a1 k, LeO (laws_FnFrameBad.f k a0 a1) (laws_FnFrameBad.f (k + 1) a0 a1) := by
  intro a0 a1 k
  obtain ⟨ih0, ih1⟩ := laws_FnFrameBad.mono_l k
  unfold laws_FnFrameBad.f
  repeat' first
      | (with_reducible exact ih0 _ _ _)
      | (with_reducible exact ih1 _ _ _ _ _ _ _ _ _ _ _ _ _ _ _)
      | (with_reducible exact impl_FrameRead.mono _ _)
      | (with_reducible exact spec_DrawFrameRead.mono _ _)
      | (with_reducible exact spec_FrameRead.mono _ _)
      | (with_reducible exact LeO.refl _)
      | (with_reducible exact LeO.none _)
      | (with_reducible refine LeO.ite ?_ ?_)
      | (with_reducible refine LeO.bind ?_ (fun _ => ?_))
      | exact ih0 _ _ _
      | exact ih1 _ _ _ _ _ _ _ _ _ _ _ _ _ _ _
      | exact impl_FrameRead.mono _ _
      | exact spec_DrawFrameRead.mono _ _
      | exact spec_FrameRead.mono _ _
      | exact LeO.none _
      | refine LeO.ite ?_ ?_
      | refine LeO.bind ?_ (fun _ => ?_)
def laws_FnFrameBad.T9 : Bool × List (List Nat × List Nat) := (true, [([], []), ([], []), ([0, 1], [0, 1]), ([], []), ([], []), ([3, 4], [3, 4]), ([5], [5]), ([6], [6]), ([7], [7]), ([2, 8], [2, 8]), ([], []), ([], []), ([11], [11]), ([10, 12], [10, 12]), ([9, 13], [9, 13]), ([14, 0, 1, 2, 3, 4, 5, 6, 7, 8, 9, 10, 11, 12, 13, 14], [14])])
def laws_FnFrameBad.B9 : List Nat := [0, 0, 3, 0, 0, 24, 56, 120, 248, 511, 0, 0, 2048, 7168, 16383, 32767]
theorem laws_FnFrameBad.tab9 : rtab .any (opsOf Try.f11 9) = laws_FnFrameBad.T9 := by kernel_rfl
theorem laws_FnFrameBad.bits9 : waitsOk laws_FnFrameBad.T9.2 laws_FnFrameBad.B9 = true := by kernel_rfl
set_option maxHeartbeats 8000000 in
set_option maxRecDepth 100000 in
theorem laws_FnFrameBad.calls (k : Nat) (A0 : Option Addr) (c0 : Nat) (l0 : List Int) (A1 : Option Addr) (c1 : Nat) (l1 : List Int) (r : Bool) (w : World) (hr0 : Kd.C (Kd.int .u8) w A0 l0.length l0) (hc0 : l0.length ≤ c0) (hr1 : Kd.C (Kd.int .u8) w A1 l1.length l1) (hc1 : l1.length ≤ c1) (h : laws_FnFrameBad.f k l0 l1 = some r) :
    Calls Try.prog 11 #[.slice A0 l0.length c0, .slice A1 l1.length c1] w fun e w' => e = .returned (.bool r) ∧ Below w.heap.size w w' := by
  have hu26 := Try.underlying26
  have HR0 := Aside0.mk hr0
  have HC0 := Aside0.mk hc0
  clear hr0 hc0
  have HR1 := Aside0.mk hr1
  have HC1 := Aside0.mk hc1
  clear hr1 hc1
  have HB := Aside0.mk (Below.refl w.heap.size w)
  have H : (if (l0.length : Int) > 1048576 then (laws_FnFrameBad.j0 k l0 l1 true) else (laws_FnFrameBad.j0 k l0 l1 (decide ((l1.length : Int) > 1048576)))) = some r := h
  clear h
  have HC3 := Aside0.mk H
  clear H
  go_enter Try.func11, Try.ntmps11
  go_upto_region 1 with (fail)
  go_cut [27] (fun v27 wc => ∃ (kq : Nat) (x27_2 : Bool), v27 = .bool x27_2 ∧ Aside0 (laws_FnFrameBad.j0 kq l0 l1 x27_2 = some r) ∧ Aside0 (kq ≤ k) ∧ Aside0 (Below w.heap.size w wc))
  case first =>
    have H := HC3.out
    clear HC3
    by_cases c4 : (l0.length : Int) > 1048576
    · rw [if_pos c4] at H
      have c4b0 : decide (1048576 < (l0.length : Int)) = true := decide_eq_true c4
      have c4b1 : decide (1048576 < l0.length) = true := decide_eq_true (by omega)
      clear c4
      (first | rw [c4b0] | (simp only [i64_w, i32_w]; rw [c4b0]) | skip)
      have H' := Aside0.mk H
      clear H
      go_wp2
      go_meet
      case rel => exact ⟨_, (true), (by first | rfl | (simp; done) | (simp [*]; done)), H', ⟨by first | omega | exact Nat.le_refl _⟩, ⟨by repeat (first | (with_reducible first | exact HB.out | apply below_alloc | apply pw_below_drewN | apply below_drew1) | exact HB.out)⟩⟩
    · rw [if_neg c4] at H
      have c4b0 : decide (1048576 < (l0.length : Int)) = false := decide_eq_false c4
      have c4b1 : decide (1048576 < l0.length) = false := decide_eq_false (by omega)
      clear c4
      (first | rw [c4b0] | (simp only [i64_w, i32_w]; rw [c4b0]) | skip)
      have H' := Aside0.mk H
      clear H
      go_wp2
      go_meet
      case rel => exact ⟨_, (decide ((l1.length : Int) > 1048576)), (by first | rfl | (simp; done) | (simp [*]; done)), H', ⟨by first | omega | exact Nat.le_refl _⟩, ⟨by repeat (first | (with_reducible first | exact HB.out | apply below_alloc | apply pw_below_drewN | apply below_drew1) | exact HB.out)⟩⟩
  case rest =>
    clear HC3
    try clear c1
    try clear p2
    try clear c4
    try clear c4b0
    try clear c4b1
    obtain ⟨kq, x27_2, rfl, HA, HJ2, HB⟩ := hcut
    cases kq with
    | zero => exact absurd HA.out (by simp [laws_FnFrameBad.j0])
    | succ kj2 =>
      have H := HA.out
      clear HA
      simp only [laws_FnFrameBad.j0] at H
      by_cases c5 : x27_2 = true
      · subst c5
        have H1 : (some true) = some r := by rw [if_pos rfl] at H; exact H
        clear H
        have H := H1
        clear H1
        obtain rfl := Option.some.inj H
        go_wp2
        go_ret
        exact ⟨by first | rfl | (simp [errW_none, errW_some] <;> rfl) | (simp [*, errW_none, errW_some] <;> rfl), by repeat (first | (with_reducible first | exact HB.out | apply below_alloc | apply pw_below_drewN | apply below_drew1) | exact HB.out)⟩
      · replace c5 := Bool.eq_false_iff.mpr c5
        subst c5
        have H1 : ((spec_DrawFrameRead.f kj2 l0).bind fun t345 => ((spec_FrameRead.f kj2 t345).bind fun bt346 => ((impl_FrameRead.f kj2 t345).bind fun bt353 => (if bt353.2.2.2.2.2 = bt346.2.2.2.2.2 then (if (!(bt353.1 == bt346.1) || (!(bt353.2.1 == bt346.2.1) || (!(bt353.2.2.1 == bt346.2.2.1) || (!(bt353.2.2.2.1.toList == bt346.2.2.2.1.toList))))) = true then (laws_FnFrameBad.j1 kj2 l1 t345 bt346.2.2.2.2.1 bt346.2.2.2.2.2 bt353.2.2.2.2.1 bt353.2.2.2.2.2 true bt346.1 bt346.2.1 bt346.2.2.1 bt346.2.2.2.1 bt353.1 bt353.2.1 bt353.2.2.1 bt353.2.2.2.1) else (if bt353.2.2.2.2.1 = bt346.2.2.2.2.1 then (laws_FnFrameBad.j1 kj2 l1 t345 bt346.2.2.2.2.1 bt346.2.2.2.2.2 bt353.2.2.2.2.1 bt353.2.2.2.2.2 (bt353.2.2.2.2.2 != 1) bt346.1 bt346.2.1 bt346.2.2.1 bt346.2.2.2.1 bt353.1 bt353.2.1 bt353.2.2.1 bt353.2.2.2.1) else (laws_FnFrameBad.j1 kj2 l1 t345 bt346.2.2.2.2.1 bt346.2.2.2.2.2 bt353.2.2.2.2.1 bt353.2.2.2.2.2 true bt346.1 bt346.2.1 bt346.2.2.1 bt346.2.2.2.1 bt353.1 bt353.2.1 bt353.2.2.1 bt353.2.2.2.1))) else (laws_FnFrameBad.j1 kj2 l1 t345 bt346.2.2.2.2.1 bt346.2.2.2.2.2 bt353.2.2.2.2.1 bt353.2.2.2.2.2 true bt346.1 bt346.2.1 bt346.2.2.1 bt346.2.2.2.1 bt353.1 bt353.2.1 bt353.2.2.1 bt353.2.2.2.1))))) = some r := by rw [if_neg (show ¬ (false = true) by decide)] at H; exact H
        clear H
        have H := H1
        clear H1
        replace H := Option.bind_eq_some_iff.mp H
        obtain ⟨t345, A60, H⟩ := H
        replace H : ((spec_FrameRead.f kj2 t345).bind fun bt346 => ((impl_FrameRead.f kj2 t345).bind fun bt353 => (if bt353.2.2.2.2.2 = bt346.2.2.2.2.2 then (if (!(bt353.1 == bt346.1) || (!(bt353.2.1 == bt346.2.1) || (!(bt353.2.2.1 == bt346.2.2.1) || (!(bt353.2.2.2.1.toList == bt346.2.2.2.1.toList))))) = true then (laws_FnFrameBad.j1 kj2 l1 t345 bt346.2.2.2.2.1 bt346.2.2.2.2.2 bt353.2.2.2.2.1 bt353.2.2.2.2.2 true bt346.1 bt346.2.1 bt346.2.2.1 bt346.2.2.2.1 bt353.1 bt353.2.1 bt353.2.2.1 bt353.2.2.2.1) else (if bt353.2.2.2.2.1 = bt346.2.2.2.2.1 then (laws_FnFrameBad.j1 kj2 l1 t345 bt346.2.2.2.2.1 bt346.2.2.2.2.2 bt353.2.2.2.2.1 bt353.2.2.2.2.2 (bt353.2.2.2.2.2 != 1) bt346.1 bt346.2.1 bt346.2.2.1 bt346.2.2.2.1 bt353.1 bt353.2.1 bt353.2.2.1 bt353.2.2.2.1) else (laws_FnFrameBad.j1 kj2 l1 t345 bt346.2.2.2.2.1 bt346.2.2.2.2.2 bt353.2.2.2.2.1 bt353.2.2.2.2.2 true bt346.1 bt346.2.1 bt346.2.2.1 bt346.2.2.2.1 bt353.1 bt353.2.1 bt353.2.2.1 bt353.2.2.2.1))) else (laws_FnFrameBad.j1 kj2 l1 t345 bt346.2.2.2.2.1 bt346.2.2.2.2.2 bt353.2.2.2.2.1 bt353.2.2.2.2.2 true bt346.1 bt346.2.1 bt346.2.2.1 bt346.2.2.2.1 bt353.1 bt353.2.1 bt353.2.2.1 bt353.2.2.2.1)))) = some r := H
        have A6 := Aside0.mk A60
        (try (simp only [ByteArray.size_append] at A6))
        clear A60
        replace H := Option.bind_eq_some_iff.mp H
        obtain ⟨⟨t346, t347, t348, t349, t350, t351⟩, A70, H⟩ := H
        replace H : ((impl_FrameRead.f kj2 t345).bind fun bt353 => (if bt353.2.2.2.2.2 = t351 then (if (!(bt353.1 == t346) || (!(bt353.2.1 == t347) || (!(bt353.2.2.1 == t348) || (!(bt353.2.2.2.1.toList == t349.toList))))) = true then (laws_FnFrameBad.j1 kj2 l1 t345 t350 t351 bt353.2.2.2.2.1 bt353.2.2.2.2.2 true t346 t347 t348 t349 bt353.1 bt353.2.1 bt353.2.2.1 bt353.2.2.2.1) else (if bt353.2.2.2.2.1 = t350 then (laws_FnFrameBad.j1 kj2 l1 t345 t350 t351 bt353.2.2.2.2.1 bt353.2.2.2.2.2 (bt353.2.2.2.2.2 != 1) t346 t347 t348 t349 bt353.1 bt353.2.1 bt353.2.2.1 bt353.2.2.2.1) else (laws_FnFrameBad.j1 kj2 l1 t345 t350 t351 bt353.2.2.2.2.1 bt353.2.2.2.2.2 true t346 t347 t348 t349 bt353.1 bt353.2.1 bt353.2.2.1 bt353.2.2.2.1))) else (laws_FnFrameBad.j1 kj2 l1 t345 t350 t351 bt353.2.2.2.2.1 bt353.2.2.2.2.2 true t346 t347 t348 t349 bt353.1 bt353.2.1 bt353.2.2.1 bt353.2.2.2.1))) = some r := H
        have A7 := Aside0.mk A70
        (try (simp only [ByteArray.size_append] at A7))
        clear A70
        replace H := Option.bind_eq_some_iff.mp H
        obtain ⟨⟨t353, t354, t355, t356, t357, t358⟩, A80, H⟩ := H
        replace H : (if t358 = t351 then (if (!(t353 == t346) || (!(t354 == t347) || (!(t355 == t348) || (!(t356.toList == t349.toList))))) = true then (laws_FnFrameBad.j1 kj2 l1 t345 t350 t351 t357 t358 true t346 t347 t348 t349 t353 t354 t355 t356) else (if t357 = t350 then (laws_FnFrameBad.j1 kj2 l1 t345 t350 t351 t357 t358 (t358 != 1) t346 t347 t348 t349 t353 t354 t355 t356) else (laws_FnFrameBad.j1 kj2 l1 t345 t350 t351 t357 t358 true t346 t347 t348 t349 t353 t354 t355 t356))) else (laws_FnFrameBad.j1 kj2 l1 t345 t350 t351 t357 t358 true t346 t347 t348 t349 t353 t354 t355 t356)) = some r := H
        have A8 := Aside0.mk A80
        (try (simp only [ByteArray.size_append] at A8))
        clear A80
        have HC9 := Aside0.mk H
        clear H
        go_upto_region 6 with (first | ((with_reducible refine gate_callee (f := 24) rfl ?_); refine goesL_ (some 29) rfl rfl Try.func24 (by kernel_rfl) rfl #[.slice A0 l0.length c0] rfl (by (try simp only [List.map_toArray, List.map_cons, List.map_nil]); first | done | rfl | (simp only [List.length_drop, List.length_take]; rfl)) ?_; (with_reducible refine (spec_DrawFrameRead.calls kj2 _ _ l0 t345 _ ?side1 ?side2 A6.out).mono ?_); (case side1 => repeat (first | exact (Kd.C_below HR0.out HB.out) | (with_reducible refine Kd.C_alloc ?_ _) | (with_reducible refine Kd.C_drewN ?_ _) | (with_reducible refine Kd.C_drew ?_))); (case side2 => exact HC0.out); rintro e w10 ⟨rfl, hb⟩; refine ⟨_, rfl, ?_⟩; have n0_ := Aside0.mk (below_step (by repeat (first | (with_reducible first | exact HB.out | apply below_alloc | apply pw_below_drewN | apply below_drew1) | exact HB.out)) hb); clear HB; have HB := n0_; clear n0_; (try clear hb); (try clear hb2); (try clear hk); (try clear hi)) | ((with_reducible refine gate_callee (f := 19) rfl ?_); refine goesL_ (some 32) rfl rfl Try.func19 (by kernel_rfl) rfl #[.string t345] rfl (by (try simp only [List.map_toArray, List.map_cons, List.map_nil]); first | done | rfl | (simp only [List.length_drop, List.length_take]; rfl)) ?_; (with_reducible refine (spec_FrameRead.calls kj2 t345 t346 t347 t348 t349 t350 t351 _ A7.out).mono ?_); rintro e w11 ⟨rfl, hb⟩; refine ⟨_, rfl, ?_⟩; have n0_ := Aside0.mk (below_step (by repeat (first | (with_reducible first | exact HB.out | apply below_alloc | apply pw_below_drewN | apply below_drew1) | exact HB.out)) hb); clear HB; have HB := n0_; clear n0_; (try clear hb); (try clear hb2); (try clear hk); (try clear hi)) | ((with_reducible refine gate_dst (N := 6) rfl ?_); (try (refine gate_guard (by rfl) ?_; dsimp only)); refine box_event ?hg (N := 6) ?hd (cs := #[.int .i64 0, .bool false, .int .i64 0, .string (⟨#[]⟩ : ByteArray)]) (t := 26) ?hr ?_; (case hd => rfl); (case hg => rfl); (case hr => first | (go_simp; done) | (go_simp; rfl)); intro gb352 hg w12 hbox hb; have n0_ := Aside0.mk (below_step (by repeat (first | (with_reducible first | exact HB.out | apply below_alloc | apply pw_below_drewN | apply below_drew1) | exact HB.out)) hb); have n1_ := Aside0.mk (hbox); have n2_ := Aside0.mk ((by rw [hg]; exact (below_size (by repeat (first | (with_reducible first | exact HB.out | apply below_alloc | apply pw_below_drewN | apply below_drew1) | exact HB.out))) : w.heap.size ≤ gb352)); have n3_ := Aside0.mk ((by rw [hg]; exact (below_size (by repeat (first | (with_reducible first | exact HB.out | apply below_alloc | apply pw_below_drewN | apply below_drew1) | exact HB.out))) : w.heap.size ≤ gb352)); clear HB; have HB := n0_; have BK352 := n1_; have GW352 := n2_; have GE352 := n3_; clear n0_ n1_ n2_ n3_; clear hb hbox hg; have hcz13_0 : w12.cell? ⟨gb352, 0, none⟩ = some (.int .i64 0) := (blk_cell BK352.out 0).trans rfl; have hcz13_1 : w12.cell? ⟨gb352, 1, none⟩ = some (.bool false) := (blk_cell BK352.out 1).trans rfl; have hcz13_2 : w12.cell? ⟨gb352, 2, none⟩ = some (.int .i64 0) := (blk_cell BK352.out 2).trans rfl; have hcz13_3 : w12.cell? ⟨gb352, 3, none⟩ = some (.string (⟨#[]⟩ : ByteArray)) := (blk_cell BK352.out 3).trans rfl; have hfz13_0 := blk_frozen BK352.out 0; have hfz13_1 := blk_frozen BK352.out 1; have hfz13_2 := blk_frozen BK352.out 2; have hfz13_3 := blk_frozen BK352.out 3) | ((with_reducible refine gate_callee (f := 20) rfl ?_); refine goesL_ (some 38) rfl rfl Try.func20 (by kernel_rfl) rfl #[.string t345] rfl (by (try simp only [List.map_toArray, List.map_cons, List.map_nil]); first | done | rfl | (simp only [List.length_drop, List.length_take]; rfl)) ?_; (with_reducible refine (impl_FrameRead.calls kj2 t345 t353 t354 t355 t356 t357 t358 _ A8.out).mono ?_); rintro e w14 ⟨rfl, hb⟩; refine ⟨_, rfl, ?_⟩; have n0_ := Aside0.mk (blk_below (g := gb352) (o := .cells #[.int .i64 t346, .bool t347, .int .i64 t348, .string t349] 26 (0, 0)) (by (with_reducible repeat (first | refine blk_drewN ?_ _ | refine blk_drew ?_ | refine blk_alloc ?_ _)); refine blk_put (cs := #[.int .i64 t346, .bool t347, .int .i64 t348, .string (⟨#[]⟩ : ByteArray)]) ?_ 3 _ rfl; (with_reducible repeat (first | refine blk_drewN ?_ _ | refine blk_drew ?_ | refine blk_alloc ?_ _)); refine blk_put (cs := #[.int .i64 t346, .bool t347, .int .i64 0, .string (⟨#[]⟩ : ByteArray)]) ?_ 2 _ rfl; (with_reducible repeat (first | refine blk_drewN ?_ _ | refine blk_drew ?_ | refine blk_alloc ?_ _)); refine blk_put (cs := #[.int .i64 t346, .bool false, .int .i64 0, .string (⟨#[]⟩ : ByteArray)]) ?_ 1 _ rfl; (with_reducible repeat (first | refine blk_drewN ?_ _ | refine blk_drew ?_ | refine blk_alloc ?_ _)); refine blk_put (cs := #[.int .i64 0, .bool false, .int .i64 0, .string (⟨#[]⟩ : ByteArray)]) ?_ 0 _ rfl; (with_reducible repeat (first | refine blk_drewN ?_ _ | refine blk_drew ?_ | refine blk_alloc ?_ _)); exact BK352.out) hb); have n1_ := Aside0.mk (below_step (by repeat (first | (with_reducible first | exact HB.out | apply below_alloc | apply pw_below_drewN | apply below_drew1 | refine below_set ?_ GE352.out) | exact HB.out)) hb); clear BK352; clear HB; have BK352 := n0_; have HB := n1_; clear n0_ n1_; (try clear hb); (try clear hb2); (try clear hk); (try clear hi)) | ((with_reducible refine gate_dst (N := 9) rfl ?_); (try (refine gate_guard (by rfl) ?_; dsimp only)); refine box_event ?hg (N := 9) ?hd (cs := #[.int .i64 0, .bool false, .int .i64 0, .string (⟨#[]⟩ : ByteArray)]) (t := 26) ?hr ?_; (case hd => rfl); (case hg => rfl); (case hr => first | (go_simp; done) | (go_simp; rfl)); intro gb359 hg w15 hbox hb; have n0_ := Aside0.mk (blk_below (g := gb352) (o := .cells #[.int .i64 t346, .bool t347, .int .i64 t348, .string t349] 26 (0, 0)) (by (with_reducible repeat (first | refine blk_drewN ?_ _ | refine blk_drew ?_ | refine blk_alloc ?_ _)); exact BK352.out) hb); have n1_ := Aside0.mk (below_step (by repeat (first | (with_reducible first | exact HB.out | apply below_alloc | apply pw_below_drewN | apply below_drew1 | refine below_set ?_ GE352.out) | exact HB.out)) hb); have n2_ := Aside0.mk (hbox); have n3_ := Aside0.mk ((by rw [hg]; exact (below_size (by repeat (first | (with_reducible first | exact HB.out | apply below_alloc | apply pw_below_drewN | apply below_drew1 | refine below_set ?_ GE352.out) | exact HB.out))) : w.heap.size ≤ gb359)); have n4_ := Aside0.mk ((by rw [hg]; exact (below_size (by repeat (first | (with_reducible first | exact HB.out | apply below_alloc | apply pw_below_drewN | apply below_drew1 | refine below_set ?_ GE352.out) | exact HB.out))) : w.heap.size ≤ gb359)); have n5_ := Aside0.mk ((by rw [hg]; exact Nat.ne_of_lt (blk_lt (g := gb352) (o := .cells #[.int .i64 t346, .bool t347, .int .i64 t348, .string t349] 26 (0, 0)) (by (with_reducible repeat (first | refine blk_drewN ?_ _ | refine blk_drew ?_ | refine blk_alloc ?_ _)); exact BK352.out)) : gb352 ≠ gb359)); have n6_ := Aside0.mk ((by rw [hg]; exact Nat.ne_of_gt (blk_lt (g := gb352) (o := .cells #[.int .i64 t346, .bool t347, .int .i64 t348, .string t349] 26 (0, 0)) (by (with_reducible repeat (first | refine blk_drewN ?_ _ | refine blk_drew ?_ | refine blk_alloc ?_ _)); exact BK352.out)) : gb359 ≠ gb352)); clear BK352; clear HB; have BK352 := n0_; have HB := n1_; have BK359 := n2_; have GW359 := n3_; have GE359 := n4_; have NB352_359 := n5_; have NB359_352 := n6_; clear n0_ n1_ n2_ n3_ n4_ n5_ n6_; clear hb hbox hg; have hnb16 := NB359_352.out; have hnc16 := NB352_359.out; have hcz17_0 : w15.cell? ⟨gb359, 0, none⟩ = some (.int .i64 0) := (blk_cell BK359.out 0).trans rfl; have hcz17_1 : w15.cell? ⟨gb359, 1, none⟩ = some (.bool false) := (blk_cell BK359.out 1).trans rfl; have hcz17_2 : w15.cell? ⟨gb359, 2, none⟩ = some (.int .i64 0) := (blk_cell BK359.out 2).trans rfl; have hcz17_3 : w15.cell? ⟨gb359, 3, none⟩ = some (.string (⟨#[]⟩ : ByteArray)) := (blk_cell BK359.out 3).trans rfl; have hfz17_0 := blk_frozen BK359.out 0; have hfz17_1 := blk_frozen BK359.out 1; have hfz17_2 := blk_frozen BK359.out 2; have hfz17_3 := blk_frozen BK359.out 3))
        (try simp only [Act.put, List.setIfInBounds_toArray, List.set_cons_zero, List.set_cons_succ])
        go_cut [58] (fun v58 wc => ∃ (kq : Nat) (x58_8 : Bool), v58 = .bool x58_8 ∧ Aside0 (laws_FnFrameBad.j1 kq l1 t345 t350 t351 t357 t358 x58_8 t346 t347 t348 t349 t353 t354 t355 t356 = some r) ∧ Aside0 (kq ≤ kj2) ∧ Aside0 (wc.heap[gb352]? = some (.cells #[.int .i64 t346, .bool t347, .int .i64 t348, .string t349] 26 (0, 0))) ∧ Aside0 (wc.heap[gb359]? = some (.cells #[.int .i64 t353, .bool t354, .int .i64 t355, .string t356] 26 (0, 0))) ∧ Aside0 (Below w.heap.size w wc))
        case first =>
          have H := HC9.out
          clear HC9
          by_cases c18 : t358 = t351
          · rw [if_pos c18] at H
            have c18b0 : (t358 == t351) = true := beq_iff_eq.mpr c18
            have c18b1 : (t358 != t351) = false := bne_eq_false_iff_eq.mpr c18
            clear c18
            (first | rw [c18b0] | (simp only [i64_w, i32_w]; rw [c18b0]) | skip)
            by_cases c19 : (!(t353 == t346) || (!(t354 == t347) || (!(t355 == t348) || (!(t356.toList == t349.toList))))) = true
            · rw [if_pos c19] at H
              have c19b0 : (!(t353 == t346) || (!(t354 == t347) || (!(t355 == t348) || (!(t356.toList == t349.toList))))) = true := c19
              clear c19
              have H' := Aside0.mk H
              clear H
              have hnb20 := NB359_352.out
              have hnc20 := NB352_359.out
              have hcz21_0 : w15.cell? ⟨gb359, 0, none⟩ = some (.int .i64 0) := (blk_cell BK359.out 0).trans rfl
              have hcz21_1 : w15.cell? ⟨gb359, 1, none⟩ = some (.bool false) := (blk_cell BK359.out 1).trans rfl
              have hcz21_2 : w15.cell? ⟨gb359, 2, none⟩ = some (.int .i64 0) := (blk_cell BK359.out 2).trans rfl
              have hcz21_3 : w15.cell? ⟨gb359, 3, none⟩ = some (.string (⟨#[]⟩ : ByteArray)) := (blk_cell BK359.out 3).trans rfl
              have hfz21_0 := blk_frozen BK359.out 0
              have hfz21_1 := blk_frozen BK359.out 1
              have hfz21_2 := blk_frozen BK359.out 2
              have hfz21_3 := blk_frozen BK359.out 3
              have hcz22_0 : w15.cell? ⟨gb352, 0, none⟩ = some (.int .i64 t346) := (blk_cell BK352.out 0).trans rfl
              have hcz22_1 : w15.cell? ⟨gb352, 1, none⟩ = some (.bool t347) := (blk_cell BK352.out 1).trans rfl
              have hcz22_2 : w15.cell? ⟨gb352, 2, none⟩ = some (.int .i64 t348) := (blk_cell BK352.out 2).trans rfl
              have hcz22_3 : w15.cell? ⟨gb352, 3, none⟩ = some (.string t349) := (blk_cell BK352.out 3).trans rfl
              have hfz22_0 := blk_frozen BK352.out 0
              have hfz22_1 := blk_frozen BK352.out 1
              have hfz22_2 := blk_frozen BK352.out 2
              have hfz22_3 := blk_frozen BK352.out 3
              go_wp2
              go_meet
              case rel => exact ⟨_, (true), (by first | rfl | (simp; done) | (simp [*]; done)), H', ⟨by have := HJ2.out; first | omega | exact Nat.le_refl _⟩, ⟨by (with_reducible repeat (first | refine blk_drewN ?_ _ | refine blk_drew ?_ | refine blk_alloc ?_ _)); refine blk_far ?_ NB352_359.out _; (with_reducible repeat (first | refine blk_drewN ?_ _ | refine blk_drew ?_ | refine blk_alloc ?_ _)); refine blk_far ?_ NB352_359.out _; (with_reducible repeat (first | refine blk_drewN ?_ _ | refine blk_drew ?_ | refine blk_alloc ?_ _)); refine blk_far ?_ NB352_359.out _; (with_reducible repeat (first | refine blk_drewN ?_ _ | refine blk_drew ?_ | refine blk_alloc ?_ _)); refine blk_far ?_ NB352_359.out _; (with_reducible repeat (first | refine blk_drewN ?_ _ | refine blk_drew ?_ | refine blk_alloc ?_ _)); exact BK352.out⟩, ⟨by (with_reducible repeat (first | refine blk_drewN ?_ _ | refine blk_drew ?_ | refine blk_alloc ?_ _)); refine blk_put (cs := #[.int .i64 t353, .bool t354, .int .i64 t355, .string (⟨#[]⟩ : ByteArray)]) ?_ 3 _ rfl; (with_reducible repeat (first | refine blk_drewN ?_ _ | refine blk_drew ?_ | refine blk_alloc ?_ _)); refine blk_put (cs := #[.int .i64 t353, .bool t354, .int .i64 0, .string (⟨#[]⟩ : ByteArray)]) ?_ 2 _ rfl; (with_reducible repeat (first | refine blk_drewN ?_ _ | refine blk_drew ?_ | refine blk_alloc ?_ _)); refine blk_put (cs := #[.int .i64 t353, .bool false, .int .i64 0, .string (⟨#[]⟩ : ByteArray)]) ?_ 1 _ rfl; (with_reducible repeat (first | refine blk_drewN ?_ _ | refine blk_drew ?_ | refine blk_alloc ?_ _)); refine blk_put (cs := #[.int .i64 0, .bool false, .int .i64 0, .string (⟨#[]⟩ : ByteArray)]) ?_ 0 _ rfl; (with_reducible repeat (first | refine blk_drewN ?_ _ | refine blk_drew ?_ | refine blk_alloc ?_ _)); exact BK359.out⟩, ⟨by repeat (first | (with_reducible first | exact HB.out | apply below_alloc | apply pw_below_drewN | apply below_drew1 | refine below_set ?_ GE352.out | refine below_set ?_ GE359.out) | exact HB.out)⟩⟩
            · rw [if_neg c19] at H
              have c19b0 : (!(t353 == t346) || (!(t354 == t347) || (!(t355 == t348) || (!(t356.toList == t349.toList))))) = false := by simpa using c19
              clear c19
              by_cases c23 : t357 = t350
              · rw [if_pos c23] at H
                have c23b0 : (t357 == t350) = true := beq_iff_eq.mpr c23
                have c23b1 : (t357 != t350) = false := bne_eq_false_iff_eq.mpr c23
                clear c23
                have H' := Aside0.mk H
                clear H
                have hnb24 := NB359_352.out
                have hnc24 := NB352_359.out
                have hcz25_0 : w15.cell? ⟨gb359, 0, none⟩ = some (.int .i64 0) := (blk_cell BK359.out 0).trans rfl
                have hcz25_1 : w15.cell? ⟨gb359, 1, none⟩ = some (.bool false) := (blk_cell BK359.out 1).trans rfl
                have hcz25_2 : w15.cell? ⟨gb359, 2, none⟩ = some (.int .i64 0) := (blk_cell BK359.out 2).trans rfl
                have hcz25_3 : w15.cell? ⟨gb359, 3, none⟩ = some (.string (⟨#[]⟩ : ByteArray)) := (blk_cell BK359.out 3).trans rfl
                have hfz25_0 := blk_frozen BK359.out 0
                have hfz25_1 := blk_frozen BK359.out 1
                have hfz25_2 := blk_frozen BK359.out 2
                have hfz25_3 := blk_frozen BK359.out 3
                have hcz26_0 : w15.cell? ⟨gb352, 0, none⟩ = some (.int .i64 t346) := (blk_cell BK352.out 0).trans rfl
                have hcz26_1 : w15.cell? ⟨gb352, 1, none⟩ = some (.bool t347) := (blk_cell BK352.out 1).trans rfl
                have hcz26_2 : w15.cell? ⟨gb352, 2, none⟩ = some (.int .i64 t348) := (blk_cell BK352.out 2).trans rfl
                have hcz26_3 : w15.cell? ⟨gb352, 3, none⟩ = some (.string t349) := (blk_cell BK352.out 3).trans rfl
                have hfz26_0 := blk_frozen BK352.out 0
                have hfz26_1 := blk_frozen BK352.out 1
                have hfz26_2 := blk_frozen BK352.out 2
                have hfz26_3 := blk_frozen BK352.out 3
                go_wp2
                go_meet
                case rel => exact ⟨_, ((t358 != 1)), (by first | rfl | (simp; done) | (simp [*]; done)), H', ⟨by have := HJ2.out; first | omega | exact Nat.le_refl _⟩, ⟨by (with_reducible repeat (first | refine blk_drewN ?_ _ | refine blk_drew ?_ | refine blk_alloc ?_ _)); refine blk_far ?_ NB352_359.out _; (with_reducible repeat (first | refine blk_drewN ?_ _ | refine blk_drew ?_ | refine blk_alloc ?_ _)); refine blk_far ?_ NB352_359.out _; (with_reducible repeat (first | refine blk_drewN ?_ _ | refine blk_drew ?_ | refine blk_alloc ?_ _)); refine blk_far ?_ NB352_359.out _; (with_reducible repeat (first | refine blk_drewN ?_ _ | refine blk_drew ?_ | refine blk_alloc ?_ _)); refine blk_far ?_ NB352_359.out _; (with_reducible repeat (first | refine blk_drewN ?_ _ | refine blk_drew ?_ | refine blk_alloc ?_ _)); exact BK352.out⟩, ⟨by (with_reducible repeat (first | refine blk_drewN ?_ _ | refine blk_drew ?_ | refine blk_alloc ?_ _)); refine blk_put (cs := #[.int .i64 t353, .bool t354, .int .i64 t355, .string (⟨#[]⟩ : ByteArray)]) ?_ 3 _ rfl; (with_reducible repeat (first | refine blk_drewN ?_ _ | refine blk_drew ?_ | refine blk_alloc ?_ _)); refine blk_put (cs := #[.int .i64 t353, .bool t354, .int .i64 0, .string (⟨#[]⟩ : ByteArray)]) ?_ 2 _ rfl; (with_reducible repeat (first | refine blk_drewN ?_ _ | refine blk_drew ?_ | refine blk_alloc ?_ _)); refine blk_put (cs := #[.int .i64 t353, .bool false, .int .i64 0, .string (⟨#[]⟩ : ByteArray)]) ?_ 1 _ rfl; (with_reducible repeat (first | refine blk_drewN ?_ _ | refine blk_drew ?_ | refine blk_alloc ?_ _)); refine blk_put (cs := #[.int .i64 0, .bool false, .int .i64 0, .string (⟨#[]⟩ : ByteArray)]) ?_ 0 _ rfl; (with_reducible repeat (first | refine blk_drewN ?_ _ | refine blk_drew ?_ | refine blk_alloc ?_ _)); exact BK359.out⟩, ⟨by repeat (first | (with_reducible first | exact HB.out | apply below_alloc | apply pw_below_drewN | apply below_drew1 | refine below_set ?_ GE352.out | refine below_set ?_ GE359.out) | exact HB.out)⟩⟩
              · rw [if_neg c23] at H
                have c23b0 : (t357 == t350) = false := beq_eq_false_iff_ne.mpr c23
                have c23b1 : (t357 != t350) = true := bne_iff_ne.mpr c23
                have H' := Aside0.mk H
                clear H
                have hnb27 := NB359_352.out
                have hnc27 := NB352_359.out
                have hcz28_0 : w15.cell? ⟨gb359, 0, none⟩ = some (.int .i64 0) := (blk_cell BK359.out 0).trans rfl
                have hcz28_1 : w15.cell? ⟨gb359, 1, none⟩ = some (.bool false) := (blk_cell BK359.out 1).trans rfl
                have hcz28_2 : w15.cell? ⟨gb359, 2, none⟩ = some (.int .i64 0) := (blk_cell BK359.out 2).trans rfl
                have hcz28_3 : w15.cell? ⟨gb359, 3, none⟩ = some (.string (⟨#[]⟩ : ByteArray)) := (blk_cell BK359.out 3).trans rfl
                have hfz28_0 := blk_frozen BK359.out 0
                have hfz28_1 := blk_frozen BK359.out 1
                have hfz28_2 := blk_frozen BK359.out 2
                have hfz28_3 := blk_frozen BK359.out 3
                have hcz29_0 : w15.cell? ⟨gb352, 0, none⟩ = some (.int .i64 t346) := (blk_cell BK352.out 0).trans rfl
                have hcz29_1 : w15.cell? ⟨gb352, 1, none⟩ = some (.bool t347) := (blk_cell BK352.out 1).trans rfl
                have hcz29_2 : w15.cell? ⟨gb352, 2, none⟩ = some (.int .i64 t348) := (blk_cell BK352.out 2).trans rfl
                have hcz29_3 : w15.cell? ⟨gb352, 3, none⟩ = some (.string t349) := (blk_cell BK352.out 3).trans rfl
                have hfz29_0 := blk_frozen BK352.out 0
                have hfz29_1 := blk_frozen BK352.out 1
                have hfz29_2 := blk_frozen BK352.out 2
                have hfz29_3 := blk_frozen BK352.out 3
                go_wp2
                go_meet
                case rel => exact ⟨_, (true), (by first | rfl | (simp; done) | (simp [*]; done)), H', ⟨by have := HJ2.out; first | omega | exact Nat.le_refl _⟩, ⟨by (with_reducible repeat (first | refine blk_drewN ?_ _ | refine blk_drew ?_ | refine blk_alloc ?_ _)); refine blk_far ?_ NB352_359.out _; (with_reducible repeat (first | refine blk_drewN ?_ _ | refine blk_drew ?_ | refine blk_alloc ?_ _)); refine blk_far ?_ NB352_359.out _; (with_reducible repeat (first | refine blk_drewN ?_ _ | refine blk_drew ?_ | refine blk_alloc ?_ _)); refine blk_far ?_ NB352_359.out _; (with_reducible repeat (first | refine blk_drewN ?_ _ | refine blk_drew ?_ | refine blk_alloc ?_ _)); refine blk_far ?_ NB352_359.out _; (with_reducible repeat (first | refine blk_drewN ?_ _ | refine blk_drew ?_ | refine blk_alloc ?_ _)); exact BK352.out⟩, ⟨by (with_reducible repeat (first | refine blk_drewN ?_ _ | refine blk_drew ?_ | refine blk_alloc ?_ _)); refine blk_put (cs := #[.int .i64 t353, .bool t354, .int .i64 t355, .string (⟨#[]⟩ : ByteArray)]) ?_ 3 _ rfl; (with_reducible repeat (first | refine blk_drewN ?_ _ | refine blk_drew ?_ | refine blk_alloc ?_ _)); refine blk_put (cs := #[.int .i64 t353, .bool t354, .int .i64 0, .string (⟨#[]⟩ : ByteArray)]) ?_ 2 _ rfl; (with_reducible repeat (first | refine blk_drewN ?_ _ | refine blk_drew ?_ | refine blk_alloc ?_ _)); refine blk_put (cs := #[.int .i64 t353, .bool false, .int .i64 0, .string (⟨#[]⟩ : ByteArray)]) ?_ 1 _ rfl; (with_reducible repeat (first | refine blk_drewN ?_ _ | refine blk_drew ?_ | refine blk_alloc ?_ _)); refine blk_put (cs := #[.int .i64 0, .bool false, .int .i64 0, .string (⟨#[]⟩ : ByteArray)]) ?_ 0 _ rfl; (with_reducible repeat (first | refine blk_drewN ?_ _ | refine blk_drew ?_ | refine blk_alloc ?_ _)); exact BK359.out⟩, ⟨by repeat (first | (with_reducible first | exact HB.out | apply below_alloc | apply pw_below_drewN | apply below_drew1 | refine below_set ?_ GE352.out | refine below_set ?_ GE359.out) | exact HB.out)⟩⟩
          · rw [if_neg c18] at H
            have c18b0 : (t358 == t351) = false := beq_eq_false_iff_ne.mpr c18
            have c18b1 : (t358 != t351) = true := bne_iff_ne.mpr c18
            (first | rw [c18b0] | (simp only [i64_w, i32_w]; rw [c18b0]) | skip)
            have H' := Aside0.mk H
            clear H
            go_wp2
            go_meet
            case rel => exact ⟨_, (true), (by first | rfl | (simp; done) | (simp [*]; done)), H', ⟨by have := HJ2.out; first | omega | exact Nat.le_refl _⟩, ⟨by (with_reducible repeat (first | refine blk_drewN ?_ _ | refine blk_drew ?_ | refine blk_alloc ?_ _)); refine blk_far ?_ NB352_359.out _; (with_reducible repeat (first | refine blk_drewN ?_ _ | refine blk_drew ?_ | refine blk_alloc ?_ _)); refine blk_far ?_ NB352_359.out _; (with_reducible repeat (first | refine blk_drewN ?_ _ | refine blk_drew ?_ | refine blk_alloc ?_ _)); refine blk_far ?_ NB352_359.out _; (with_reducible repeat (first | refine blk_drewN ?_ _ | refine blk_drew ?_ | refine blk_alloc ?_ _)); refine blk_far ?_ NB352_359.out _; (with_reducible repeat (first | refine blk_drewN ?_ _ | refine blk_drew ?_ | refine blk_alloc ?_ _)); exact BK352.out⟩, ⟨by (with_reducible repeat (first | refine blk_drewN ?_ _ | refine blk_drew ?_ | refine blk_alloc ?_ _)); refine blk_put (cs := #[.int .i64 t353, .bool t354, .int .i64 t355, .string (⟨#[]⟩ : ByteArray)]) ?_ 3 _ rfl; (with_reducible repeat (first | refine blk_drewN ?_ _ | refine blk_drew ?_ | refine blk_alloc ?_ _)); refine blk_put (cs := #[.int .i64 t353, .bool t354, .int .i64 0, .string (⟨#[]⟩ : ByteArray)]) ?_ 2 _ rfl; (with_reducible repeat (first | refine blk_drewN ?_ _ | refine blk_drew ?_ | refine blk_alloc ?_ _)); refine blk_put (cs := #[.int .i64 t353, .bool false, .int .i64 0, .string (⟨#[]⟩ : ByteArray)]) ?_ 1 _ rfl; (with_reducible repeat (first | refine blk_drewN ?_ _ | refine blk_drew ?_ | refine blk_alloc ?_ _)); refine blk_put (cs := #[.int .i64 0, .bool false, .int .i64 0, .string (⟨#[]⟩ : ByteArray)]) ?_ 0 _ rfl; (with_reducible repeat (first | refine blk_drewN ?_ _ | refine blk_drew ?_ | refine blk_alloc ?_ _)); exact BK359.out⟩, ⟨by repeat (first | (with_reducible first | exact HB.out | apply below_alloc | apply pw_below_drewN | apply below_drew1 | refine below_set ?_ GE352.out | refine below_set ?_ GE359.out) | exact HB.out)⟩⟩
        case rest =>
          clear HC9
          try clear c1
          try clear c2
          try clear p2
          try clear c4
          try clear c4b0
          try clear c4b1
          try clear c5
          try clear c11
          try clear c16
          try clear c18
          try clear c18b0
          try clear c18b1
          try clear c19
          try clear c19b0
          try clear c20
          try clear c23
          try clear c23b0
          try clear c23b1
          try clear c24
          try clear c27
          try clear hcz13_0
          try clear hcz13_1
          try clear hcz13_2
          try clear hcz13_3
          try clear hcz17_0
          try clear hcz17_1
          try clear hcz17_2
          try clear hcz17_3
          try clear hcz21_0
          try clear hcz21_1
          try clear hcz21_2
          try clear hcz21_3
          try clear hcz22_0
          try clear hcz22_1
          try clear hcz22_2
          try clear hcz22_3
          try clear hcz25_0
          try clear hcz25_1
          try clear hcz25_2
          try clear hcz25_3
          try clear hcz26_0
          try clear hcz26_1
          try clear hcz26_2
          try clear hcz26_3
          try clear hcz28_0
          try clear hcz28_1
          try clear hcz28_2
          try clear hcz28_3
          try clear hcz29_0
          try clear hcz29_1
          try clear hcz29_2
          try clear hcz29_3
          try clear hfz13_0
          try clear hfz13_1
          try clear hfz13_2
          try clear hfz13_3
          try clear hfz17_0
          try clear hfz17_1
          try clear hfz17_2
          try clear hfz17_3
          try clear hfz21_0
          try clear hfz21_1
          try clear hfz21_2
          try clear hfz21_3
          try clear hfz22_0
          try clear hfz22_1
          try clear hfz22_2
          try clear hfz22_3
          try clear hfz25_0
          try clear hfz25_1
          try clear hfz25_2
          try clear hfz25_3
          try clear hfz26_0
          try clear hfz26_1
          try clear hfz26_2
          try clear hfz26_3
          try clear hfz28_0
          try clear hfz28_1
          try clear hfz28_2
          try clear hfz28_3
          try clear hfz29_0
          try clear hfz29_1
          try clear hfz29_2
          try clear hfz29_3
          try clear p2
          obtain ⟨kq, x58_8, rfl, HA, HJ8, BK352, BK359, HB⟩ := hcut
          cases kq with
          | zero => exact absurd HA.out (by simp [laws_FnFrameBad.j1])
          | succ kj8 =>
            have H := HA.out
            clear HA
            simp only [laws_FnFrameBad.j1] at H
            by_cases c30 : x58_8 = true
            · subst c30
              have H1 : (if t358 = t351 then (if (t353 == t346 && (t354 == t347 && (t355 == t348 && (t356.toList == t349.toList)))) = true then (some (t357 == t350)) else (some false)) else (some false)) = some r := by rw [if_pos rfl] at H; exact H
              clear H
              have H := H1
              clear H1
              by_cases c31 : t358 = t351
              · rw [if_pos c31] at H
                have c31b0 : (t358 == t351) = true := beq_iff_eq.mpr c31
                have c31b1 : (t358 != t351) = false := bne_eq_false_iff_eq.mpr c31
                clear c31
                by_cases c32 : (t353 == t346 && (t354 == t347 && (t355 == t348 && (t356.toList == t349.toList)))) = true
                · rw [if_pos c32] at H
                  have c32b0 : (t353 == t346 && (t354 == t347 && (t355 == t348 && (t356.toList == t349.toList)))) = true := c32
                  (try (have c32b1 : decide (t353 = t346 && (t354 == t347 && (t355 == t348 && (t356.toList == t349.toList)))) = true := by simpa using c32))
                  (try (have c32b2 : (t353 == t346 && (t354 == t347 && (t355 == t348 && (t356.toList == t349.toList)))) = true := by simpa using c32))
                  clear c32
                  obtain rfl := Option.some.inj H
                  have hnb33 := NB359_352.out
                  have hnc33 := NB352_359.out
                  have hcz34_0 : wc.cell? ⟨gb359, 0, none⟩ = some (.int .i64 t353) := (blk_cell BK359.out 0).trans rfl
                  have hcz34_1 : wc.cell? ⟨gb359, 1, none⟩ = some (.bool t354) := (blk_cell BK359.out 1).trans rfl
                  have hcz34_2 : wc.cell? ⟨gb359, 2, none⟩ = some (.int .i64 t355) := (blk_cell BK359.out 2).trans rfl
                  have hcz34_3 : wc.cell? ⟨gb359, 3, none⟩ = some (.string t356) := (blk_cell BK359.out 3).trans rfl
                  have hfz34_0 := blk_frozen BK359.out 0
                  have hfz34_1 := blk_frozen BK359.out 1
                  have hfz34_2 := blk_frozen BK359.out 2
                  have hfz34_3 := blk_frozen BK359.out 3
                  have hcz35_0 : wc.cell? ⟨gb352, 0, none⟩ = some (.int .i64 t346) := (blk_cell BK352.out 0).trans rfl
                  have hcz35_1 : wc.cell? ⟨gb352, 1, none⟩ = some (.bool t347) := (blk_cell BK352.out 1).trans rfl
                  have hcz35_2 : wc.cell? ⟨gb352, 2, none⟩ = some (.int .i64 t348) := (blk_cell BK352.out 2).trans rfl
                  have hcz35_3 : wc.cell? ⟨gb352, 3, none⟩ = some (.string t349) := (blk_cell BK352.out 3).trans rfl
                  have hfz35_0 := blk_frozen BK352.out 0
                  have hfz35_1 := blk_frozen BK352.out 1
                  have hfz35_2 := blk_frozen BK352.out 2
                  have hfz35_3 := blk_frozen BK352.out 3
                  go_wp2
                  go_ret
                  exact ⟨by first | rfl | (simp [errW_none, errW_some] <;> rfl) | (simp [*, errW_none, errW_some] <;> rfl), by repeat (first | (with_reducible first | exact HB.out | apply below_alloc | apply pw_below_drewN | apply below_drew1 | refine below_set ?_ GE352.out | refine below_set ?_ GE359.out) | exact HB.out)⟩
                · rw [if_neg c32] at H
                  have c32b0 : (t353 == t346 && (t354 == t347 && (t355 == t348 && (t356.toList == t349.toList)))) = false := by simpa using c32
                  (try (have c32b1 : decide (t353 = t346 && (t354 == t347 && (t355 == t348 && (t356.toList == t349.toList)))) = false := by simpa using c32))
                  (try (have c32b2 : (t353 == t346 && (t354 == t347 && (t355 == t348 && (t356.toList == t349.toList)))) = false := by simpa using c32))
                  (try (have c32b3 : ¬ (t353 = t346 && (t354 == t347 && (t355 == t348 && (t356.toList == t349.toList)))) := by simpa using c32))
                  clear c32
                  obtain rfl := Option.some.inj H
                  have hnb36 := NB359_352.out
                  have hnc36 := NB352_359.out
                  have hcz37_0 : wc.cell? ⟨gb359, 0, none⟩ = some (.int .i64 t353) := (blk_cell BK359.out 0).trans rfl
                  have hcz37_1 : wc.cell? ⟨gb359, 1, none⟩ = some (.bool t354) := (blk_cell BK359.out 1).trans rfl
                  have hcz37_2 : wc.cell? ⟨gb359, 2, none⟩ = some (.int .i64 t355) := (blk_cell BK359.out 2).trans rfl
                  have hcz37_3 : wc.cell? ⟨gb359, 3, none⟩ = some (.string t356) := (blk_cell BK359.out 3).trans rfl
                  have hfz37_0 := blk_frozen BK359.out 0
                  have hfz37_1 := blk_frozen BK359.out 1
                  have hfz37_2 := blk_frozen BK359.out 2
                  have hfz37_3 := blk_frozen BK359.out 3
                  have hcz38_0 : wc.cell? ⟨gb352, 0, none⟩ = some (.int .i64 t346) := (blk_cell BK352.out 0).trans rfl
                  have hcz38_1 : wc.cell? ⟨gb352, 1, none⟩ = some (.bool t347) := (blk_cell BK352.out 1).trans rfl
                  have hcz38_2 : wc.cell? ⟨gb352, 2, none⟩ = some (.int .i64 t348) := (blk_cell BK352.out 2).trans rfl
                  have hcz38_3 : wc.cell? ⟨gb352, 3, none⟩ = some (.string t349) := (blk_cell BK352.out 3).trans rfl
                  have hfz38_0 := blk_frozen BK352.out 0
                  have hfz38_1 := blk_frozen BK352.out 1
                  have hfz38_2 := blk_frozen BK352.out 2
                  have hfz38_3 := blk_frozen BK352.out 3
                  go_wp2
                  go_ret
                  exact ⟨by first | rfl | (simp [errW_none, errW_some] <;> rfl) | (simp [*, errW_none, errW_some] <;> rfl), by repeat (first | (with_reducible first | exact HB.out | apply below_alloc | apply pw_below_drewN | apply below_drew1 | refine below_set ?_ GE352.out | refine below_set ?_ GE359.out) | exact HB.out)⟩
              · rw [if_neg c31] at H
                have c31b0 : (t358 == t351) = false := beq_eq_false_iff_ne.mpr c31
                have c31b1 : (t358 != t351) = true := bne_iff_ne.mpr c31
                obtain rfl := Option.some.inj H
                go_wp2
                go_ret
                exact ⟨by first | rfl | (simp [errW_none, errW_some] <;> rfl) | (simp [*, errW_none, errW_some] <;> rfl), by repeat (first | (with_reducible first | exact HB.out | apply below_alloc | apply pw_below_drewN | apply below_drew1 | refine below_set ?_ GE352.out | refine below_set ?_ GE359.out) | exact HB.out)⟩
            · replace c30 := Bool.eq_false_iff.mpr c30
              subst c30
              have H1 : (if 0 ≤ ((l1.length : Int) % 4) then (if ((l1.length : Int) % 4) ≤ (t345.size : Int) then (if ((l1.length : Int) % 4) < (t345.size : Int) then ((some (([((bt t345 ((l1.length : Int) % 4)) + 1) % 256] : List Int) : List Int)).bind fun y360 => (if (t345.extract 0 (((l1.length : Int) % 4) : Int).toNat).size + (strOfNums y360).size ≤ 9223372036854775807 then (if 0 ≤ (((l1.length : Int) % 4) + 1) then (if (((l1.length : Int) % 4) + 1) ≤ (t345.size : Int) then (if ((t345.extract 0 (((l1.length : Int) % 4) : Int).toNat) ++ (strOfNums y360)).size + (t345.extract ((((l1.length : Int) % 4) + 1) : Int).toNat t345.size).size ≤ 9223372036854775807 then ((impl_FrameRead.f kj8 (((t345.extract 0 (((l1.length : Int) % 4) : Int).toNat) ++ (strOfNums y360)) ++ (t345.extract ((((l1.length : Int) % 4) + 1) : Int).toNat t345.size))).bind fun bt363 => ((impl_FrameRead.f kj8 (⟨#[201, 0, 0, 1]⟩ : ByteArray)).bind fun bt370 => (if bt363.2.2.2.2.2 = 1 then (if (!(bt363.1 == t353) || (!(bt363.2.1 == t354) || (!(bt363.2.2.1 == t355) || (!(bt363.2.2.2.1.toList == t356.toList))))) = true then (some (bt370.2.2.2.2.2 == (-1))) else (some false)) else (some (bt370.2.2.2.2.2 == (-1)))))) else (none)) else (none)) else (none)) else (none))) else (none)) else (none)) else (none)) = some r := by rw [if_neg (show ¬ (false = true) by decide)] at H; exact H
              clear H
              have H := H1
              clear H1
              obtain ⟨ji39, hji39⟩ : ∃ j_ : Int, ((l1.length : Int) % 4) = j_ := ⟨_, rfl⟩
              (try (have hji39k : wrap64 ji39 = ji39 := by unfold wrap64; omega))
              replace H : (if 0 ≤ (ji39) then (if (ji39) ≤ (t345.size : Int) then (if (ji39) < (t345.size : Int) then ((some (([((bt t345 (ji39)) + 1) % 256] : List Int) : List Int)).bind fun y360 => (if (t345.extract 0 ((ji39) : Int).toNat).size + (strOfNums y360).size ≤ 9223372036854775807 then (if 0 ≤ ((ji39) + 1) then (if ((ji39) + 1) ≤ (t345.size : Int) then (if ((t345.extract 0 ((ji39) : Int).toNat) ++ (strOfNums y360)).size + (t345.extract (((ji39) + 1) : Int).toNat t345.size).size ≤ 9223372036854775807 then ((impl_FrameRead.f kj8 (((t345.extract 0 ((ji39) : Int).toNat) ++ (strOfNums y360)) ++ (t345.extract (((ji39) + 1) : Int).toNat t345.size))).bind fun bt363 => ((impl_FrameRead.f kj8 (⟨#[201, 0, 0, 1]⟩ : ByteArray)).bind fun bt370 => (if bt363.2.2.2.2.2 = 1 then (if (!(bt363.1 == t353) || (!(bt363.2.1 == t354) || (!(bt363.2.2.1 == t355) || (!(bt363.2.2.2.1.toList == t356.toList))))) = true then (some (bt370.2.2.2.2.2 == (-1))) else (some false)) else (some (bt370.2.2.2.2.2 == (-1)))))) else (none)) else (none)) else (none)) else (none))) else (none)) else (none)) else (none)) = some r := by first | (rw [hji39] at H; exact H) | (simp only [hji39] at H ⊢; exact H)
              by_cases c40 : 0 ≤ (ji39)
              · rw [if_pos c40] at H
                have c40b0 := eq_true c40
                have c40b1 : decide (0 ≤ (ji39)) = true := decide_eq_true c40
                clear c40
                by_cases c41 : (ji39) ≤ (t345.size : Int)
                · rw [if_pos c41] at H
                  have c41b0 := eq_true c41
                  have c41b1 : decide ((ji39) ≤ (t345.size : Int)) = true := decide_eq_true c41
                  clear c41
                  by_cases c42 : (ji39) < (t345.size : Int)
                  · rw [if_pos c42] at H
                    have c42b0 : decide ((ji39) < (t345.size : Int)) = true := decide_eq_true c42
                    clear c42
                    obtain ⟨y360, hy360⟩ : ∃ y_ : List Int, y_ = (([((bt t345 (ji39)) + 1) % 256] : List Int)) := ⟨_, rfl⟩
                    replace H : (if (t345.extract 0 ((ji39) : Int).toNat).size + (strOfNums y360).size ≤ 9223372036854775807 then (if 0 ≤ ((ji39) + 1) then (if ((ji39) + 1) ≤ (t345.size : Int) then (if ((t345.extract 0 ((ji39) : Int).toNat) ++ (strOfNums y360)).size + (t345.extract (((ji39) + 1) : Int).toNat t345.size).size ≤ 9223372036854775807 then ((impl_FrameRead.f kj8 (((t345.extract 0 ((ji39) : Int).toNat) ++ (strOfNums y360)) ++ (t345.extract (((ji39) + 1) : Int).toNat t345.size))).bind fun bt363 => ((impl_FrameRead.f kj8 (⟨#[201, 0, 0, 1]⟩ : ByteArray)).bind fun bt370 => (if bt363.2.2.2.2.2 = 1 then (if (!(bt363.1 == t353) || (!(bt363.2.1 == t354) || (!(bt363.2.2.1 == t355) || (!(bt363.2.2.2.1.toList == t356.toList))))) = true then (some (bt370.2.2.2.2.2 == (-1))) else (some false)) else (some (bt370.2.2.2.2.2 == (-1)))))) else (none)) else (none)) else (none)) else (none)) = some r := by first | (rw [hy360]; with_reducible exact H) | (have H2_ := (Option.bind_some _ _).symm.trans H; rw [hy360]; with_reducible exact H2_) | (have H2_ := (Option.bind_some _ _).symm.trans H; with_reducible exact H2_) | with_reducible exact H | (rw [hy360]; exact H) | exact H
                    have Ny360 := Aside0.mk hy360
                    clear hy360
                    by_cases c44 : (t345.extract 0 ((ji39) : Int).toNat).size + (strOfNums y360).size ≤ 9223372036854775807
                    · rw [if_pos c44] at H
                      have c44b0 := eq_true c44
                      have c44b1 : decide ((t345.extract 0 ((ji39) : Int).toNat).size + (strOfNums y360).size ≤ 9223372036854775807) = true := decide_eq_true c44
                      try have c44b2 : (9223372036854775807 < (t345.extract 0 ((ji39) : Int).toNat).size + (strOfNums y360).size) = False := eq_false (Nat.not_lt.2 c44)
                      (try (have c44b3 := c44b2; simp only [ByteArray.size_append] at c44b3))
                      (try (have c44b4 : (9223372036854775807 < ji39.toNat + (strOfNums y360).size) = False := eq_false (by have h_ := c44; have h0_ := of_eq_true (show (ji39 ≤ (t345.size : Int)) = True from (by first | (with_reducible assumption) | assumption)); simp only [ByteArray.size_append, ByteArray.size_extract] at h_; omega)))
                      obtain ⟨ji45, hji45⟩ : ∃ j_ : Int, ((ji39) + 1) = j_ := ⟨_, rfl⟩
                      (try (have hji45k : wrap64 ji45 = ji45 := by unfold wrap64; omega))
                      replace H : (if 0 ≤ (ji45) then (if (ji45) ≤ (t345.size : Int) then (if ((t345.extract 0 ((ji39) : Int).toNat) ++ (strOfNums y360)).size + (t345.extract ((ji45) : Int).toNat t345.size).size ≤ 9223372036854775807 then ((impl_FrameRead.f kj8 (((t345.extract 0 ((ji39) : Int).toNat) ++ (strOfNums y360)) ++ (t345.extract ((ji45) : Int).toNat t345.size))).bind fun bt363 => ((impl_FrameRead.f kj8 (⟨#[201, 0, 0, 1]⟩ : ByteArray)).bind fun bt370 => (if bt363.2.2.2.2.2 = 1 then (if (!(bt363.1 == t353) || (!(bt363.2.1 == t354) || (!(bt363.2.2.1 == t355) || (!(bt363.2.2.2.1.toList == t356.toList))))) = true then (some (bt370.2.2.2.2.2 == (-1))) else (some false)) else (some (bt370.2.2.2.2.2 == (-1)))))) else (none)) else (none)) else (none)) = some r := by first | (rw [hji45] at H; exact H) | (simp only [hji45] at H ⊢; exact H)
                      by_cases c46 : 0 ≤ (ji45)
                      · rw [if_pos c46] at H
                        have c46b0 := eq_true c46
                        have c46b1 : decide (0 ≤ (ji45)) = true := decide_eq_true c46
                        clear c46
                        by_cases c47 : (ji45) ≤ (t345.size : Int)
                        · rw [if_pos c47] at H
                          have c47b0 := eq_true c47
                          have c47b1 : decide ((ji45) ≤ (t345.size : Int)) = true := decide_eq_true c47
                          clear c47
                          by_cases c48 : ((t345.extract 0 ((ji39) : Int).toNat) ++ (strOfNums y360)).size + (t345.extract ((ji45) : Int).toNat t345.size).size ≤ 9223372036854775807
                          · rw [if_pos c48] at H
                            have c48b0 := eq_true c48
                            have c48b1 : decide (((t345.extract 0 ((ji39) : Int).toNat) ++ (strOfNums y360)).size + (t345.extract ((ji45) : Int).toNat t345.size).size ≤ 9223372036854775807) = true := decide_eq_true c48
                            try have c48b2 : (9223372036854775807 < ((t345.extract 0 ((ji39) : Int).toNat) ++ (strOfNums y360)).size + (t345.extract ((ji45) : Int).toNat t345.size).size) = False := eq_false (Nat.not_lt.2 c48)
                            (try (have c48b3 := c48b2; simp only [ByteArray.size_append] at c48b3))
                            (try (have c48b4 : (9223372036854775807 < ji39.toNat + (strOfNums y360).size + (t345.size - ji45.toNat)) = False := eq_false (by have h_ := c48; have h0_ := of_eq_true (show (ji39 ≤ (t345.size : Int)) = True from (by first | (with_reducible assumption) | assumption)); have h1_ := of_eq_true (show (ji45 ≤ (t345.size : Int)) = True from (by first | (with_reducible assumption) | assumption)); simp only [ByteArray.size_append, ByteArray.size_extract] at h_; omega)))
                            replace H := Option.bind_eq_some_iff.mp H
                            obtain ⟨⟨t363, t364, t365, t366, t367, t368⟩, A490, H⟩ := H
                            replace H : ((impl_FrameRead.f kj8 (⟨#[201, 0, 0, 1]⟩ : ByteArray)).bind fun bt370 => (if t368 = 1 then (if (!(t363 == t353) || (!(t364 == t354) || (!(t365 == t355) || (!(t366.toList == t356.toList))))) = true then (some (bt370.2.2.2.2.2 == (-1))) else (some false)) else (some (bt370.2.2.2.2.2 == (-1))))) = some r := H
                            have A49 := Aside0.mk A490
                            (try (simp only [ByteArray.size_append] at A49))
                            clear A490
                            replace H := Option.bind_eq_some_iff.mp H
                            obtain ⟨⟨t370, t371, t372, t373, t374, t375⟩, A500, H⟩ := H
                            replace H : (if t368 = 1 then (if (!(t363 == t353) || (!(t364 == t354) || (!(t365 == t355) || (!(t366.toList == t356.toList))))) = true then (some (t375 == (-1))) else (some false)) else (some (t375 == (-1)))) = some r := H
                            have A50 := Aside0.mk A500
                            (try (simp only [ByteArray.size_append] at A50))
                            clear A500
                            by_cases c51 : t368 = 1
                            · rw [if_pos c51] at H
                              have c51b0 : (t368 == 1) = true := beq_iff_eq.mpr c51
                              have c51b1 : (t368 != 1) = false := bne_eq_false_iff_eq.mpr c51
                              clear c51
                              by_cases c52 : (!(t363 == t353) || (!(t364 == t354) || (!(t365 == t355) || (!(t366.toList == t356.toList))))) = true
                              · rw [if_pos c52] at H
                                have c52b0 : (!(t363 == t353) || (!(t364 == t354) || (!(t365 == t355) || (!(t366.toList == t356.toList))))) = true := c52
                                clear c52
                                obtain rfl := Option.some.inj H
                                try go_wp2
                                have n0_ := Aside0.mk (blk_drew BK352.out)
                                have n1_ := Aside0.mk (blk_drew BK359.out)
                                have n2_ := Aside0.mk (below_drew1 HB.out)
                                clear BK352
                                clear BK359
                                clear HB
                                have BK352 := n0_
                                have BK359 := n1_
                                have HB := n2_
                                clear n0_ n1_ n2_
                                have p43 : 0 ≤ ((ji39) : Int) := of_decide_eq_true (by first | (with_reducible assumption) | assumption)
                                have q43 : (ji39) < (t345.size : Int) := of_decide_eq_true (by first | (with_reducible assumption) | assumption)
                                have hx43 := bt_at t345 (ji39)
                                replace p43 := eq_true p43
                                replace q43 := eq_true q43
                                refine start_ (n := 16) (S := fun w' => True) (ds := []) #[false, false, false, false, false, false, false, false, false, false, false, false, false, false, false, false] (by kernel_rfl) rfl rfl trivial (fun hHeld => ?_); refine with_tabW laws_FnFrameBad.tab9 laws_FnFrameBad.bits9 (fun HT_ HW_ => ?_)
                                generalize wc.drew = w53 at BK352 BK359 HB hHeld ⊢
                                refine pure_ (i := 0) (N := some 75) (v := ?_) (a' := ?_) #[true, false, false, false, false, false, false, false, false, false, false, false, false, false, false, false] rfl rfl (any_of HT_.out (by kernel_rfl)) (fun _ _ _ h => h) (Or.inl ⟨by rfl, ?_⟩) ?_ ?_
                                rotate_left
                                · intro w'
                                  go_simp
                                  with_reducible rfl
                                rotate_left
                                · simp only [Act.put, List.setIfInBounds_toArray, List.set_cons_zero, List.set_cons_succ, i64_w, i32_w]
                                  rfl
                                refine pure_ (i := 1) (N := some 76) (v := ?_) (a' := ?_) #[true, true, false, false, false, false, false, false, false, false, false, false, false, false, false, false] rfl rfl (any_of HT_.out (by kernel_rfl)) (fun _ _ _ h => h) (Or.inl ⟨by rfl, ?_⟩) ?_ ?_
                                rotate_left
                                · intro w'
                                  go_simp
                                  with_reducible rfl
                                rotate_left
                                · simp only [Act.put, List.setIfInBounds_toArray, List.set_cons_zero, List.set_cons_succ, i64_w, i32_w]
                                  rfl
                                refine pure_ (i := 2) (N := some 77) (v := ?_) (a' := ?_) #[true, true, true, false, false, false, false, false, false, false, false, false, false, false, false, false] rfl rfl (any_of HT_.out (by kernel_rfl)) (fun _ _ _ h => h) (Or.inl ⟨by rfl, ?_⟩) ?_ ?_
                                rotate_left
                                · intro w'
                                  go_simp
                                  with_reducible rfl
                                rotate_left
                                · simp only [Act.put, List.setIfInBounds_toArray, List.set_cons_zero, List.set_cons_succ, i64_w, i32_w]
                                  rfl
                                refine pure_ (i := 3) (N := some 78) (v := ?_) (a' := ?_) #[true, true, true, true, false, false, false, false, false, false, false, false, false, false, false, false] rfl rfl (any_of HT_.out (by kernel_rfl)) (fun _ _ _ h => h) (Or.inl ⟨by rfl, ?_⟩) ?_ ?_
                                rotate_left
                                · intro w'
                                  go_simp
                                  with_reducible rfl
                                rotate_left
                                · simp only [Act.put, List.setIfInBounds_toArray, List.set_cons_zero, List.set_cons_succ, i64_w, i32_w]
                                  rfl
                                refine pure_ (i := 4) (N := some 79) (v := ?_) (a' := ?_) #[true, true, true, true, true, false, false, false, false, false, false, false, false, false, false, false] rfl rfl (any_of HT_.out (by kernel_rfl)) (fun _ _ _ h => h) (Or.inl ⟨by rfl, ?_⟩) ?_ ?_
                                rotate_left
                                · intro w'
                                  go_simp
                                  with_reducible rfl
                                rotate_left
                                · simp only [Act.put, List.setIfInBounds_toArray, List.set_cons_zero, List.set_cons_succ, i64_w, i32_w]
                                  rfl
                                refine pure_ (i := 10) (N := some 85) (v := ?_) (a' := ?_) #[true, true, true, true, true, false, false, false, false, false, true, false, false, false, false, false] rfl rfl (any_of HT_.out (by kernel_rfl)) (fun _ _ _ h => h) (Or.inl ⟨by rfl, ?_⟩) ?_ ?_
                                rotate_left
                                · intro w'
                                  go_simp
                                  with_reducible rfl
                                rotate_left
                                · simp only [Act.put, List.setIfInBounds_toArray, List.set_cons_zero, List.set_cons_succ, i64_w, i32_w]
                                  rfl
                                refine pure_ (i := 11) (N := some 86) (v := ?_) (a' := ?_) #[true, true, true, true, true, false, false, false, false, false, true, true, false, false, false, false] rfl rfl (any_of HT_.out (by kernel_rfl)) (fun _ _ _ h => h) (Or.inl ⟨by rfl, ?_⟩) ?_ ?_
                                rotate_left
                                · intro w'
                                  go_simp
                                  with_reducible rfl
                                rotate_left
                                · simp only [Act.put, List.setIfInBounds_toArray, List.set_cons_zero, List.set_cons_succ, i64_w, i32_w]
                                  rfl
                                refine pure_ (i := 12) (N := some 87) (v := ?_) (a' := ?_) #[true, true, true, true, true, false, false, false, false, false, true, true, true, false, false, false] rfl rfl (any_of HT_.out (by kernel_rfl)) (fun _ _ _ h => h) (Or.inl ⟨by rfl, ?_⟩) ?_ ?_
                                rotate_left
                                · intro w'
                                  go_simp
                                  with_reducible rfl
                                rotate_left
                                · simp only [Act.put, List.setIfInBounds_toArray, List.set_cons_zero, List.set_cons_succ, i64_w, i32_w]
                                  rfl
                                refine pure_ (i := 13) (N := some 88) (v := ?_) (a' := ?_) #[true, true, true, true, true, false, false, false, false, false, true, true, true, true, false, false] rfl rfl (any_of HT_.out (by kernel_rfl)) (fun _ _ _ h => h) (Or.inl ⟨by rfl, ?_⟩) ?_ ?_
                                rotate_left
                                · intro w'
                                  go_simp
                                  with_reducible rfl
                                rotate_left
                                · simp only [Act.put, List.setIfInBounds_toArray, List.set_cons_zero, List.set_cons_succ, i64_w, i32_w]
                                  rfl
                                refine take_ (i := 5) (N := some 80) (v := ?_) (a' := ?_) #[true, true, true, true, true, true, false, false, false, false, true, true, true, true, false, false] rfl rfl (take_ofW HT_.out HW_.out (by kernel_rfl)) (fun _ _ _ h => h) (Or.inl ⟨by rfl, ?_⟩) hHeld ?_ ?_
                                rotate_left
                                · intro w' _
                                  go_simp
                                  with_reducible rfl
                                rotate_left
                                · simp only [Act.put, List.setIfInBounds_toArray, List.set_cons_zero, List.set_cons_succ, i64_w, i32_w]
                                  rfl
                                refine pure_ (i := 6) (N := some 81) (v := ?_) (a' := ?_) #[true, true, true, true, true, true, true, false, false, false, true, true, true, true, false, false] rfl rfl (any_of HT_.out (by kernel_rfl)) (fun _ _ _ h => h) (Or.inl ⟨by rfl, ?_⟩) ?_ ?_
                                rotate_left
                                · intro w'
                                  go_simp
                                  with_reducible rfl
                                rotate_left
                                · simp only [Act.put, List.setIfInBounds_toArray, List.set_cons_zero, List.set_cons_succ, i64_w, i32_w]
                                  rfl
                                refine one_ (i := 7) (N := some 82) #[true, true, true, true, true, true, true, true, false, false, true, true, true, true, false, false] rfl rfl (one_of HT_.out (by kernel_rfl)) (by decide) (fun K hK => ?_)
                                refine Kd.R_lit_step (Kd.int .u8) _ 5 ?hg (N := 82) ?hd (xs := ([((bt t345 (ji39)) + 1) % 256] : List Int)) (inner := [.int .u8 (((bt t345 (ji39)) + 1) % 256)]) (ok := fun _ => True) (okp := fun _ => True) ?hr ?hp (fun _ hk => hk) trivial (Below.refl _ _) (Nat.le_refl _) (by simp) ?_; (case hd => rfl); (case hg => rfl); (case hr => first | (go_simp; done) | (go_simp; rfl)); (case hp => exact (Reps.one (show Kd.M (Kd.int .u8) _ _ _ (((bt t345 (ji39)) + 1) % 256) [.int .u8 (((bt t345 (ji39)) + 1) % 256)] from rfl) (Reps.none _ _)))
                                intro v361 w54 ho55 hb hg_ hnew_
                                clear hg_ hnew_
                                (first | rw [← Ny360.out] at ho55 | (simp only [Int.reduceToNat] at ho55; rw [← Ny360.out] at ho55))
                                have n0_ := Aside0.mk (Kd.R_lower ho55 (below_size (by repeat (first | (with_reducible first | exact HB.out | apply below_alloc | apply pw_below_drewN | apply below_drew1 | refine below_set ?_ GE352.out | refine below_set ?_ GE359.out) | exact HB.out))))
                                have n1_ := Aside0.mk (blk_below (g := gb352) (o := .cells #[.int .i64 t346, .bool t347, .int .i64 t348, .string t349] 26 (0, 0)) (by (with_reducible repeat (first | refine blk_drewN ?_ _ | refine blk_drew ?_ | refine blk_alloc ?_ _)); exact BK352.out) hb)
                                have n2_ := Aside0.mk (blk_below (g := gb359) (o := .cells #[.int .i64 t353, .bool t354, .int .i64 t355, .string t356] 26 (0, 0)) (by (with_reducible repeat (first | refine blk_drewN ?_ _ | refine blk_drew ?_ | refine blk_alloc ?_ _)); exact BK359.out) hb)
                                have n3_ := Aside0.mk (below_step (by repeat (first | (with_reducible first | exact HB.out | apply below_alloc | apply pw_below_drewN | apply below_drew1 | refine below_set ?_ GE352.out | refine below_set ?_ GE359.out) | exact HB.out)) hb)
                                clear BK352
                                clear BK359
                                clear HB
                                have HO362 := n0_
                                have BK352 := n1_
                                have BK359 := n2_
                                have HB := n3_
                                clear n0_ n1_ n2_ n3_
                                clear hb ho55
                                refine hK.out _ _ trivial (fun hHeld => ?_)
                                clear hK K
                                refine norm_ (a' := ?_) ?_ ?_
                                rotate_left
                                · show Act.put _ (some 82) _ = _
                                  simp only [Act.put, List.setIfInBounds_toArray, List.set_cons_zero, List.set_cons_succ, i64_w, i32_w]
                                  rfl
                                refine one_ (i := 8) (N := some 83) #[true, true, true, true, true, true, true, true, true, false, true, true, true, true, false, false] rfl rfl (one_of HT_.out (by kernel_rfl)) (by decide) (fun K hK => ?_)
                                have hcv56 := own_string (P := Try.prog) Try.underlying34 Try.underlying5 Try.underlying9 (Kd.own_of_R HO362.out)
                                refine value_ (w1 := ?_) (v := ?_) (by rfl) rfl ?_ ?_
                                rotate_left 2
                                · go_simp
                                  constructor
                                  · rfl
                                  · rfl
                                clear hcv56
                                refine hK.out _ _ trivial (fun hHeld => ?_)
                                clear hK K
                                refine norm_ (a' := ?_) ?_ ?_
                                rotate_left
                                · show Act.put _ (some 83) _ = _
                                  simp only [Act.put, List.setIfInBounds_toArray, List.set_cons_zero, List.set_cons_succ, i64_w, i32_w]
                                  rfl
                                refine pure_ (i := 9) (N := some 84) (v := ?_) (a' := ?_) #[true, true, true, true, true, true, true, true, true, true, true, true, true, true, false, false] rfl rfl (any_of HT_.out (by kernel_rfl)) (fun _ _ _ h => h) (Or.inl ⟨by rfl, ?_⟩) ?_ ?_
                                rotate_left
                                · intro w'
                                  go_simp
                                  with_reducible rfl
                                rotate_left
                                · simp only [Act.put, List.setIfInBounds_toArray, List.set_cons_zero, List.set_cons_succ, i64_w, i32_w]
                                  rfl
                                refine pure_ (i := 14) (N := some 89) (v := ?_) (a' := ?_) #[true, true, true, true, true, true, true, true, true, true, true, true, true, true, true, false] rfl rfl (any_of HT_.out (by kernel_rfl)) (fun _ _ _ h => h) (Or.inl ⟨by rfl, ?_⟩) ?_ ?_
                                rotate_left
                                · intro w'
                                  go_simp
                                  with_reducible rfl
                                rotate_left
                                · simp only [Act.put, List.setIfInBounds_toArray, List.set_cons_zero, List.set_cons_succ, i64_w, i32_w]
                                  rfl
                                refine pure_ (i := 15) (N := some 13) (v := ?_) (a' := ?_) #[true, true, true, true, true, true, true, true, true, true, true, true, true, true, true, true] rfl rfl (any_of HT_.out (by kernel_rfl)) (fun _ _ _ h => h) (Or.inl ⟨by rfl, ?_⟩) ?_ ?_
                                rotate_left
                                · intro w'
                                  go_simp
                                  with_reducible rfl
                                rotate_left
                                · simp only [Act.put, List.setIfInBounds_toArray, List.set_cons_zero, List.set_cons_succ, i64_w, i32_w]
                                  rfl
                                refine done_ (done_of HT_.out (by kernel_rfl)) ?_
                                try go_wp2_with (first | ((with_reducible refine gate_callee (f := 20) rfl ?_); refine goesL_ (some 92) rfl rfl Try.func20 (by kernel_rfl) rfl #[.string (((t345.extract 0 ((ji39) : Int).toNat) ++ (strOfNums y360)) ++ (t345.extract ((ji45) : Int).toNat t345.size))] rfl (by (try simp only [List.map_toArray, List.map_cons, List.map_nil]); first | done | (simp only [hji39, hji45]; rfl) | rfl | (simp only [List.length_drop, List.length_take]; rfl)) ?_; (with_reducible refine (impl_FrameRead.calls kj8 (((t345.extract 0 ((ji39) : Int).toNat) ++ (strOfNums y360)) ++ (t345.extract ((ji45) : Int).toNat t345.size)) t363 t364 t365 t366 t367 t368 _ A49.out).mono ?_); rintro e w57 ⟨rfl, hb⟩; refine ⟨_, rfl, ?_⟩; have n0_ := Aside0.mk (Kd.R_below (by (with_reducible repeat (first | apply Kd.R_alloc | apply Kd.R_drewN | apply Kd.R_drew)); exact HO362.out) hb); have n1_ := Aside0.mk (blk_below (g := gb352) (o := .cells #[.int .i64 t346, .bool t347, .int .i64 t348, .string t349] 26 (0, 0)) (by (with_reducible repeat (first | refine blk_drewN ?_ _ | refine blk_drew ?_ | refine blk_alloc ?_ _)); exact BK352.out) hb); have n2_ := Aside0.mk (blk_below (g := gb359) (o := .cells #[.int .i64 t353, .bool t354, .int .i64 t355, .string t356] 26 (0, 0)) (by (with_reducible repeat (first | refine blk_drewN ?_ _ | refine blk_drew ?_ | refine blk_alloc ?_ _)); exact BK359.out) hb); have n3_ := Aside0.mk (below_step (by repeat (first | (with_reducible first | exact HB.out | apply below_alloc | apply pw_below_drewN | apply below_drew1 | refine below_set ?_ GE352.out | refine below_set ?_ GE359.out) | exact HB.out)) hb); clear HO362; clear BK352; clear BK359; clear HB; have HO362 := n0_; have BK352 := n1_; have BK359 := n2_; have HB := n3_; clear n0_ n1_ n2_ n3_; (try clear hb); (try clear hb2); (try clear hk); (try clear hi)) | ((with_reducible refine gate_dst (N := 14) rfl ?_); (try (refine gate_guard (by rfl) ?_; dsimp only)); refine box_event ?hg (N := 14) ?hd (cs := #[.int .i64 0, .bool false, .int .i64 0, .string (⟨#[]⟩ : ByteArray)]) (t := 26) ?hr ?_; (case hd => rfl); (case hg => rfl); (case hr => first | (go_simp; done) | (go_simp; rfl)); intro gb369 hg w58 hbox hb; have n0_ := Aside0.mk (Kd.R_below (by (with_reducible repeat (first | apply Kd.R_alloc | apply Kd.R_drewN | apply Kd.R_drew)); exact HO362.out) hb); have n1_ := Aside0.mk (blk_below (g := gb352) (o := .cells #[.int .i64 t346, .bool t347, .int .i64 t348, .string t349] 26 (0, 0)) (by (with_reducible repeat (first | refine blk_drewN ?_ _ | refine blk_drew ?_ | refine blk_alloc ?_ _)); exact BK352.out) hb); have n2_ := Aside0.mk (blk_below (g := gb359) (o := .cells #[.int .i64 t353, .bool t354, .int .i64 t355, .string t356] 26 (0, 0)) (by (with_reducible repeat (first | refine blk_drewN ?_ _ | refine blk_drew ?_ | refine blk_alloc ?_ _)); exact BK359.out) hb); have n3_ := Aside0.mk (below_step (by repeat (first | (with_reducible first | exact HB.out | apply below_alloc | apply pw_below_drewN | apply below_drew1 | refine below_set ?_ GE352.out | refine below_set ?_ GE359.out) | exact HB.out)) hb); have n4_ := Aside0.mk (hbox); have n5_ := Aside0.mk ((by rw [hg]; exact (below_size (by repeat (first | (with_reducible first | exact HB.out | apply below_alloc | apply pw_below_drewN | apply below_drew1 | refine below_set ?_ GE352.out | refine below_set ?_ GE359.out) | exact HB.out))) : w.heap.size ≤ gb369)); have n6_ := Aside0.mk ((by rw [hg]; exact (below_size (by repeat (first | (with_reducible first | exact HB.out | apply below_alloc | apply pw_below_drewN | apply below_drew1 | refine below_set ?_ GE352.out | refine below_set ?_ GE359.out) | exact HB.out))) : w.heap.size ≤ gb369)); have n7_ := Aside0.mk ((by rw [hg]; exact Nat.ne_of_lt (blk_lt (g := gb352) (o := .cells #[.int .i64 t346, .bool t347, .int .i64 t348, .string t349] 26 (0, 0)) (by (with_reducible repeat (first | refine blk_drewN ?_ _ | refine blk_drew ?_ | refine blk_alloc ?_ _)); exact BK352.out)) : gb352 ≠ gb369)); have n8_ := Aside0.mk ((by rw [hg]; exact Nat.ne_of_gt (blk_lt (g := gb352) (o := .cells #[.int .i64 t346, .bool t347, .int .i64 t348, .string t349] 26 (0, 0)) (by (with_reducible repeat (first | refine blk_drewN ?_ _ | refine blk_drew ?_ | refine blk_alloc ?_ _)); exact BK352.out)) : gb369 ≠ gb352)); have n9_ := Aside0.mk ((by rw [hg]; exact Nat.ne_of_lt (blk_lt (g := gb359) (o := .cells #[.int .i64 t353, .bool t354, .int .i64 t355, .string t356] 26 (0, 0)) (by (with_reducible repeat (first | refine blk_drewN ?_ _ | refine blk_drew ?_ | refine blk_alloc ?_ _)); exact BK359.out)) : gb359 ≠ gb369)); have n10_ := Aside0.mk ((by rw [hg]; exact Nat.ne_of_gt (blk_lt (g := gb359) (o := .cells #[.int .i64 t353, .bool t354, .int .i64 t355, .string t356] 26 (0, 0)) (by (with_reducible repeat (first | refine blk_drewN ?_ _ | refine blk_drew ?_ | refine blk_alloc ?_ _)); exact BK359.out)) : gb369 ≠ gb359)); clear HO362; clear BK352; clear BK359; clear HB; have HO362 := n0_; have BK352 := n1_; have BK359 := n2_; have HB := n3_; have BK369 := n4_; have GW369 := n5_; have GE369 := n6_; have NB352_369 := n7_; have NB369_352 := n8_; have NB359_369 := n9_; have NB369_359 := n10_; clear n0_ n1_ n2_ n3_ n4_ n5_ n6_ n7_ n8_ n9_ n10_; clear hb hbox hg; have hnb59 := NB369_352.out; have hnc59 := NB352_369.out; have hnb60 := NB369_359.out; have hnc60 := NB359_369.out; have hcz61_0 : w58.cell? ⟨gb369, 0, none⟩ = some (.int .i64 0) := (blk_cell BK369.out 0).trans rfl; have hcz61_1 : w58.cell? ⟨gb369, 1, none⟩ = some (.bool false) := (blk_cell BK369.out 1).trans rfl; have hcz61_2 : w58.cell? ⟨gb369, 2, none⟩ = some (.int .i64 0) := (blk_cell BK369.out 2).trans rfl; have hcz61_3 : w58.cell? ⟨gb369, 3, none⟩ = some (.string (⟨#[]⟩ : ByteArray)) := (blk_cell BK369.out 3).trans rfl; have hfz61_0 := blk_frozen BK369.out 0; have hfz61_1 := blk_frozen BK369.out 1; have hfz61_2 := blk_frozen BK369.out 2; have hfz61_3 := blk_frozen BK369.out 3) | ((with_reducible refine gate_callee (f := 20) rfl ?_); refine goesL_ (some 97) rfl rfl Try.func20 (by kernel_rfl) rfl #[.string (⟨#[201, 0, 0, 1]⟩ : ByteArray)] rfl (by (try simp only [List.map_toArray, List.map_cons, List.map_nil]); first | done | rfl | (simp only [List.length_drop, List.length_take]; rfl)) ?_; (with_reducible refine (impl_FrameRead.calls kj8 (⟨#[201, 0, 0, 1]⟩ : ByteArray) t370 t371 t372 t373 t374 t375 _ A50.out).mono ?_); rintro e w62 ⟨rfl, hb⟩; refine ⟨_, rfl, ?_⟩; have n0_ := Aside0.mk (Kd.R_below (by (with_reducible repeat (first | apply Kd.R_alloc | apply Kd.R_drewN | apply Kd.R_drew)); exact (Kd.R_mono (Kd.R_far (p := ⟨gb369, 3, none⟩) (Kd.R_far (p := ⟨gb369, 2, none⟩) (Kd.R_far (p := ⟨gb369, 1, none⟩) (Kd.R_far (p := ⟨gb369, 0, none⟩) (Kd.R_types HO362.out BK369.out (by decide)) (fun _ hk => hk.2) (.int .i64 t363)) (fun _ hk => hk.2) (.bool t364)) (fun _ hk => hk.2) (.int .i64 t365)) (fun _ hk => hk.2) (.string t366)) (fun _ h_ => h_.1))) hb); have n1_ := Aside0.mk (blk_below (g := gb352) (o := .cells #[.int .i64 t346, .bool t347, .int .i64 t348, .string t349] 26 (0, 0)) (by (with_reducible repeat (first | refine blk_drewN ?_ _ | refine blk_drew ?_ | refine blk_alloc ?_ _)); refine blk_far ?_ NB352_369.out _; (with_reducible repeat (first | refine blk_drewN ?_ _ | refine blk_drew ?_ | refine blk_alloc ?_ _)); refine blk_far ?_ NB352_369.out _; (with_reducible repeat (first | refine blk_drewN ?_ _ | refine blk_drew ?_ | refine blk_alloc ?_ _)); refine blk_far ?_ NB352_369.out _; (with_reducible repeat (first | refine blk_drewN ?_ _ | refine blk_drew ?_ | refine blk_alloc ?_ _)); refine blk_far ?_ NB352_369.out _; (with_reducible repeat (first | refine blk_drewN ?_ _ | refine blk_drew ?_ | refine blk_alloc ?_ _)); exact BK352.out) hb); have n2_ := Aside0.mk (blk_below (g := gb359) (o := .cells #[.int .i64 t353, .bool t354, .int .i64 t355, .string t356] 26 (0, 0)) (by (with_reducible repeat (first | refine blk_drewN ?_ _ | refine blk_drew ?_ | refine blk_alloc ?_ _)); refine blk_far ?_ NB359_369.out _; (with_reducible repeat (first | refine blk_drewN ?_ _ | refine blk_drew ?_ | refine blk_alloc ?_ _)); refine blk_far ?_ NB359_369.out _; (with_reducible repeat (first | refine blk_drewN ?_ _ | refine blk_drew ?_ | refine blk_alloc ?_ _)); refine blk_far ?_ NB359_369.out _; (with_reducible repeat (first | refine blk_drewN ?_ _ | refine blk_drew ?_ | refine blk_alloc ?_ _)); refine blk_far ?_ NB359_369.out _; (with_reducible repeat (first | refine blk_drewN ?_ _ | refine blk_drew ?_ | refine blk_alloc ?_ _)); exact BK359.out) hb); have n3_ := Aside0.mk (blk_below (g := gb369) (o := .cells #[.int .i64 t363, .bool t364, .int .i64 t365, .string t366] 26 (0, 0)) (by (with_reducible repeat (first | refine blk_drewN ?_ _ | refine blk_drew ?_ | refine blk_alloc ?_ _)); refine blk_put (cs := #[.int .i64 t363, .bool t364, .int .i64 t365, .string (⟨#[]⟩ : ByteArray)]) ?_ 3 _ rfl; (with_reducible repeat (first | refine blk_drewN ?_ _ | refine blk_drew ?_ | refine blk_alloc ?_ _)); refine blk_put (cs := #[.int .i64 t363, .bool t364, .int .i64 0, .string (⟨#[]⟩ : ByteArray)]) ?_ 2 _ rfl; (with_reducible repeat (first | refine blk_drewN ?_ _ | refine blk_drew ?_ | refine blk_alloc ?_ _)); refine blk_put (cs := #[.int .i64 t363, .bool false, .int .i64 0, .string (⟨#[]⟩ : ByteArray)]) ?_ 1 _ rfl; (with_reducible repeat (first | refine blk_drewN ?_ _ | refine blk_drew ?_ | refine blk_alloc ?_ _)); refine blk_put (cs := #[.int .i64 0, .bool false, .int .i64 0, .string (⟨#[]⟩ : ByteArray)]) ?_ 0 _ rfl; (with_reducible repeat (first | refine blk_drewN ?_ _ | refine blk_drew ?_ | refine blk_alloc ?_ _)); exact BK369.out) hb); have n4_ := Aside0.mk (below_step (by repeat (first | (with_reducible first | exact HB.out | apply below_alloc | apply pw_below_drewN | apply below_drew1 | refine below_set ?_ GE352.out | refine below_set ?_ GE359.out | refine below_set ?_ GE369.out) | exact HB.out)) hb); clear HO362; clear BK352; clear BK359; clear BK369; clear HB; have HO362 := n0_; have BK352 := n1_; have BK359 := n2_; have BK369 := n3_; have HB := n4_; clear n0_ n1_ n2_ n3_ n4_; (try clear hb); (try clear hb2); (try clear hk); (try clear hi)) | ((with_reducible refine gate_dst (N := 17) rfl ?_); (try (refine gate_guard (by rfl) ?_; dsimp only)); refine box_event ?hg (N := 17) ?hd (cs := #[.int .i64 0, .bool false, .int .i64 0, .string (⟨#[]⟩ : ByteArray)]) (t := 26) ?hr ?_; (case hd => rfl); (case hg => rfl); (case hr => first | (go_simp; done) | (go_simp; rfl)); intro gb376 hg w63 hbox hb; have n0_ := Aside0.mk (Kd.R_below (by (with_reducible repeat (first | apply Kd.R_alloc | apply Kd.R_drewN | apply Kd.R_drew)); exact HO362.out) hb); have n1_ := Aside0.mk (blk_below (g := gb352) (o := .cells #[.int .i64 t346, .bool t347, .int .i64 t348, .string t349] 26 (0, 0)) (by (with_reducible repeat (first | refine blk_drewN ?_ _ | refine blk_drew ?_ | refine blk_alloc ?_ _)); exact BK352.out) hb); have n2_ := Aside0.mk (blk_below (g := gb359) (o := .cells #[.int .i64 t353, .bool t354, .int .i64 t355, .string t356] 26 (0, 0)) (by (with_reducible repeat (first | refine blk_drewN ?_ _ | refine blk_drew ?_ | refine blk_alloc ?_ _)); exact BK359.out) hb); have n3_ := Aside0.mk (blk_below (g := gb369) (o := .cells #[.int .i64 t363, .bool t364, .int .i64 t365, .string t366] 26 (0, 0)) (by (with_reducible repeat (first | refine blk_drewN ?_ _ | refine blk_drew ?_ | refine blk_alloc ?_ _)); exact BK369.out) hb); have n4_ := Aside0.mk (below_step (by repeat (first | (with_reducible first | exact HB.out | apply below_alloc | apply pw_below_drewN | apply below_drew1 | refine below_set ?_ GE352.out | refine below_set ?_ GE359.out | refine below_set ?_ GE369.out) | exact HB.out)) hb); have n5_ := Aside0.mk (hbox); have n6_ := Aside0.mk ((by rw [hg]; exact (below_size (by repeat (first | (with_reducible first | exact HB.out | apply below_alloc | apply pw_below_drewN | apply below_drew1 | refine below_set ?_ GE352.out | refine below_set ?_ GE359.out | refine below_set ?_ GE369.out) | exact HB.out))) : w.heap.size ≤ gb376)); have n7_ := Aside0.mk ((by rw [hg]; exact (below_size (by repeat (first | (with_reducible first | exact HB.out | apply below_alloc | apply pw_below_drewN | apply below_drew1 | refine below_set ?_ GE352.out | refine below_set ?_ GE359.out | refine below_set ?_ GE369.out) | exact HB.out))) : w.heap.size ≤ gb376)); have n8_ := Aside0.mk ((by rw [hg]; exact Nat.ne_of_lt (blk_lt (g := gb352) (o := .cells #[.int .i64 t346, .bool t347, .int .i64 t348, .string t349] 26 (0, 0)) (by (with_reducible repeat (first | refine blk_drewN ?_ _ | refine blk_drew ?_ | refine blk_alloc ?_ _)); exact BK352.out)) : gb352 ≠ gb376)); have n9_ := Aside0.mk ((by rw [hg]; exact Nat.ne_of_gt (blk_lt (g := gb352) (o := .cells #[.int .i64 t346, .bool t347, .int .i64 t348, .string t349] 26 (0, 0)) (by (with_reducible repeat (first | refine blk_drewN ?_ _ | refine blk_drew ?_ | refine blk_alloc ?_ _)); exact BK352.out)) : gb376 ≠ gb352)); have n10_ := Aside0.mk ((by rw [hg]; exact Nat.ne_of_lt (blk_lt (g := gb359) (o := .cells #[.int .i64 t353, .bool t354, .int .i64 t355, .string t356] 26 (0, 0)) (by (with_reducible repeat (first | refine blk_drewN ?_ _ | refine blk_drew ?_ | refine blk_alloc ?_ _)); exact BK359.out)) : gb359 ≠ gb376)); have n11_ := Aside0.mk ((by rw [hg]; exact Nat.ne_of_gt (blk_lt (g := gb359) (o := .cells #[.int .i64 t353, .bool t354, .int .i64 t355, .string t356] 26 (0, 0)) (by (with_reducible repeat (first | refine blk_drewN ?_ _ | refine blk_drew ?_ | refine blk_alloc ?_ _)); exact BK359.out)) : gb376 ≠ gb359)); have n12_ := Aside0.mk ((by rw [hg]; exact Nat.ne_of_lt (blk_lt (g := gb369) (o := .cells #[.int .i64 t363, .bool t364, .int .i64 t365, .string t366] 26 (0, 0)) (by (with_reducible repeat (first | refine blk_drewN ?_ _ | refine blk_drew ?_ | refine blk_alloc ?_ _)); exact BK369.out)) : gb369 ≠ gb376)); have n13_ := Aside0.mk ((by rw [hg]; exact Nat.ne_of_gt (blk_lt (g := gb369) (o := .cells #[.int .i64 t363, .bool t364, .int .i64 t365, .string t366] 26 (0, 0)) (by (with_reducible repeat (first | refine blk_drewN ?_ _ | refine blk_drew ?_ | refine blk_alloc ?_ _)); exact BK369.out)) : gb376 ≠ gb369)); clear HO362; clear BK352; clear BK359; clear BK369; clear HB; have HO362 := n0_; have BK352 := n1_; have BK359 := n2_; have BK369 := n3_; have HB := n4_; have BK376 := n5_; have GW376 := n6_; have GE376 := n7_; have NB352_376 := n8_; have NB376_352 := n9_; have NB359_376 := n10_; have NB376_359 := n11_; have NB369_376 := n12_; have NB376_369 := n13_; clear n0_ n1_ n2_ n3_ n4_ n5_ n6_ n7_ n8_ n9_ n10_ n11_ n12_ n13_; clear hb hbox hg; have hnb64 := NB376_352.out; have hnc64 := NB352_376.out; have hnb65 := NB376_359.out; have hnc65 := NB359_376.out; have hnb66 := NB376_369.out; have hnc66 := NB369_376.out; have hcz67_0 : w63.cell? ⟨gb376, 0, none⟩ = some (.int .i64 0) := (blk_cell BK376.out 0).trans rfl; have hcz67_1 : w63.cell? ⟨gb376, 1, none⟩ = some (.bool false) := (blk_cell BK376.out 1).trans rfl; have hcz67_2 : w63.cell? ⟨gb376, 2, none⟩ = some (.int .i64 0) := (blk_cell BK376.out 2).trans rfl; have hcz67_3 : w63.cell? ⟨gb376, 3, none⟩ = some (.string (⟨#[]⟩ : ByteArray)) := (blk_cell BK376.out 3).trans rfl; have hfz67_0 := blk_frozen BK376.out 0; have hfz67_1 := blk_frozen BK376.out 1; have hfz67_2 := blk_frozen BK376.out 2; have hfz67_3 := blk_frozen BK376.out 3; have hcz68_0 : w63.cell? ⟨gb369, 0, none⟩ = some (.int .i64 t363) := (blk_cell BK369.out 0).trans rfl; have hcz68_1 : w63.cell? ⟨gb369, 1, none⟩ = some (.bool t364) := (blk_cell BK369.out 1).trans rfl; have hcz68_2 : w63.cell? ⟨gb369, 2, none⟩ = some (.int .i64 t365) := (blk_cell BK369.out 2).trans rfl; have hcz68_3 : w63.cell? ⟨gb369, 3, none⟩ = some (.string t366) := (blk_cell BK369.out 3).trans rfl; have hfz68_0 := blk_frozen BK369.out 0; have hfz68_1 := blk_frozen BK369.out 1; have hfz68_2 := blk_frozen BK369.out 2; have hfz68_3 := blk_frozen BK369.out 3; have hnb69 := NB359_352.out; have hnc69 := NB352_359.out; have hcz70_0 : w63.cell? ⟨gb359, 0, none⟩ = some (.int .i64 t353) := (blk_cell BK359.out 0).trans rfl; have hcz70_1 : w63.cell? ⟨gb359, 1, none⟩ = some (.bool t354) := (blk_cell BK359.out 1).trans rfl; have hcz70_2 : w63.cell? ⟨gb359, 2, none⟩ = some (.int .i64 t355) := (blk_cell BK359.out 2).trans rfl; have hcz70_3 : w63.cell? ⟨gb359, 3, none⟩ = some (.string t356) := (blk_cell BK359.out 3).trans rfl; have hfz70_0 := blk_frozen BK359.out 0; have hfz70_1 := blk_frozen BK359.out 1; have hfz70_2 := blk_frozen BK359.out 2; have hfz70_3 := blk_frozen BK359.out 3))
                                go_ret
                                exact ⟨by first | rfl | (simp [errW_none, errW_some] <;> rfl) | (simp only [← hji39, ← hji45]; first | rfl | (simp [errW_none, errW_some] <;> rfl)) | (simp [*, errW_none, errW_some] <;> rfl), by repeat (first | (with_reducible first | exact HB.out | apply below_alloc | apply pw_below_drewN | apply below_drew1 | refine below_set ?_ GE352.out | refine below_set ?_ GE359.out | refine below_set ?_ GE369.out | refine below_set ?_ GE376.out) | exact HB.out)⟩
                              · rw [if_neg c52] at H
                                have c52b0 : (!(t363 == t353) || (!(t364 == t354) || (!(t365 == t355) || (!(t366.toList == t356.toList))))) = false := by simpa using c52
                                clear c52
                                obtain rfl := Option.some.inj H
                                try go_wp2
                                have n0_ := Aside0.mk (blk_drew BK352.out)
                                have n1_ := Aside0.mk (blk_drew BK359.out)
                                have n2_ := Aside0.mk (below_drew1 HB.out)
                                clear BK352
                                clear BK359
                                clear HB
                                have BK352 := n0_
                                have BK359 := n1_
                                have HB := n2_
                                clear n0_ n1_ n2_
                                have p43 : 0 ≤ ((ji39) : Int) := of_decide_eq_true (by first | (with_reducible assumption) | assumption)
                                have q43 : (ji39) < (t345.size : Int) := of_decide_eq_true (by first | (with_reducible assumption) | assumption)
                                have hx43 := bt_at t345 (ji39)
                                replace p43 := eq_true p43
                                replace q43 := eq_true q43
                                refine start_ (n := 16) (S := fun w' => True) (ds := []) #[false, false, false, false, false, false, false, false, false, false, false, false, false, false, false, false] (by kernel_rfl) rfl rfl trivial (fun hHeld => ?_); refine with_tabW laws_FnFrameBad.tab9 laws_FnFrameBad.bits9 (fun HT_ HW_ => ?_)
                                generalize wc.drew = w71 at BK352 BK359 HB hHeld ⊢
                                refine pure_ (i := 0) (N := some 75) (v := ?_) (a' := ?_) #[true, false, false, false, false, false, false, false, false, false, false, false, false, false, false, false] rfl rfl (any_of HT_.out (by kernel_rfl)) (fun _ _ _ h => h) (Or.inl ⟨by rfl, ?_⟩) ?_ ?_
                                rotate_left
                                · intro w'
                                  go_simp
                                  with_reducible rfl
                                rotate_left
                                · simp only [Act.put, List.setIfInBounds_toArray, List.set_cons_zero, List.set_cons_succ, i64_w, i32_w]
                                  rfl
                                refine pure_ (i := 1) (N := some 76) (v := ?_) (a' := ?_) #[true, true, false, false, false, false, false, false, false, false, false, false, false, false, false, false] rfl rfl (any_of HT_.out (by kernel_rfl)) (fun _ _ _ h => h) (Or.inl ⟨by rfl, ?_⟩) ?_ ?_
                                rotate_left
                                · intro w'
                                  go_simp
                                  with_reducible rfl
                                rotate_left
                                · simp only [Act.put, List.setIfInBounds_toArray, List.set_cons_zero, List.set_cons_succ, i64_w, i32_w]
                                  rfl
                                refine pure_ (i := 2) (N := some 77) (v := ?_) (a' := ?_) #[true, true, true, false, false, false, false, false, false, false, false, false, false, false, false, false] rfl rfl (any_of HT_.out (by kernel_rfl)) (fun _ _ _ h => h) (Or.inl ⟨by rfl, ?_⟩) ?_ ?_
                                rotate_left
                                · intro w'
                                  go_simp
                                  with_reducible rfl
                                rotate_left
                                · simp only [Act.put, List.setIfInBounds_toArray, List.set_cons_zero, List.set_cons_succ, i64_w, i32_w]
                                  rfl
                                refine pure_ (i := 3) (N := some 78) (v := ?_) (a' := ?_) #[true, true, true, true, false, false, false, false, false, false, false, false, false, false, false, false] rfl rfl (any_of HT_.out (by kernel_rfl)) (fun _ _ _ h => h) (Or.inl ⟨by rfl, ?_⟩) ?_ ?_
                                rotate_left
                                · intro w'
                                  go_simp
                                  with_reducible rfl
                                rotate_left
                                · simp only [Act.put, List.setIfInBounds_toArray, List.set_cons_zero, List.set_cons_succ, i64_w, i32_w]
                                  rfl
                                refine pure_ (i := 4) (N := some 79) (v := ?_) (a' := ?_) #[true, true, true, true, true, false, false, false, false, false, false, false, false, false, false, false] rfl rfl (any_of HT_.out (by kernel_rfl)) (fun _ _ _ h => h) (Or.inl ⟨by rfl, ?_⟩) ?_ ?_
                                rotate_left
                                · intro w'
                                  go_simp
                                  with_reducible rfl
                                rotate_left
                                · simp only [Act.put, List.setIfInBounds_toArray, List.set_cons_zero, List.set_cons_succ, i64_w, i32_w]
                                  rfl
                                refine pure_ (i := 10) (N := some 85) (v := ?_) (a' := ?_) #[true, true, true, true, true, false, false, false, false, false, true, false, false, false, false, false] rfl rfl (any_of HT_.out (by kernel_rfl)) (fun _ _ _ h => h) (Or.inl ⟨by rfl, ?_⟩) ?_ ?_
                                rotate_left
                                · intro w'
                                  go_simp
                                  with_reducible rfl
                                rotate_left
                                · simp only [Act.put, List.setIfInBounds_toArray, List.set_cons_zero, List.set_cons_succ, i64_w, i32_w]
                                  rfl
                                refine pure_ (i := 11) (N := some 86) (v := ?_) (a' := ?_) #[true, true, true, true, true, false, false, false, false, false, true, true, false, false, false, false] rfl rfl (any_of HT_.out (by kernel_rfl)) (fun _ _ _ h => h) (Or.inl ⟨by rfl, ?_⟩) ?_ ?_
                                rotate_left
                                · intro w'
                                  go_simp
                                  with_reducible rfl
                                rotate_left
                                · simp only [Act.put, List.setIfInBounds_toArray, List.set_cons_zero, List.set_cons_succ, i64_w, i32_w]
                                  rfl
                                refine pure_ (i := 12) (N := some 87) (v := ?_) (a' := ?_) #[true, true, true, true, true, false, false, false, false, false, true, true, true, false, false, false] rfl rfl (any_of HT_.out (by kernel_rfl)) (fun _ _ _ h => h) (Or.inl ⟨by rfl, ?_⟩) ?_ ?_
                                rotate_left
                                · intro w'
                                  go_simp
                                  with_reducible rfl
                                rotate_left
                                · simp only [Act.put, List.setIfInBounds_toArray, List.set_cons_zero, List.set_cons_succ, i64_w, i32_w]
                                  rfl
                                refine pure_ (i := 13) (N := some 88) (v := ?_) (a' := ?_) #[true, true, true, true, true, false, false, false, false, false, true, true, true, true, false, false] rfl rfl (any_of HT_.out (by kernel_rfl)) (fun _ _ _ h => h) (Or.inl ⟨by rfl, ?_⟩) ?_ ?_
                                rotate_left
                                · intro w'
                                  go_simp
                                  with_reducible rfl
                                rotate_left
                                · simp only [Act.put, List.setIfInBounds_toArray, List.set_cons_zero, List.set_cons_succ, i64_w, i32_w]
                                  rfl
                                refine take_ (i := 5) (N := some 80) (v := ?_) (a' := ?_) #[true, true, true, true, true, true, false, false, false, false, true, true, true, true, false, false] rfl rfl (take_ofW HT_.out HW_.out (by kernel_rfl)) (fun _ _ _ h => h) (Or.inl ⟨by rfl, ?_⟩) hHeld ?_ ?_
                                rotate_left
                                · intro w' _
                                  go_simp
                                  with_reducible rfl
                                rotate_left
                                · simp only [Act.put, List.setIfInBounds_toArray, List.set_cons_zero, List.set_cons_succ, i64_w, i32_w]
                                  rfl
                                refine pure_ (i := 6) (N := some 81) (v := ?_) (a' := ?_) #[true, true, true, true, true, true, true, false, false, false, true, true, true, true, false, false] rfl rfl (any_of HT_.out (by kernel_rfl)) (fun _ _ _ h => h) (Or.inl ⟨by rfl, ?_⟩) ?_ ?_
                                rotate_left
                                · intro w'
                                  go_simp
                                  with_reducible rfl
                                rotate_left
                                · simp only [Act.put, List.setIfInBounds_toArray, List.set_cons_zero, List.set_cons_succ, i64_w, i32_w]
                                  rfl
                                refine one_ (i := 7) (N := some 82) #[true, true, true, true, true, true, true, true, false, false, true, true, true, true, false, false] rfl rfl (one_of HT_.out (by kernel_rfl)) (by decide) (fun K hK => ?_)
                                refine Kd.R_lit_step (Kd.int .u8) _ 5 ?hg (N := 82) ?hd (xs := ([((bt t345 (ji39)) + 1) % 256] : List Int)) (inner := [.int .u8 (((bt t345 (ji39)) + 1) % 256)]) (ok := fun _ => True) (okp := fun _ => True) ?hr ?hp (fun _ hk => hk) trivial (Below.refl _ _) (Nat.le_refl _) (by simp) ?_; (case hd => rfl); (case hg => rfl); (case hr => first | (go_simp; done) | (go_simp; rfl)); (case hp => exact (Reps.one (show Kd.M (Kd.int .u8) _ _ _ (((bt t345 (ji39)) + 1) % 256) [.int .u8 (((bt t345 (ji39)) + 1) % 256)] from rfl) (Reps.none _ _)))
                                intro v361 w72 ho73 hb hg_ hnew_
                                clear hg_ hnew_
                                (first | rw [← Ny360.out] at ho73 | (simp only [Int.reduceToNat] at ho73; rw [← Ny360.out] at ho73))
                                have n0_ := Aside0.mk (Kd.R_lower ho73 (below_size (by repeat (first | (with_reducible first | exact HB.out | apply below_alloc | apply pw_below_drewN | apply below_drew1 | refine below_set ?_ GE352.out | refine below_set ?_ GE359.out) | exact HB.out))))
                                have n1_ := Aside0.mk (blk_below (g := gb352) (o := .cells #[.int .i64 t346, .bool t347, .int .i64 t348, .string t349] 26 (0, 0)) (by (with_reducible repeat (first | refine blk_drewN ?_ _ | refine blk_drew ?_ | refine blk_alloc ?_ _)); exact BK352.out) hb)
                                have n2_ := Aside0.mk (blk_below (g := gb359) (o := .cells #[.int .i64 t353, .bool t354, .int .i64 t355, .string t356] 26 (0, 0)) (by (with_reducible repeat (first | refine blk_drewN ?_ _ | refine blk_drew ?_ | refine blk_alloc ?_ _)); exact BK359.out) hb)
                                have n3_ := Aside0.mk (below_step (by repeat (first | (with_reducible first | exact HB.out | apply below_alloc | apply pw_below_drewN | apply below_drew1 | refine below_set ?_ GE352.out | refine below_set ?_ GE359.out) | exact HB.out)) hb)
                                clear BK352
                                clear BK359
                                clear HB
                                have HO362 := n0_
                                have BK352 := n1_
                                have BK359 := n2_
                                have HB := n3_
                                clear n0_ n1_ n2_ n3_
                                clear hb ho73
                                refine hK.out _ _ trivial (fun hHeld => ?_)
                                clear hK K
                                refine norm_ (a' := ?_) ?_ ?_
                                rotate_left
                                · show Act.put _ (some 82) _ = _
                                  simp only [Act.put, List.setIfInBounds_toArray, List.set_cons_zero, List.set_cons_succ, i64_w, i32_w]
                                  rfl
                                refine one_ (i := 8) (N := some 83) #[true, true, true, true, true, true, true, true, true, false, true, true, true, true, false, false] rfl rfl (one_of HT_.out (by kernel_rfl)) (by decide) (fun K hK => ?_)
                                have hcv74 := own_string (P := Try.prog) Try.underlying34 Try.underlying5 Try.underlying9 (Kd.own_of_R HO362.out)
                                refine value_ (w1 := ?_) (v := ?_) (by rfl) rfl ?_ ?_
                                rotate_left 2
                                · go_simp
                                  constructor
                                  · rfl
                                  · rfl
                                clear hcv74
                                refine hK.out _ _ trivial (fun hHeld => ?_)
                                clear hK K
                                refine norm_ (a' := ?_) ?_ ?_
                                rotate_left
                                · show Act.put _ (some 83) _ = _
                                  simp only [Act.put, List.setIfInBounds_toArray, List.set_cons_zero, List.set_cons_succ, i64_w, i32_w]
                                  rfl
                                refine pure_ (i := 9) (N := some 84) (v := ?_) (a' := ?_) #[true, true, true, true, true, true, true, true, true, true, true, true, true, true, false, false] rfl rfl (any_of HT_.out (by kernel_rfl)) (fun _ _ _ h => h) (Or.inl ⟨by rfl, ?_⟩) ?_ ?_
                                rotate_left
                                · intro w'
                                  go_simp
                                  with_reducible rfl
                                rotate_left
                                · simp only [Act.put, List.setIfInBounds_toArray, List.set_cons_zero, List.set_cons_succ, i64_w, i32_w]
                                  rfl
                                refine pure_ (i := 14) (N := some 89) (v := ?_) (a' := ?_) #[true, true, true, true, true, true, true, true, true, true, true, true, true, true, true, false] rfl rfl (any_of HT_.out (by kernel_rfl)) (fun _ _ _ h => h) (Or.inl ⟨by rfl, ?_⟩) ?_ ?_
                                rotate_left
                                · intro w'
                                  go_simp
                                  with_reducible rfl
                                rotate_left
                                · simp only [Act.put, List.setIfInBounds_toArray, List.set_cons_zero, List.set_cons_succ, i64_w, i32_w]
                                  rfl
                                refine pure_ (i := 15) (N := some 13) (v := ?_) (a' := ?_) #[true, true, true, true, true, true, true, true, true, true, true, true, true, true, true, true] rfl rfl (any_of HT_.out (by kernel_rfl)) (fun _ _ _ h => h) (Or.inl ⟨by rfl, ?_⟩) ?_ ?_
                                rotate_left
                                · intro w'
                                  go_simp
                                  with_reducible rfl
                                rotate_left
                                · simp only [Act.put, List.setIfInBounds_toArray, List.set_cons_zero, List.set_cons_succ, i64_w, i32_w]
                                  rfl
                                refine done_ (done_of HT_.out (by kernel_rfl)) ?_
                                try go_wp2_with (first | ((with_reducible refine gate_callee (f := 20) rfl ?_); refine goesL_ (some 92) rfl rfl Try.func20 (by kernel_rfl) rfl #[.string (((t345.extract 0 ((ji39) : Int).toNat) ++ (strOfNums y360)) ++ (t345.extract ((ji45) : Int).toNat t345.size))] rfl (by (try simp only [List.map_toArray, List.map_cons, List.map_nil]); first | done | (simp only [hji39, hji45]; rfl) | rfl | (simp only [List.length_drop, List.length_take]; rfl)) ?_; (with_reducible refine (impl_FrameRead.calls kj8 (((t345.extract 0 ((ji39) : Int).toNat) ++ (strOfNums y360)) ++ (t345.extract ((ji45) : Int).toNat t345.size)) t363 t364 t365 t366 t367 t368 _ A49.out).mono ?_); rintro e w75 ⟨rfl, hb⟩; refine ⟨_, rfl, ?_⟩; have n0_ := Aside0.mk (Kd.R_below (by (with_reducible repeat (first | apply Kd.R_alloc | apply Kd.R_drewN | apply Kd.R_drew)); exact HO362.out) hb); have n1_ := Aside0.mk (blk_below (g := gb352) (o := .cells #[.int .i64 t346, .bool t347, .int .i64 t348, .string t349] 26 (0, 0)) (by (with_reducible repeat (first | refine blk_drewN ?_ _ | refine blk_drew ?_ | refine blk_alloc ?_ _)); exact BK352.out) hb); have n2_ := Aside0.mk (blk_below (g := gb359) (o := .cells #[.int .i64 t353, .bool t354, .int .i64 t355, .string t356] 26 (0, 0)) (by (with_reducible repeat (first | refine blk_drewN ?_ _ | refine blk_drew ?_ | refine blk_alloc ?_ _)); exact BK359.out) hb); have n3_ := Aside0.mk (below_step (by repeat (first | (with_reducible first | exact HB.out | apply below_alloc | apply pw_below_drewN | apply below_drew1 | refine below_set ?_ GE352.out | refine below_set ?_ GE359.out) | exact HB.out)) hb); clear HO362; clear BK352; clear BK359; clear HB; have HO362 := n0_; have BK352 := n1_; have BK359 := n2_; have HB := n3_; clear n0_ n1_ n2_ n3_; (try clear hb); (try clear hb2); (try clear hk); (try clear hi)) | ((with_reducible refine gate_dst (N := 14) rfl ?_); (try (refine gate_guard (by rfl) ?_; dsimp only)); refine box_event ?hg (N := 14) ?hd (cs := #[.int .i64 0, .bool false, .int .i64 0, .string (⟨#[]⟩ : ByteArray)]) (t := 26) ?hr ?_; (case hd => rfl); (case hg => rfl); (case hr => first | (go_simp; done) | (go_simp; rfl)); intro gb369 hg w76 hbox hb; have n0_ := Aside0.mk (Kd.R_below (by (with_reducible repeat (first | apply Kd.R_alloc | apply Kd.R_drewN | apply Kd.R_drew)); exact HO362.out) hb); have n1_ := Aside0.mk (blk_below (g := gb352) (o := .cells #[.int .i64 t346, .bool t347, .int .i64 t348, .string t349] 26 (0, 0)) (by (with_reducible repeat (first | refine blk_drewN ?_ _ | refine blk_drew ?_ | refine blk_alloc ?_ _)); exact BK352.out) hb); have n2_ := Aside0.mk (blk_below (g := gb359) (o := .cells #[.int .i64 t353, .bool t354, .int .i64 t355, .string t356] 26 (0, 0)) (by (with_reducible repeat (first | refine blk_drewN ?_ _ | refine blk_drew ?_ | refine blk_alloc ?_ _)); exact BK359.out) hb); have n3_ := Aside0.mk (below_step (by repeat (first | (with_reducible first | exact HB.out | apply below_alloc | apply pw_below_drewN | apply below_drew1 | refine below_set ?_ GE352.out | refine below_set ?_ GE359.out) | exact HB.out)) hb); have n4_ := Aside0.mk (hbox); have n5_ := Aside0.mk ((by rw [hg]; exact (below_size (by repeat (first | (with_reducible first | exact HB.out | apply below_alloc | apply pw_below_drewN | apply below_drew1 | refine below_set ?_ GE352.out | refine below_set ?_ GE359.out) | exact HB.out))) : w.heap.size ≤ gb369)); have n6_ := Aside0.mk ((by rw [hg]; exact (below_size (by repeat (first | (with_reducible first | exact HB.out | apply below_alloc | apply pw_below_drewN | apply below_drew1 | refine below_set ?_ GE352.out | refine below_set ?_ GE359.out) | exact HB.out))) : w.heap.size ≤ gb369)); have n7_ := Aside0.mk ((by rw [hg]; exact Nat.ne_of_lt (blk_lt (g := gb352) (o := .cells #[.int .i64 t346, .bool t347, .int .i64 t348, .string t349] 26 (0, 0)) (by (with_reducible repeat (first | refine blk_drewN ?_ _ | refine blk_drew ?_ | refine blk_alloc ?_ _)); exact BK352.out)) : gb352 ≠ gb369)); have n8_ := Aside0.mk ((by rw [hg]; exact Nat.ne_of_gt (blk_lt (g := gb352) (o := .cells #[.int .i64 t346, .bool t347, .int .i64 t348, .string t349] 26 (0, 0)) (by (with_reducible repeat (first | refine blk_drewN ?_ _ | refine blk_drew ?_ | refine blk_alloc ?_ _)); exact BK352.out)) : gb369 ≠ gb352)); have n9_ := Aside0.mk ((by rw [hg]; exact Nat.ne_of_lt (blk_lt (g := gb359) (o := .cells #[.int .i64 t353, .bool t354, .int .i64 t355, .string t356] 26 (0, 0)) (by (with_reducible repeat (first | refine blk_drewN ?_ _ | refine blk_drew ?_ | refine blk_alloc ?_ _)); exact BK359.out)) : gb359 ≠ gb369)); have n10_ := Aside0.mk ((by rw [hg]; exact Nat.ne_of_gt (blk_lt (g := gb359) (o := .cells #[.int .i64 t353, .bool t354, .int .i64 t355, .string t356] 26 (0, 0)) (by (with_reducible repeat (first | refine blk_drewN ?_ _ | refine blk_drew ?_ | refine blk_alloc ?_ _)); exact BK359.out)) : gb369 ≠ gb359)); clear HO362; clear BK352; clear BK359; clear HB; have HO362 := n0_; have BK352 := n1_; have BK359 := n2_; have HB := n3_; have BK369 := n4_; have GW369 := n5_; have GE369 := n6_; have NB352_369 := n7_; have NB369_352 := n8_; have NB359_369 := n9_; have NB369_359 := n10_; clear n0_ n1_ n2_ n3_ n4_ n5_ n6_ n7_ n8_ n9_ n10_; clear hb hbox hg; have hnb77 := NB369_352.out; have hnc77 := NB352_369.out; have hnb78 := NB369_359.out; have hnc78 := NB359_369.out; have hcz79_0 : w76.cell? ⟨gb369, 0, none⟩ = some (.int .i64 0) := (blk_cell BK369.out 0).trans rfl; have hcz79_1 : w76.cell? ⟨gb369, 1, none⟩ = some (.bool false) := (blk_cell BK369.out 1).trans rfl; have hcz79_2 : w76.cell? ⟨gb369, 2, none⟩ = some (.int .i64 0) := (blk_cell BK369.out 2).trans rfl; have hcz79_3 : w76.cell? ⟨gb369, 3, none⟩ = some (.string (⟨#[]⟩ : ByteArray)) := (blk_cell BK369.out 3).trans rfl; have hfz79_0 := blk_frozen BK369.out 0; have hfz79_1 := blk_frozen BK369.out 1; have hfz79_2 := blk_frozen BK369.out 2; have hfz79_3 := blk_frozen BK369.out 3) | ((with_reducible refine gate_callee (f := 20) rfl ?_); refine goesL_ (some 97) rfl rfl Try.func20 (by kernel_rfl) rfl #[.string (⟨#[201, 0, 0, 1]⟩ : ByteArray)] rfl (by (try simp only [List.map_toArray, List.map_cons, List.map_nil]); first | done | rfl | (simp only [List.length_drop, List.length_take]; rfl)) ?_; (with_reducible refine (impl_FrameRead.calls kj8 (⟨#[201, 0, 0, 1]⟩ : ByteArray) t370 t371 t372 t373 t374 t375 _ A50.out).mono ?_); rintro e w80 ⟨rfl, hb⟩; refine ⟨_, rfl, ?_⟩; have n0_ := Aside0.mk (Kd.R_below (by (with_reducible repeat (first | apply Kd.R_alloc | apply Kd.R_drewN | apply Kd.R_drew)); exact (Kd.R_mono (Kd.R_far (p := ⟨gb369, 3, none⟩) (Kd.R_far (p := ⟨gb369, 2, none⟩) (Kd.R_far (p := ⟨gb369, 1, none⟩) (Kd.R_far (p := ⟨gb369, 0, none⟩) (Kd.R_types HO362.out BK369.out (by decide)) (fun _ hk => hk.2) (.int .i64 t363)) (fun _ hk => hk.2) (.bool t364)) (fun _ hk => hk.2) (.int .i64 t365)) (fun _ hk => hk.2) (.string t366)) (fun _ h_ => h_.1))) hb); have n1_ := Aside0.mk (blk_below (g := gb352) (o := .cells #[.int .i64 t346, .bool t347, .int .i64 t348, .string t349] 26 (0, 0)) (by (with_reducible repeat (first | refine blk_drewN ?_ _ | refine blk_drew ?_ | refine blk_alloc ?_ _)); refine blk_far ?_ NB352_369.out _; (with_reducible repeat (first | refine blk_drewN ?_ _ | refine blk_drew ?_ | refine blk_alloc ?_ _)); refine blk_far ?_ NB352_369.out _; (with_reducible repeat (first | refine blk_drewN ?_ _ | refine blk_drew ?_ | refine blk_alloc ?_ _)); refine blk_far ?_ NB352_369.out _; (with_reducible repeat (first | refine blk_drewN ?_ _ | refine blk_drew ?_ | refine blk_alloc ?_ _)); refine blk_far ?_ NB352_369.out _; (with_reducible repeat (first | refine blk_drewN ?_ _ | refine blk_drew ?_ | refine blk_alloc ?_ _)); exact BK352.out) hb); have n2_ := Aside0.mk (blk_below (g := gb359) (o := .cells #[.int .i64 t353, .bool t354, .int .i64 t355, .string t356] 26 (0, 0)) (by (with_reducible repeat (first | refine blk_drewN ?_ _ | refine blk_drew ?_ | refine blk_alloc ?_ _)); refine blk_far ?_ NB359_369.out _; (with_reducible repeat (first | refine blk_drewN ?_ _ | refine blk_drew ?_ | refine blk_alloc ?_ _)); refine blk_far ?_ NB359_369.out _; (with_reducible repeat (first | refine blk_drewN ?_ _ | refine blk_drew ?_ | refine blk_alloc ?_ _)); refine blk_far ?_ NB359_369.out _; (with_reducible repeat (first | refine blk_drewN ?_ _ | refine blk_drew ?_ | refine blk_alloc ?_ _)); refine blk_far ?_ NB359_369.out _; (with_reducible repeat (first | refine blk_drewN ?_ _ | refine blk_drew ?_ | refine blk_alloc ?_ _)); exact BK359.out) hb); have n3_ := Aside0.mk (blk_below (g := gb369) (o := .cells #[.int .i64 t363, .bool t364, .int .i64 t365, .string t366] 26 (0, 0)) (by (with_reducible repeat (first | refine blk_drewN ?_ _ | refine blk_drew ?_ | refine blk_alloc ?_ _)); refine blk_put (cs := #[.int .i64 t363, .bool t364, .int .i64 t365, .string (⟨#[]⟩ : ByteArray)]) ?_ 3 _ rfl; (with_reducible repeat (first | refine blk_drewN ?_ _ | refine blk_drew ?_ | refine blk_alloc ?_ _)); refine blk_put (cs := #[.int .i64 t363, .bool t364, .int .i64 0, .string (⟨#[]⟩ : ByteArray)]) ?_ 2 _ rfl; (with_reducible repeat (first | refine blk_drewN ?_ _ | refine blk_drew ?_ | refine blk_alloc ?_ _)); refine blk_put (cs := #[.int .i64 t363, .bool false, .int .i64 0, .string (⟨#[]⟩ : ByteArray)]) ?_ 1 _ rfl; (with_reducible repeat (first | refine blk_drewN ?_ _ | refine blk_drew ?_ | refine blk_alloc ?_ _)); refine blk_put (cs := #[.int .i64 0, .bool false, .int .i64 0, .string (⟨#[]⟩ : ByteArray)]) ?_ 0 _ rfl; (with_reducible repeat (first | refine blk_drewN ?_ _ | refine blk_drew ?_ | refine blk_alloc ?_ _)); exact BK369.out) hb); have n4_ := Aside0.mk (below_step (by repeat (first | (with_reducible first | exact HB.out | apply below_alloc | apply pw_below_drewN | apply below_drew1 | refine below_set ?_ GE352.out | refine below_set ?_ GE359.out | refine below_set ?_ GE369.out) | exact HB.out)) hb); clear HO362; clear BK352; clear BK359; clear BK369; clear HB; have HO362 := n0_; have BK352 := n1_; have BK359 := n2_; have BK369 := n3_; have HB := n4_; clear n0_ n1_ n2_ n3_ n4_; (try clear hb); (try clear hb2); (try clear hk); (try clear hi)) | ((with_reducible refine gate_dst (N := 17) rfl ?_); (try (refine gate_guard (by rfl) ?_; dsimp only)); refine box_event ?hg (N := 17) ?hd (cs := #[.int .i64 0, .bool false, .int .i64 0, .string (⟨#[]⟩ : ByteArray)]) (t := 26) ?hr ?_; (case hd => rfl); (case hg => rfl); (case hr => first | (go_simp; done) | (go_simp; rfl)); intro gb376 hg w81 hbox hb; have n0_ := Aside0.mk (Kd.R_below (by (with_reducible repeat (first | apply Kd.R_alloc | apply Kd.R_drewN | apply Kd.R_drew)); exact HO362.out) hb); have n1_ := Aside0.mk (blk_below (g := gb352) (o := .cells #[.int .i64 t346, .bool t347, .int .i64 t348, .string t349] 26 (0, 0)) (by (with_reducible repeat (first | refine blk_drewN ?_ _ | refine blk_drew ?_ | refine blk_alloc ?_ _)); exact BK352.out) hb); have n2_ := Aside0.mk (blk_below (g := gb359) (o := .cells #[.int .i64 t353, .bool t354, .int .i64 t355, .string t356] 26 (0, 0)) (by (with_reducible repeat (first | refine blk_drewN ?_ _ | refine blk_drew ?_ | refine blk_alloc ?_ _)); exact BK359.out) hb); have n3_ := Aside0.mk (blk_below (g := gb369) (o := .cells #[.int .i64 t363, .bool t364, .int .i64 t365, .string t366] 26 (0, 0)) (by (with_reducible repeat (first | refine blk_drewN ?_ _ | refine blk_drew ?_ | refine blk_alloc ?_ _)); exact BK369.out) hb); have n4_ := Aside0.mk (below_step (by repeat (first | (with_reducible first | exact HB.out | apply below_alloc | apply pw_below_drewN | apply below_drew1 | refine below_set ?_ GE352.out | refine below_set ?_ GE359.out | refine below_set ?_ GE369.out) | exact HB.out)) hb); have n5_ := Aside0.mk (hbox); have n6_ := Aside0.mk ((by rw [hg]; exact (below_size (by repeat (first | (with_reducible first | exact HB.out | apply below_alloc | apply pw_below_drewN | apply below_drew1 | refine below_set ?_ GE352.out | refine below_set ?_ GE359.out | refine below_set ?_ GE369.out) | exact HB.out))) : w.heap.size ≤ gb376)); have n7_ := Aside0.mk ((by rw [hg]; exact (below_size (by repeat (first | (with_reducible first | exact HB.out | apply below_alloc | apply pw_below_drewN | apply below_drew1 | refine below_set ?_ GE352.out | refine below_set ?_ GE359.out | refine below_set ?_ GE369.out) | exact HB.out))) : w.heap.size ≤ gb376)); have n8_ := Aside0.mk ((by rw [hg]; exact Nat.ne_of_lt (blk_lt (g := gb352) (o := .cells #[.int .i64 t346, .bool t347, .int .i64 t348, .string t349] 26 (0, 0)) (by (with_reducible repeat (first | refine blk_drewN ?_ _ | refine blk_drew ?_ | refine blk_alloc ?_ _)); exact BK352.out)) : gb352 ≠ gb376)); have n9_ := Aside0.mk ((by rw [hg]; exact Nat.ne_of_gt (blk_lt (g := gb352) (o := .cells #[.int .i64 t346, .bool t347, .int .i64 t348, .string t349] 26 (0, 0)) (by (with_reducible repeat (first | refine blk_drewN ?_ _ | refine blk_drew ?_ | refine blk_alloc ?_ _)); exact BK352.out)) : gb376 ≠ gb352)); have n10_ := Aside0.mk ((by rw [hg]; exact Nat.ne_of_lt (blk_lt (g := gb359) (o := .cells #[.int .i64 t353, .bool t354, .int .i64 t355, .string t356] 26 (0, 0)) (by (with_reducible repeat (first | refine blk_drewN ?_ _ | refine blk_drew ?_ | refine blk_alloc ?_ _)); exact BK359.out)) : gb359 ≠ gb376)); have n11_ := Aside0.mk ((by rw [hg]; exact Nat.ne_of_gt (blk_lt (g := gb359) (o := .cells #[.int .i64 t353, .bool t354, .int .i64 t355, .string t356] 26 (0, 0)) (by (with_reducible repeat (first | refine blk_drewN ?_ _ | refine blk_drew ?_ | refine blk_alloc ?_ _)); exact BK359.out)) : gb376 ≠ gb359)); have n12_ := Aside0.mk ((by rw [hg]; exact Nat.ne_of_lt (blk_lt (g := gb369) (o := .cells #[.int .i64 t363, .bool t364, .int .i64 t365, .string t366] 26 (0, 0)) (by (with_reducible repeat (first | refine blk_drewN ?_ _ | refine blk_drew ?_ | refine blk_alloc ?_ _)); exact BK369.out)) : gb369 ≠ gb376)); have n13_ := Aside0.mk ((by rw [hg]; exact Nat.ne_of_gt (blk_lt (g := gb369) (o := .cells #[.int .i64 t363, .bool t364, .int .i64 t365, .string t366] 26 (0, 0)) (by (with_reducible repeat (first | refine blk_drewN ?_ _ | refine blk_drew ?_ | refine blk_alloc ?_ _)); exact BK369.out)) : gb376 ≠ gb369)); clear HO362; clear BK352; clear BK359; clear BK369; clear HB; have HO362 := n0_; have BK352 := n1_; have BK359 := n2_; have BK369 := n3_; have HB := n4_; have BK376 := n5_; have GW376 := n6_; have GE376 := n7_; have NB352_376 := n8_; have NB376_352 := n9_; have NB359_376 := n10_; have NB376_359 := n11_; have NB369_376 := n12_; have NB376_369 := n13_; clear n0_ n1_ n2_ n3_ n4_ n5_ n6_ n7_ n8_ n9_ n10_ n11_ n12_ n13_; clear hb hbox hg; have hnb82 := NB376_352.out; have hnc82 := NB352_376.out; have hnb83 := NB376_359.out; have hnc83 := NB359_376.out; have hnb84 := NB376_369.out; have hnc84 := NB369_376.out; have hcz85_0 : w81.cell? ⟨gb376, 0, none⟩ = some (.int .i64 0) := (blk_cell BK376.out 0).trans rfl; have hcz85_1 : w81.cell? ⟨gb376, 1, none⟩ = some (.bool false) := (blk_cell BK376.out 1).trans rfl; have hcz85_2 : w81.cell? ⟨gb376, 2, none⟩ = some (.int .i64 0) := (blk_cell BK376.out 2).trans rfl; have hcz85_3 : w81.cell? ⟨gb376, 3, none⟩ = some (.string (⟨#[]⟩ : ByteArray)) := (blk_cell BK376.out 3).trans rfl; have hfz85_0 := blk_frozen BK376.out 0; have hfz85_1 := blk_frozen BK376.out 1; have hfz85_2 := blk_frozen BK376.out 2; have hfz85_3 := blk_frozen BK376.out 3; have hcz86_0 : w81.cell? ⟨gb369, 0, none⟩ = some (.int .i64 t363) := (blk_cell BK369.out 0).trans rfl; have hcz86_1 : w81.cell? ⟨gb369, 1, none⟩ = some (.bool t364) := (blk_cell BK369.out 1).trans rfl; have hcz86_2 : w81.cell? ⟨gb369, 2, none⟩ = some (.int .i64 t365) := (blk_cell BK369.out 2).trans rfl; have hcz86_3 : w81.cell? ⟨gb369, 3, none⟩ = some (.string t366) := (blk_cell BK369.out 3).trans rfl; have hfz86_0 := blk_frozen BK369.out 0; have hfz86_1 := blk_frozen BK369.out 1; have hfz86_2 := blk_frozen BK369.out 2; have hfz86_3 := blk_frozen BK369.out 3; have hnb87 := NB359_352.out; have hnc87 := NB352_359.out; have hcz88_0 : w81.cell? ⟨gb359, 0, none⟩ = some (.int .i64 t353) := (blk_cell BK359.out 0).trans rfl; have hcz88_1 : w81.cell? ⟨gb359, 1, none⟩ = some (.bool t354) := (blk_cell BK359.out 1).trans rfl; have hcz88_2 : w81.cell? ⟨gb359, 2, none⟩ = some (.int .i64 t355) := (blk_cell BK359.out 2).trans rfl; have hcz88_3 : w81.cell? ⟨gb359, 3, none⟩ = some (.string t356) := (blk_cell BK359.out 3).trans rfl; have hfz88_0 := blk_frozen BK359.out 0; have hfz88_1 := blk_frozen BK359.out 1; have hfz88_2 := blk_frozen BK359.out 2; have hfz88_3 := blk_frozen BK359.out 3))
                                go_ret
                                exact ⟨by first | rfl | (simp [errW_none, errW_some] <;> rfl) | (simp only [← hji39, ← hji45]; first | rfl | (simp [errW_none, errW_some] <;> rfl)) | (simp [*, errW_none, errW_some] <;> rfl), by repeat (first | (with_reducible first | exact HB.out | apply below_alloc | apply pw_below_drewN | apply below_drew1 | refine below_set ?_ GE352.out | refine below_set ?_ GE359.out | refine below_set ?_ GE369.out | refine below_set ?_ GE376.out) | exact HB.out)⟩
                            · rw [if_neg c51] at H
                              have c51b0 : (t368 == 1) = false := beq_eq_false_iff_ne.mpr c51
                              have c51b1 : (t368 != 1) = true := bne_iff_ne.mpr c51
                              obtain rfl := Option.some.inj H
                              try go_wp2
                              have n0_ := Aside0.mk (blk_drew BK352.out)
                              have n1_ := Aside0.mk (blk_drew BK359.out)
                              have n2_ := Aside0.mk (below_drew1 HB.out)
                              clear BK352
                              clear BK359
                              clear HB
                              have BK352 := n0_
                              have BK359 := n1_
                              have HB := n2_
                              clear n0_ n1_ n2_
                              have p43 : 0 ≤ ((ji39) : Int) := of_decide_eq_true (by first | (with_reducible assumption) | assumption)
                              have q43 : (ji39) < (t345.size : Int) := of_decide_eq_true (by first | (with_reducible assumption) | assumption)
                              have hx43 := bt_at t345 (ji39)
                              replace p43 := eq_true p43
                              replace q43 := eq_true q43
                              refine start_ (n := 16) (S := fun w' => True) (ds := []) #[false, false, false, false, false, false, false, false, false, false, false, false, false, false, false, false] (by kernel_rfl) rfl rfl trivial (fun hHeld => ?_); refine with_tabW laws_FnFrameBad.tab9 laws_FnFrameBad.bits9 (fun HT_ HW_ => ?_)
                              generalize wc.drew = w89 at BK352 BK359 HB hHeld ⊢
                              refine pure_ (i := 0) (N := some 75) (v := ?_) (a' := ?_) #[true, false, false, false, false, false, false, false, false, false, false, false, false, false, false, false] rfl rfl (any_of HT_.out (by kernel_rfl)) (fun _ _ _ h => h) (Or.inl ⟨by rfl, ?_⟩) ?_ ?_
                              rotate_left
                              · intro w'
                                go_simp
                                with_reducible rfl
                              rotate_left
                              · simp only [Act.put, List.setIfInBounds_toArray, List.set_cons_zero, List.set_cons_succ, i64_w, i32_w]
                                rfl
                              refine pure_ (i := 1) (N := some 76) (v := ?_) (a' := ?_) #[true, true, false, false, false, false, false, false, false, false, false, false, false, false, false, false] rfl rfl (any_of HT_.out (by kernel_rfl)) (fun _ _ _ h => h) (Or.inl ⟨by rfl, ?_⟩) ?_ ?_
                              rotate_left
                              · intro w'
                                go_simp
                                with_reducible rfl
                              rotate_left
                              · simp only [Act.put, List.setIfInBounds_toArray, List.set_cons_zero, List.set_cons_succ, i64_w, i32_w]
                                rfl
                              refine pure_ (i := 2) (N := some 77) (v := ?_) (a' := ?_) #[true, true, true, false, false, false, false, false, false, false, false, false, false, false, false, false] rfl rfl (any_of HT_.out (by kernel_rfl)) (fun _ _ _ h => h) (Or.inl ⟨by rfl, ?_⟩) ?_ ?_
                              rotate_left
                              · intro w'
                                go_simp
                                with_reducible rfl
                              rotate_left
                              · simp only [Act.put, List.setIfInBounds_toArray, List.set_cons_zero, List.set_cons_succ, i64_w, i32_w]
                                rfl
                              refine pure_ (i := 3) (N := some 78) (v := ?_) (a' := ?_) #[true, true, true, true, false, false, false, false, false, false, false, false, false, false, false, false] rfl rfl (any_of HT_.out (by kernel_rfl)) (fun _ _ _ h => h) (Or.inl ⟨by rfl, ?_⟩) ?_ ?_
                              rotate_left
                              · intro w'
                                go_simp
                                with_reducible rfl
                              rotate_left
                              · simp only [Act.put, List.setIfInBounds_toArray, List.set_cons_zero, List.set_cons_succ, i64_w, i32_w]
                                rfl
                              refine pure_ (i := 4) (N := some 79) (v := ?_) (a' := ?_) #[true, true, true, true, true, false, false, false, false, false, false, false, false, false, false, false] rfl rfl (any_of HT_.out (by kernel_rfl)) (fun _ _ _ h => h) (Or.inl ⟨by rfl, ?_⟩) ?_ ?_
                              rotate_left
                              · intro w'
                                go_simp
                                with_reducible rfl
                              rotate_left
                              · simp only [Act.put, List.setIfInBounds_toArray, List.set_cons_zero, List.set_cons_succ, i64_w, i32_w]
                                rfl
                              refine pure_ (i := 10) (N := some 85) (v := ?_) (a' := ?_) #[true, true, true, true, true, false, false, false, false, false, true, false, false, false, false, false] rfl rfl (any_of HT_.out (by kernel_rfl)) (fun _ _ _ h => h) (Or.inl ⟨by rfl, ?_⟩) ?_ ?_
                              rotate_left
                              · intro w'
                                go_simp
                                with_reducible rfl
                              rotate_left
                              · simp only [Act.put, List.setIfInBounds_toArray, List.set_cons_zero, List.set_cons_succ, i64_w, i32_w]
                                rfl
                              refine pure_ (i := 11) (N := some 86) (v := ?_) (a' := ?_) #[true, true, true, true, true, false, false, false, false, false, true, true, false, false, false, false] rfl rfl (any_of HT_.out (by kernel_rfl)) (fun _ _ _ h => h) (Or.inl ⟨by rfl, ?_⟩) ?_ ?_
                              rotate_left
                              · intro w'
                                go_simp
                                with_reducible rfl
                              rotate_left
                              · simp only [Act.put, List.setIfInBounds_toArray, List.set_cons_zero, List.set_cons_succ, i64_w, i32_w]
                                rfl
                              refine pure_ (i := 12) (N := some 87) (v := ?_) (a' := ?_) #[true, true, true, true, true, false, false, false, false, false, true, true, true, false, false, false] rfl rfl (any_of HT_.out (by kernel_rfl)) (fun _ _ _ h => h) (Or.inl ⟨by rfl, ?_⟩) ?_ ?_
                              rotate_left
                              · intro w'
                                go_simp
                                with_reducible rfl
                              rotate_left
                              · simp only [Act.put, List.setIfInBounds_toArray, List.set_cons_zero, List.set_cons_succ, i64_w, i32_w]
                                rfl
                              refine pure_ (i := 13) (N := some 88) (v := ?_) (a' := ?_) #[true, true, true, true, true, false, false, false, false, false, true, true, true, true, false, false] rfl rfl (any_of HT_.out (by kernel_rfl)) (fun _ _ _ h => h) (Or.inl ⟨by rfl, ?_⟩) ?_ ?_
                              rotate_left
                              · intro w'
                                go_simp
                                with_reducible rfl
                              rotate_left
                              · simp only [Act.put, List.setIfInBounds_toArray, List.set_cons_zero, List.set_cons_succ, i64_w, i32_w]
                                rfl
                              refine take_ (i := 5) (N := some 80) (v := ?_) (a' := ?_) #[true, true, true, true, true, true, false, false, false, false, true, true, true, true, false, false] rfl rfl (take_ofW HT_.out HW_.out (by kernel_rfl)) (fun _ _ _ h => h) (Or.inl ⟨by rfl, ?_⟩) hHeld ?_ ?_
                              rotate_left
                              · intro w' _
                                go_simp
                                with_reducible rfl
                              rotate_left
                              · simp only [Act.put, List.setIfInBounds_toArray, List.set_cons_zero, List.set_cons_succ, i64_w, i32_w]
                                rfl
                              refine pure_ (i := 6) (N := some 81) (v := ?_) (a' := ?_) #[true, true, true, true, true, true, true, false, false, false, true, true, true, true, false, false] rfl rfl (any_of HT_.out (by kernel_rfl)) (fun _ _ _ h => h) (Or.inl ⟨by rfl, ?_⟩) ?_ ?_
                              rotate_left
                              · intro w'
                                go_simp
                                with_reducible rfl
                              rotate_left
                              · simp only [Act.put, List.setIfInBounds_toArray, List.set_cons_zero, List.set_cons_succ, i64_w, i32_w]
                                rfl
                              refine one_ (i := 7) (N := some 82) #[true, true, true, true, true, true, true, true, false, false, true, true, true, true, false, false] rfl rfl (one_of HT_.out (by kernel_rfl)) (by decide) (fun K hK => ?_)
                              refine Kd.R_lit_step (Kd.int .u8) _ 5 ?hg (N := 82) ?hd (xs := ([((bt t345 (ji39)) + 1) % 256] : List Int)) (inner := [.int .u8 (((bt t345 (ji39)) + 1) % 256)]) (ok := fun _ => True) (okp := fun _ => True) ?hr ?hp (fun _ hk => hk) trivial (Below.refl _ _) (Nat.le_refl _) (by simp) ?_; (case hd => rfl); (case hg => rfl); (case hr => first | (go_simp; done) | (go_simp; rfl)); (case hp => exact (Reps.one (show Kd.M (Kd.int .u8) _ _ _ (((bt t345 (ji39)) + 1) % 256) [.int .u8 (((bt t345 (ji39)) + 1) % 256)] from rfl) (Reps.none _ _)))
                              intro v361 w90 ho91 hb hg_ hnew_
                              clear hg_ hnew_
                              (first | rw [← Ny360.out] at ho91 | (simp only [Int.reduceToNat] at ho91; rw [← Ny360.out] at ho91))
                              have n0_ := Aside0.mk (Kd.R_lower ho91 (below_size (by repeat (first | (with_reducible first | exact HB.out | apply below_alloc | apply pw_below_drewN | apply below_drew1 | refine below_set ?_ GE352.out | refine below_set ?_ GE359.out) | exact HB.out))))
                              have n1_ := Aside0.mk (blk_below (g := gb352) (o := .cells #[.int .i64 t346, .bool t347, .int .i64 t348, .string t349] 26 (0, 0)) (by (with_reducible repeat (first | refine blk_drewN ?_ _ | refine blk_drew ?_ | refine blk_alloc ?_ _)); exact BK352.out) hb)
                              have n2_ := Aside0.mk (blk_below (g := gb359) (o := .cells #[.int .i64 t353, .bool t354, .int .i64 t355, .string t356] 26 (0, 0)) (by (with_reducible repeat (first | refine blk_drewN ?_ _ | refine blk_drew ?_ | refine blk_alloc ?_ _)); exact BK359.out) hb)
                              have n3_ := Aside0.mk (below_step (by repeat (first | (with_reducible first | exact HB.out | apply below_alloc | apply pw_below_drewN | apply below_drew1 | refine below_set ?_ GE352.out | refine below_set ?_ GE359.out) | exact HB.out)) hb)
                              clear BK352
                              clear BK359
                              clear HB
                              have HO362 := n0_
                              have BK352 := n1_
                              have BK359 := n2_
                              have HB := n3_
                              clear n0_ n1_ n2_ n3_
                              clear hb ho91
                              refine hK.out _ _ trivial (fun hHeld => ?_)
                              clear hK K
                              refine norm_ (a' := ?_) ?_ ?_
                              rotate_left
                              · show Act.put _ (some 82) _ = _
                                simp only [Act.put, List.setIfInBounds_toArray, List.set_cons_zero, List.set_cons_succ, i64_w, i32_w]
                                rfl
                              refine one_ (i := 8) (N := some 83) #[true, true, true, true, true, true, true, true, true, false, true, true, true, true, false, false] rfl rfl (one_of HT_.out (by kernel_rfl)) (by decide) (fun K hK => ?_)
                              have hcv92 := own_string (P := Try.prog) Try.underlying34 Try.underlying5 Try.underlying9 (Kd.own_of_R HO362.out)
                              refine value_ (w1 := ?_) (v := ?_) (by rfl) rfl ?_ ?_
                              rotate_left 2
                              · go_simp
                                constructor
                                · rfl
                                · rfl
                              clear hcv92
                              refine hK.out _ _ trivial (fun hHeld => ?_)
                              clear hK K
                              refine norm_ (a' := ?_) ?_ ?_
                              rotate_left
                              · show Act.put _ (some 83) _ = _
                                simp only [Act.put, List.setIfInBounds_toArray, List.set_cons_zero, List.set_cons_succ, i64_w, i32_w]
                                rfl
                              refine pure_ (i := 9) (N := some 84) (v := ?_) (a' := ?_) #[true, true, true, true, true, true, true, true, true, true, true, true, true, true, false, false] rfl rfl (any_of HT_.out (by kernel_rfl)) (fun _ _ _ h => h) (Or.inl ⟨by rfl, ?_⟩) ?_ ?_
                              rotate_left
                              · intro w'
                                go_simp
                                with_reducible rfl
                              rotate_left
                              · simp only [Act.put, List.setIfInBounds_toArray, List.set_cons_zero, List.set_cons_succ, i64_w, i32_w]
                                rfl
                              refine pure_ (i := 14) (N := some 89) (v := ?_) (a' := ?_) #[true, true, true, true, true, true, true, true, true, true, true, true, true, true, true, false] rfl rfl (any_of HT_.out (by kernel_rfl)) (fun _ _ _ h => h) (Or.inl ⟨by rfl, ?_⟩) ?_ ?_
                              rotate_left
                              · intro w'
                                go_simp
                                with_reducible rfl
                              rotate_left
                              · simp only [Act.put, List.setIfInBounds_toArray, List.set_cons_zero, List.set_cons_succ, i64_w, i32_w]
                                rfl
                              refine pure_ (i := 15) (N := some 13) (v := ?_) (a' := ?_) #[true, true, true, true, true, true, true, true, true, true, true, true, true, true, true, true] rfl rfl (any_of HT_.out (by kernel_rfl)) (fun _ _ _ h => h) (Or.inl ⟨by rfl, ?_⟩) ?_ ?_
                              rotate_left
                              · intro w'
                                go_simp
                                with_reducible rfl
                              rotate_left
                              · simp only [Act.put, List.setIfInBounds_toArray, List.set_cons_zero, List.set_cons_succ, i64_w, i32_w]
                                rfl
                              refine done_ (done_of HT_.out (by kernel_rfl)) ?_
                              try go_wp2_with (first | ((with_reducible refine gate_callee (f := 20) rfl ?_); refine goesL_ (some 92) rfl rfl Try.func20 (by kernel_rfl) rfl #[.string (((t345.extract 0 ((ji39) : Int).toNat) ++ (strOfNums y360)) ++ (t345.extract ((ji45) : Int).toNat t345.size))] rfl (by (try simp only [List.map_toArray, List.map_cons, List.map_nil]); first | done | (simp only [hji39, hji45]; rfl) | rfl | (simp only [List.length_drop, List.length_take]; rfl)) ?_; (with_reducible refine (impl_FrameRead.calls kj8 (((t345.extract 0 ((ji39) : Int).toNat) ++ (strOfNums y360)) ++ (t345.extract ((ji45) : Int).toNat t345.size)) t363 t364 t365 t366 t367 t368 _ A49.out).mono ?_); rintro e w93 ⟨rfl, hb⟩; refine ⟨_, rfl, ?_⟩; have n0_ := Aside0.mk (Kd.R_below (by (with_reducible repeat (first | apply Kd.R_alloc | apply Kd.R_drewN | apply Kd.R_drew)); exact HO362.out) hb); have n1_ := Aside0.mk (blk_below (g := gb352) (o := .cells #[.int .i64 t346, .bool t347, .int .i64 t348, .string t349] 26 (0, 0)) (by (with_reducible repeat (first | refine blk_drewN ?_ _ | refine blk_drew ?_ | refine blk_alloc ?_ _)); exact BK352.out) hb); have n2_ := Aside0.mk (blk_below (g := gb359) (o := .cells #[.int .i64 t353, .bool t354, .int .i64 t355, .string t356] 26 (0, 0)) (by (with_reducible repeat (first | refine blk_drewN ?_ _ | refine blk_drew ?_ | refine blk_alloc ?_ _)); exact BK359.out) hb); have n3_ := Aside0.mk (below_step (by repeat (first | (with_reducible first | exact HB.out | apply below_alloc | apply pw_below_drewN | apply below_drew1 | refine below_set ?_ GE352.out | refine below_set ?_ GE359.out) | exact HB.out)) hb); clear HO362; clear BK352; clear BK359; clear HB; have HO362 := n0_; have BK352 := n1_; have BK359 := n2_; have HB := n3_; clear n0_ n1_ n2_ n3_; (try clear hb); (try clear hb2); (try clear hk); (try clear hi)) | ((with_reducible refine gate_dst (N := 14) rfl ?_); (try (refine gate_guard (by rfl) ?_; dsimp only)); refine box_event ?hg (N := 14) ?hd (cs := #[.int .i64 0, .bool false, .int .i64 0, .string (⟨#[]⟩ : ByteArray)]) (t := 26) ?hr ?_; (case hd => rfl); (case hg => rfl); (case hr => first | (go_simp; done) | (go_simp; rfl)); intro gb369 hg w94 hbox hb; have n0_ := Aside0.mk (Kd.R_below (by (with_reducible repeat (first | apply Kd.R_alloc | apply Kd.R_drewN | apply Kd.R_drew)); exact HO362.out) hb); have n1_ := Aside0.mk (blk_below (g := gb352) (o := .cells #[.int .i64 t346, .bool t347, .int .i64 t348, .string t349] 26 (0, 0)) (by (with_reducible repeat (first | refine blk_drewN ?_ _ | refine blk_drew ?_ | refine blk_alloc ?_ _)); exact BK352.out) hb); have n2_ := Aside0.mk (blk_below (g := gb359) (o := .cells #[.int .i64 t353, .bool t354, .int .i64 t355, .string t356] 26 (0, 0)) (by (with_reducible repeat (first | refine blk_drewN ?_ _ | refine blk_drew ?_ | refine blk_alloc ?_ _)); exact BK359.out) hb); have n3_ := Aside0.mk (below_step (by repeat (first | (with_reducible first | exact HB.out | apply below_alloc | apply pw_below_drewN | apply below_drew1 | refine below_set ?_ GE352.out | refine below_set ?_ GE359.out) | exact HB.out)) hb); have n4_ := Aside0.mk (hbox); have n5_ := Aside0.mk ((by rw [hg]; exact (below_size (by repeat (first | (with_reducible first | exact HB.out | apply below_alloc | apply pw_below_drewN | apply below_drew1 | refine below_set ?_ GE352.out | refine below_set ?_ GE359.out) | exact HB.out))) : w.heap.size ≤ gb369)); have n6_ := Aside0.mk ((by rw [hg]; exact (below_size (by repeat (first | (with_reducible first | exact HB.out | apply below_alloc | apply pw_below_drewN | apply below_drew1 | refine below_set ?_ GE352.out | refine below_set ?_ GE359.out) | exact HB.out))) : w.heap.size ≤ gb369)); have n7_ := Aside0.mk ((by rw [hg]; exact Nat.ne_of_lt (blk_lt (g := gb352) (o := .cells #[.int .i64 t346, .bool t347, .int .i64 t348, .string t349] 26 (0, 0)) (by (with_reducible repeat (first | refine blk_drewN ?_ _ | refine blk_drew ?_ | refine blk_alloc ?_ _)); exact BK352.out)) : gb352 ≠ gb369)); have n8_ := Aside0.mk ((by rw [hg]; exact Nat.ne_of_gt (blk_lt (g := gb352) (o := .cells #[.int .i64 t346, .bool t347, .int .i64 t348, .string t349] 26 (0, 0)) (by (with_reducible repeat (first | refine blk_drewN ?_ _ | refine blk_drew ?_ | refine blk_alloc ?_ _)); exact BK352.out)) : gb369 ≠ gb352)); have n9_ := Aside0.mk ((by rw [hg]; exact Nat.ne_of_lt (blk_lt (g := gb359) (o := .cells #[.int .i64 t353, .bool t354, .int .i64 t355, .string t356] 26 (0, 0)) (by (with_reducible repeat (first | refine blk_drewN ?_ _ | refine blk_drew ?_ | refine blk_alloc ?_ _)); exact BK359.out)) : gb359 ≠ gb369)); have n10_ := Aside0.mk ((by rw [hg]; exact Nat.ne_of_gt (blk_lt (g := gb359) (o := .cells #[.int .i64 t353, .bool t354, .int .i64 t355, .string t356] 26 (0, 0)) (by (with_reducible repeat (first | refine blk_drewN ?_ _ | refine blk_drew ?_ | refine blk_alloc ?_ _)); exact BK359.out)) : gb369 ≠ gb359)); clear HO362; clear BK352; clear BK359; clear HB; have HO362 := n0_; have BK352 := n1_; have BK359 := n2_; have HB := n3_; have BK369 := n4_; have GW369 := n5_; have GE369 := n6_; have NB352_369 := n7_; have NB369_352 := n8_; have NB359_369 := n9_; have NB369_359 := n10_; clear n0_ n1_ n2_ n3_ n4_ n5_ n6_ n7_ n8_ n9_ n10_; clear hb hbox hg; have hnb95 := NB369_352.out; have hnc95 := NB352_369.out; have hnb96 := NB369_359.out; have hnc96 := NB359_369.out; have hcz97_0 : w94.cell? ⟨gb369, 0, none⟩ = some (.int .i64 0) := (blk_cell BK369.out 0).trans rfl; have hcz97_1 : w94.cell? ⟨gb369, 1, none⟩ = some (.bool false) := (blk_cell BK369.out 1).trans rfl; have hcz97_2 : w94.cell? ⟨gb369, 2, none⟩ = some (.int .i64 0) := (blk_cell BK369.out 2).trans rfl; have hcz97_3 : w94.cell? ⟨gb369, 3, none⟩ = some (.string (⟨#[]⟩ : ByteArray)) := (blk_cell BK369.out 3).trans rfl; have hfz97_0 := blk_frozen BK369.out 0; have hfz97_1 := blk_frozen BK369.out 1; have hfz97_2 := blk_frozen BK369.out 2; have hfz97_3 := blk_frozen BK369.out 3) | ((with_reducible refine gate_callee (f := 20) rfl ?_); refine goesL_ (some 97) rfl rfl Try.func20 (by kernel_rfl) rfl #[.string (⟨#[201, 0, 0, 1]⟩ : ByteArray)] rfl (by (try simp only [List.map_toArray, List.map_cons, List.map_nil]); first | done | rfl | (simp only [List.length_drop, List.length_take]; rfl)) ?_; (with_reducible refine (impl_FrameRead.calls kj8 (⟨#[201, 0, 0, 1]⟩ : ByteArray) t370 t371 t372 t373 t374 t375 _ A50.out).mono ?_); rintro e w98 ⟨rfl, hb⟩; refine ⟨_, rfl, ?_⟩; have n0_ := Aside0.mk (Kd.R_below (by (with_reducible repeat (first | apply Kd.R_alloc | apply Kd.R_drewN | apply Kd.R_drew)); exact (Kd.R_mono (Kd.R_far (p := ⟨gb369, 3, none⟩) (Kd.R_far (p := ⟨gb369, 2, none⟩) (Kd.R_far (p := ⟨gb369, 1, none⟩) (Kd.R_far (p := ⟨gb369, 0, none⟩) (Kd.R_types HO362.out BK369.out (by decide)) (fun _ hk => hk.2) (.int .i64 t363)) (fun _ hk => hk.2) (.bool t364)) (fun _ hk => hk.2) (.int .i64 t365)) (fun _ hk => hk.2) (.string t366)) (fun _ h_ => h_.1))) hb); have n1_ := Aside0.mk (blk_below (g := gb352) (o := .cells #[.int .i64 t346, .bool t347, .int .i64 t348, .string t349] 26 (0, 0)) (by (with_reducible repeat (first | refine blk_drewN ?_ _ | refine blk_drew ?_ | refine blk_alloc ?_ _)); refine blk_far ?_ NB352_369.out _; (with_reducible repeat (first | refine blk_drewN ?_ _ | refine blk_drew ?_ | refine blk_alloc ?_ _)); refine blk_far ?_ NB352_369.out _; (with_reducible repeat (first | refine blk_drewN ?_ _ | refine blk_drew ?_ | refine blk_alloc ?_ _)); refine blk_far ?_ NB352_369.out _; (with_reducible repeat (first | refine blk_drewN ?_ _ | refine blk_drew ?_ | refine blk_alloc ?_ _)); refine blk_far ?_ NB352_369.out _; (with_reducible repeat (first | refine blk_drewN ?_ _ | refine blk_drew ?_ | refine blk_alloc ?_ _)); exact BK352.out) hb); have n2_ := Aside0.mk (blk_below (g := gb359) (o := .cells #[.int .i64 t353, .bool t354, .int .i64 t355, .string t356] 26 (0, 0)) (by (with_reducible repeat (first | refine blk_drewN ?_ _ | refine blk_drew ?_ | refine blk_alloc ?_ _)); refine blk_far ?_ NB359_369.out _; (with_reducible repeat (first | refine blk_drewN ?_ _ | refine blk_drew ?_ | refine blk_alloc ?_ _)); refine blk_far ?_ NB359_369.out _; (with_reducible repeat (first | refine blk_drewN ?_ _ | refine blk_drew ?_ | refine blk_alloc ?_ _)); refine blk_far ?_ NB359_369.out _; (with_reducible repeat (first | refine blk_drewN ?_ _ | refine blk_drew ?_ | refine blk_alloc ?_ _)); refine blk_far ?_ NB359_369.out _; (with_reducible repeat (first | refine blk_drewN ?_ _ | refine blk_drew ?_ | refine blk_alloc ?_ _)); exact BK359.out) hb); have n3_ := Aside0.mk (blk_below (g := gb369) (o := .cells #[.int .i64 t363, .bool t364, .int .i64 t365, .string t366] 26 (0, 0)) (by (with_reducible repeat (first | refine blk_drewN ?_ _ | refine blk_drew ?_ | refine blk_alloc ?_ _)); refine blk_put (cs := #[.int .i64 t363, .bool t364, .int .i64 t365, .string (⟨#[]⟩ : ByteArray)]) ?_ 3 _ rfl; (with_reducible repeat (first | refine blk_drewN ?_ _ | refine blk_drew ?_ | refine blk_alloc ?_ _)); refine blk_put (cs := #[.int .i64 t363, .bool t364, .int .i64 0, .string (⟨#[]⟩ : ByteArray)]) ?_ 2 _ rfl; (with_reducible repeat (first | refine blk_drewN ?_ _ | refine blk_drew ?_ | refine blk_alloc ?_ _)); refine blk_put (cs := #[.int .i64 t363, .bool false, .int .i64 0, .string (⟨#[]⟩ : ByteArray)]) ?_ 1 _ rfl; (with_reducible repeat (first | refine blk_drewN ?_ _ | refine blk_drew ?_ | refine blk_alloc ?_ _)); refine blk_put (cs := #[.int .i64 0, .bool false, .int .i64 0, .string (⟨#[]⟩ : ByteArray)]) ?_ 0 _ rfl; (with_reducible repeat (first | refine blk_drewN ?_ _ | refine blk_drew ?_ | refine blk_alloc ?_ _)); exact BK369.out) hb); have n4_ := Aside0.mk (below_step (by repeat (first | (with_reducible first | exact HB.out | apply below_alloc | apply pw_below_drewN | apply below_drew1 | refine below_set ?_ GE352.out | refine below_set ?_ GE359.out | refine below_set ?_ GE369.out) | exact HB.out)) hb); clear HO362; clear BK352; clear BK359; clear BK369; clear HB; have HO362 := n0_; have BK352 := n1_; have BK359 := n2_; have BK369 := n3_; have HB := n4_; clear n0_ n1_ n2_ n3_ n4_; (try clear hb); (try clear hb2); (try clear hk); (try clear hi)) | ((with_reducible refine gate_dst (N := 17) rfl ?_); (try (refine gate_guard (by rfl) ?_; dsimp only)); refine box_event ?hg (N := 17) ?hd (cs := #[.int .i64 0, .bool false, .int .i64 0, .string (⟨#[]⟩ : ByteArray)]) (t := 26) ?hr ?_; (case hd => rfl); (case hg => rfl); (case hr => first | (go_simp; done) | (go_simp; rfl)); intro gb376 hg w99 hbox hb; have n0_ := Aside0.mk (Kd.R_below (by (with_reducible repeat (first | apply Kd.R_alloc | apply Kd.R_drewN | apply Kd.R_drew)); exact HO362.out) hb); have n1_ := Aside0.mk (blk_below (g := gb352) (o := .cells #[.int .i64 t346, .bool t347, .int .i64 t348, .string t349] 26 (0, 0)) (by (with_reducible repeat (first | refine blk_drewN ?_ _ | refine blk_drew ?_ | refine blk_alloc ?_ _)); exact BK352.out) hb); have n2_ := Aside0.mk (blk_below (g := gb359) (o := .cells #[.int .i64 t353, .bool t354, .int .i64 t355, .string t356] 26 (0, 0)) (by (with_reducible repeat (first | refine blk_drewN ?_ _ | refine blk_drew ?_ | refine blk_alloc ?_ _)); exact BK359.out) hb); have n3_ := Aside0.mk (blk_below (g := gb369) (o := .cells #[.int .i64 t363, .bool t364, .int .i64 t365, .string t366] 26 (0, 0)) (by (with_reducible repeat (first | refine blk_drewN ?_ _ | refine blk_drew ?_ | refine blk_alloc ?_ _)); exact BK369.out) hb); have n4_ := Aside0.mk (below_step (by repeat (first | (with_reducible first | exact HB.out | apply below_alloc | apply pw_below_drewN | apply below_drew1 | refine below_set ?_ GE352.out | refine below_set ?_ GE359.out | refine below_set ?_ GE369.out) | exact HB.out)) hb); have n5_ := Aside0.mk (hbox); have n6_ := Aside0.mk ((by rw [hg]; exact (below_size (by repeat (first | (with_reducible first | exact HB.out | apply below_alloc | apply pw_below_drewN | apply below_drew1 | refine below_set ?_ GE352.out | refine below_set ?_ GE359.out | refine below_set ?_ GE369.out) | exact HB.out))) : w.heap.size ≤ gb376)); have n7_ := Aside0.mk ((by rw [hg]; exact (below_size (by repeat (first | (with_reducible first | exact HB.out | apply below_alloc | apply pw_below_drewN | apply below_drew1 | refine below_set ?_ GE352.out | refine below_set ?_ GE359.out | refine below_set ?_ GE369.out) | exact HB.out))) : w.heap.size ≤ gb376)); have n8_ := Aside0.mk ((by rw [hg]; exact Nat.ne_of_lt (blk_lt (g := gb352) (o := .cells #[.int .i64 t346, .bool t347, .int .i64 t348, .string t349] 26 (0, 0)) (by (with_reducible repeat (first | refine blk_drewN ?_ _ | refine blk_drew ?_ | refine blk_alloc ?_ _)); exact BK352.out)) : gb352 ≠ gb376)); have n9_ := Aside0.mk ((by rw [hg]; exact Nat.ne_of_gt (blk_lt (g := gb352) (o := .cells #[.int .i64 t346, .bool t347, .int .i64 t348, .string t349] 26 (0, 0)) (by (with_reducible repeat (first | refine blk_drewN ?_ _ | refine blk_drew ?_ | refine blk_alloc ?_ _)); exact BK352.out)) : gb376 ≠ gb352)); have n10_ := Aside0.mk ((by rw [hg]; exact Nat.ne_of_lt (blk_lt (g := gb359) (o := .cells #[.int .i64 t353, .bool t354, .int .i64 t355, .string t356] 26 (0, 0)) (by (with_reducible repeat (first | refine blk_drewN ?_ _ | refine blk_drew ?_ | refine blk_alloc ?_ _)); exact BK359.out)) : gb359 ≠ gb376)); have n11_ := Aside0.mk ((by rw [hg]; exact Nat.ne_of_gt (blk_lt (g := gb359) (o := .cells #[.int .i64 t353, .bool t354, .int .i64 t355, .string t356] 26 (0, 0)) (by (with_reducible repeat (first | refine blk_drewN ?_ _ | refine blk_drew ?_ | refine blk_alloc ?_ _)); exact BK359.out)) : gb376 ≠ gb359)); have n12_ := Aside0.mk ((by rw [hg]; exact Nat.ne_of_lt (blk_lt (g := gb369) (o := .cells #[.int .i64 t363, .bool t364, .int .i64 t365, .string t366] 26 (0, 0)) (by (with_reducible repeat (first | refine blk_drewN ?_ _ | refine blk_drew ?_ | refine blk_alloc ?_ _)); exact BK369.out)) : gb369 ≠ gb376)); have n13_ := Aside0.mk ((by rw [hg]; exact Nat.ne_of_gt (blk_lt (g := gb369) (o := .cells #[.int .i64 t363, .bool t364, .int .i64 t365, .string t366] 26 (0, 0)) (by (with_reducible repeat (first | refine blk_drewN ?_ _ | refine blk_drew ?_ | refine blk_alloc ?_ _)); exact BK369.out)) : gb376 ≠ gb369)); clear HO362; clear BK352; clear BK359; clear BK369; clear HB; have HO362 := n0_; have BK352 := n1_; have BK359 := n2_; have BK369 := n3_; have HB := n4_; have BK376 := n5_; have GW376 := n6_; have GE376 := n7_; have NB352_376 := n8_; have NB376_352 := n9_; have NB359_376 := n10_; have NB376_359 := n11_; have NB369_376 := n12_; have NB376_369 := n13_; clear n0_ n1_ n2_ n3_ n4_ n5_ n6_ n7_ n8_ n9_ n10_ n11_ n12_ n13_; clear hb hbox hg; have hnb100 := NB376_352.out; have hnc100 := NB352_376.out; have hnb101 := NB376_359.out; have hnc101 := NB359_376.out; have hnb102 := NB376_369.out; have hnc102 := NB369_376.out; have hcz103_0 : w99.cell? ⟨gb376, 0, none⟩ = some (.int .i64 0) := (blk_cell BK376.out 0).trans rfl; have hcz103_1 : w99.cell? ⟨gb376, 1, none⟩ = some (.bool false) := (blk_cell BK376.out 1).trans rfl; have hcz103_2 : w99.cell? ⟨gb376, 2, none⟩ = some (.int .i64 0) := (blk_cell BK376.out 2).trans rfl; have hcz103_3 : w99.cell? ⟨gb376, 3, none⟩ = some (.string (⟨#[]⟩ : ByteArray)) := (blk_cell BK376.out 3).trans rfl; have hfz103_0 := blk_frozen BK376.out 0; have hfz103_1 := blk_frozen BK376.out 1; have hfz103_2 := blk_frozen BK376.out 2; have hfz103_3 := blk_frozen BK376.out 3))
                              go_ret
                              exact ⟨by first | rfl | (simp [errW_none, errW_some] <;> rfl) | (simp only [← hji39, ← hji45]; first | rfl | (simp [errW_none, errW_some] <;> rfl)) | (simp [*, errW_none, errW_some] <;> rfl), by repeat (first | (with_reducible first | exact HB.out | apply below_alloc | apply pw_below_drewN | apply below_drew1 | refine below_set ?_ GE352.out | refine below_set ?_ GE359.out | refine below_set ?_ GE369.out | refine below_set ?_ GE376.out) | exact HB.out)⟩
                          · rw [if_neg c48] at H
                            exact absurd H (by simp)
                        · rw [if_neg c47] at H
                          exact absurd H (by simp)
                      · rw [if_neg c46] at H
                        exact absurd H (by simp)
                    · rw [if_neg c44] at H
                      exact absurd H (by simp)
                  · rw [if_neg c42] at H
                    exact absurd H (by simp)
                · rw [if_neg c41] at H
                  exact absurd H (by simp)
              · rw [if_neg c40] at H
                exact absurd H (by simp)

/-- THE ONE PURE STATEMENT of laws_FnFrameBad: yours. -/
def laws_FnFrameBad.Pure : Prop := ∀ (l0 : List Int) (l1 : List Int), l0.length ≤ maxLen → l0.length * 1 ≤ 140737488351232 → (∀ x ∈ l0, (Lit.int .u8 x).wf = true) → l1.length ≤ maxLen → l1.length * 1 ≤ 140737488351232 → (∀ x ∈ l1, (Lit.int .u8 x).wf = true) → ∃ k, laws_FnFrameBad.f k l0 l1 = some true
theorem laws_FnFrameBad.walk (P : laws_FnFrameBad.Pure) (a0 : Option Addr) (len0 cap0 : Nat) (z0 : List Int) (a1 : Option Addr) (len1 cap1 : Nat) (z1 : List Int) (w : World) (w0 : (a0 = none ∧ len0 = 0 ∧ cap0 = 0 ∧ z0 = []) ∨ ∃ x, a0 = some x ∧ len0 ≤ cap0 ∧ cap0 ≤ maxLen ∧ z0.length = cap0 ∧ (∀ i, i < z0.length → w.cell? (x.add i) = some (.int .u8 (z0.getD i 0))) ∧ ∀ n ∈ z0, (Lit.int .u8 n).wf = true) (y0 : len0 * 1 ≤ 140737488351232) (w1 : (a1 = none ∧ len1 = 0 ∧ cap1 = 0 ∧ z1 = []) ∨ ∃ x, a1 = some x ∧ len1 ≤ cap1 ∧ cap1 ≤ maxLen ∧ z1.length = cap1 ∧ (∀ i, i < z1.length → w.cell? (x.add i) = some (.int .u8 (z1.getD i 0))) ∧ ∀ n ∈ z1, (Lit.int .u8 n).wf = true) (y1 : len1 * 1 ≤ 140737488351232) :
    Calls Try.prog 11 #[.slice a0 len0 cap0, .slice a1 len1 cap1] w fun e w' => e = .returned (.bool true) ∧ Below w.heap.size w w' := by
  obtain ⟨l0, rfl, hr0, hm0, hw0, hc0⟩ := ReadsInt.ofRowC w0
  obtain ⟨l1, rfl, hr1, hm1, hw1, hc1⟩ := ReadsInt.ofRowC w1
  obtain ⟨k, h⟩ := P l0 l1 hm0 y0 hw0 hm1 y1 hw1
  refine (laws_FnFrameBad.calls k _ _ l0 _ _ l1 true w (Kd.C_of_reads (d := (0 : Int)) (h1 := fun _ => rfl) hr0) hc0 (Kd.C_of_reads (d := (0 : Int)) (h1 := fun _ => rfl) hr1) hc1 h).mono ?_
  rintro e w' ⟨rfl, hd⟩
  exact ⟨rfl, hd⟩

end Go.Proofs.Ytdahdgdnpooegaa.F
