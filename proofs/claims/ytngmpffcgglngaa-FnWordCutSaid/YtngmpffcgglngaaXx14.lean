-- Written by a program of this session's (wip/tools) out of the translation. Not trusted: Lean checks it.
import Derived.Test.YtngmpffcgglngaaXx0
import Derived.Test.YtngmpffcgglngaaXx7
import Derived.Test.YtngmpffcgglngaaXx11
import Derived.Test.YtngmpffcgglngaaXx13
namespace Go.Proofs.Ytngmpffcgglngaa.X
open Go.RowKit Go.Proofs.YtngmpffcgglngaaW.PrintWords Go.Proofs.YtngmpffcgglngaaW.PrintLast Go.Proofs.YtngmpffcgglngaaW.PrintMore
attribute [local go_sem] max2_int min2_int max_two min_two max_three min_three max_four min_four   -- for this text's walks alone
set_option linter.unusedVariables false
set_option linter.unusedSimpArgs false

/-! ### laws_FnWordCut: function 12 -/
mutual
def laws_FnWordCut.j0 : Nat → List Int → List Int → Bool → Option (Bool)
  | 0, _, _, _ => none
  | k + 1, x0, x1, x15 => if x15 = true then (some true) else ((spec_DrawWordOk.f k x0).bind fun t144 => ((impl_WordOk.f k t144).bind fun t145 => ((spec_WordOk.f k t144).bind fun t146 => (if (t145 != t146) = true then (laws_FnWordCut.j1 k x1 t144 t145 true) else (laws_FnWordCut.j1 k x1 t144 t145 (!t145))))))
def laws_FnWordCut.j1 : Nat → List Int → ByteArray → Bool → Bool → Option (Bool)
  | 0, _, _, _, _ => none
  | k + 1, x1, x5, x6, x27 => if x27 = true then ((spec_WordOk.f k x5).bind fun t147 => (some (x6 == t147))) else (if (wrap64 ((x5.size : Int) + 1)) = 0 then (none) else (if 0 ≤ ((x1.length : Int) % (wrap64 ((x5.size : Int) + 1))) then (if ((x1.length : Int) % (wrap64 ((x5.size : Int) + 1))) ≤ (x5.size : Int) then ((impl_WordOk.f k (x5.extract 0 (((x1.length : Int) % (wrap64 ((x5.size : Int) + 1))) : Int).toNat)).bind fun t148 => (if t148 = true then ((impl_WordOk.f k (x5.extract (((x1.length : Int) % (wrap64 ((x5.size : Int) + 1))) : Int).toNat x5.size)).bind fun t149 => (if t149 = true then (if (x5.extract 0 (((x1.length : Int) % (wrap64 ((x5.size : Int) + 1))) : Int).toNat).size + 1 ≤ 9223372036854775807 then (if ((x5.extract 0 (((x1.length : Int) % (wrap64 ((x5.size : Int) + 1))) : Int).toNat) ++ (⟨#[32]⟩ : ByteArray)).size + (x5.extract (((x1.length : Int) % (wrap64 ((x5.size : Int) + 1))) : Int).toNat x5.size).size ≤ 9223372036854775807 then ((impl_WordOk.f k (((x5.extract 0 (((x1.length : Int) % (wrap64 ((x5.size : Int) + 1))) : Int).toNat) ++ (⟨#[32]⟩ : ByteArray)) ++ (x5.extract (((x1.length : Int) % (wrap64 ((x5.size : Int) + 1))) : Int).toNat x5.size))).bind fun t150 => (if t150 = true then (some false) else (if x5.size + 1 ≤ 9223372036854775807 then ((impl_WordOk.f k (x5 ++ (⟨#[65]⟩ : ByteArray))).bind fun t151 => (some (!t151))) else (none)))) else (none)) else (none)) else (some false))) else (some false))) else (none)) else (none)))
end
def laws_FnWordCut.f (k : Nat) (l0 : List Int) (l1 : List Int) : Option (Bool) := if (l0.length : Int) > 1048576 then (laws_FnWordCut.j0 k l0 l1 true) else (laws_FnWordCut.j0 k l0 l1 (decide ((l1.length : Int) > 1048576)))
theorem laws_FnWordCut.mono_l : ∀ k, (∀ y0 y1 y2, LeO (laws_FnWordCut.j0 k y0 y1 y2) (laws_FnWordCut.j0 (k + 1) y0 y1 y2)) ∧ (∀ y0 y1 y2 y3, LeO (laws_FnWordCut.j1 k y0 y1 y2 y3) (laws_FnWordCut.j1 (k + 1) y0 y1 y2 y3))
  | 0 => ⟨fun _ _ _ r h => by simp [laws_FnWordCut.j0] at h, fun _ _ _ _ r h => by simp [laws_FnWordCut.j1] at h⟩
  | k + 1 => by
    obtain ⟨ih0, ih1⟩ := laws_FnWordCut.mono_l k
    refine ⟨?_, ?_⟩
    · intro y0 y1 y2
      unfold laws_FnWordCut.j0
      repeat' first
      | (with_reducible exact ih0 _ _ _)
      | (with_reducible exact ih1 _ _ _ _)
      | (with_reducible exact impl_WordOk.mono _ _)
      | (with_reducible exact spec_DrawWordOk.mono _ _)
      | (with_reducible exact spec_WordOk.mono _ _)
      | (with_reducible exact LeO.refl _)
      | (with_reducible exact LeO.none _)
      | (with_reducible refine LeO.ite ?_ ?_)
      | (with_reducible refine LeO.bind ?_ (fun _ => ?_))
      | exact ih0 _ _ _
      | exact ih1 _ _ _ _
      | exact impl_WordOk.mono _ _
      | exact spec_DrawWordOk.mono _ _
      | exact spec_WordOk.mono _ _
      | exact LeO.none _
      | refine LeO.ite ?_ ?_
      | refine LeO.bind ?_ (fun _ => ?_)
    · intro y0 y1 y2 y3
      unfold laws_FnWordCut.j1
      repeat' first
      | (with_reducible exact ih0 _ _ _)
      | (with_reducible exact ih1 _ _ _ _)
      | (with_reducible exact impl_WordOk.mono _ _)
      | (with_reducible exact spec_DrawWordOk.mono _ _)
      | (with_reducible exact spec_WordOk.mono _ _)
      | (with_reducible exact LeO.refl _)
      | (with_reducible exact LeO.none _)
      | (with_reducible refine LeO.ite ?_ ?_)
      | (with_reducible refine LeO.bind ?_ (fun _ => ?_))
      | exact ih0 _ _ _
      | exact ih1 _ _ _ _
      | exact impl_WordOk.mono _ _
      | exact spec_DrawWordOk.mono _ _
      | exact spec_WordOk.mono _ _
      | exact LeO.none _
      | refine LeO.ite ?_ ?_
      | refine LeO.bind ?_ (fun _ => ?_)
theorem laws_FnWordCut.mono : ∀ a0 a1 k, LeO (laws_FnWordCut.f k a0 a1) (laws_FnWordCut.f (k + 1) a0 a1) := by
  intro a0 a1 k
  obtain ⟨ih0, ih1⟩ := laws_FnWordCut.mono_l k
  unfold laws_FnWordCut.f
  repeat' first
      | (with_reducible exact ih0 _ _ _)
      | (with_reducible exact ih1 _ _ _ _)
      | (with_reducible exact impl_WordOk.mono _ _)
      | (with_reducible exact spec_DrawWordOk.mono _ _)
      | (with_reducible exact spec_WordOk.mono _ _)
      | (with_reducible exact LeO.refl _)
      | (with_reducible exact LeO.none _)
      | (with_reducible refine LeO.ite ?_ ?_)
      | (with_reducible refine LeO.bind ?_ (fun _ => ?_))
      | exact ih0 _ _ _
      | exact ih1 _ _ _ _
      | exact impl_WordOk.mono _ _
      | exact spec_DrawWordOk.mono _ _
      | exact spec_WordOk.mono _ _
      | exact LeO.none _
      | refine LeO.ite ?_ ?_
      | refine LeO.bind ?_ (fun _ => ?_)
set_option maxHeartbeats 8000000 in
set_option maxRecDepth 100000 in
theorem laws_FnWordCut.calls (k : Nat) (A0 : Option Addr) (c0 : Nat) (l0 : List Int) (A1 : Option Addr) (c1 : Nat) (l1 : List Int) (r : Bool) (w : World) (hr0 : Kd.C (Kd.int .u8) w A0 l0.length l0) (hc0 : l0.length ≤ c0) (hr1 : Kd.C (Kd.int .u8) w A1 l1.length l1) (hc1 : l1.length ≤ c1) (h : laws_FnWordCut.f k l0 l1 = some r) :
    Calls Try.prog 12 #[.slice A0 l0.length c0, .slice A1 l1.length c1] w fun e w' => e = .returned (.bool r) ∧ Below w.heap.size w w' := by
  have HR0 := Aside0.mk hr0
  have HC0 := Aside0.mk hc0
  clear hr0 hc0
  have HR1 := Aside0.mk hr1
  have HC1 := Aside0.mk hc1
  clear hr1 hc1
  have HB := Aside0.mk (Below.refl w.heap.size w)
  have H : (if (l0.length : Int) > 1048576 then (laws_FnWordCut.j0 k l0 l1 true) else (laws_FnWordCut.j0 k l0 l1 (decide ((l1.length : Int) > 1048576)))) = some r := h
  clear h
  have HC3 := Aside0.mk H
  clear H
  go_enter Try.func12, Try.ntmps12
  go_upto_region 1 with (fail)
  repeat (go_quiet (fail); go_upto_region 1 with (fail))
  go_cut [15] (fun v15 wc => ∃ (kq : Nat) (x15_2 : Bool), v15 = .bool x15_2 ∧ Aside0 (laws_FnWordCut.j0 kq l0 l1 x15_2 = some r) ∧ Aside0 (kq ≤ k) ∧ Aside0 (Below w.heap.size w wc))
  case first =>
    have H := HC3.out
    clear HC3
    by_cases c4 : (l0.length : Int) > 1048576
    · rw [if_pos c4] at H
      have c4b0 : decide (1048576 < (l0.length : Int)) = true := decide_eq_true c4
      have c4b1 : decide (1048576 < l0.length) = true := decide_eq_true (by omega)
      clear c4
      (first | rw [c4b0] | (simp only [i64_w, i32_w]; rw [c4b0]) | skip)
      have H' := Aside0.mk H
      clear H
      go_wp2
      repeat (go_quiet (fail); try go_wp2)
      go_meet
      case rel => exact ⟨_, (true), (by first | rfl | (simp; done) | (simp [*]; done)), H', ⟨by first | omega | exact Nat.le_refl _⟩, ⟨by repeat (first | (with_reducible first | exact HB.out | apply below_alloc | apply pw_below_drewN | apply below_drew1) | exact HB.out)⟩⟩
    · rw [if_neg c4] at H
      have c4b0 : decide (1048576 < (l0.length : Int)) = false := decide_eq_false c4
      have c4b1 : decide (1048576 < l0.length) = false := decide_eq_false (by omega)
      clear c4
      (first | rw [c4b0] | (simp only [i64_w, i32_w]; rw [c4b0]) | skip)
      have H' := Aside0.mk H
      clear H
      go_wp2
      repeat (go_quiet (fail); try go_wp2)
      go_meet
      case rel => exact ⟨_, (decide ((l1.length : Int) > 1048576)), (by first | rfl | (simp; done) | (simp [*]; done)), H', ⟨by first | omega | exact Nat.le_refl _⟩, ⟨by repeat (first | (with_reducible first | exact HB.out | apply below_alloc | apply pw_below_drewN | apply below_drew1) | exact HB.out)⟩⟩
  case rest =>
    clear HC3
    try clear c1
    try clear p2
    try clear c4
    try clear c4b0
    try clear c4b1
    obtain ⟨kq, x15_2, rfl, HA, HJ2, HB⟩ := hcut
    cases kq with
    | zero => exact absurd HA.out (by simp [laws_FnWordCut.j0])
    | succ kj2 =>
      have H := HA.out
      clear HA
      simp only [laws_FnWordCut.j0] at H
      by_cases c5 : x15_2 = true
      · subst c5
        have H1 : (some true) = some r := by rw [if_pos rfl] at H; exact H
        clear H
        have H := H1
        clear H1
        obtain rfl := Option.some.inj H
        go_wp2
        repeat (go_quiet (fail); try go_wp2)
        go_ret
        exact ⟨by first | rfl | (simp [errW_none, errW_some] <;> rfl) | (simp [*, errW_none, errW_some] <;> rfl), by repeat (first | (with_reducible first | exact HB.out | apply below_alloc | apply pw_below_drewN | apply below_drew1) | exact HB.out)⟩
      · replace c5 := Bool.eq_false_iff.mpr c5
        subst c5
        have H1 : ((spec_DrawWordOk.f kj2 l0).bind fun t144 => ((impl_WordOk.f kj2 t144).bind fun t145 => ((spec_WordOk.f kj2 t144).bind fun t146 => (if (t145 != t146) = true then (laws_FnWordCut.j1 kj2 l1 t144 t145 true) else (laws_FnWordCut.j1 kj2 l1 t144 t145 (!t145)))))) = some r := by rw [if_neg (show ¬ (false = true) by decide)] at H; exact H
        clear H
        have H := H1
        clear H1
        replace H := Option.bind_eq_some_iff.mp H
        obtain ⟨t144, A60, H⟩ := H
        replace H : ((impl_WordOk.f kj2 t144).bind fun t145 => ((spec_WordOk.f kj2 t144).bind fun t146 => (if (t145 != t146) = true then (laws_FnWordCut.j1 kj2 l1 t144 t145 true) else (laws_FnWordCut.j1 kj2 l1 t144 t145 (!t145))))) = some r := H
        have A6 := Aside0.mk A60
        clear A60
        replace H := Option.bind_eq_some_iff.mp H
        obtain ⟨t145, A70, H⟩ := H
        replace H : ((spec_WordOk.f kj2 t144).bind fun t146 => (if (t145 != t146) = true then (laws_FnWordCut.j1 kj2 l1 t144 t145 true) else (laws_FnWordCut.j1 kj2 l1 t144 t145 (!t145)))) = some r := H
        have A7 := Aside0.mk A70
        clear A70
        have HC8 := Aside0.mk H
        clear H
        go_upto_region 5 with (first | (go_at_call 22; (with_reducible refine (spec_DrawWordOk.calls kj2 _ _ l0 t144 _ ?side1 ?side2 A6.out).mono ?_); (case side1 => repeat (first | exact (Kd.C_below HR0.out HB.out) | (with_reducible refine Kd.C_alloc ?_ _) | (with_reducible refine Kd.C_drewN ?_ _) | (with_reducible refine Kd.C_drew ?_))); (case side2 => exact HC0.out); rintro e w9 ⟨rfl, hb⟩; have n0_ := Aside0.mk (below_step (by repeat (first | (with_reducible first | exact HB.out | apply below_alloc | apply pw_below_drewN | apply below_drew1) | exact HB.out)) hb); clear HB; have HB := n0_; clear n0_; (try clear hb); (try clear hb2); (try clear hk); (try clear hi)) | (go_at_call 23; (with_reducible refine (impl_WordOk.calls kj2 t144 t145 _ A7.out).mono ?_); rintro e w' ⟨rfl, ⟨nd, rfl⟩⟩; (try first | exact ⟨rfl, _, World.drewN_drewN _ _ _⟩ | exact ⟨rfl, _, Eq.trans (World.drewN_drewN _ _ _) (congrArg (World.drewN _) (Nat.add_assoc _ _ _))⟩)))
        repeat (go_quiet (first | (go_at_call 22; (with_reducible refine (spec_DrawWordOk.calls kj2 _ _ l0 t144 _ ?side1 ?side2 A6.out).mono ?_); (case side1 => repeat (first | exact (Kd.C_below HR0.out HB.out) | (with_reducible refine Kd.C_alloc ?_ _) | (with_reducible refine Kd.C_drewN ?_ _) | (with_reducible refine Kd.C_drew ?_))); (case side2 => exact HC0.out); rintro e w9 ⟨rfl, hb⟩; have n0_ := Aside0.mk (below_step (by repeat (first | (with_reducible first | exact HB.out | apply below_alloc | apply pw_below_drewN | apply below_drew1) | exact HB.out)) hb); clear HB; have HB := n0_; clear n0_; (try clear hb); (try clear hb2); (try clear hk); (try clear hi)) | (go_at_call 23; (with_reducible refine (impl_WordOk.calls kj2 t144 t145 _ A7.out).mono ?_); rintro e w' ⟨rfl, ⟨nd, rfl⟩⟩; (try first | exact ⟨rfl, _, World.drewN_drewN _ _ _⟩ | exact ⟨rfl, _, Eq.trans (World.drewN_drewN _ _ _) (congrArg (World.drewN _) (Nat.add_assoc _ _ _))⟩))); go_upto_region 5 with (first | (go_at_call 22; (with_reducible refine (spec_DrawWordOk.calls kj2 _ _ l0 t144 _ ?side1 ?side2 A6.out).mono ?_); (case side1 => repeat (first | exact (Kd.C_below HR0.out HB.out) | (with_reducible refine Kd.C_alloc ?_ _) | (with_reducible refine Kd.C_drewN ?_ _) | (with_reducible refine Kd.C_drew ?_))); (case side2 => exact HC0.out); rintro e w9 ⟨rfl, hb⟩; have n0_ := Aside0.mk (below_step (by repeat (first | (with_reducible first | exact HB.out | apply below_alloc | apply pw_below_drewN | apply below_drew1) | exact HB.out)) hb); clear HB; have HB := n0_; clear n0_; (try clear hb); (try clear hb2); (try clear hk); (try clear hi)) | (go_at_call 23; (with_reducible refine (impl_WordOk.calls kj2 t144 t145 _ A7.out).mono ?_); rintro e w' ⟨rfl, ⟨nd, rfl⟩⟩; (try first | exact ⟨rfl, _, World.drewN_drewN _ _ _⟩ | exact ⟨rfl, _, Eq.trans (World.drewN_drewN _ _ _) (congrArg (World.drewN _) (Nat.add_assoc _ _ _))⟩))))
        (try simp only [Act.put, List.setIfInBounds_toArray, List.set_cons_zero, List.set_cons_succ])
        go_cut [27] (fun v27 wc => ∃ (kq : Nat) (x27_7 : Bool), v27 = .bool x27_7 ∧ Aside0 (laws_FnWordCut.j1 kq l1 t144 t145 x27_7 = some r) ∧ Aside0 (kq ≤ kj2) ∧ Aside0 (Below w.heap.size w wc))
        case first =>
          have H := HC8.out
          clear HC8
          replace H := Option.bind_eq_some_iff.mp H
          obtain ⟨t146, A100, H⟩ := H
          replace H : (if (t145 != t146) = true then (laws_FnWordCut.j1 kj2 l1 t144 t145 true) else (laws_FnWordCut.j1 kj2 l1 t144 t145 (!t145))) = some r := H
          have A10 := Aside0.mk A100
          clear A100
          by_cases c11 : (t145 != t146) = true
          · rw [if_pos c11] at H
            have c11b0 : (t145 != t146) = true := c11
            (try (have c11b1 : decide (t145 = t146) = false := by simpa using c11))
            (try (have c11b2 : (t145 == t146) = false := by simpa using c11))
            (try (have c11b3 : ¬ (t145 = t146) := by simpa using c11))
            clear c11
            (first | rw [c11b0] | (simp only [i64_w, i32_w]; rw [c11b0]) | skip)
            have H' := Aside0.mk H
            clear H
            go_wp2_with (first | (go_at_call 24; (with_reducible refine (spec_WordOk.calls kj2 t144 t146 _ A10.out).mono ?_); rintro e w' ⟨rfl, ⟨nd, rfl⟩⟩; (try first | exact ⟨rfl, _, World.drewN_drewN _ _ _⟩ | exact ⟨rfl, _, Eq.trans (World.drewN_drewN _ _ _) (congrArg (World.drewN _) (Nat.add_assoc _ _ _))⟩)))
            repeat (go_quiet (first | (go_at_call 24; (with_reducible refine (spec_WordOk.calls kj2 t144 t146 _ A10.out).mono ?_); rintro e w' ⟨rfl, ⟨nd, rfl⟩⟩; (try first | exact ⟨rfl, _, World.drewN_drewN _ _ _⟩ | exact ⟨rfl, _, Eq.trans (World.drewN_drewN _ _ _) (congrArg (World.drewN _) (Nat.add_assoc _ _ _))⟩))); try go_wp2_with (first | (go_at_call 24; (with_reducible refine (spec_WordOk.calls kj2 t144 t146 _ A10.out).mono ?_); rintro e w' ⟨rfl, ⟨nd, rfl⟩⟩; (try first | exact ⟨rfl, _, World.drewN_drewN _ _ _⟩ | exact ⟨rfl, _, Eq.trans (World.drewN_drewN _ _ _) (congrArg (World.drewN _) (Nat.add_assoc _ _ _))⟩))))
            go_meet
            case rel => exact ⟨_, (true), (by first | rfl | (simp; done) | (simp [*]; done)), H', ⟨by have := HJ2.out; first | omega | exact Nat.le_refl _⟩, ⟨by repeat (first | (with_reducible first | exact HB.out | apply below_alloc | apply pw_below_drewN | apply below_drew1) | exact HB.out)⟩⟩
          · rw [if_neg c11] at H
            have c11b0 : (t145 != t146) = false := by simpa using c11
            (try (have c11b1 : decide (t145 = t146) = true := by simpa using c11))
            (try (have c11b2 : (t145 == t146) = true := by simpa using c11))
            clear c11
            (first | rw [c11b0] | (simp only [i64_w, i32_w]; rw [c11b0]) | skip)
            have H' := Aside0.mk H
            clear H
            go_wp2_with (first | (go_at_call 24; (with_reducible refine (spec_WordOk.calls kj2 t144 t146 _ A10.out).mono ?_); rintro e w' ⟨rfl, ⟨nd, rfl⟩⟩; (try first | exact ⟨rfl, _, World.drewN_drewN _ _ _⟩ | exact ⟨rfl, _, Eq.trans (World.drewN_drewN _ _ _) (congrArg (World.drewN _) (Nat.add_assoc _ _ _))⟩)))
            repeat (go_quiet (first | (go_at_call 24; (with_reducible refine (spec_WordOk.calls kj2 t144 t146 _ A10.out).mono ?_); rintro e w' ⟨rfl, ⟨nd, rfl⟩⟩; (try first | exact ⟨rfl, _, World.drewN_drewN _ _ _⟩ | exact ⟨rfl, _, Eq.trans (World.drewN_drewN _ _ _) (congrArg (World.drewN _) (Nat.add_assoc _ _ _))⟩))); try go_wp2_with (first | (go_at_call 24; (with_reducible refine (spec_WordOk.calls kj2 t144 t146 _ A10.out).mono ?_); rintro e w' ⟨rfl, ⟨nd, rfl⟩⟩; (try first | exact ⟨rfl, _, World.drewN_drewN _ _ _⟩ | exact ⟨rfl, _, Eq.trans (World.drewN_drewN _ _ _) (congrArg (World.drewN _) (Nat.add_assoc _ _ _))⟩))))
            go_meet
            case rel => exact ⟨_, (!t145), (by first | rfl | (simp; done) | (simp [*]; done)), H', ⟨by have := HJ2.out; first | omega | exact Nat.le_refl _⟩, ⟨by repeat (first | (with_reducible first | exact HB.out | apply below_alloc | apply pw_below_drewN | apply below_drew1) | exact HB.out)⟩⟩
        case rest =>
          clear HC8
          try clear c1
          try clear p2
          try clear c4
          try clear c4b0
          try clear c4b1
          try clear c5
          try clear c11
          try clear c11b0
          try clear c11b1
          try clear c11b2
          try clear p2
          obtain ⟨kq, x27_7, rfl, HA, HJ7, HB⟩ := hcut
          cases kq with
          | zero => exact absurd HA.out (by simp [laws_FnWordCut.j1])
          | succ kj7 =>
            have H := HA.out
            clear HA
            simp only [laws_FnWordCut.j1] at H
            by_cases c12 : x27_7 = true
            · subst c12
              have H1 : ((spec_WordOk.f kj7 t144).bind fun t147 => (some (t145 == t147))) = some r := by rw [if_pos rfl] at H; exact H
              clear H
              have H := H1
              clear H1
              replace H := Option.bind_eq_some_iff.mp H
              obtain ⟨t147, A130, H⟩ := H
              replace H : (some (t145 == t147)) = some r := H
              have A13 := Aside0.mk A130
              clear A130
              obtain rfl := Option.some.inj H
              go_wp2_with (first | (go_at_call 24; (with_reducible refine (spec_WordOk.calls kj7 t144 t147 _ A13.out).mono ?_); rintro e w' ⟨rfl, ⟨nd, rfl⟩⟩; (try first | exact ⟨rfl, _, World.drewN_drewN _ _ _⟩ | exact ⟨rfl, _, Eq.trans (World.drewN_drewN _ _ _) (congrArg (World.drewN _) (Nat.add_assoc _ _ _))⟩)))
              repeat (go_quiet (first | (go_at_call 24; (with_reducible refine (spec_WordOk.calls kj7 t144 t147 _ A13.out).mono ?_); rintro e w' ⟨rfl, ⟨nd, rfl⟩⟩; (try first | exact ⟨rfl, _, World.drewN_drewN _ _ _⟩ | exact ⟨rfl, _, Eq.trans (World.drewN_drewN _ _ _) (congrArg (World.drewN _) (Nat.add_assoc _ _ _))⟩))); try go_wp2_with (first | (go_at_call 24; (with_reducible refine (spec_WordOk.calls kj7 t144 t147 _ A13.out).mono ?_); rintro e w' ⟨rfl, ⟨nd, rfl⟩⟩; (try first | exact ⟨rfl, _, World.drewN_drewN _ _ _⟩ | exact ⟨rfl, _, Eq.trans (World.drewN_drewN _ _ _) (congrArg (World.drewN _) (Nat.add_assoc _ _ _))⟩))))
              go_ret
              exact ⟨by first | rfl | (simp [errW_none, errW_some] <;> rfl) | (simp [*, errW_none, errW_some] <;> rfl), by repeat (first | (with_reducible first | exact HB.out | apply below_alloc | apply pw_below_drewN | apply below_drew1) | exact HB.out)⟩
            · replace c12 := Bool.eq_false_iff.mpr c12
              subst c12
              have H1 : (if (wrap64 ((t144.size : Int) + 1)) = 0 then (none) else (if 0 ≤ ((l1.length : Int) % (wrap64 ((t144.size : Int) + 1))) then (if ((l1.length : Int) % (wrap64 ((t144.size : Int) + 1))) ≤ (t144.size : Int) then ((impl_WordOk.f kj7 (t144.extract 0 (((l1.length : Int) % (wrap64 ((t144.size : Int) + 1))) : Int).toNat)).bind fun t148 => (if t148 = true then ((impl_WordOk.f kj7 (t144.extract (((l1.length : Int) % (wrap64 ((t144.size : Int) + 1))) : Int).toNat t144.size)).bind fun t149 => (if t149 = true then (if (t144.extract 0 (((l1.length : Int) % (wrap64 ((t144.size : Int) + 1))) : Int).toNat).size + 1 ≤ 9223372036854775807 then (if ((t144.extract 0 (((l1.length : Int) % (wrap64 ((t144.size : Int) + 1))) : Int).toNat) ++ (⟨#[32]⟩ : ByteArray)).size + (t144.extract (((l1.length : Int) % (wrap64 ((t144.size : Int) + 1))) : Int).toNat t144.size).size ≤ 9223372036854775807 then ((impl_WordOk.f kj7 (((t144.extract 0 (((l1.length : Int) % (wrap64 ((t144.size : Int) + 1))) : Int).toNat) ++ (⟨#[32]⟩ : ByteArray)) ++ (t144.extract (((l1.length : Int) % (wrap64 ((t144.size : Int) + 1))) : Int).toNat t144.size))).bind fun t150 => (if t150 = true then (some false) else (if t144.size + 1 ≤ 9223372036854775807 then ((impl_WordOk.f kj7 (t144 ++ (⟨#[65]⟩ : ByteArray))).bind fun t151 => (some (!t151))) else (none)))) else (none)) else (none)) else (some false))) else (some false))) else (none)) else (none))) = some r := by rw [if_neg (show ¬ (false = true) by decide)] at H; exact H
              clear H
              have H := H1
              clear H1
              by_cases c14 : (wrap64 ((t144.size : Int) + 1)) = 0
              · rw [if_pos c14] at H
                exact absurd H (by simp)
              · rw [if_neg c14] at H
                have c14b0 : ((wrap64 ((t144.size : Int) + 1)) == 0) = false := beq_eq_false_iff_ne.mpr c14
                have c14b1 : ((wrap64 ((t144.size : Int) + 1)) != 0) = true := bne_iff_ne.mpr c14
                obtain ⟨ji15, hji15⟩ : ∃ j_ : Int, ((l1.length : Int) % (wrap64 ((t144.size : Int) + 1))) = j_ := ⟨_, rfl⟩
                replace H : (if 0 ≤ (ji15) then (if (ji15) ≤ (t144.size : Int) then ((impl_WordOk.f kj7 (t144.extract 0 ((ji15) : Int).toNat)).bind fun t148 => (if t148 = true then ((impl_WordOk.f kj7 (t144.extract ((ji15) : Int).toNat t144.size)).bind fun t149 => (if t149 = true then (if (t144.extract 0 ((ji15) : Int).toNat).size + 1 ≤ 9223372036854775807 then (if ((t144.extract 0 ((ji15) : Int).toNat) ++ (⟨#[32]⟩ : ByteArray)).size + (t144.extract ((ji15) : Int).toNat t144.size).size ≤ 9223372036854775807 then ((impl_WordOk.f kj7 (((t144.extract 0 ((ji15) : Int).toNat) ++ (⟨#[32]⟩ : ByteArray)) ++ (t144.extract ((ji15) : Int).toNat t144.size))).bind fun t150 => (if t150 = true then (some false) else (if t144.size + 1 ≤ 9223372036854775807 then ((impl_WordOk.f kj7 (t144 ++ (⟨#[65]⟩ : ByteArray))).bind fun t151 => (some (!t151))) else (none)))) else (none)) else (none)) else (some false))) else (some false))) else (none)) else (none)) = some r := by first | (rw [hji15] at H; exact H) | (simp only [hji15] at H ⊢; exact H)
                by_cases c16 : 0 ≤ (ji15)
                · rw [if_pos c16] at H
                  have c16b0 := eq_true c16
                  have c16b1 : decide (0 ≤ (ji15)) = true := decide_eq_true c16
                  clear c16
                  by_cases c17 : (ji15) ≤ (t144.size : Int)
                  · rw [if_pos c17] at H
                    have c17b0 := eq_true c17
                    have c17b1 : decide ((ji15) ≤ (t144.size : Int)) = true := decide_eq_true c17
                    clear c17
                    replace H := Option.bind_eq_some_iff.mp H
                    obtain ⟨t148, A180, H⟩ := H
                    replace H : (if t148 = true then ((impl_WordOk.f kj7 (t144.extract ((ji15) : Int).toNat t144.size)).bind fun t149 => (if t149 = true then (if (t144.extract 0 ((ji15) : Int).toNat).size + 1 ≤ 9223372036854775807 then (if ((t144.extract 0 ((ji15) : Int).toNat) ++ (⟨#[32]⟩ : ByteArray)).size + (t144.extract ((ji15) : Int).toNat t144.size).size ≤ 9223372036854775807 then ((impl_WordOk.f kj7 (((t144.extract 0 ((ji15) : Int).toNat) ++ (⟨#[32]⟩ : ByteArray)) ++ (t144.extract ((ji15) : Int).toNat t144.size))).bind fun t150 => (if t150 = true then (some false) else (if t144.size + 1 ≤ 9223372036854775807 then ((impl_WordOk.f kj7 (t144 ++ (⟨#[65]⟩ : ByteArray))).bind fun t151 => (some (!t151))) else (none)))) else (none)) else (none)) else (some false))) else (some false)) = some r := H
                    have A18 := Aside0.mk A180
                    clear A180
                    by_cases c19 : t148 = true
                    · subst c19
                      have H1 : ((impl_WordOk.f kj7 (t144.extract ((ji15) : Int).toNat t144.size)).bind fun t149 => (if t149 = true then (if (t144.extract 0 ((ji15) : Int).toNat).size + 1 ≤ 9223372036854775807 then (if ((t144.extract 0 ((ji15) : Int).toNat) ++ (⟨#[32]⟩ : ByteArray)).size + (t144.extract ((ji15) : Int).toNat t144.size).size ≤ 9223372036854775807 then ((impl_WordOk.f kj7 (((t144.extract 0 ((ji15) : Int).toNat) ++ (⟨#[32]⟩ : ByteArray)) ++ (t144.extract ((ji15) : Int).toNat t144.size))).bind fun t150 => (if t150 = true then (some false) else (if t144.size + 1 ≤ 9223372036854775807 then ((impl_WordOk.f kj7 (t144 ++ (⟨#[65]⟩ : ByteArray))).bind fun t151 => (some (!t151))) else (none)))) else (none)) else (none)) else (some false))) = some r := by rw [if_pos rfl] at H; exact H
                      clear H
                      have H := H1
                      clear H1
                      have c20b0 := eq_true (of_decide_eq_true (by first | (with_reducible assumption) | assumption) : 0 ≤ (ji15))
                      have c21b0 := eq_true (of_decide_eq_true (by first | (with_reducible assumption) | assumption) : (ji15) ≤ (t144.size : Int))
                      replace H := Option.bind_eq_some_iff.mp H
                      obtain ⟨t149, A220, H⟩ := H
                      replace H : (if t149 = true then (if (t144.extract 0 ((ji15) : Int).toNat).size + 1 ≤ 9223372036854775807 then (if ((t144.extract 0 ((ji15) : Int).toNat) ++ (⟨#[32]⟩ : ByteArray)).size + (t144.extract ((ji15) : Int).toNat t144.size).size ≤ 9223372036854775807 then ((impl_WordOk.f kj7 (((t144.extract 0 ((ji15) : Int).toNat) ++ (⟨#[32]⟩ : ByteArray)) ++ (t144.extract ((ji15) : Int).toNat t144.size))).bind fun t150 => (if t150 = true then (some false) else (if t144.size + 1 ≤ 9223372036854775807 then ((impl_WordOk.f kj7 (t144 ++ (⟨#[65]⟩ : ByteArray))).bind fun t151 => (some (!t151))) else (none)))) else (none)) else (none)) else (some false)) = some r := H
                      have A22 := Aside0.mk A220
                      clear A220
                      by_cases c23 : t149 = true
                      · subst c23
                        have H1 : (if (t144.extract 0 ((ji15) : Int).toNat).size + 1 ≤ 9223372036854775807 then (if ((t144.extract 0 ((ji15) : Int).toNat) ++ (⟨#[32]⟩ : ByteArray)).size + (t144.extract ((ji15) : Int).toNat t144.size).size ≤ 9223372036854775807 then ((impl_WordOk.f kj7 (((t144.extract 0 ((ji15) : Int).toNat) ++ (⟨#[32]⟩ : ByteArray)) ++ (t144.extract ((ji15) : Int).toNat t144.size))).bind fun t150 => (if t150 = true then (some false) else (if t144.size + 1 ≤ 9223372036854775807 then ((impl_WordOk.f kj7 (t144 ++ (⟨#[65]⟩ : ByteArray))).bind fun t151 => (some (!t151))) else (none)))) else (none)) else (none)) = some r := by rw [if_pos rfl] at H; exact H
                        clear H
                        have H := H1
                        clear H1
                        have c24b0 := eq_true (of_decide_eq_true (by first | (with_reducible assumption) | assumption) : 0 ≤ (ji15))
                        have c25b0 := eq_true (of_decide_eq_true (by first | (with_reducible assumption) | assumption) : (ji15) ≤ (t144.size : Int))
                        by_cases c26 : (t144.extract 0 ((ji15) : Int).toNat).size + 1 ≤ 9223372036854775807
                        · rw [if_pos c26] at H
                          have c26b0 := eq_true c26
                          have c26b1 : decide ((t144.extract 0 ((ji15) : Int).toNat).size + 1 ≤ 9223372036854775807) = true := decide_eq_true c26
                          try have c26b2 : (9223372036854775807 < (t144.extract 0 ((ji15) : Int).toNat).size + 1) = False := eq_false (Nat.not_lt.2 c26)
                          (try (have c26b3 := c26b2; simp only [ByteArray.size_append] at c26b3))
                          (try (have c26b4 : (9223372036854775807 < ji15.toNat + 1) = False := eq_false (by have h_ := c26; have h0_ := of_eq_true (show (ji15 ≤ (t144.size : Int)) = True from (by first | (with_reducible assumption) | assumption)); simp only [ByteArray.size_append, ByteArray.size_extract] at h_; (try simp at h_); omega)))
                          have c27b0 := eq_true (of_decide_eq_true (by first | (with_reducible assumption) | assumption) : 0 ≤ (ji15))
                          have c28b0 := eq_true (of_decide_eq_true (by first | (with_reducible assumption) | assumption) : (ji15) ≤ (t144.size : Int))
                          by_cases c29 : ((t144.extract 0 ((ji15) : Int).toNat) ++ (⟨#[32]⟩ : ByteArray)).size + (t144.extract ((ji15) : Int).toNat t144.size).size ≤ 9223372036854775807
                          · rw [if_pos c29] at H
                            have c29b0 := eq_true c29
                            have c29b1 : decide (((t144.extract 0 ((ji15) : Int).toNat) ++ (⟨#[32]⟩ : ByteArray)).size + (t144.extract ((ji15) : Int).toNat t144.size).size ≤ 9223372036854775807) = true := decide_eq_true c29
                            try have c29b2 : (9223372036854775807 < ((t144.extract 0 ((ji15) : Int).toNat) ++ (⟨#[32]⟩ : ByteArray)).size + (t144.extract ((ji15) : Int).toNat t144.size).size) = False := eq_false (Nat.not_lt.2 c29)
                            (try (have c29b3 := c29b2; simp only [ByteArray.size_append] at c29b3))
                            (try (have c29b4 : (9223372036854775807 < ji15.toNat + 1 + (t144.size - ji15.toNat)) = False := eq_false (by have h_ := c29; have h0_ := of_eq_true (show (ji15 ≤ (t144.size : Int)) = True from (by first | (with_reducible assumption) | assumption)); simp only [ByteArray.size_append, ByteArray.size_extract] at h_; (try simp at h_); omega)))
                            replace H := Option.bind_eq_some_iff.mp H
                            obtain ⟨t150, A300, H⟩ := H
                            replace H : (if t150 = true then (some false) else (if t144.size + 1 ≤ 9223372036854775807 then ((impl_WordOk.f kj7 (t144 ++ (⟨#[65]⟩ : ByteArray))).bind fun t151 => (some (!t151))) else (none))) = some r := H
                            have A30 := Aside0.mk A300
                            clear A300
                            by_cases c31 : t150 = true
                            · subst c31
                              have H1 : (some false) = some r := by rw [if_pos rfl] at H; exact H
                              clear H
                              have H := H1
                              clear H1
                              obtain rfl := Option.some.inj H
                              go_wp2_with (first | (go_at_call 23; (with_reducible refine (impl_WordOk.calls kj7 (t144.extract 0 ((ji15) : Int).toNat) true _ A18.out).mono ?_); rintro e w' ⟨rfl, ⟨nd, rfl⟩⟩; (try first | exact ⟨rfl, _, World.drewN_drewN _ _ _⟩ | exact ⟨rfl, _, Eq.trans (World.drewN_drewN _ _ _) (congrArg (World.drewN _) (Nat.add_assoc _ _ _))⟩)) | (go_at_call 23; (with_reducible refine (impl_WordOk.calls kj7 (t144.extract ((ji15) : Int).toNat t144.size) true _ A22.out).mono ?_); rintro e w' ⟨rfl, ⟨nd, rfl⟩⟩; (try first | exact ⟨rfl, _, World.drewN_drewN _ _ _⟩ | exact ⟨rfl, _, Eq.trans (World.drewN_drewN _ _ _) (congrArg (World.drewN _) (Nat.add_assoc _ _ _))⟩)) | (go_at_call 23; (with_reducible refine (impl_WordOk.calls kj7 (((t144.extract 0 ((ji15) : Int).toNat) ++ (⟨#[32]⟩ : ByteArray)) ++ (t144.extract ((ji15) : Int).toNat t144.size)) true _ A30.out).mono ?_); rintro e w' ⟨rfl, ⟨nd, rfl⟩⟩; (try first | exact ⟨rfl, _, World.drewN_drewN _ _ _⟩ | exact ⟨rfl, _, Eq.trans (World.drewN_drewN _ _ _) (congrArg (World.drewN _) (Nat.add_assoc _ _ _))⟩)))
                              repeat (go_quiet (first | (go_at_call 23; (with_reducible refine (impl_WordOk.calls kj7 (t144.extract 0 ((ji15) : Int).toNat) true _ A18.out).mono ?_); rintro e w' ⟨rfl, ⟨nd, rfl⟩⟩; (try first | exact ⟨rfl, _, World.drewN_drewN _ _ _⟩ | exact ⟨rfl, _, Eq.trans (World.drewN_drewN _ _ _) (congrArg (World.drewN _) (Nat.add_assoc _ _ _))⟩)) | (go_at_call 23; (with_reducible refine (impl_WordOk.calls kj7 (t144.extract ((ji15) : Int).toNat t144.size) true _ A22.out).mono ?_); rintro e w' ⟨rfl, ⟨nd, rfl⟩⟩; (try first | exact ⟨rfl, _, World.drewN_drewN _ _ _⟩ | exact ⟨rfl, _, Eq.trans (World.drewN_drewN _ _ _) (congrArg (World.drewN _) (Nat.add_assoc _ _ _))⟩)) | (go_at_call 23; (with_reducible refine (impl_WordOk.calls kj7 (((t144.extract 0 ((ji15) : Int).toNat) ++ (⟨#[32]⟩ : ByteArray)) ++ (t144.extract ((ji15) : Int).toNat t144.size)) true _ A30.out).mono ?_); rintro e w' ⟨rfl, ⟨nd, rfl⟩⟩; (try first | exact ⟨rfl, _, World.drewN_drewN _ _ _⟩ | exact ⟨rfl, _, Eq.trans (World.drewN_drewN _ _ _) (congrArg (World.drewN _) (Nat.add_assoc _ _ _))⟩))); try go_wp2_with (first | (go_at_call 23; (with_reducible refine (impl_WordOk.calls kj7 (t144.extract 0 ((ji15) : Int).toNat) true _ A18.out).mono ?_); rintro e w' ⟨rfl, ⟨nd, rfl⟩⟩; (try first | exact ⟨rfl, _, World.drewN_drewN _ _ _⟩ | exact ⟨rfl, _, Eq.trans (World.drewN_drewN _ _ _) (congrArg (World.drewN _) (Nat.add_assoc _ _ _))⟩)) | (go_at_call 23; (with_reducible refine (impl_WordOk.calls kj7 (t144.extract ((ji15) : Int).toNat t144.size) true _ A22.out).mono ?_); rintro e w' ⟨rfl, ⟨nd, rfl⟩⟩; (try first | exact ⟨rfl, _, World.drewN_drewN _ _ _⟩ | exact ⟨rfl, _, Eq.trans (World.drewN_drewN _ _ _) (congrArg (World.drewN _) (Nat.add_assoc _ _ _))⟩)) | (go_at_call 23; (with_reducible refine (impl_WordOk.calls kj7 (((t144.extract 0 ((ji15) : Int).toNat) ++ (⟨#[32]⟩ : ByteArray)) ++ (t144.extract ((ji15) : Int).toNat t144.size)) true _ A30.out).mono ?_); rintro e w' ⟨rfl, ⟨nd, rfl⟩⟩; (try first | exact ⟨rfl, _, World.drewN_drewN _ _ _⟩ | exact ⟨rfl, _, Eq.trans (World.drewN_drewN _ _ _) (congrArg (World.drewN _) (Nat.add_assoc _ _ _))⟩))))
                              go_ret
                              exact ⟨by first | rfl | (simp [errW_none, errW_some] <;> rfl) | (simp only [← hji15]; first | rfl | (simp [errW_none, errW_some] <;> rfl)) | (simp [*, errW_none, errW_some] <;> rfl), by repeat (first | (with_reducible first | exact HB.out | apply below_alloc | apply pw_below_drewN | apply below_drew1) | exact HB.out)⟩
                            · replace c31 := Bool.eq_false_iff.mpr c31
                              subst c31
                              have H1 : (if t144.size + 1 ≤ 9223372036854775807 then ((impl_WordOk.f kj7 (t144 ++ (⟨#[65]⟩ : ByteArray))).bind fun t151 => (some (!t151))) else (none)) = some r := by rw [if_neg (show ¬ (false = true) by decide)] at H; exact H
                              clear H
                              have H := H1
                              clear H1
                              by_cases c32 : t144.size + 1 ≤ 9223372036854775807
                              · rw [if_pos c32] at H
                                have hji15b : ((l1.length : Int) % ((t144.size : Int) + 1)) = ji15 := by have h_ : wrap64 ((t144.size : Int) + 1) = (t144.size : Int) + 1 := (by unfold wrap64; omega); rw [h_] at hji15; exact hji15
                                have c32b0 := eq_true c32
                                have c32b1 : decide (t144.size + 1 ≤ 9223372036854775807) = true := decide_eq_true c32
                                try have c32b2 : (9223372036854775807 < t144.size + 1) = False := eq_false (Nat.not_lt.2 c32)
                                (try (have c32b3 := c32b2; simp only [ByteArray.size_append] at c32b3))
                                replace H := Option.bind_eq_some_iff.mp H
                                obtain ⟨t151, A330, H⟩ := H
                                replace H : (some (!t151)) = some r := H
                                have A33 := Aside0.mk A330
                                clear A330
                                obtain rfl := Option.some.inj H
                                go_wp2_with (first | (go_at_call 23; (with_reducible refine (impl_WordOk.calls kj7 (t144.extract 0 ((ji15) : Int).toNat) true _ A18.out).mono ?_); rintro e w' ⟨rfl, ⟨nd, rfl⟩⟩; (try first | exact ⟨rfl, _, World.drewN_drewN _ _ _⟩ | exact ⟨rfl, _, Eq.trans (World.drewN_drewN _ _ _) (congrArg (World.drewN _) (Nat.add_assoc _ _ _))⟩)) | (go_at_call 23; (with_reducible refine (impl_WordOk.calls kj7 (t144.extract ((ji15) : Int).toNat t144.size) true _ A22.out).mono ?_); rintro e w' ⟨rfl, ⟨nd, rfl⟩⟩; (try first | exact ⟨rfl, _, World.drewN_drewN _ _ _⟩ | exact ⟨rfl, _, Eq.trans (World.drewN_drewN _ _ _) (congrArg (World.drewN _) (Nat.add_assoc _ _ _))⟩)) | (go_at_call 23; (with_reducible refine (impl_WordOk.calls kj7 (((t144.extract 0 ((ji15) : Int).toNat) ++ (⟨#[32]⟩ : ByteArray)) ++ (t144.extract ((ji15) : Int).toNat t144.size)) false _ A30.out).mono ?_); rintro e w' ⟨rfl, ⟨nd, rfl⟩⟩; (try first | exact ⟨rfl, _, World.drewN_drewN _ _ _⟩ | exact ⟨rfl, _, Eq.trans (World.drewN_drewN _ _ _) (congrArg (World.drewN _) (Nat.add_assoc _ _ _))⟩)) | (go_at_call 23; (with_reducible refine (impl_WordOk.calls kj7 (t144 ++ (⟨#[65]⟩ : ByteArray)) t151 _ A33.out).mono ?_); rintro e w' ⟨rfl, ⟨nd, rfl⟩⟩; (try first | exact ⟨rfl, _, World.drewN_drewN _ _ _⟩ | exact ⟨rfl, _, Eq.trans (World.drewN_drewN _ _ _) (congrArg (World.drewN _) (Nat.add_assoc _ _ _))⟩)))
                                repeat (go_quiet (first | (go_at_call 23; (with_reducible refine (impl_WordOk.calls kj7 (t144.extract 0 ((ji15) : Int).toNat) true _ A18.out).mono ?_); rintro e w' ⟨rfl, ⟨nd, rfl⟩⟩; (try first | exact ⟨rfl, _, World.drewN_drewN _ _ _⟩ | exact ⟨rfl, _, Eq.trans (World.drewN_drewN _ _ _) (congrArg (World.drewN _) (Nat.add_assoc _ _ _))⟩)) | (go_at_call 23; (with_reducible refine (impl_WordOk.calls kj7 (t144.extract ((ji15) : Int).toNat t144.size) true _ A22.out).mono ?_); rintro e w' ⟨rfl, ⟨nd, rfl⟩⟩; (try first | exact ⟨rfl, _, World.drewN_drewN _ _ _⟩ | exact ⟨rfl, _, Eq.trans (World.drewN_drewN _ _ _) (congrArg (World.drewN _) (Nat.add_assoc _ _ _))⟩)) | (go_at_call 23; (with_reducible refine (impl_WordOk.calls kj7 (((t144.extract 0 ((ji15) : Int).toNat) ++ (⟨#[32]⟩ : ByteArray)) ++ (t144.extract ((ji15) : Int).toNat t144.size)) false _ A30.out).mono ?_); rintro e w' ⟨rfl, ⟨nd, rfl⟩⟩; (try first | exact ⟨rfl, _, World.drewN_drewN _ _ _⟩ | exact ⟨rfl, _, Eq.trans (World.drewN_drewN _ _ _) (congrArg (World.drewN _) (Nat.add_assoc _ _ _))⟩)) | (go_at_call 23; (with_reducible refine (impl_WordOk.calls kj7 (t144 ++ (⟨#[65]⟩ : ByteArray)) t151 _ A33.out).mono ?_); rintro e w' ⟨rfl, ⟨nd, rfl⟩⟩; (try first | exact ⟨rfl, _, World.drewN_drewN _ _ _⟩ | exact ⟨rfl, _, Eq.trans (World.drewN_drewN _ _ _) (congrArg (World.drewN _) (Nat.add_assoc _ _ _))⟩))); try go_wp2_with (first | (go_at_call 23; (with_reducible refine (impl_WordOk.calls kj7 (t144.extract 0 ((ji15) : Int).toNat) true _ A18.out).mono ?_); rintro e w' ⟨rfl, ⟨nd, rfl⟩⟩; (try first | exact ⟨rfl, _, World.drewN_drewN _ _ _⟩ | exact ⟨rfl, _, Eq.trans (World.drewN_drewN _ _ _) (congrArg (World.drewN _) (Nat.add_assoc _ _ _))⟩)) | (go_at_call 23; (with_reducible refine (impl_WordOk.calls kj7 (t144.extract ((ji15) : Int).toNat t144.size) true _ A22.out).mono ?_); rintro e w' ⟨rfl, ⟨nd, rfl⟩⟩; (try first | exact ⟨rfl, _, World.drewN_drewN _ _ _⟩ | exact ⟨rfl, _, Eq.trans (World.drewN_drewN _ _ _) (congrArg (World.drewN _) (Nat.add_assoc _ _ _))⟩)) | (go_at_call 23; (with_reducible refine (impl_WordOk.calls kj7 (((t144.extract 0 ((ji15) : Int).toNat) ++ (⟨#[32]⟩ : ByteArray)) ++ (t144.extract ((ji15) : Int).toNat t144.size)) false _ A30.out).mono ?_); rintro e w' ⟨rfl, ⟨nd, rfl⟩⟩; (try first | exact ⟨rfl, _, World.drewN_drewN _ _ _⟩ | exact ⟨rfl, _, Eq.trans (World.drewN_drewN _ _ _) (congrArg (World.drewN _) (Nat.add_assoc _ _ _))⟩)) | (go_at_call 23; (with_reducible refine (impl_WordOk.calls kj7 (t144 ++ (⟨#[65]⟩ : ByteArray)) t151 _ A33.out).mono ?_); rintro e w' ⟨rfl, ⟨nd, rfl⟩⟩; (try first | exact ⟨rfl, _, World.drewN_drewN _ _ _⟩ | exact ⟨rfl, _, Eq.trans (World.drewN_drewN _ _ _) (congrArg (World.drewN _) (Nat.add_assoc _ _ _))⟩))))
                                go_ret
                                exact ⟨by first | rfl | (simp [errW_none, errW_some] <;> rfl) | (simp only [← hji15]; first | rfl | (simp [errW_none, errW_some] <;> rfl)) | (simp [*, errW_none, errW_some] <;> rfl), by repeat (first | (with_reducible first | exact HB.out | apply below_alloc | apply pw_below_drewN | apply below_drew1) | exact HB.out)⟩
                              · rw [if_neg c32] at H
                                exact absurd H (by simp)
                          · rw [if_neg c29] at H
                            exact absurd H (by simp)
                        · rw [if_neg c26] at H
                          exact absurd H (by simp)
                      · replace c23 := Bool.eq_false_iff.mpr c23
                        subst c23
                        have H1 : (some false) = some r := by rw [if_neg (show ¬ (false = true) by decide)] at H; exact H
                        clear H
                        have H := H1
                        clear H1
                        obtain rfl := Option.some.inj H
                        go_wp2_with (first | (go_at_call 23; (with_reducible refine (impl_WordOk.calls kj7 (t144.extract 0 ((ji15) : Int).toNat) true _ A18.out).mono ?_); rintro e w' ⟨rfl, ⟨nd, rfl⟩⟩; (try first | exact ⟨rfl, _, World.drewN_drewN _ _ _⟩ | exact ⟨rfl, _, Eq.trans (World.drewN_drewN _ _ _) (congrArg (World.drewN _) (Nat.add_assoc _ _ _))⟩)) | (go_at_call 23; (with_reducible refine (impl_WordOk.calls kj7 (t144.extract ((ji15) : Int).toNat t144.size) false _ A22.out).mono ?_); rintro e w' ⟨rfl, ⟨nd, rfl⟩⟩; (try first | exact ⟨rfl, _, World.drewN_drewN _ _ _⟩ | exact ⟨rfl, _, Eq.trans (World.drewN_drewN _ _ _) (congrArg (World.drewN _) (Nat.add_assoc _ _ _))⟩)))
                        repeat (go_quiet (first | (go_at_call 23; (with_reducible refine (impl_WordOk.calls kj7 (t144.extract 0 ((ji15) : Int).toNat) true _ A18.out).mono ?_); rintro e w' ⟨rfl, ⟨nd, rfl⟩⟩; (try first | exact ⟨rfl, _, World.drewN_drewN _ _ _⟩ | exact ⟨rfl, _, Eq.trans (World.drewN_drewN _ _ _) (congrArg (World.drewN _) (Nat.add_assoc _ _ _))⟩)) | (go_at_call 23; (with_reducible refine (impl_WordOk.calls kj7 (t144.extract ((ji15) : Int).toNat t144.size) false _ A22.out).mono ?_); rintro e w' ⟨rfl, ⟨nd, rfl⟩⟩; (try first | exact ⟨rfl, _, World.drewN_drewN _ _ _⟩ | exact ⟨rfl, _, Eq.trans (World.drewN_drewN _ _ _) (congrArg (World.drewN _) (Nat.add_assoc _ _ _))⟩))); try go_wp2_with (first | (go_at_call 23; (with_reducible refine (impl_WordOk.calls kj7 (t144.extract 0 ((ji15) : Int).toNat) true _ A18.out).mono ?_); rintro e w' ⟨rfl, ⟨nd, rfl⟩⟩; (try first | exact ⟨rfl, _, World.drewN_drewN _ _ _⟩ | exact ⟨rfl, _, Eq.trans (World.drewN_drewN _ _ _) (congrArg (World.drewN _) (Nat.add_assoc _ _ _))⟩)) | (go_at_call 23; (with_reducible refine (impl_WordOk.calls kj7 (t144.extract ((ji15) : Int).toNat t144.size) false _ A22.out).mono ?_); rintro e w' ⟨rfl, ⟨nd, rfl⟩⟩; (try first | exact ⟨rfl, _, World.drewN_drewN _ _ _⟩ | exact ⟨rfl, _, Eq.trans (World.drewN_drewN _ _ _) (congrArg (World.drewN _) (Nat.add_assoc _ _ _))⟩))))
                        go_ret
                        exact ⟨by first | rfl | (simp [errW_none, errW_some] <;> rfl) | (simp only [← hji15]; first | rfl | (simp [errW_none, errW_some] <;> rfl)) | (simp [*, errW_none, errW_some] <;> rfl), by repeat (first | (with_reducible first | exact HB.out | apply below_alloc | apply pw_below_drewN | apply below_drew1) | exact HB.out)⟩
                    · replace c19 := Bool.eq_false_iff.mpr c19
                      subst c19
                      have H1 : (some false) = some r := by rw [if_neg (show ¬ (false = true) by decide)] at H; exact H
                      clear H
                      have H := H1
                      clear H1
                      obtain rfl := Option.some.inj H
                      go_wp2_with (first | (go_at_call 23; (with_reducible refine (impl_WordOk.calls kj7 (t144.extract 0 ((ji15) : Int).toNat) false _ A18.out).mono ?_); rintro e w' ⟨rfl, ⟨nd, rfl⟩⟩; (try first | exact ⟨rfl, _, World.drewN_drewN _ _ _⟩ | exact ⟨rfl, _, Eq.trans (World.drewN_drewN _ _ _) (congrArg (World.drewN _) (Nat.add_assoc _ _ _))⟩)))
                      repeat (go_quiet (first | (go_at_call 23; (with_reducible refine (impl_WordOk.calls kj7 (t144.extract 0 ((ji15) : Int).toNat) false _ A18.out).mono ?_); rintro e w' ⟨rfl, ⟨nd, rfl⟩⟩; (try first | exact ⟨rfl, _, World.drewN_drewN _ _ _⟩ | exact ⟨rfl, _, Eq.trans (World.drewN_drewN _ _ _) (congrArg (World.drewN _) (Nat.add_assoc _ _ _))⟩))); try go_wp2_with (first | (go_at_call 23; (with_reducible refine (impl_WordOk.calls kj7 (t144.extract 0 ((ji15) : Int).toNat) false _ A18.out).mono ?_); rintro e w' ⟨rfl, ⟨nd, rfl⟩⟩; (try first | exact ⟨rfl, _, World.drewN_drewN _ _ _⟩ | exact ⟨rfl, _, Eq.trans (World.drewN_drewN _ _ _) (congrArg (World.drewN _) (Nat.add_assoc _ _ _))⟩))))
                      go_ret
                      exact ⟨by first | rfl | (simp [errW_none, errW_some] <;> rfl) | (simp only [← hji15]; first | rfl | (simp [errW_none, errW_some] <;> rfl)) | (simp [*, errW_none, errW_some] <;> rfl), by repeat (first | (with_reducible first | exact HB.out | apply below_alloc | apply pw_below_drewN | apply below_drew1) | exact HB.out)⟩
                  · rw [if_neg c17] at H
                    exact absurd H (by simp)
                · rw [if_neg c16] at H
                  exact absurd H (by simp)

/-- THE ONE PURE STATEMENT of laws_FnWordCut: yours. -/
def laws_FnWordCut.Pure : Prop := ∀ (l0 : List Int) (l1 : List Int), l0.length ≤ maxLen → l0.length * 1 ≤ 140737488351232 → (∀ x ∈ l0, (Lit.int .u8 x).wf = true) → l1.length ≤ maxLen → l1.length * 1 ≤ 140737488351232 → (∀ x ∈ l1, (Lit.int .u8 x).wf = true) → ∃ k, laws_FnWordCut.f k l0 l1 = some true
theorem laws_FnWordCut.walk (P : laws_FnWordCut.Pure) (a0 : Option Addr) (len0 cap0 : Nat) (z0 : List Int) (a1 : Option Addr) (len1 cap1 : Nat) (z1 : List Int) (w : World) (w0 : (a0 = none ∧ len0 = 0 ∧ cap0 = 0 ∧ z0 = []) ∨ ∃ x, a0 = some x ∧ len0 ≤ cap0 ∧ cap0 ≤ maxLen ∧ z0.length = cap0 ∧ (∀ i, i < z0.length → w.cell? (x.add i) = some (.int .u8 (z0.getD i 0))) ∧ ∀ n ∈ z0, (Lit.int .u8 n).wf = true) (y0 : len0 * 1 ≤ 140737488351232) (w1 : (a1 = none ∧ len1 = 0 ∧ cap1 = 0 ∧ z1 = []) ∨ ∃ x, a1 = some x ∧ len1 ≤ cap1 ∧ cap1 ≤ maxLen ∧ z1.length = cap1 ∧ (∀ i, i < z1.length → w.cell? (x.add i) = some (.int .u8 (z1.getD i 0))) ∧ ∀ n ∈ z1, (Lit.int .u8 n).wf = true) (y1 : len1 * 1 ≤ 140737488351232) :
    Calls Try.prog 12 #[.slice a0 len0 cap0, .slice a1 len1 cap1] w fun e w' => e = .returned (.bool true) ∧ Below w.heap.size w w' := by
  obtain ⟨l0, rfl, hr0, hm0, hw0, hc0⟩ := ReadsInt.ofRowC w0
  obtain ⟨l1, rfl, hr1, hm1, hw1, hc1⟩ := ReadsInt.ofRowC w1
  obtain ⟨k, h⟩ := P l0 l1 hm0 y0 hw0 hm1 y1 hw1
  refine (laws_FnWordCut.calls k _ _ l0 _ _ l1 true w (Kd.C_of_reads (d := (0 : Int)) (h1 := fun _ => rfl) hr0) hc0 (Kd.C_of_reads (d := (0 : Int)) (h1 := fun _ => rfl) hr1) hc1 h).mono ?_
  rintro e w' ⟨rfl, hd⟩
  exact ⟨rfl, hd⟩

end Go.Proofs.Ytngmpffcgglngaa.X
