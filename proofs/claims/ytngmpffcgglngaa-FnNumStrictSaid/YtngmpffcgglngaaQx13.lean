-- Written by a program of this session's (wip/tools) out of the translation. Not trusted: Lean checks it.
import Derived.Test.YtngmpffcgglngaaQx0
import Derived.Test.YtngmpffcgglngaaQx2
import Derived.Test.YtngmpffcgglngaaQx3
import Derived.Test.YtngmpffcgglngaaQx4
import Derived.Test.YtngmpffcgglngaaQx6
import Derived.Test.YtngmpffcgglngaaQx12
namespace Go.Proofs.Ytngmpffcgglngaa.Q
open Go.RowKit Go.Proofs.YtngmpffcgglngaaW.PrintWords Go.Proofs.YtngmpffcgglngaaW.PrintLast Go.Proofs.YtngmpffcgglngaaW.PrintMore
attribute [local go_sem] max2_int min2_int max_two min_two max_three min_three max_four min_four   -- for this text's walks alone
set_option linter.unusedVariables false
set_option linter.unusedSimpArgs false

/-! ### laws_FnNumStrict: function 11 -/
def laws_FnNumStrict.j0 : Nat → ByteArray → Int → Int → Int → Bool → Int → Int → Bool → Bool → Option (Bool)
  | 0, _, _, _, _, _, _, _, _, _ => none
  | k + 1, x3, x4, x5, x6, x7, x8, x9, x10, x49 => if x49 = true then (if (x10 == x7) = true then (if x8 = x5 then (some (x9 == x6)) else (some false)) else (some false)) else (if 0 < (x3.size : Int) then ((laws_lkTop.f k x4).bind fun t296 => (if (wrap64 (t296 + 1)) = 0 then (none) else ((impl_NumWrite.f k x8 x4 (wrap64 (Int.tdiv (wrap64 (bt x3 0)) (wrap64 (t296 + 1))))).bind fun t297 => (if 0 ≤ x9 then (if x9 ≤ (x3.size : Int) then (some (t297.toList == (x3.extract 0 (x9 : Int).toNat).toList)) else (none)) else (none))))) else (none))
def laws_FnNumStrict.f (k : Nat) (l0 : List Int) : Option (Bool) := if (l0.length : Int) > 1048576 then (some true) else ((spec_DrawNumRead.f k l0).bind fun bt288 => ((spec_NumRead.f k bt288.1 bt288.2).bind fun bt290 => ((impl_NumRead.f k bt288.1 bt288.2).bind fun bt293 => (if (bt293.2.2 != bt290.2.2) = true then (laws_FnNumStrict.j0 k bt288.1 bt288.2 bt290.1 bt290.2.1 bt290.2.2 bt293.1 bt293.2.1 bt293.2.2 true) else (if bt293.1 = bt290.1 then (if bt293.2.1 = bt290.2.1 then (laws_FnNumStrict.j0 k bt288.1 bt288.2 bt290.1 bt290.2.1 bt290.2.2 bt293.1 bt293.2.1 bt293.2.2 (!bt293.2.2)) else (laws_FnNumStrict.j0 k bt288.1 bt288.2 bt290.1 bt290.2.1 bt290.2.2 bt293.1 bt293.2.1 bt293.2.2 true)) else (laws_FnNumStrict.j0 k bt288.1 bt288.2 bt290.1 bt290.2.1 bt290.2.2 bt293.1 bt293.2.1 bt293.2.2 true))))))
theorem laws_FnNumStrict.mono_l : ∀ k, (∀ y0 y1 y2 y3 y4 y5 y6 y7 y8, LeO (laws_FnNumStrict.j0 k y0 y1 y2 y3 y4 y5 y6 y7 y8) (laws_FnNumStrict.j0 (k + 1) y0 y1 y2 y3 y4 y5 y6 y7 y8))
  | 0 => fun _ _ _ _ _ _ _ _ _ r h => by simp [laws_FnNumStrict.j0] at h
  | k + 1 => by
    have ih0 := laws_FnNumStrict.mono_l k
    · intro y0 y1 y2 y3 y4 y5 y6 y7 y8
      unfold laws_FnNumStrict.j0
      repeat' first
      | (with_reducible exact ih0 _ _ _ _ _ _ _ _ _)
      | (with_reducible exact impl_NumRead.mono _ _ _)
      | (with_reducible exact impl_NumWrite.mono _ _ _ _)
      | (with_reducible exact laws_lkTop.mono _ _)
      | (with_reducible exact spec_DrawNumRead.mono _ _)
      | (with_reducible exact spec_NumRead.mono _ _ _)
      | (with_reducible exact LeO.refl _)
      | (with_reducible exact LeO.none _)
      | (with_reducible refine LeO.ite ?_ ?_)
      | (with_reducible refine LeO.bind ?_ (fun _ => ?_))
      | exact ih0 _ _ _ _ _ _ _ _ _
      | exact impl_NumRead.mono _ _ _
      | exact impl_NumWrite.mono _ _ _ _
      | exact laws_lkTop.mono _ _
      | exact spec_DrawNumRead.mono _ _
      | exact spec_NumRead.mono _ _ _
      | exact LeO.none _
      | refine LeO.ite ?_ ?_
      | refine LeO.bind ?_ (fun _ => ?_)
theorem laws_FnNumStrict.mono : ∀ a0 k, LeO (laws_FnNumStrict.f k a0) (laws_FnNumStrict.f (k + 1) a0) := by
  intro a0 k
  have ih0 := laws_FnNumStrict.mono_l k
  unfold laws_FnNumStrict.f
  repeat' first
      | (with_reducible exact ih0 _ _ _ _ _ _ _ _ _)
      | (with_reducible exact impl_NumRead.mono _ _ _)
      | (with_reducible exact impl_NumWrite.mono _ _ _ _)
      | (with_reducible exact laws_lkTop.mono _ _)
      | (with_reducible exact spec_DrawNumRead.mono _ _)
      | (with_reducible exact spec_NumRead.mono _ _ _)
      | (with_reducible exact LeO.refl _)
      | (with_reducible exact LeO.none _)
      | (with_reducible refine LeO.ite ?_ ?_)
      | (with_reducible refine LeO.bind ?_ (fun _ => ?_))
      | exact ih0 _ _ _ _ _ _ _ _ _
      | exact impl_NumRead.mono _ _ _
      | exact impl_NumWrite.mono _ _ _ _
      | exact laws_lkTop.mono _ _
      | exact spec_DrawNumRead.mono _ _
      | exact spec_NumRead.mono _ _ _
      | exact LeO.none _
      | refine LeO.ite ?_ ?_
      | refine LeO.bind ?_ (fun _ => ?_)
def laws_FnNumStrict.T8 : Bool × List (List Nat × List Nat) := (true, [([], []), ([], []), ([], []), ([2], [2]), ([3], [3]), ([], []), ([5], [5]), ([6], [6]), ([4, 7], [4, 7]), ([0, 1, 8, 6], [0, 1, 8]), ([], []), ([], []), ([10, 11], [10, 11]), ([9, 12], [9, 12]), ([13, 9, 0, 1, 2, 3, 4, 5, 6, 7, 8, 9, 10, 11, 12, 13], [13])])
def laws_FnNumStrict.B8 : List Nat := [0, 0, 0, 4, 12, 0, 32, 96, 252, 511, 0, 0, 3072, 8191, 16383]
theorem laws_FnNumStrict.tab8 : rtab .any (opsOf Try.f11 8) = laws_FnNumStrict.T8 := by kernel_rfl
theorem laws_FnNumStrict.bits8 : waitsOk laws_FnNumStrict.T8.2 laws_FnNumStrict.B8 = true := by kernel_rfl
set_option maxHeartbeats 8000000 in
set_option maxRecDepth 100000 in
theorem laws_FnNumStrict.calls (k : Nat) (A0 : Option Addr) (c0 : Nat) (l0 : List Int) (r : Bool) (w : World) (hr0 : Kd.C (Kd.int .u8) w A0 l0.length l0) (hc0 : l0.length ≤ c0) (h : laws_FnNumStrict.f k l0 = some r) :
    Calls Try.prog 11 #[.slice A0 l0.length c0] w fun e w' => e = .returned (.bool r) ∧ Below w.heap.size w w' := by
  have HR0 := Aside0.mk hr0
  have HC0 := Aside0.mk hc0
  clear hr0 hc0
  have HB := Aside0.mk (Below.refl w.heap.size w)
  have H : (if (l0.length : Int) > 1048576 then (some true) else ((spec_DrawNumRead.f k l0).bind fun bt288 => ((spec_NumRead.f k bt288.1 bt288.2).bind fun bt290 => ((impl_NumRead.f k bt288.1 bt288.2).bind fun bt293 => (if (bt293.2.2 != bt290.2.2) = true then (laws_FnNumStrict.j0 k bt288.1 bt288.2 bt290.1 bt290.2.1 bt290.2.2 bt293.1 bt293.2.1 bt293.2.2 true) else (if bt293.1 = bt290.1 then (if bt293.2.1 = bt290.2.1 then (laws_FnNumStrict.j0 k bt288.1 bt288.2 bt290.1 bt290.2.1 bt290.2.2 bt293.1 bt293.2.1 bt293.2.2 (!bt293.2.2)) else (laws_FnNumStrict.j0 k bt288.1 bt288.2 bt290.1 bt290.2.1 bt290.2.2 bt293.1 bt293.2.1 bt293.2.2 true)) else (laws_FnNumStrict.j0 k bt288.1 bt288.2 bt290.1 bt290.2.1 bt290.2.2 bt293.1 bt293.2.1 bt293.2.2 true))))))) = some r := h
  clear h
  by_cases c2 : (l0.length : Int) > 1048576
  · rw [if_pos c2] at H
    have c2b0 : decide (1048576 < (l0.length : Int)) = true := decide_eq_true c2
    have c2b1 : decide (1048576 < l0.length) = true := decide_eq_true (by omega)
    clear c2
    obtain rfl := Option.some.inj H
    go_enter Try.func11, Try.ntmps11
    go_wp2
    go_ret
    exact ⟨by first | rfl | (simp [errW_none, errW_some] <;> rfl) | (simp [*, errW_none, errW_some] <;> rfl), by repeat (first | (with_reducible first | exact HB.out | apply below_alloc | apply pw_below_drewN | apply below_drew1) | exact HB.out)⟩
  · rw [if_neg c2] at H
    have c2b0 : decide (1048576 < (l0.length : Int)) = false := decide_eq_false c2
    have c2b1 : decide (1048576 < l0.length) = false := decide_eq_false (by omega)
    clear c2
    replace H := Option.bind_eq_some_iff.mp H
    obtain ⟨⟨t288, t289⟩, A30, H⟩ := H
    replace H : ((spec_NumRead.f k t288 t289).bind fun bt290 => ((impl_NumRead.f k t288 t289).bind fun bt293 => (if (bt293.2.2 != bt290.2.2) = true then (laws_FnNumStrict.j0 k t288 t289 bt290.1 bt290.2.1 bt290.2.2 bt293.1 bt293.2.1 bt293.2.2 true) else (if bt293.1 = bt290.1 then (if bt293.2.1 = bt290.2.1 then (laws_FnNumStrict.j0 k t288 t289 bt290.1 bt290.2.1 bt290.2.2 bt293.1 bt293.2.1 bt293.2.2 (!bt293.2.2)) else (laws_FnNumStrict.j0 k t288 t289 bt290.1 bt290.2.1 bt290.2.2 bt293.1 bt293.2.1 bt293.2.2 true)) else (laws_FnNumStrict.j0 k t288 t289 bt290.1 bt290.2.1 bt290.2.2 bt293.1 bt293.2.1 bt293.2.2 true))))) = some r := H
    have A3 := Aside0.mk A30
    clear A30
    replace H := Option.bind_eq_some_iff.mp H
    obtain ⟨⟨t290, t291, t292⟩, A40, H⟩ := H
    replace H : ((impl_NumRead.f k t288 t289).bind fun bt293 => (if (bt293.2.2 != t292) = true then (laws_FnNumStrict.j0 k t288 t289 t290 t291 t292 bt293.1 bt293.2.1 bt293.2.2 true) else (if bt293.1 = t290 then (if bt293.2.1 = t291 then (laws_FnNumStrict.j0 k t288 t289 t290 t291 t292 bt293.1 bt293.2.1 bt293.2.2 (!bt293.2.2)) else (laws_FnNumStrict.j0 k t288 t289 t290 t291 t292 bt293.1 bt293.2.1 bt293.2.2 true)) else (laws_FnNumStrict.j0 k t288 t289 t290 t291 t292 bt293.1 bt293.2.1 bt293.2.2 true)))) = some r := H
    have A4 := Aside0.mk A40
    clear A40
    replace H := Option.bind_eq_some_iff.mp H
    obtain ⟨⟨t293, t294, t295⟩, A50, H⟩ := H
    replace H : (if (t295 != t292) = true then (laws_FnNumStrict.j0 k t288 t289 t290 t291 t292 t293 t294 t295 true) else (if t293 = t290 then (if t294 = t291 then (laws_FnNumStrict.j0 k t288 t289 t290 t291 t292 t293 t294 t295 (!t295)) else (laws_FnNumStrict.j0 k t288 t289 t290 t291 t292 t293 t294 t295 true)) else (laws_FnNumStrict.j0 k t288 t289 t290 t291 t292 t293 t294 t295 true))) = some r := H
    have A5 := Aside0.mk A50
    clear A50
    have HC6 := Aside0.mk H
    clear H
    go_enter Try.func11, Try.ntmps11
    go_upto_region 6 with (first | ((with_reducible refine gate_callee (f := 21) rfl ?_); refine goesL_ (some 16) rfl rfl Try.func21 (by kernel_rfl) rfl #[.slice A0 l0.length c0] rfl (by (try simp only [List.map_toArray, List.map_cons, List.map_nil]); first | done | rfl | (simp only [List.length_drop, List.length_take]; rfl)) ?_; (with_reducible refine (spec_DrawNumRead.calls k _ _ l0 t288 t289 _ ?side1 ?side2 A3.out).mono ?_); (case side1 => repeat (first | exact HR0.out | (with_reducible refine Kd.C_alloc ?_ _) | (with_reducible refine Kd.C_drewN ?_ _) | (with_reducible refine Kd.C_drew ?_))); (case side2 => exact HC0.out); rintro e w7 ⟨rfl, hb⟩; refine ⟨_, rfl, ?_⟩; have n0_ := Aside0.mk (below_step (by repeat (first | (with_reducible first | exact HB.out | apply below_alloc | apply pw_below_drewN | apply below_drew1) | exact HB.out)) hb); clear HB; have HB := n0_; clear n0_; (try clear hb); (try clear hb2); (try clear hk); (try clear hi)) | ((with_reducible refine gate_callee (f := 17) rfl ?_); refine goesL_ (some 22) rfl rfl Try.func17 (by kernel_rfl) rfl #[.string t288, .int .i64 t289] rfl (by (try simp only [List.map_toArray, List.map_cons, List.map_nil]); first | done | rfl | (simp only [List.length_drop, List.length_take]; rfl)) ?_; (with_reducible refine (spec_NumRead.calls k t288 t289 t290 t291 t292 _ A4.out).mono ?_); rintro e w' ⟨rfl, ⟨nd, rfl⟩⟩; refine ⟨_, rfl, ?_⟩) | ((with_reducible refine gate_callee (f := 18) rfl ?_); refine goesL_ (some 29) rfl rfl Try.func18 (by kernel_rfl) rfl #[.string t288, .int .i64 t289] rfl (by (try simp only [List.map_toArray, List.map_cons, List.map_nil]); first | done | rfl | (simp only [List.length_drop, List.length_take]; rfl)) ?_; (with_reducible refine (impl_NumRead.calls k t288 t289 t293 t294 t295 _ A5.out).mono ?_); rintro e w8 ⟨rfl, hb⟩; refine ⟨_, rfl, ?_⟩; have n0_ := Aside0.mk (below_step (by repeat (first | (with_reducible first | exact HB.out | apply below_alloc | apply pw_below_drewN | apply below_drew1) | exact HB.out)) hb); clear HB; have HB := n0_; clear n0_; (try clear hb); (try clear hb2); (try clear hk); (try clear hi)))
    (try simp only [Act.put, List.setIfInBounds_toArray, List.set_cons_zero, List.set_cons_succ])
    go_cut [49] (fun v49 wc => ∃ (kq : Nat) (x49_5 : Bool), v49 = .bool x49_5 ∧ Aside0 (laws_FnNumStrict.j0 kq t288 t289 t290 t291 t292 t293 t294 t295 x49_5 = some r) ∧ Aside0 (kq ≤ k) ∧ Aside0 (Below w.heap.size w wc))
    case first =>
      have H := HC6.out
      clear HC6
      by_cases c9 : (t295 != t292) = true
      · rw [if_pos c9] at H
        have c9b0 : (t295 != t292) = true := c9
        (try (have c9b1 : decide (t295 = t292) = false := by simpa using c9))
        (try (have c9b2 : (t295 == t292) = false := by simpa using c9))
        (try (have c9b3 : ¬ (t295 = t292) := by simpa using c9))
        clear c9
        (first | rw [c9b0] | (simp only [i64_w, i32_w]; rw [c9b0]) | skip)
        have H' := Aside0.mk H
        clear H
        go_wp2
        go_meet
        case rel => exact ⟨_, (true), (by first | rfl | (simp; done) | (simp [*]; done)), H', ⟨by first | omega | exact Nat.le_refl _⟩, ⟨by repeat (first | (with_reducible first | exact HB.out | apply below_alloc | apply pw_below_drewN | apply below_drew1) | exact HB.out)⟩⟩
      · rw [if_neg c9] at H
        have c9b0 : (t295 != t292) = false := by simpa using c9
        (try (have c9b1 : decide (t295 = t292) = true := by simpa using c9))
        (try (have c9b2 : (t295 == t292) = true := by simpa using c9))
        clear c9
        (first | rw [c9b0] | (simp only [i64_w, i32_w]; rw [c9b0]) | skip)
        by_cases c10 : t293 = t290
        · rw [if_pos c10] at H
          have c10b0 : (t293 == t290) = true := beq_iff_eq.mpr c10
          have c10b1 : (t293 != t290) = false := bne_eq_false_iff_eq.mpr c10
          clear c10
          by_cases c11 : t294 = t291
          · rw [if_pos c11] at H
            have c11b0 : (t294 == t291) = true := beq_iff_eq.mpr c11
            have c11b1 : (t294 != t291) = false := bne_eq_false_iff_eq.mpr c11
            clear c11
            have H' := Aside0.mk H
            clear H
            go_wp2
            go_meet
            case rel => exact ⟨_, (!t295), (by first | rfl | (simp; done) | (simp [*]; done)), H', ⟨by first | omega | exact Nat.le_refl _⟩, ⟨by repeat (first | (with_reducible first | exact HB.out | apply below_alloc | apply pw_below_drewN | apply below_drew1) | exact HB.out)⟩⟩
          · rw [if_neg c11] at H
            have c11b0 : (t294 == t291) = false := beq_eq_false_iff_ne.mpr c11
            have c11b1 : (t294 != t291) = true := bne_iff_ne.mpr c11
            have H' := Aside0.mk H
            clear H
            go_wp2
            go_meet
            case rel => exact ⟨_, (true), (by first | rfl | (simp; done) | (simp [*]; done)), H', ⟨by first | omega | exact Nat.le_refl _⟩, ⟨by repeat (first | (with_reducible first | exact HB.out | apply below_alloc | apply pw_below_drewN | apply below_drew1) | exact HB.out)⟩⟩
        · rw [if_neg c10] at H
          have c10b0 : (t293 == t290) = false := beq_eq_false_iff_ne.mpr c10
          have c10b1 : (t293 != t290) = true := bne_iff_ne.mpr c10
          have H' := Aside0.mk H
          clear H
          go_wp2
          go_meet
          case rel => exact ⟨_, (true), (by first | rfl | (simp; done) | (simp [*]; done)), H', ⟨by first | omega | exact Nat.le_refl _⟩, ⟨by repeat (first | (with_reducible first | exact HB.out | apply below_alloc | apply pw_below_drewN | apply below_drew1) | exact HB.out)⟩⟩
    case rest =>
      clear HC6
      try clear c1
      try clear c2
      try clear c2b0
      try clear c2b1
      try clear p2
      try clear c9
      try clear c9b0
      try clear c9b1
      try clear c9b2
      try clear c10
      try clear c10b0
      try clear c10b1
      try clear c11
      try clear c11b0
      try clear c11b1
      obtain ⟨kq, x49_5, rfl, HA, HJ5, HB⟩ := hcut
      cases kq with
      | zero => exact absurd HA.out (by simp [laws_FnNumStrict.j0])
      | succ kj5 =>
        have H := HA.out
        clear HA
        simp only [laws_FnNumStrict.j0] at H
        by_cases c12 : x49_5 = true
        · subst c12
          have H1 : (if (t295 == t292) = true then (if t293 = t290 then (some (t294 == t291)) else (some false)) else (some false)) = some r := by rw [if_pos rfl] at H; exact H
          clear H
          have H := H1
          clear H1
          by_cases c13 : (t295 == t292) = true
          · rw [if_pos c13] at H
            have c13b0 : (t295 == t292) = true := c13
            (try (have c13b1 : decide (t295 = t292) = true := by simpa using c13))
            (try (have c13b2 : (t295 == t292) = true := by simpa using c13))
            clear c13
            by_cases c14 : t293 = t290
            · rw [if_pos c14] at H
              have c14b0 : (t293 == t290) = true := beq_iff_eq.mpr c14
              have c14b1 : (t293 != t290) = false := bne_eq_false_iff_eq.mpr c14
              clear c14
              obtain rfl := Option.some.inj H
              go_wp2
              go_ret
              exact ⟨by first | rfl | (simp [errW_none, errW_some] <;> rfl) | (simp [*, errW_none, errW_some] <;> rfl), by repeat (first | (with_reducible first | exact HB.out | apply below_alloc | apply pw_below_drewN | apply below_drew1) | exact HB.out)⟩
            · rw [if_neg c14] at H
              have c14b0 : (t293 == t290) = false := beq_eq_false_iff_ne.mpr c14
              have c14b1 : (t293 != t290) = true := bne_iff_ne.mpr c14
              obtain rfl := Option.some.inj H
              go_wp2
              go_ret
              exact ⟨by first | rfl | (simp [errW_none, errW_some] <;> rfl) | (simp [*, errW_none, errW_some] <;> rfl), by repeat (first | (with_reducible first | exact HB.out | apply below_alloc | apply pw_below_drewN | apply below_drew1) | exact HB.out)⟩
          · rw [if_neg c13] at H
            have c13b0 : (t295 == t292) = false := by simpa using c13
            (try (have c13b1 : decide (t295 = t292) = false := by simpa using c13))
            (try (have c13b2 : (t295 == t292) = false := by simpa using c13))
            (try (have c13b3 : ¬ (t295 = t292) := by simpa using c13))
            clear c13
            obtain rfl := Option.some.inj H
            go_wp2
            go_ret
            exact ⟨by first | rfl | (simp [errW_none, errW_some] <;> rfl) | (simp [*, errW_none, errW_some] <;> rfl), by repeat (first | (with_reducible first | exact HB.out | apply below_alloc | apply pw_below_drewN | apply below_drew1) | exact HB.out)⟩
        · replace c12 := Bool.eq_false_iff.mpr c12
          subst c12
          have H1 : (if 0 < (t288.size : Int) then ((laws_lkTop.f kj5 t289).bind fun t296 => (if (wrap64 (t296 + 1)) = 0 then (none) else ((impl_NumWrite.f kj5 t293 t289 (wrap64 (Int.tdiv (wrap64 (bt t288 0)) (wrap64 (t296 + 1))))).bind fun t297 => (if 0 ≤ t294 then (if t294 ≤ (t288.size : Int) then (some (t297.toList == (t288.extract 0 (t294 : Int).toNat).toList)) else (none)) else (none))))) else (none)) = some r := by rw [if_neg (show ¬ (false = true) by decide)] at H; exact H
          clear H
          have H := H1
          clear H1
          by_cases c15 : 0 < (t288.size : Int)
          · rw [if_pos c15] at H
            have c15b0 : decide (0 < (t288.size : Int)) = true := decide_eq_true c15
            have c15b1 : decide (0 < t288.size) = true := decide_eq_true (by omega)
            clear c15
            replace H := Option.bind_eq_some_iff.mp H
            obtain ⟨t296, A170, H⟩ := H
            replace H : (if (wrap64 (t296 + 1)) = 0 then (none) else ((impl_NumWrite.f kj5 t293 t289 (wrap64 (Int.tdiv (wrap64 (bt t288 0)) (wrap64 (t296 + 1))))).bind fun t297 => (if 0 ≤ t294 then (if t294 ≤ (t288.size : Int) then (some (t297.toList == (t288.extract 0 (t294 : Int).toNat).toList)) else (none)) else (none)))) = some r := H
            have A17 := Aside0.mk A170
            clear A170
            by_cases c18 : (wrap64 (t296 + 1)) = 0
            · rw [if_pos c18] at H
              exact absurd H (by simp)
            · rw [if_neg c18] at H
              have c18b0 : ((wrap64 (t296 + 1)) == 0) = false := beq_eq_false_iff_ne.mpr c18
              have c18b1 : ((wrap64 (t296 + 1)) != 0) = true := bne_iff_ne.mpr c18
              replace H := Option.bind_eq_some_iff.mp H
              obtain ⟨t297, A190, H⟩ := H
              replace H : (if 0 ≤ t294 then (if t294 ≤ (t288.size : Int) then (some (t297.toList == (t288.extract 0 (t294 : Int).toNat).toList)) else (none)) else (none)) = some r := H
              have A19 := Aside0.mk A190
              clear A190
              by_cases c20 : 0 ≤ t294
              · rw [if_pos c20] at H
                have c20b0 := eq_true c20
                have c20b1 : decide (0 ≤ t294) = true := decide_eq_true c20
                clear c20
                by_cases c21 : t294 ≤ (t288.size : Int)
                · rw [if_pos c21] at H
                  have c21b0 := eq_true c21
                  have c21b1 : decide (t294 ≤ (t288.size : Int)) = true := decide_eq_true c21
                  clear c21
                  obtain rfl := Option.some.inj H
                  try go_wp2
                  have n0_ := Aside0.mk (below_drew1 HB.out)
                  clear HB
                  have HB := n0_
                  clear n0_
                  have p16 : 0 ≤ (0 : Int) := (by omega)
                  have q16 : 0 < t288.size := (by have : (0 : Int) < (t288.size : Int) := of_decide_eq_true (by first | (with_reducible assumption) | assumption); omega)
                  have hx16 : ∀ h : 0 < t288.size, ((t288[0]'h).toNat : Int) = bt t288 0 := bt_at t288 0
                  clear p16
                  have qi16 : (0 < (t288.size : Int)) = True := eq_true (of_decide_eq_true (by first | (with_reducible assumption) | assumption))
                  replace q16 := eq_true q16
                  refine start_ (n := 15) (S := fun w' => True) (ds := []) #[false, false, false, false, false, false, false, false, false, false, false, false, false, false, false] (by kernel_rfl) rfl rfl trivial (fun hHeld => ?_); refine with_tabW laws_FnNumStrict.tab8 laws_FnNumStrict.bits8 (fun HT_ HW_ => ?_)
                  generalize wc.drew = w22 at HB hHeld ⊢
                  refine pure_ (i := 0) (N := some 63) (v := ?_) (a' := ?_) #[true, false, false, false, false, false, false, false, false, false, false, false, false, false, false] rfl rfl (any_of HT_.out (by kernel_rfl)) (fun _ _ _ h => h) (Or.inl ⟨by rfl, ?_⟩) ?_ ?_
                  rotate_left
                  · intro w'
                    go_simp
                    with_reducible rfl
                  rotate_left
                  · simp only [Act.put, List.setIfInBounds_toArray, List.set_cons_zero, List.set_cons_succ, i64_w, i32_w]
                    rfl
                  refine pure_ (i := 1) (N := some 64) (v := ?_) (a' := ?_) #[true, true, false, false, false, false, false, false, false, false, false, false, false, false, false] rfl rfl (any_of HT_.out (by kernel_rfl)) (fun _ _ _ h => h) (Or.inl ⟨by rfl, ?_⟩) ?_ ?_
                  rotate_left
                  · intro w'
                    go_simp
                    with_reducible rfl
                  rotate_left
                  · simp only [Act.put, List.setIfInBounds_toArray, List.set_cons_zero, List.set_cons_succ, i64_w, i32_w]
                    rfl
                  refine pure_ (i := 2) (N := some 65) (v := ?_) (a' := ?_) #[true, true, true, false, false, false, false, false, false, false, false, false, false, false, false] rfl rfl (any_of HT_.out (by kernel_rfl)) (fun _ _ _ h => h) (Or.inl ⟨by rfl, ?_⟩) ?_ ?_
                  rotate_left
                  · intro w'
                    go_simp
                    with_reducible rfl
                  rotate_left
                  · simp only [Act.put, List.setIfInBounds_toArray, List.set_cons_zero, List.set_cons_succ, i64_w, i32_w]
                    rfl
                  refine pure_ (i := 5) (N := some 68) (v := ?_) (a' := ?_) #[true, true, true, false, false, true, false, false, false, false, false, false, false, false, false] rfl rfl (any_of HT_.out (by kernel_rfl)) (fun _ _ _ h => h) (Or.inl ⟨by rfl, ?_⟩) ?_ ?_
                  rotate_left
                  · intro w'
                    go_simp
                    with_reducible rfl
                  rotate_left
                  · simp only [Act.put, List.setIfInBounds_toArray, List.set_cons_zero, List.set_cons_succ, i64_w, i32_w]
                    rfl
                  refine pure_ (i := 10) (N := some 73) (v := ?_) (a' := ?_) #[true, true, true, false, false, true, false, false, false, false, true, false, false, false, false] rfl rfl (any_of HT_.out (by kernel_rfl)) (fun _ _ _ h => h) (Or.inl ⟨by rfl, ?_⟩) ?_ ?_
                  rotate_left
                  · intro w'
                    go_simp
                    with_reducible rfl
                  rotate_left
                  · simp only [Act.put, List.setIfInBounds_toArray, List.set_cons_zero, List.set_cons_succ, i64_w, i32_w]
                    rfl
                  refine pure_ (i := 11) (N := some 74) (v := ?_) (a' := ?_) #[true, true, true, false, false, true, false, false, false, false, true, true, false, false, false] rfl rfl (any_of HT_.out (by kernel_rfl)) (fun _ _ _ h => h) (Or.inl ⟨by rfl, ?_⟩) ?_ ?_
                  rotate_left
                  · intro w'
                    go_simp
                    with_reducible rfl
                  rotate_left
                  · simp only [Act.put, List.setIfInBounds_toArray, List.set_cons_zero, List.set_cons_succ, i64_w, i32_w]
                    rfl
                  refine pure_ (i := 12) (N := some 75) (v := ?_) (a' := ?_) #[true, true, true, false, false, true, false, false, false, false, true, true, true, false, false] rfl rfl (any_of HT_.out (by kernel_rfl)) (fun _ _ _ h => h) (Or.inl ⟨by rfl, ?_⟩) ?_ ?_
                  rotate_left
                  · intro w'
                    go_simp
                    with_reducible rfl
                  rotate_left
                  · simp only [Act.put, List.setIfInBounds_toArray, List.set_cons_zero, List.set_cons_succ, i64_w, i32_w]
                    rfl
                  refine take_ (i := 3) (N := some 66) (v := ?_) (a' := ?_) #[true, true, true, true, false, true, false, false, false, false, true, true, true, false, false] rfl rfl (take_ofW HT_.out HW_.out (by kernel_rfl)) (fun _ _ _ h => h) (Or.inl ⟨by rfl, ?_⟩) hHeld ?_ ?_
                  rotate_left
                  · intro w' _
                    go_simp
                    with_reducible rfl
                  rotate_left
                  · simp only [Act.put, List.setIfInBounds_toArray, List.set_cons_zero, List.set_cons_succ, i64_w, i32_w]
                    rfl
                  refine pure_ (i := 4) (N := some 67) (v := ?_) (a' := ?_) #[true, true, true, true, true, true, false, false, false, false, true, true, true, false, false] rfl rfl (any_of HT_.out (by kernel_rfl)) (fun _ _ _ h => h) (Or.inl ⟨by rfl, ?_⟩) ?_ ?_
                  rotate_left
                  · intro w'
                    go_simp
                    with_reducible rfl
                  rotate_left
                  · simp only [Act.put, List.setIfInBounds_toArray, List.set_cons_zero, List.set_cons_succ, i64_w, i32_w]
                    rfl
                  refine one_ (i := 6) (N := some 69) #[true, true, true, true, true, true, true, false, false, false, true, true, true, false, false] rfl rfl (one_of HT_.out (by kernel_rfl)) (by decide) (fun K hK => ?_)
                  refine goes_ Try.func20 (by kernel_rfl) rfl #[.int .i64 t289] (by rfl) rfl rfl (by (try simp only [List.map_toArray, List.map_cons, List.map_nil]); first | done | rfl | (simp only [List.length_drop, List.length_take]; rfl)) ?_
                  with_reducible refine (laws_lkTop.calls kj5 t289 t296 _ A17.out).mono ?_
                  rintro e w' ⟨rfl, ⟨nd, rfl⟩⟩
                  refine ⟨_, rfl, ?_⟩
                  refine hK.out _ _ trivial (fun hHeld => ?_)
                  clear hK K
                  refine norm_ (a' := ?_) ?_ ?_
                  rotate_left
                  · show Act.put _ (some 69) _ = _
                    simp only [Act.put, List.setIfInBounds_toArray, List.set_cons_zero, List.set_cons_succ, i64_w, i32_w]
                    rfl
                  refine pure_ (i := 7) (N := some 70) (v := ?_) (a' := ?_) #[true, true, true, true, true, true, true, true, false, false, true, true, true, false, false] rfl rfl (any_of HT_.out (by kernel_rfl)) (fun _ _ _ h => h) (Or.inl ⟨by rfl, ?_⟩) ?_ ?_
                  rotate_left
                  · intro w'
                    go_simp
                    with_reducible rfl
                  rotate_left
                  · simp only [Act.put, List.setIfInBounds_toArray, List.set_cons_zero, List.set_cons_succ, i64_w, i32_w]
                    rfl
                  refine pure_ (i := 8) (N := some 71) (v := ?_) (a' := ?_) #[true, true, true, true, true, true, true, true, true, false, true, true, true, false, false] rfl rfl (any_of HT_.out (by kernel_rfl)) (fun _ _ _ h => h) (Or.inl ⟨by rfl, ?_⟩) ?_ ?_
                  rotate_left
                  · intro w'
                    go_simp
                    with_reducible rfl
                  rotate_left
                  · simp only [Act.put, List.setIfInBounds_toArray, List.set_cons_zero, List.set_cons_succ, i64_w, i32_w]
                    rfl
                  refine one_ (i := 9) (N := some 72) #[true, true, true, true, true, true, true, true, true, true, true, true, true, false, false] rfl rfl (one_of HT_.out (by kernel_rfl)) (by decide) (fun K hK => ?_)
                  refine goes_ Try.func16 (by kernel_rfl) rfl #[.int .i64 t293, .int .i64 t289, .int .i64 (wrap64 (Int.tdiv (wrap64 (bt t288 0)) (wrap64 (t296 + 1))))] (by rfl) rfl rfl (by (try simp only [List.map_toArray, List.map_cons, List.map_nil]); first | done | rfl | (simp only [List.length_drop, List.length_take]; rfl)) ?_
                  with_reducible refine (impl_NumWrite.calls kj5 t293 t289 (wrap64 (Int.tdiv (wrap64 (bt t288 0)) (wrap64 (t296 + 1)))) t297 _ A19.out).mono ?_
                  rintro e w23 ⟨rfl, hb⟩
                  refine ⟨_, rfl, ?_⟩
                  have n0_ := Aside0.mk (below_step (by repeat (first | (with_reducible first | exact HB.out | apply below_alloc | apply pw_below_drewN | apply below_drew1) | exact HB.out)) hb)
                  clear HB
                  have HB := n0_
                  clear n0_
                  (try clear hb)
                  (try clear hb2)
                  (try clear hk)
                  (try clear hi)
                  refine hK.out _ _ trivial (fun hHeld => ?_)
                  clear hK K
                  refine norm_ (a' := ?_) ?_ ?_
                  rotate_left
                  · show Act.put _ (some 72) _ = _
                    simp only [Act.put, List.setIfInBounds_toArray, List.set_cons_zero, List.set_cons_succ, i64_w, i32_w]
                    rfl
                  refine pure_ (i := 13) (N := some 76) (v := ?_) (a' := ?_) #[true, true, true, true, true, true, true, true, true, true, true, true, true, true, false] rfl rfl (any_of HT_.out (by kernel_rfl)) (fun _ _ _ h => h) (Or.inl ⟨by rfl, ?_⟩) ?_ ?_
                  rotate_left
                  · intro w'
                    go_simp
                    with_reducible rfl
                  rotate_left
                  · simp only [Act.put, List.setIfInBounds_toArray, List.set_cons_zero, List.set_cons_succ, i64_w, i32_w]
                    rfl
                  refine pure_ (i := 14) (N := some 2) (v := ?_) (a' := ?_) #[true, true, true, true, true, true, true, true, true, true, true, true, true, true, true] rfl rfl (any_of HT_.out (by kernel_rfl)) (fun _ _ _ h => h) (Or.inl ⟨by rfl, ?_⟩) ?_ ?_
                  rotate_left
                  · intro w'
                    go_simp
                    with_reducible rfl
                  rotate_left
                  · simp only [Act.put, List.setIfInBounds_toArray, List.set_cons_zero, List.set_cons_succ, i64_w, i32_w]
                    rfl
                  refine done_ (done_of HT_.out (by kernel_rfl)) ?_
                  try go_wp2
                  go_ret
                  exact ⟨by first | rfl | (simp [errW_none, errW_some] <;> rfl) | (simp [*, errW_none, errW_some] <;> rfl), by repeat (first | (with_reducible first | exact HB.out | apply below_alloc | apply pw_below_drewN | apply below_drew1) | exact HB.out)⟩
                · rw [if_neg c21] at H
                  exact absurd H (by simp)
              · rw [if_neg c20] at H
                exact absurd H (by simp)
          · rw [if_neg c15] at H
            exact absurd H (by simp)

/-- THE ONE PURE STATEMENT of laws_FnNumStrict: yours. -/
def laws_FnNumStrict.Pure : Prop := ∀ (l0 : List Int), l0.length ≤ maxLen → l0.length * 1 ≤ 140737488351232 → (∀ x ∈ l0, (Lit.int .u8 x).wf = true) → ∃ k, laws_FnNumStrict.f k l0 = some true
theorem laws_FnNumStrict.walk (P : laws_FnNumStrict.Pure) (a0 : Option Addr) (len0 cap0 : Nat) (z0 : List Int) (w : World) (w0 : (a0 = none ∧ len0 = 0 ∧ cap0 = 0 ∧ z0 = []) ∨ ∃ x, a0 = some x ∧ len0 ≤ cap0 ∧ cap0 ≤ maxLen ∧ z0.length = cap0 ∧ (∀ i, i < z0.length → w.cell? (x.add i) = some (.int .u8 (z0.getD i 0))) ∧ ∀ n ∈ z0, (Lit.int .u8 n).wf = true) (y0 : len0 * 1 ≤ 140737488351232) :
    Calls Try.prog 11 #[.slice a0 len0 cap0] w fun e w' => e = .returned (.bool true) ∧ Below w.heap.size w w' := by
  obtain ⟨l0, rfl, hr0, hm0, hw0, hc0⟩ := ReadsInt.ofRowC w0
  obtain ⟨k, h⟩ := P l0 hm0 y0 hw0
  refine (laws_FnNumStrict.calls k _ _ l0 true w (Kd.C_of_reads (d := (0 : Int)) (h1 := fun _ => rfl) hr0) hc0 h).mono ?_
  rintro e w' ⟨rfl, hd⟩
  exact ⟨rfl, hd⟩

end Go.Proofs.Ytngmpffcgglngaa.Q
