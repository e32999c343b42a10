-- Written by a program of this session's (wip/tools) out of the translation. Not trusted: Lean checks it.
import Derived.Test.YtgahnhncmjgenaaXx0
import Derived.Test.YtgahnhncmjgenaaWGuard
import Derived.Test.YtgahnhncmjgenaaXx4
import Derived.Test.YtgahnhncmjgenaaXx43
import Derived.Test.YtgahnhncmjgenaaXx51
import Derived.Test.YtgahnhncmjgenaaXx52
namespace Go.Proofs.Ytgahnhncmjgenaa.X
open Go.RowKit Go.Proofs.YtgahnhncmjgenaaW.PrintWords Go.Proofs.YtgahnhncmjgenaaW.PrintLast Go.Proofs.YtgahnhncmjgenaaW.PrintMore
open Bool renaming true → y, false → n
attribute [local go_sem] max2_int min2_int max_two min_two max_three min_three max_four min_four   -- for this text's walks alone
set_option linter.unusedVariables false
set_option linter.unusedSimpArgs false

/-! ### laws_FnTableSize: function 10 -/
mutual
def laws_FnTableSize.j0 : Nat → List Int → List Int → Bool → Option (Bool)
  | 0, _, _, _ => none
  | k + 1, x0, x1, x18 => if x18 = true then (some true) else ((spec_DrawTableSize.f k x0).bind fun bt507 => ((impl_TableSize.f k bt507.1 bt507.2).bind fun t512 => ((spec_TableSize.f k bt507.1 bt507.2).bind fun t513 => (if t512 = t513 then ((spec_TableOk.f k bt507.1 bt507.2).bind fun t514 => (laws_FnTableSize.j1 k x1 t512 (!t514) bt507.1 bt507.2)) else (laws_FnTableSize.j1 k x1 t512 true bt507.1 bt507.2)))))
def laws_FnTableSize.j1 : Nat → List Int → Int → Bool → List (S32) → Int → Option (Bool)
  | 0, _, _, _, _, _ => none
  | k + 1, x1, x6, x31, x512000, x512001 => if x31 = true then ((spec_TableSize.f k x512000 x512001).bind fun t515 => (some (x6 == t515))) else (laws_FnTableSize.l0 k x1 x6 0 0 x512000 x512001)
def laws_FnTableSize.l0 : Nat → List Int → Int → Int → Int → List (S32) → Int → Option (Bool)
  | 0, _, _, _, _, _, _ => none
  | k + 1, x1, x6, x7, x8, x512000, x512001 => if x8 < (x512000.length : Int) then (if 0 ≤ x8 then ((laws_lkOne.f ((rd_T32 x512000 x8).f0) ((rd_T32 x512000 x8).f1) ((rd_T32 x512000 x8).f2)).bind fun t517 => (laws_FnTableSize.l0 k x1 x6 (wrap64 (x7 + t517)) (wrap64 (x8 + 1)) x512000 x512001)) else (none)) else (if (x512000.length : Int) = 0 then (some (x6 == 0)) else ((some (([] : List (S32)) : List (S32))).bind fun y518 => (if 0 ≤ ((x1.length : Int) % (x512000.length : Int)) then (if ((x1.length : Int) % (x512000.length : Int)) ≤ (x512000.length : Int) then ((some (x512000.take (((x1.length : Int) % (x512000.length : Int)) : Int).toNat : List (S32))).bind fun y521 => (if y518.length + y521.length < 3518437208883 then ((some (y518 ++ y521 : List (S32))).bind fun y525 => (if 0 ≤ (wrap64 (((x1.length : Int) % (x512000.length : Int)) + 1)) then (if (wrap64 (((x1.length : Int) % (x512000.length : Int)) + 1)) ≤ (x512000.length : Int) then ((some (x512000.drop ((wrap64 (((x1.length : Int) % (x512000.length : Int)) + 1)) : Int).toNat : List (S32))).bind fun y528 => (if y525.length + y528.length < 3518437208883 then (if x6 = x7 then (if x6 ≤ x512001 then ((impl_TableSize.f k (y525 ++ y528) x512001).bind fun t536 => (if ((x1.length : Int) % (x512000.length : Int)) < (x512000.length : Int) then ((laws_lkOne.f ((rd_T32 x512000 ((x1.length : Int) % (x512000.length : Int))).f0) ((rd_T32 x512000 ((x1.length : Int) % (x512000.length : Int))).f1) ((rd_T32 x512000 ((x1.length : Int) % (x512000.length : Int))).f2)).bind fun t538 => (some (t536 == (wrap64 (x6 - t538))))) else (none))) else (some false)) else (some false)) else (none))) else (none)) else (none))) else (none))) else (none)) else (none))))
end
def laws_FnTableSize.f (k : Nat) (l0 : List Int) (l1 : List Int) : Option (Bool) := if (l0.length : Int) > 1048576 then (laws_FnTableSize.j0 k l0 l1 true) else (laws_FnTableSize.j0 k l0 l1 (decide ((l1.length : Int) > 1048576)))
theorem laws_FnTableSize.mono_l : ∀ k, (∀ y0 y1 y2, LeO (laws_FnTableSize.j0 k y0 y1 y2) (laws_FnTableSize.j0 (k + 1) y0 y1 y2)) ∧ (∀ y0 y1 y2 y3 y4, LeO (laws_FnTableSize.j1 k y0 y1 y2 y3 y4) (laws_FnTableSize.j1 (k + 1) y0 y1 y2 y3 y4)) ∧ (∀ y0 y1 y2 y3 y4 y5, LeO (laws_FnTableSize.l0 k y0 y1 y2 y3 y4 y5) (laws_FnTableSize.l0 (k + 1) y0 y1 y2 y3 y4 y5))
  | 0 => ⟨fun _ _ _ r h => by simp [laws_FnTableSize.j0] at h, fun _ _ _ _ _ r h => by simp [laws_FnTableSize.j1] at h, fun _ _ _ _ _ _ r h => by simp [laws_FnTableSize.l0] at h⟩
  | k + 1 => by
    obtain ⟨ih0, ih1, ih2⟩ := laws_FnTableSize.mono_l k
    refine ⟨?_, ?_, ?_⟩
    · intro y0 y1 y2
      unfold laws_FnTableSize.j0
      repeat' first
      | (with_reducible exact ih0 _ _ _)
      | (with_reducible exact ih1 _ _ _ _ _)
      | (with_reducible exact ih2 _ _ _ _ _ _)
      | (with_reducible exact impl_TableSize.mono _ _ _)
      | (with_reducible exact spec_DrawTableSize.mono _ _)
      | (with_reducible exact spec_TableOk.mono _ _ _)
      | (with_reducible exact spec_TableSize.mono _ _ _)
      | (with_reducible exact LeO.refl _)
      | (with_reducible exact LeO.none _)
      | (with_reducible refine LeO.ite ?_ ?_)
      | (with_reducible refine LeO.bind ?_ (fun _ => ?_))
    · intro y0 y1 y2 y3 y4
      unfold laws_FnTableSize.j1
      repeat' first
      | (with_reducible exact ih0 _ _ _)
      | (with_reducible exact ih1 _ _ _ _ _)
      | (with_reducible exact ih2 _ _ _ _ _ _)
      | (with_reducible exact impl_TableSize.mono _ _ _)
      | (with_reducible exact spec_DrawTableSize.mono _ _)
      | (with_reducible exact spec_TableOk.mono _ _ _)
      | (with_reducible exact spec_TableSize.mono _ _ _)
      | (with_reducible exact LeO.refl _)
      | (with_reducible exact LeO.none _)
      | (with_reducible refine LeO.ite ?_ ?_)
      | (with_reducible refine LeO.bind ?_ (fun _ => ?_))
    · intro y0 y1 y2 y3 y4 y5
      unfold laws_FnTableSize.l0
      repeat' first
      | (with_reducible exact ih0 _ _ _)
      | (with_reducible exact ih1 _ _ _ _ _)
      | (with_reducible exact ih2 _ _ _ _ _ _)
      | (with_reducible exact impl_TableSize.mono _ _ _)
      | (with_reducible exact spec_DrawTableSize.mono _ _)
      | (with_reducible exact spec_TableOk.mono _ _ _)
      | (with_reducible exact spec_TableSize.mono _ _ _)
      | (with_reducible exact LeO.refl _)
      | (with_reducible exact LeO.none _)
      | (with_reducible refine LeO.ite ?_ ?_)
      | (with_reducible refine LeO.bind ?_ (fun _ => ?_))
theorem laws_FnTableSize.mono : ∀ a0 a1 k, LeO (laws_FnTableSize.f k a0 a1) (laws_FnTableSize.f (k + 1) a0 a1) := by
  intro a0 a1 k
  obtain ⟨ih0, ih1, ih2⟩ := laws_FnTableSize.mono_l k
  unfold laws_FnTableSize.f
  repeat' first
      | (with_reducible exact ih0 _ _ _)
      | (with_reducible exact ih1 _ _ _ _ _)
      | (with_reducible exact ih2 _ _ _ _ _ _)
      | (with_reducible exact impl_TableSize.mono _ _ _)
      | (with_reducible exact spec_DrawTableSize.mono _ _)
      | (with_reducible exact spec_TableOk.mono _ _ _)
      | (with_reducible exact spec_TableSize.mono _ _ _)
      | (with_reducible exact LeO.refl _)
      | (with_reducible exact LeO.none _)
      | (with_reducible refine LeO.ite ?_ ?_)
      | (with_reducible refine LeO.bind ?_ (fun _ => ?_))
def laws_FnTableSize.T15 : Bool × List (List Nat × List Nat) := (true, [([], []), ([], []), ([1], [1]), ([], []), ([2, 3], [2, 3]), ([0, 4], [0, 4]), ([], []), ([6], [6]), ([], []), ([8], [8]), ([7, 9], [7, 9]), ([5, 10, 5], [5, 10]), ([], []), ([12], [12]), ([11, 13], [11, 13]), ([], []), ([15, 14, 11, 0, 1, 2, 3, 4, 5, 6, 7, 8, 9, 10, 11, 12, 13, 14, 15], [14, 15])])
def laws_FnTableSize.B15 : List Nat := [0, 0, 2, 0, 14, 31, 0, 64, 0, 256, 960, 2047, 0, 4096, 16383, 0, 65535]
theorem laws_FnTableSize.tab15 : rtab .any (opsOf Try.f10 15) = laws_FnTableSize.T15 := by kernel_rfl
theorem laws_FnTableSize.bits15 : waitsOk laws_FnTableSize.T15.2 laws_FnTableSize.B15 = true := by kernel_rfl
def laws_FnTableSize.T16 : Bool × List (List Nat × List Nat) := (true, [([], []), ([], []), ([0, 1], [0, 1]), ([2], [2]), ([3], [3]), ([3], [3]), ([5, 3], [3, 5]), ([4, 6, 3], [3, 4, 6]), ([3, 7], [3, 7]), ([8, 3], [8]), ([9], [9]), ([10, 9, 9], [9, 10]), ([9], [9]), ([9], [9]), ([13, 9], [9, 13]), ([9], [9]), ([14, 15, 9], [9, 14, 15]), ([16, 9], [9, 16]), ([17, 11, 9], [9, 17]), ([12, 18, 9], [9, 12, 18]), ([11, 19, 9], [9, 11, 19]), ([9, 20], [9, 20]), ([21, 18, 0, 1, 2, 3, 4, 5, 6, 7, 8, 9, 10, 11, 12, 13, 14, 15, 16, 17, 18, 19, 20, 21], [21])])
def laws_FnTableSize.B16 : List Nat := [0, 0, 3, 7, 15, 15, 47, 127, 255, 511, 1023, 2047, 1023, 1023, 9215, 1023, 58367, 123903, 258047, 524287, 1048575, 2097151, 4194303]
theorem laws_FnTableSize.tab16 : rtab .any (opsOf Try.f10 16) = laws_FnTableSize.T16 := by kernel_rfl
theorem laws_FnTableSize.bits16 : waitsOk laws_FnTableSize.T16.2 laws_FnTableSize.B16 = true := by kernel_rfl
set_option maxHeartbeats 8000000 in
set_option maxRecDepth 100000 in
theorem laws_FnTableSize.calls (k : Nat) (A0 : Option Addr) (c0 : Nat) (l0 : List Int) (A1 : Option Addr) (c1 : Nat) (l1 : List Int) (r : Bool) (w : World) (hr0 : Kd.C (Kd.int .u8) w A0 l0.length l0) (hc0 : l0.length ≤ c0) (hr1 : Kd.C (Kd.int .u8) w A1 l1.length l1) (hc1 : l1.length ≤ c1) (h : laws_FnTableSize.f k l0 l1 = some r) :
 Calls Try.prog 10 #[.slice A0 l0.length c0, .slice A1 l1.length c1] w fun e w' => e = .returned (.bool r) ∧ Below w.heap.size w w' := by
 have hu45 := Try.underlying45; have hu32 := Try.underlying32; have HR0 := Aside0.mk hr0; have HC0 := Aside0.mk hc0; clear hr0 hc0; have HR1 := Aside0.mk hr1; have HC1 := Aside0.mk hc1; clear hr1 hc1
 have HB := Aside0.mk (Below.refl w.heap.size w)
 have H : (if (l0.length : Int) > 1048576 then (laws_FnTableSize.j0 k l0 l1 true) else (laws_FnTableSize.j0 k l0 l1 (decide ((l1.length : Int) > 1048576)))) = some r := h
 clear h; have HC3 := Aside0.mk H; clear H
 go_enter Try.func10, Try.ntmps10
 go_upto_region 1 with (fail)
 go_cut [18] (fun v18 wc => ∃ (kq : Nat) (x18_2 : Bool), v18 = .bool x18_2 ∧ Aside0 (laws_FnTableSize.j0 kq l0 l1 x18_2 = some r) ∧ Aside0 (kq ≤ k) ∧ Aside0 (Below w.heap.size w wc))
 case first =>
  have H := HC3.out; clear HC3
  by_cases c4 : (l0.length : Int) > 1048576
  · rw [if_pos c4] at H
    have c4b0 : decide (1048576 < (l0.length : Int)) = true := decide_eq_true c4
    have c4b1 : decide (1048576 < l0.length) = true := decide_eq_true (by omega)
    clear c4
    (first | rw [c4b0] | (simp only [i64_w, i32_w]; rw [c4b0]) | skip)
    have H' := Aside0.mk H; clear H; go_wp2; go_meet
    case rel => exact ⟨_, (true), (by first | rfl | (simp; done) | (simp [*]; done)), H', ⟨by first | omega | exact Nat.le_refl _⟩, ⟨by exact q0 HB.out⟩⟩
  rw [if_neg c4] at H
  have c4b0 : decide (1048576 < (l0.length : Int)) = false := decide_eq_false c4
  have c4b1 : decide (1048576 < l0.length) = false := decide_eq_false (by omega)
  clear c4
  (first | rw [c4b0] | (simp only [i64_w, i32_w]; rw [c4b0]) | skip)
  have H' := Aside0.mk H; clear H; go_wp2; go_meet
  case rel => exact ⟨_, (decide ((l1.length : Int) > 1048576)), (by first | rfl | (simp; done) | (simp [*]; done)), H', ⟨by first | omega | exact Nat.le_refl _⟩, ⟨by exact q0 HB.out⟩⟩
 case rest =>
  clear HC3; (try clear c1); (try clear p2); (try clear c4); (try clear c4b0); (try clear c4b1); obtain ⟨kq, x18_2, rfl, HA, HJ2, HB⟩ := hcut
  cases kq with
  | zero => exact absurd HA.out (by simp [laws_FnTableSize.j0])
  | succ kj2 =>
   have H := HA.out; clear HA
   simp only [laws_FnTableSize.j0] at H
   by_cases c5 : x18_2 = true
   · subst c5
     have H1 : (some true) = some r := by rw [if_pos rfl] at H; exact H
     clear H; have H := H1; clear H1
     obtain rfl := Option.some.inj H
     go_wp2
     go_ret
     exact ⟨by first | rfl | (simp [errW_none, errW_some] <;> rfl) | (simp [*, errW_none, errW_some] <;> rfl), by exact q0 HB.out⟩
   replace c5 := Bool.eq_false_iff.mpr c5
   subst c5
   have H1 : ((spec_DrawTableSize.f kj2 l0).bind fun bt507 => ((impl_TableSize.f kj2 bt507.1 bt507.2).bind fun t512 => ((spec_TableSize.f kj2 bt507.1 bt507.2).bind fun t513 => (if t512 = t513 then ((spec_TableOk.f kj2 bt507.1 bt507.2).bind fun t514 => (laws_FnTableSize.j1 kj2 l1 t512 (!t514) bt507.1 bt507.2)) else (laws_FnTableSize.j1 kj2 l1 t512 true bt507.1 bt507.2))))) = some r := by rw [if_neg (show ¬ (false = true) by decide)] at H; exact H
   clear H; have H := H1; clear H1; replace H := Option.bind_eq_some_iff.mp H; obtain ⟨⟨t507, t510⟩, A60, H⟩ := H
   replace H : ((impl_TableSize.f kj2 t507 t510).bind fun t512 => ((spec_TableSize.f kj2 t507 t510).bind fun t513 => (if t512 = t513 then ((spec_TableOk.f kj2 t507 t510).bind fun t514 => (laws_FnTableSize.j1 kj2 l1 t512 (!t514) t507 t510)) else (laws_FnTableSize.j1 kj2 l1 t512 true t507 t510)))) = some r := H
   have A6 := Aside0.mk A60; clear A60; replace H := Option.bind_eq_some_iff.mp H; obtain ⟨t512, A70, H⟩ := H
   replace H : ((spec_TableSize.f kj2 t507 t510).bind fun t513 => (if t512 = t513 then ((spec_TableOk.f kj2 t507 t510).bind fun t514 => (laws_FnTableSize.j1 kj2 l1 t512 (!t514) t507 t510)) else (laws_FnTableSize.j1 kj2 l1 t512 true t507 t510))) = some r := H
   have A7 := Aside0.mk A70; clear A70; have HC8 := Aside0.mk H; clear H
   go_upto_region 5 with (first | ((with_reducible refine gate_callee (f := 33) rfl ?_); refine goesL_ (some 20) rfl rfl Try.func33 (by kernel_rfl) rfl #[.slice A0 l0.length c0] rfl (by (try simp only [List.map_toArray, List.map_cons, List.map_nil]); first | done | rfl | (simp only [List.length_drop, List.length_take]; rfl)) ?_; (with_reducible refine (spec_DrawTableSize.calls kj2 _ _ l0 t507 t510 _ ?side1 ?side2 A6.out).mono ?_); (case side1 => repeat (first | exact (Kd.C_below HR0.out HB.out) | (with_reducible refine Kd.C_alloc ?_ _) | (with_reducible refine Kd.C_drewN ?_ _) | (with_reducible refine Kd.C_drew ?_))); (case side2 => exact HC0.out); rintro e w9 ⟨v508, rfl, ho0, hb⟩; refine ⟨_, rfl, ?_⟩; have n0_ := Aside0.mk (Kd.R_lower ho0 (below_size (by exact q0 HB.out))); have n1_ := Aside0.mk (below_step (by exact q0 HB.out) hb); clear HB; have HO509 := n0_; have HB := n1_; clear n0_ n1_; (try clear hb); (try clear hb2); (try clear hk); (try clear hi); (try clear ho0)) | ((with_reducible refine gate_dst (N := 5) rfl ?_); (try (refine gate_guard (by rfl) ?_; dsimp only)); refine box_event ?hg (N := 5) ?hd (cs := #[.slice none 0 0, .int .i64 0]) (t := 45) ?hr ?_; (case hd => rfl); (case hg => rfl); (case hr => first | (go_simp; done) | (go_simp; rfl)); intro gb511 hg w10 hbox hb; have n0_ := Aside0.mk (Kd.R_below (by exact uR HO509.out) hb); have n1_ := Aside0.mk (below_step (by exact q0 HB.out) hb); have n2_ := Aside0.mk (hbox); have n3_ := Aside0.mk ((by rw [hg]; exact (below_size (by exact q0 HB.out)) : w.heap.size ≤ gb511)); have n4_ := Aside0.mk ((by rw [hg]; exact (below_size (by exact q0 HB.out)) : w.heap.size ≤ gb511)); clear HO509; clear HB; have HO509 := n0_; have HB := n1_; have BK511 := n2_; have GW511 := n3_; have GE511 := n4_; clear n0_ n1_ n2_ n3_ n4_; clear hb hbox hg; obtain ⟨Ao11, co11, eo11⟩ := Kd.R_slice HO509.out; subst eo11; have hcz12_0 : w10.cell? ⟨gb511, 0, none⟩ = some (.slice none 0 0) := (blk_cell BK511.out 0).trans rfl; have hcz12_1 : w10.cell? ⟨gb511, 1, none⟩ = some (.int .i64 0) := (blk_cell BK511.out 1).trans rfl; have hfz12_0 := blk_frozen BK511.out 0; have hfz12_1 := blk_frozen BK511.out 1) | ((with_reducible refine gate_callee (f := 31) rfl ?_); refine goesL_ (some 22) rfl rfl Try.func31 (by kernel_rfl) rfl #[.agg #[.slice Ao11 t507.length co11, .int .i64 t510]] rfl (by (try simp only [List.map_toArray, List.map_cons, List.map_nil]); first | done | rfl | (simp only [List.length_drop, List.length_take]; rfl)) ?_; (with_reducible refine (impl_TableSize.calls kj2 _ _ t507 t510 t512 _ ?side1 ?side2 A7.out).mono ?_); (case side1 => refine (Kd.R_reads' (e := 32) (base := w.heap.size) (ok := fun k_ => True) (n := t507.length) (c := co11) ?_).2.2; exact (by refine uR ?_; exact (Kd.R_mono (Kd.R_far (p := ⟨gb511, 1, none⟩) (Kd.R_far (p := ⟨gb511, 0, none⟩) (Kd.R_types HO509.out BK511.out (by decide)) (fun _ hk => hk.2) (.slice Ao11 t507.length co11)) (fun _ hk => hk.2) (.int .i64 t510)) (fun _ h_ => h_.1)))); (case side2 => exact (Kd.R_reads' HO509.out).2.1); rintro e w13 ⟨rfl, hb⟩; refine ⟨_, rfl, ?_⟩; have n0_ := Aside0.mk (Kd.R_below (by refine uR ?_; exact (Kd.R_mono (Kd.R_far (p := ⟨gb511, 1, none⟩) (Kd.R_far (p := ⟨gb511, 0, none⟩) (Kd.R_types HO509.out BK511.out (by decide)) (fun _ hk => hk.2) (.slice Ao11 t507.length co11)) (fun _ hk => hk.2) (.int .i64 t510)) (fun _ h_ => h_.1))) hb); have n1_ := Aside0.mk (blk_below (g := gb511) (o := .cells #[.slice Ao11 t507.length co11, .int .i64 t510] 45 (0, 0)) (by refine uB ?_; refine blk_put (cs := #[.slice Ao11 t507.length co11, .int .i64 0]) ?_ 1 _ rfl; refine uB ?_; refine blk_put (cs := #[.slice none 0 0, .int .i64 0]) ?_ 0 _ rfl; refine uB ?_; exact BK511.out) hb); have n2_ := Aside0.mk (below_step (by exact q1 HB.out GE511.out) hb); clear HO509; clear BK511; clear HB; have HO509 := n0_; have BK511 := n1_; have HB := n2_; clear n0_ n1_ n2_; (try clear hb); (try clear hb2); (try clear hk); (try clear hi)))
   (try simp only [Act.put, List.setIfInBounds_toArray, List.set_cons_zero, List.set_cons_succ])
   go_cut [31] (fun v31 wc => ∃ (kq : Nat) (x31_7 : Bool), v31 = .bool x31_7 ∧ Aside0 (laws_FnTableSize.j1 kq l1 t512 x31_7 t507 t510 = some r) ∧ Aside0 (kq ≤ kj2) ∧ Aside0 (Kd.R k32 32 wc w.heap.size (fun _ => True) (.slice Ao11 t507.length co11) t507) ∧ Aside0 (wc.heap[gb511]? = some (.cells #[(.slice Ao11 t507.length co11), .int .i64 t510] 45 (0, 0))) ∧ Aside0 (Below w.heap.size w wc))
   case first =>
    have H := HC8.out; clear HC8; replace H := Option.bind_eq_some_iff.mp H; obtain ⟨t513, A140, H⟩ := H
    replace H : (if t512 = t513 then ((spec_TableOk.f kj2 t507 t510).bind fun t514 => (laws_FnTableSize.j1 kj2 l1 t512 (!t514) t507 t510)) else (laws_FnTableSize.j1 kj2 l1 t512 true t507 t510)) = some r := H
    have A14 := Aside0.mk A140; clear A140
    by_cases c15 : t512 = t513
    · rw [if_pos c15] at H
      have c15b0 : (t512 == t513) = true := beq_iff_eq.mpr c15
      have c15b1 : (t512 != t513) = false := bne_eq_false_iff_eq.mpr c15
      clear c15
      (first | rw [c15b0] | (simp only [i64_w, i32_w]; rw [c15b0]) | skip)
      replace H := Option.bind_eq_some_iff.mp H; obtain ⟨t514, A160, H⟩ := H
      replace H : (laws_FnTableSize.j1 kj2 l1 t512 (!t514) t507 t510) = some r := H
      have A16 := Aside0.mk A160; clear A160; have H' := Aside0.mk H; clear H
      have hcz17_0 : w13.cell? ⟨gb511, 0, none⟩ = some (.slice Ao11 t507.length co11) := (blk_cell BK511.out 0).trans rfl
      have hcz17_1 : w13.cell? ⟨gb511, 1, none⟩ = some (.int .i64 t510) := (blk_cell BK511.out 1).trans rfl
      have hfz17_0 := blk_frozen BK511.out 0; have hfz17_1 := blk_frozen BK511.out 1
      go_wp2_with (first | ((with_reducible refine gate_callee (f := 30) rfl ?_); refine goesL_ (some 25) rfl rfl Try.func30 (by kernel_rfl) rfl #[.agg #[.slice Ao11 t507.length co11, .int .i64 t510]] rfl (by (try simp only [List.map_toArray, List.map_cons, List.map_nil]); first | done | rfl | (simp only [List.length_drop, List.length_take]; rfl)) ?_; (with_reducible refine (spec_TableSize.calls kj2 _ _ t507 t510 t513 _ ?side1 ?side2 A14.out).mono ?_); (case side1 => repeat (first | exact (Kd.R_reads' HO509.out).2.2 | (with_reducible refine Kd.C_alloc ?_ _) | (with_reducible refine Kd.C_drewN ?_ _) | (with_reducible refine Kd.C_drew ?_))); (case side2 => exact (Kd.R_reads' HO509.out).2.1); rintro e w18 ⟨rfl, hb⟩; refine ⟨_, rfl, ?_⟩; have n0_ := Aside0.mk (Kd.R_below (by exact uR HO509.out) hb); have n1_ := Aside0.mk (blk_below (g := gb511) (o := .cells #[.slice Ao11 t507.length co11, .int .i64 t510] 45 (0, 0)) (by exact uB BK511.out) hb); have n2_ := Aside0.mk (below_step (by exact q1 HB.out GE511.out) hb); clear HO509; clear BK511; clear HB; have HO509 := n0_; have BK511 := n1_; have HB := n2_; clear n0_ n1_ n2_; (try clear hb); (try clear hb2); (try clear hk); (try clear hi); have hcz19_0 : w18.cell? ⟨gb511, 0, none⟩ = some (.slice Ao11 t507.length co11) := (blk_cell BK511.out 0).trans rfl; have hcz19_1 : w18.cell? ⟨gb511, 1, none⟩ = some (.int .i64 t510) := (blk_cell BK511.out 1).trans rfl; have hfz19_0 := blk_frozen BK511.out 0; have hfz19_1 := blk_frozen BK511.out 1) | (go_at_call 26; (with_reducible refine (spec_TableOk.calls kj2 _ _ t507 t510 t514 _ ?side1 ?side2 A16.out).mono ?_); (case side1 => repeat (first | exact (Kd.R_reads' HO509.out).2.2 | (with_reducible refine Kd.C_alloc ?_ _) | (with_reducible refine Kd.C_drewN ?_ _) | (with_reducible refine Kd.C_drew ?_))); (case side2 => exact (Kd.R_reads' HO509.out).2.1); rintro e w20 ⟨rfl, hb⟩; have n0_ := Aside0.mk (Kd.R_below (by exact uR HO509.out) hb); have n1_ := Aside0.mk (blk_below (g := gb511) (o := .cells #[.slice Ao11 t507.length co11, .int .i64 t510] 45 (0, 0)) (by exact uB BK511.out) hb); have n2_ := Aside0.mk (below_step (by exact q1 HB.out GE511.out) hb); clear HO509; clear BK511; clear HB; have HO509 := n0_; have BK511 := n1_; have HB := n2_; clear n0_ n1_ n2_; (try clear hb); (try clear hb2); (try clear hk); (try clear hi)))
      go_meet
      case rel => exact ⟨_, (!t514), (by first | rfl | (simp; done) | (simp [*]; done)), H', ⟨by have := HJ2.out; first | omega | exact Nat.le_refl _⟩, ⟨by exact uR HO509.out⟩, ⟨by exact uB BK511.out⟩, ⟨by exact q1 HB.out GE511.out⟩⟩
    rw [if_neg c15] at H
    have c15b0 : (t512 == t513) = false := beq_eq_false_iff_ne.mpr c15
    have c15b1 : (t512 != t513) = true := bne_iff_ne.mpr c15
    (first | rw [c15b0] | (simp only [i64_w, i32_w]; rw [c15b0]) | skip)
    have H' := Aside0.mk H; clear H
    have hcz21_0 : w13.cell? ⟨gb511, 0, none⟩ = some (.slice Ao11 t507.length co11) := (blk_cell BK511.out 0).trans rfl
    have hcz21_1 : w13.cell? ⟨gb511, 1, none⟩ = some (.int .i64 t510) := (blk_cell BK511.out 1).trans rfl
    have hfz21_0 := blk_frozen BK511.out 0; have hfz21_1 := blk_frozen BK511.out 1
    go_wp2_with (first | ((with_reducible refine gate_callee (f := 30) rfl ?_); refine goesL_ (some 25) rfl rfl Try.func30 (by kernel_rfl) rfl #[.agg #[.slice Ao11 t507.length co11, .int .i64 t510]] rfl (by (try simp only [List.map_toArray, List.map_cons, List.map_nil]); first | done | rfl | (simp only [List.length_drop, List.length_take]; rfl)) ?_; (with_reducible refine (spec_TableSize.calls kj2 _ _ t507 t510 t513 _ ?side1 ?side2 A14.out).mono ?_); (case side1 => repeat (first | exact (Kd.R_reads' HO509.out).2.2 | (with_reducible refine Kd.C_alloc ?_ _) | (with_reducible refine Kd.C_drewN ?_ _) | (with_reducible refine Kd.C_drew ?_))); (case side2 => exact (Kd.R_reads' HO509.out).2.1); rintro e w22 ⟨rfl, hb⟩; refine ⟨_, rfl, ?_⟩; have n0_ := Aside0.mk (Kd.R_below (by exact uR HO509.out) hb); have n1_ := Aside0.mk (blk_below (g := gb511) (o := .cells #[.slice Ao11 t507.length co11, .int .i64 t510] 45 (0, 0)) (by exact uB BK511.out) hb); have n2_ := Aside0.mk (below_step (by exact q1 HB.out GE511.out) hb); clear HO509; clear BK511; clear HB; have HO509 := n0_; have BK511 := n1_; have HB := n2_; clear n0_ n1_ n2_; (try clear hb); (try clear hb2); (try clear hk); (try clear hi)))
    go_meet
    case rel => exact ⟨_, (true), (by first | rfl | (simp; done) | (simp [*]; done)), H', ⟨by have := HJ2.out; first | omega | exact Nat.le_refl _⟩, ⟨by exact uR HO509.out⟩, ⟨by exact uB BK511.out⟩, ⟨by exact q1 HB.out GE511.out⟩⟩
   case rest =>
    clear HC8; (try clear c1); (try clear p2); (try clear c3); (try clear c4); (try clear c4b0); (try clear c4b1); (try clear c5); (try clear c10); (try clear c15); (try clear c15b0); (try clear c15b1); (try clear hcz12_0); (try clear hcz12_1); (try clear hcz17_0); (try clear hcz17_1); (try clear hcz19_0); (try clear hcz19_1); (try clear hcz21_0); (try clear hcz21_1); (try clear hfz12_0); (try clear hfz12_1); (try clear hfz17_0); (try clear hfz17_1); (try clear hfz19_0); (try clear hfz19_1); (try clear hfz21_0); (try clear hfz21_1); (try clear p2); obtain ⟨kq, x31_7, rfl, HA, HJ7, HO_512000, BK511, HB⟩ := hcut
    cases kq with
    | zero => exact absurd HA.out (by simp [laws_FnTableSize.j1])
    | succ kj7 =>
     have H := HA.out; clear HA
     simp only [laws_FnTableSize.j1] at H
     by_cases c23 : x31_7 = true
     · subst c23
       have H1 : ((spec_TableSize.f kj7 t507 t510).bind fun t515 => (some (t512 == t515))) = some r := by rw [if_pos rfl] at H; exact H
       clear H; have H := H1; clear H1; replace H := Option.bind_eq_some_iff.mp H; obtain ⟨t515, A240, H⟩ := H
       replace H : (some (t512 == t515)) = some r := H
       have A24 := Aside0.mk A240; clear A240
       obtain rfl := Option.some.inj H
       have hcz25_0 : wc.cell? ⟨gb511, 0, none⟩ = some (.slice Ao11 t507.length co11) := (blk_cell BK511.out 0).trans rfl
       have hcz25_1 : wc.cell? ⟨gb511, 1, none⟩ = some (.int .i64 t510) := (blk_cell BK511.out 1).trans rfl
       have hfz25_0 := blk_frozen BK511.out 0; have hfz25_1 := blk_frozen BK511.out 1
       go_wp2_with (first | ((with_reducible refine gate_callee (f := 30) rfl ?_); refine goesL_ (some 34) rfl rfl Try.func30 (by kernel_rfl) rfl #[.agg #[.slice Ao11 t507.length co11, .int .i64 t510]] rfl (by (try simp only [List.map_toArray, List.map_cons, List.map_nil]); first | done | rfl | (simp only [List.length_drop, List.length_take]; rfl)) ?_; (with_reducible refine (spec_TableSize.calls kj7 _ _ t507 t510 t515 _ ?side1 ?side2 A24.out).mono ?_); (case side1 => repeat (first | exact (Kd.R_reads' HO_512000.out).2.2 | (with_reducible refine Kd.C_alloc ?_ _) | (with_reducible refine Kd.C_drewN ?_ _) | (with_reducible refine Kd.C_drew ?_))); (case side2 => exact (Kd.R_reads' HO_512000.out).2.1); rintro e w26 ⟨rfl, hb⟩; refine ⟨_, rfl, ?_⟩; have n0_ := Aside0.mk (Kd.R_below (by exact uR HO_512000.out) hb); have n1_ := Aside0.mk (blk_below (g := gb511) (o := .cells #[.slice Ao11 t507.length co11, .int .i64 t510] 45 (0, 0)) (by exact uB BK511.out) hb); have n2_ := Aside0.mk (below_step (by exact q1 HB.out GE511.out) hb); clear HO_512000; clear BK511; clear HB; have HO_512000 := n0_; have BK511 := n1_; have HB := n2_; clear n0_ n1_ n2_; (try clear hb); (try clear hb2); (try clear hk); (try clear hi)))
       go_ret
       exact ⟨by first | rfl | (simp [errW_none, errW_some] <;> rfl) | (simp [*, errW_none, errW_some] <;> rfl), by exact q1 HB.out GE511.out⟩
     replace c23 := Bool.eq_false_iff.mpr c23
     subst c23
     have H1 : (laws_FnTableSize.l0 kj7 l1 t512 0 0 t507 t510) = some r := by rw [if_neg (show ¬ (false = true) by decide)] at H; exact H
     clear H; have H := H1; clear H1; have H' := Aside0.mk H; clear H; go_wp2
     go_loopg [7, 8] kj7 (fun kq v7 v8 w' => ∃ (x7_3 : Int) (x8_3 : Int), v7 = .int .i64 x7_3 ∧ v8 = .int .i64 x8_3 ∧ Aside0 (laws_FnTableSize.l0 kq l1 t512 x7_3 x8_3 t507 t510 = some r) ∧ Aside0 (kq ≤ kj7) ∧ Aside0 (Kd.R k32 32 w' w.heap.size (fun _ => True) (.slice Ao11 t507.length co11) t507) ∧ Aside0 (w'.heap[gb511]? = some (.cells #[(.slice Ao11 t507.length co11), .int .i64 t510] 45 (0, 0))) ∧ Aside0 (Below w.heap.size w w'))
     case atStart => exact ⟨(0), (0), (by first | rfl | (simp; done) | (simp [*]; done)), (by first | rfl | (simp; done) | (simp [*]; done)), H', ⟨Nat.le_refl _⟩, ⟨by exact uR HO_512000.out⟩, ⟨by exact uB BK511.out⟩, ⟨by exact q1 HB.out GE511.out⟩⟩
     case round =>
      clear H'
      (try clear c1); (try clear c2); (try clear p2); (try clear c3); (try clear c4); (try clear c4b0); (try clear c4b1); (try clear c5); (try clear c10); (try clear c15); (try clear c15b0); (try clear c15b1); (try clear c23); (try clear hcz12_0); (try clear hcz12_1); (try clear hcz17_0); (try clear hcz17_1); (try clear hcz19_0); (try clear hcz19_1); (try clear hcz21_0); (try clear hcz21_1); (try clear hcz25_0); (try clear hcz25_1); (try clear hfz12_0); (try clear hfz12_1); (try clear hfz17_0); (try clear hfz17_1); (try clear hfz19_0); (try clear hfz19_1); (try clear hfz21_0); (try clear hfz21_1); (try clear hfz25_0); (try clear hfz25_1); (try clear p2); obtain ⟨x7_3, x8_3, rfl, rfl, HA, HK3, HO_512000, BK511, HB⟩ := hrel
      cases gk with
      | zero => exact absurd HA.out (by simp [laws_FnTableSize.l0])
      | succ k3 =>
       have H := HA.out; clear HA
       simp only [laws_FnTableSize.l0] at H
       by_cases c27 : x8_3 < (t507.length : Int)
       · rw [if_pos c27] at H
         have c27b0 : decide (x8_3 < (t507.length : Int)) = true := decide_eq_true c27
         clear c27
         by_cases c28 : 0 ≤ x8_3
         · rw [if_pos c28] at H
           have c28b0 : decide (0 ≤ x8_3) = true := decide_eq_true c28
           clear c28; replace H := Option.bind_eq_some_iff.mp H; obtain ⟨t517, A290, H⟩ := H
           replace H : (laws_FnTableSize.l0 k3 l1 t512 (wrap64 (x7_3 + t517)) (wrap64 (x8_3 + 1)) t507 t510) = some r := H
           have A29 := Aside0.mk A290; clear A290; have H' := Aside0.mk H; clear H
           have hcz30_0 : wr.cell? ⟨gb511, 0, none⟩ = some (.slice Ao11 t507.length co11) := (blk_cell BK511.out 0).trans rfl
           have hcz30_1 : wr.cell? ⟨gb511, 1, none⟩ = some (.int .i64 t510) := (blk_cell BK511.out 1).trans rfl
           have hfz30_0 := blk_frozen BK511.out 0; have hfz30_1 := blk_frozen BK511.out 1
           have p516 : 0 ≤ (x8_3 : Int) := of_decide_eq_true (by first | (with_reducible assumption) | assumption)
           have q516 : x8_3 < (t507.length : Int) := of_decide_eq_true (by first | (with_reducible assumption) | assumption)
           obtain ⟨ad516, e516, hx516_0, hx516_1, hx516_2⟩ := at_T32 (Kd.R_reads' HO_512000.out).2.2 x8_3 p516 q516
           cases e516
           replace p516 := eq_true p516
           replace q516 := eq_true q516
           go_wp2_with (first | ((with_reducible refine gate_callee (f := 34) rfl ?_); refine goesL_ (some 49) rfl rfl Try.func34 (by kernel_rfl) rfl #[.agg #[.string ((rd_T32 t507 x8_3).f0), .string ((rd_T32 t507 x8_3).f1), .bool ((rd_T32 t507 x8_3).f2)]] rfl (by (try simp only [List.map_toArray, List.map_cons, List.map_nil]); first | done | rfl | (simp only [List.length_drop, List.length_take]; rfl)) ?_; (with_reducible refine (laws_lkOne.calls ((rd_T32 t507 x8_3).f0) ((rd_T32 t507 x8_3).f1) ((rd_T32 t507 x8_3).f2) t517 _ A29.out).mono ?_); rintro e w31 ⟨rfl, hb⟩; refine ⟨_, rfl, ?_⟩; have n0_ := Aside0.mk (Kd.R_below (by exact uR HO_512000.out) hb); have n1_ := Aside0.mk (blk_below (g := gb511) (o := .cells #[.slice (some ad516) t507.length co11, .int .i64 t510] 45 (0, 0)) (by exact uB BK511.out) hb); have n2_ := Aside0.mk (below_step (by exact q1 HB.out GE511.out) hb); clear HO_512000; clear BK511; clear HB; have HO_512000 := n0_; have BK511 := n1_; have HB := n2_; clear n0_ n1_ n2_; (try clear hb); (try clear hb2); (try clear hk); (try clear hi)))
           go_roundg k3
           case measure => have := HJ2.out; have := HJ7.out; have := HK3.out; omega
           case rel => exact ⟨(wrap64 (x7_3 + t517)), (wrap64 (x8_3 + 1)), (by first | rfl | (simp; done) | (simp [*]; done)), (by first | rfl | (simp; done) | (simp [*]; done)), H', ⟨by have := HJ2.out; have := HJ7.out; have := HK3.out; omega⟩, ⟨by exact uR HO_512000.out⟩, ⟨by exact uB BK511.out⟩, ⟨by exact q1 HB.out GE511.out⟩⟩
         rw [if_neg c28] at H
         exact absurd H (by simp)
       rw [if_neg c27] at H
       have c27b0 : decide (x8_3 < (t507.length : Int)) = false := decide_eq_false c27
       clear c27
       by_cases c32 : (t507.length : Int) = 0
       · rw [if_pos c32] at H
         have c32b0 : ((t507.length : Int) == 0) = true := beq_iff_eq.mpr c32
         have c32b1 : ((t507.length : Int) != 0) = false := bne_eq_false_iff_eq.mpr c32
         clear c32
         obtain rfl := Option.some.inj H
         have hcz33_0 : wr.cell? ⟨gb511, 0, none⟩ = some (.slice Ao11 t507.length co11) := (blk_cell BK511.out 0).trans rfl
         have hcz33_1 : wr.cell? ⟨gb511, 1, none⟩ = some (.int .i64 t510) := (blk_cell BK511.out 1).trans rfl
         have hfz33_0 := blk_frozen BK511.out 0; have hfz33_1 := blk_frozen BK511.out 1; go_wp2
         go_ret
         exact ⟨by first | rfl | (simp [errW_none, errW_some] <;> rfl) | (simp [*, errW_none, errW_some] <;> rfl), by exact q1 HB.out GE511.out⟩
       rw [if_neg c32] at H
       have c32b0 : ((t507.length : Int) == 0) = false := beq_eq_false_iff_ne.mpr c32
       have c32b1 : ((t507.length : Int) != 0) = true := bne_iff_ne.mpr c32
       have c32b2 : ¬ (t507 = []) := fun h_ => c32 (by rw [h_]; rfl)
       obtain ⟨y518, hy518⟩ : ∃ y_ : List (S32), y_ = (([] : List (S32))) := ⟨_, rfl⟩
       replace H : (if 0 ≤ ((l1.length : Int) % (t507.length : Int)) then (if ((l1.length : Int) % (t507.length : Int)) ≤ (t507.length : Int) then ((some (t507.take (((l1.length : Int) % (t507.length : Int)) : Int).toNat : List (S32))).bind fun y521 => (if y518.length + y521.length < 3518437208883 then ((some (y518 ++ y521 : List (S32))).bind fun y525 => (if 0 ≤ (wrap64 (((l1.length : Int) % (t507.length : Int)) + 1)) then (if (wrap64 (((l1.length : Int) % (t507.length : Int)) + 1)) ≤ (t507.length : Int) then ((some (t507.drop ((wrap64 (((l1.length : Int) % (t507.length : Int)) + 1)) : Int).toNat : List (S32))).bind fun y528 => (if y525.length + y528.length < 3518437208883 then (if t512 = x7_3 then (if t512 ≤ t510 then ((impl_TableSize.f k3 (y525 ++ y528) t510).bind fun t536 => (if ((l1.length : Int) % (t507.length : Int)) < (t507.length : Int) then ((laws_lkOne.f ((rd_T32 t507 ((l1.length : Int) % (t507.length : Int))).f0) ((rd_T32 t507 ((l1.length : Int) % (t507.length : Int))).f1) ((rd_T32 t507 ((l1.length : Int) % (t507.length : Int))).f2)).bind fun t538 => (some (t536 == (wrap64 (t512 - t538))))) else (none))) else (some false)) else (some false)) else (none))) else (none)) else (none))) else (none))) else (none)) else (none)) = some r := by first | (rw [hy518]; with_reducible exact H) | (have H2_ := (Option.bind_some _ _).symm.trans H; rw [hy518]; with_reducible exact H2_) | (have H2_ := (Option.bind_some _ _).symm.trans H; with_reducible exact H2_) | with_reducible exact H | (rw [hy518]; exact H) | exact H
       have Ny518 := Aside0.mk hy518; clear hy518
       obtain ⟨ji34, hji34⟩ : ∃ j_ : Int, ((l1.length : Int) % (t507.length : Int)) = j_ := ⟨_, rfl⟩
       replace H : (if 0 ≤ (ji34) then (if (ji34) ≤ (t507.length : Int) then ((some (t507.take ((ji34) : Int).toNat : List (S32))).bind fun y521 => (if y518.length + y521.length < 3518437208883 then ((some (y518 ++ y521 : List (S32))).bind fun y525 => (if 0 ≤ (wrap64 ((ji34) + 1)) then (if (wrap64 ((ji34) + 1)) ≤ (t507.length : Int) then ((some (t507.drop ((wrap64 ((ji34) + 1)) : Int).toNat : List (S32))).bind fun y528 => (if y525.length + y528.length < 3518437208883 then (if t512 = x7_3 then (if t512 ≤ t510 then ((impl_TableSize.f k3 (y525 ++ y528) t510).bind fun t536 => (if (ji34) < (t507.length : Int) then ((laws_lkOne.f ((rd_T32 t507 (ji34)).f0) ((rd_T32 t507 (ji34)).f1) ((rd_T32 t507 (ji34)).f2)).bind fun t538 => (some (t536 == (wrap64 (t512 - t538))))) else (none))) else (some false)) else (some false)) else (none))) else (none)) else (none))) else (none))) else (none)) else (none)) = some r := by first | (rw [hji34] at H; exact H) | (simp only [hji34] at H ⊢; exact H)
       by_cases c35 : 0 ≤ (ji34)
       · rw [if_pos c35] at H
         have c35b0 := eq_true c35
         have c35b1 : decide (0 ≤ (ji34)) = true := decide_eq_true c35
         clear c35
         by_cases c36 : (ji34) ≤ (t507.length : Int)
         · rw [if_pos c36] at H
           have c36b0 := eq_true c36
           have c36b1 : decide ((ji34) ≤ (t507.length : Int)) = true := decide_eq_true c36
           clear c36
           obtain ⟨y521, hy521⟩ : ∃ y_ : List (S32), y_ = (t507.take ((ji34) : Int).toNat) := ⟨_, rfl⟩
           replace H : (if y518.length + y521.length < 3518437208883 then ((some (y518 ++ y521 : List (S32))).bind fun y525 => (if 0 ≤ (wrap64 ((ji34) + 1)) then (if (wrap64 ((ji34) + 1)) ≤ (t507.length : Int) then ((some (t507.drop ((wrap64 ((ji34) + 1)) : Int).toNat : List (S32))).bind fun y528 => (if y525.length + y528.length < 3518437208883 then (if t512 = x7_3 then (if t512 ≤ t510 then ((impl_TableSize.f k3 (y525 ++ y528) t510).bind fun t536 => (if (ji34) < (t507.length : Int) then ((laws_lkOne.f ((rd_T32 t507 (ji34)).f0) ((rd_T32 t507 (ji34)).f1) ((rd_T32 t507 (ji34)).f2)).bind fun t538 => (some (t536 == (wrap64 (t512 - t538))))) else (none))) else (some false)) else (some false)) else (none))) else (none)) else (none))) else (none)) = some r := by first | (rw [hy521]; with_reducible exact H) | (have H2_ := (Option.bind_some _ _).symm.trans H; rw [hy521]; with_reducible exact H2_) | (have H2_ := (Option.bind_some _ _).symm.trans H; with_reducible exact H2_) | with_reducible exact H | (rw [hy521]; exact H) | exact H
           have Ny521 := Aside0.mk hy521; clear hy521
           by_cases c37 : y518.length + y521.length < 3518437208883
           · rw [if_pos c37] at H
             have LMc37 := Aside0.mk c37; clear c37
             obtain ⟨y525, hy525⟩ : ∃ y_ : List (S32), y_ = (y518 ++ y521) := ⟨_, rfl⟩
             replace H : (if 0 ≤ (wrap64 ((ji34) + 1)) then (if (wrap64 ((ji34) + 1)) ≤ (t507.length : Int) then ((some (t507.drop ((wrap64 ((ji34) + 1)) : Int).toNat : List (S32))).bind fun y528 => (if y525.length + y528.length < 3518437208883 then (if t512 = x7_3 then (if t512 ≤ t510 then ((impl_TableSize.f k3 (y525 ++ y528) t510).bind fun t536 => (if (ji34) < (t507.length : Int) then ((laws_lkOne.f ((rd_T32 t507 (ji34)).f0) ((rd_T32 t507 (ji34)).f1) ((rd_T32 t507 (ji34)).f2)).bind fun t538 => (some (t536 == (wrap64 (t512 - t538))))) else (none))) else (some false)) else (some false)) else (none))) else (none)) else (none)) = some r := by first | (rw [hy525]; with_reducible exact H) | (have H2_ := (Option.bind_some _ _).symm.trans H; rw [hy525]; with_reducible exact H2_) | (have H2_ := (Option.bind_some _ _).symm.trans H; with_reducible exact H2_) | with_reducible exact H | (rw [hy525]; exact H) | exact H
             have Ny525 := Aside0.mk hy525; clear hy525
             obtain ⟨ji38, hji38⟩ : ∃ j_ : Int, (wrap64 ((ji34) + 1)) = j_ := ⟨_, rfl⟩
             replace H : (if 0 ≤ (ji38) then (if (ji38) ≤ (t507.length : Int) then ((some (t507.drop ((ji38) : Int).toNat : List (S32))).bind fun y528 => (if y525.length + y528.length < 3518437208883 then (if t512 = x7_3 then (if t512 ≤ t510 then ((impl_TableSize.f k3 (y525 ++ y528) t510).bind fun t536 => (if (ji34) < (t507.length : Int) then ((laws_lkOne.f ((rd_T32 t507 (ji34)).f0) ((rd_T32 t507 (ji34)).f1) ((rd_T32 t507 (ji34)).f2)).bind fun t538 => (some (t536 == (wrap64 (t512 - t538))))) else (none))) else (some false)) else (some false)) else (none))) else (none)) else (none)) = some r := by first | (rw [hji38] at H; exact H) | (simp only [hji38] at H ⊢; exact H)
             have hji38w : (IntKind.i64.wrap ((ji34) + 1)) = ji38 := (i64_w _).trans hji38
             by_cases c39 : 0 ≤ (ji38)
             · rw [if_pos c39] at H
               have c39b0 := eq_true c39
               have c39b1 : decide (0 ≤ (ji38)) = true := decide_eq_true c39
               clear c39
               by_cases c40 : (ji38) ≤ (t507.length : Int)
               · rw [if_pos c40] at H
                 have c40b0 := eq_true c40
                 have c40b1 : decide ((ji38) ≤ (t507.length : Int)) = true := decide_eq_true c40
                 clear c40
                 obtain ⟨y528, hy528⟩ : ∃ y_ : List (S32), y_ = (t507.drop ((ji38) : Int).toNat) := ⟨_, rfl⟩
                 replace H : (if y525.length + y528.length < 3518437208883 then (if t512 = x7_3 then (if t512 ≤ t510 then ((impl_TableSize.f k3 (y525 ++ y528) t510).bind fun t536 => (if (ji34) < (t507.length : Int) then ((laws_lkOne.f ((rd_T32 t507 (ji34)).f0) ((rd_T32 t507 (ji34)).f1) ((rd_T32 t507 (ji34)).f2)).bind fun t538 => (some (t536 == (wrap64 (t512 - t538))))) else (none))) else (some false)) else (some false)) else (none)) = some r := by first | (rw [hy528]; with_reducible exact H) | (have H2_ := (Option.bind_some _ _).symm.trans H; rw [hy528]; with_reducible exact H2_) | (have H2_ := (Option.bind_some _ _).symm.trans H; with_reducible exact H2_) | with_reducible exact H | (rw [hy528]; exact H) | exact H
                 have Ny528 := Aside0.mk hy528; clear hy528
                 by_cases c41 : y525.length + y528.length < 3518437208883
                 · rw [if_pos c41] at H
                   have LMc41 := Aside0.mk c41; clear c41
                   obtain ⟨y532, hy532⟩ : ∃ y_ : List (S32), y_ = (y525 ++ y528) := ⟨_, rfl⟩
                   replace H : (if t512 = x7_3 then (if t512 ≤ t510 then ((impl_TableSize.f k3 y532 t510).bind fun t536 => (if (ji34) < (t507.length : Int) then ((laws_lkOne.f ((rd_T32 t507 (ji34)).f0) ((rd_T32 t507 (ji34)).f1) ((rd_T32 t507 (ji34)).f2)).bind fun t538 => (some (t536 == (wrap64 (t512 - t538))))) else (none))) else (some false)) else (some false)) = some r := by first | (rw [hy532]; with_reducible exact H) | (have H2_ := (Option.bind_some _ _).symm.trans H; rw [hy532]; with_reducible exact H2_) | (have H2_ := (Option.bind_some _ _).symm.trans H; with_reducible exact H2_) | with_reducible exact H | (rw [hy532]; exact H) | exact H
                   have Ny532 := Aside0.mk hy532; clear hy532
                   by_cases c42 : t512 = x7_3
                   · rw [if_pos c42] at H
                     have c42b0 : (t512 == x7_3) = true := beq_iff_eq.mpr c42
                     have c42b1 : (t512 != x7_3) = false := bne_eq_false_iff_eq.mpr c42
                     clear c42
                     by_cases c43 : t512 ≤ t510
                     · rw [if_pos c43] at H
                       have c43b0 : decide (t512 ≤ t510) = true := decide_eq_true c43
                       clear c43; replace H := Option.bind_eq_some_iff.mp H; obtain ⟨t536, A440, H⟩ := H
                       replace H : (if (ji34) < (t507.length : Int) then ((laws_lkOne.f ((rd_T32 t507 (ji34)).f0) ((rd_T32 t507 (ji34)).f1) ((rd_T32 t507 (ji34)).f2)).bind fun t538 => (some (t536 == (wrap64 (t512 - t538))))) else (none)) = some r := H
                       have A44 := Aside0.mk A440; clear A440
                       by_cases c45 : (ji34) < (t507.length : Int)
                       · rw [if_pos c45] at H
                         have c45b0 : decide ((ji34) < (t507.length : Int)) = true := decide_eq_true c45
                         clear c45; replace H := Option.bind_eq_some_iff.mp H; obtain ⟨t538, A460, H⟩ := H
                         replace H : (some (t536 == (wrap64 (t512 - t538)))) = some r := H
                         have A46 := Aside0.mk A460; clear A460
                         obtain rfl := Option.some.inj H
                         have hcz47_0 : wr.cell? ⟨gb511, 0, none⟩ = some (.slice Ao11 t507.length co11) := (blk_cell BK511.out 0).trans rfl
                         have hcz47_1 : wr.cell? ⟨gb511, 1, none⟩ = some (.int .i64 t510) := (blk_cell BK511.out 1).trans rfl
                         have hfz47_0 := blk_frozen BK511.out 0; have hfz47_1 := blk_frozen BK511.out 1
                         try go_wp2
                         have n0_ := Aside0.mk (Kd.R_drew HO_512000.out)
                         have n1_ := Aside0.mk (blk_drew BK511.out)
                         have n2_ := Aside0.mk (below_drew1 HB.out)
                         clear HO_512000; clear BK511; clear HB; have HO_512000 := n0_; have BK511 := n1_; have HB := n2_; clear n0_ n1_ n2_
                         have q49 : ((ji34) : Int) ≤ ((t507.length : Int) : Int) := of_decide_eq_true (by first | (with_reducible assumption) | assumption)
                         obtain ⟨i049, hi049, _, hsz49, _⟩ := info_parts info32
                         have hroom49 : t507.length ≤ co11 := (Kd.R_reads' HO_512000.out).2.1
                         have hC49 : Kd.C k32 _ Ao11 t507.length t507 := (Kd.R_reads' HO_512000.out).2.2
                         have hcut49 := cut_to (P := Try.prog) 25 32 .i64 Try.underlying25 hi049 Ao11 t507.length co11 (ji34) (of_decide_eq_true (by first | (with_reducible assumption) | assumption)) q49 hroom49
                         have hr49 := Kd.C_take (m := ((ji34) : Int).toNat) hC49 (by omega)
                         have hy49 : y521.length = ((ji34) : Int).toNat := (by rw [Ny521.out, List.length_take]; omega)
                         rw [← Ny521.out] at hr49
                         rw [← hy49] at hcut49
                         have HR524 := Aside0.mk hr49
                         have HC524 := Aside0.mk (show y521.length ≤ co11 from by omega)
                         clear hr49 hC49 hroom49 hi049 hsz49; have KY49 := Aside0.mk hy49; clear hy49
                         have KL49 := Aside0.mk (show ((ji34) : Int).toNat ≤ t507.length from by omega)
                         replace q49 := eq_true q49
                         have q50 : ((ji38) : Int) ≤ ((t507.length : Int) : Int) := of_decide_eq_true (by first | (with_reducible assumption) | assumption)
                         obtain ⟨i050, hi050, _, hsz50, _⟩ := info_parts info32
                         have hroom50 : t507.length ≤ co11 := (Kd.R_reads' HO_512000.out).2.1
                         have hC50 : Kd.C k32 _ Ao11 t507.length t507 := (Kd.R_reads' HO_512000.out).2.2
                         have q050 : (0 : Int) ≤ ((ji38) : Int) := of_decide_eq_true (by first | (with_reducible assumption) | assumption)
                         have hcut50 := cut_from (P := Try.prog) 25 32 .i64 Try.underlying25 hi050 3 hsz50 Ao11 t507.length co11 (ji38) q050 q50
                         have hr50 := Kd.C_drop (m := ((ji38) : Int).toNat) (c := co11) hC50 (by omega) hroom50
                         obtain ⟨A50, hA50⟩ : ∃ A1, A1 = (if co11 = ((ji38) : Int).toNat then Ao11 else (Ao11 : Option Addr).map (·.add (((ji38) : Int).toNat * 3))) := ⟨_, rfl⟩
                         obtain ⟨c50, hc50⟩ : ∃ c1, c1 = co11 - ((ji38) : Int).toNat := ⟨_, rfl⟩
                         have hy50 : y528.length = t507.length - ((ji38) : Int).toNat := (by rw [Ny528.out, List.length_drop] <;> omega)
                         rw [show (t507).drop ((ji38) : Int).toNat = y528 from Ny528.out.symm] at hr50
                         replace hr50 : Kd.C k32 _ A50 y528.length y528 := (by rw [hA50]; exact hr50)
                         rw [← hy50, ← hA50, ← hc50] at hcut50
                         have HR531 := Aside0.mk hr50
                         have HC531 := Aside0.mk (show y528.length ≤ c50 from by rw [hy50, hc50]; exact Nat.sub_le_sub_right hroom50 _)
                         clear hr50 hC50 hroom50 hi050 hsz50 hc50; have KY50 := Aside0.mk hy50; have KA50 := Aside0.mk hA50; clear hy50 hA50
                         have KL50 := Aside0.mk (show ((ji38) : Int).toNat ≤ t507.length from by omega)
                         replace q50 := eq_true q50
                         refine start_ (n := 17) (S := fun w' => w'.cell? ⟨gb511, 0, none⟩ = some (.slice Ao11 t507.length co11) ∧ w'.cell? ⟨gb511, 1, none⟩ = some (.int .i64 t510)) (ds := []) #[n,n,n,n,n,n,n,n,n,n,n,n,n,n,n,n,n] (by kernel_rfl) rfl rfl ⟨(blk_cell BK511.out 0).trans rfl, (blk_cell BK511.out 1).trans rfl⟩ (fun hHeld => ?_); refine with_tabW laws_FnTableSize.tab15 laws_FnTableSize.bits15 (fun HT_ HW_ => ?_)
                         generalize wr.drew = w48 at HO_512000 BK511 HB HR524 HR531 hHeld ⊢
                         refine pure_ (i := 1) (N := some 64) (v := ?_) (a' := ?_) #[n,y,n,n,n,n,n,n,n,n,n,n,n,n,n,n,n] rfl rfl (any_of HT_.out (by kernel_rfl)) (fun _ _ _ h => h) (Or.inl ⟨by rfl, ?_⟩) ?_ ?_; rotate_left; exact uV; rotate_left; exact uP; refine pure_ (i := 3) (N := some 66) (v := ?_) (a' := ?_) #[n,y,n,y,n,n,n,n,n,n,n,n,n,n,n,n,n] rfl rfl (any_of HT_.out (by kernel_rfl)) (fun _ _ _ h => h) (Or.inl ⟨by rfl, ?_⟩) ?_ ?_; rotate_left; exact uV; rotate_left; exact uP; refine pure_ (i := 6) (N := some 69) (v := ?_) (a' := ?_) #[n,y,n,y,n,n,y,n,n,n,n,n,n,n,n,n,n] rfl rfl (any_of HT_.out (by kernel_rfl)) (fun _ _ _ h => h) (Or.inl ⟨by rfl, ?_⟩) ?_ ?_; rotate_left; exact uV; rotate_left; exact uP; refine pure_ (i := 8) (N := some 71) (v := ?_) (a' := ?_) #[n,y,n,y,n,n,y,n,y,n,n,n,n,n,n,n,n] rfl rfl (any_of HT_.out (by kernel_rfl)) (fun _ _ _ h => h) (Or.inl ⟨by rfl, ?_⟩) ?_ ?_; rotate_left; exact uV; rotate_left; exact uP; refine pure_ (i := 9) (N := some 72) (v := ?_) (a' := ?_) #[n,y,n,y,n,n,y,n,y,y,n,n,n,n,n,n,n] rfl rfl (any_of HT_.out (by kernel_rfl)) (fun _ _ _ h => h) (Or.inl ⟨by rfl, ?_⟩) ?_ ?_; rotate_left; exact uV; rotate_left; exact uP; refine pure_ (i := 12) (N := some 75) (v := ?_) (a' := ?_) #[n,y,n,y,n,n,y,n,y,y,n,n,y,n,n,n,n] rfl rfl (any_of HT_.out (by kernel_rfl)) (fun _ _ _ h => h) (Or.inl ⟨by rfl, ?_⟩) ?_ ?_; rotate_left; exact uV; rotate_left; exact uP; refine take_ (i := 2) (N := some 65) (v := ?_) (a' := ?_) #[n,y,y,y,n,n,y,n,y,y,n,n,y,n,n,n,n] rfl rfl (take_ofW HT_.out HW_.out (by kernel_rfl)) (fun _ _ _ h => h) (Or.inl ⟨by rfl, ?_⟩) hHeld ?_ ?_; rotate_left; exact uV2; rotate_left; exact uP; refine pure_ (i := 4) (N := some 67) (v := ?_) (a' := ?_) #[n,y,y,y,y,n,y,n,y,y,n,n,y,n,n,n,n] rfl rfl (any_of HT_.out (by kernel_rfl)) (fun _ _ _ h => h) (Or.inl ⟨by rfl, ?_⟩) ?_ ?_; rotate_left; exact uV; rotate_left; exact uP; refine take_ (i := 7) (N := some 70) (v := ?_) (a' := ?_) #[n,y,y,y,y,n,y,y,y,y,n,n,y,n,n,n,n] rfl rfl (take_ofW HT_.out HW_.out (by kernel_rfl)) (fun _ _ _ h => h) (Or.inl ⟨by rfl, ?_⟩) hHeld ?_ ?_; rotate_left; exact uV2; rotate_left; exact uP; refine pure_ (i := 10) (N := some 73) (v := ?_) (a' := ?_) #[n,y,y,y,y,n,y,y,y,y,y,n,y,n,n,n,n] rfl rfl (any_of HT_.out (by kernel_rfl)) (fun _ _ _ h => h) (Or.inl ⟨by rfl, ?_⟩) ?_ ?_; rotate_left; exact uV; rotate_left; exact uP; refine take_ (i := 13) (N := some 76) (v := ?_) (a' := ?_) #[n,y,y,y,y,n,y,y,y,y,y,n,y,y,n,n,n] rfl rfl (take_ofW HT_.out HW_.out (by kernel_rfl)) (fun _ _ _ h => h) (Or.inl ⟨by rfl, ?_⟩) hHeld ?_ ?_; rotate_left; exact uV2; rotate_left; exact uP
                         refine join_ (σ := Value × Value × Value × Nat) 1 #[y,y,y,y,y,y,y,y,y,y,y,y,y,y,y,y,n] (fun s_ => [(63, s_.1), (68, s_.2.1), (74, s_.2.2.1), (10, .pointer (some ⟨s_.2.2.2, 0, none⟩)), (77, .agg #[s_.2.2.1, .int .i64 t510])]) (fun s_ w' => (w'.cell? ⟨gb511, 0, none⟩ = some (.slice Ao11 t507.length co11) ∧ w'.cell? ⟨gb511, 1, none⟩ = some (.int .i64 t510)) ∧ (Kd.R k32 32 w' w.heap.size (fun k_ => some k_ ≠ (.slice Ao11 t507.length co11 : Value).ownBlock) s_.2.2.1 y532) ∧ (Kd.R k32 32 w' w.heap.size (fun k_ => some k_ ≠ (s_.2.2.1 : Value).ownBlock) (.slice Ao11 t507.length co11) t507) ∧ (w'.heap[gb511]? = some (.cells #[.slice Ao11 t507.length co11, .int .i64 t510] 45 (0, 0))) ∧ (w'.heap[s_.2.2.2]? = some (.cells #[.slice none 0 0, .int .i64 0] 45 (0, 0))) ∧ (w.heap.size ≤ s_.2.2.2) ∧ (w.heap.size ≤ s_.2.2.2) ∧ (gb511 ≠ s_.2.2.2) ∧ (s_.2.2.2 ≠ gb511) ∧ (Below w.heap.size w w')) ?_ ?_
                         rotate_left
                         · intro hCont
                           refine two_ (i := 0) (j := 15) (Ni := some 63) (Nj := some 10) #[y,y,y,y,y,n,y,y,y,y,y,n,y,y,n,n,n] #[n,y,y,y,y,n,y,y,y,y,y,n,y,y,n,y,n] rfl rfl rfl rfl (two_of HT_.out (by kernel_rfl)) (by decide) (by decide) (fun K hK => ?_) (fun K hK => ?_)
                           · skip
                             refine Kd.R_lit_step k32 _ 32 ?hg (N := 63) ?hd (xs := ([] : List (S32))) (inner := []) (ok := fun _ => True) (okp := fun _ => True) ?hr ?hp (fun _ hk => hk) trivial (Below.refl _ _) (Nat.le_refl _) (by simp) ?_; (case hd => rfl); (case hg => rfl); (case hr => first | (go_simp; done) | (go_simp; rfl)); (case hp => exact (Reps.none _ _))
                             intro v519 w51 ho52 hb hg_ hnew_
                             clear hg_ hnew_
                             (first | rw [← Ny518.out] at ho52 | (simp only [Int.reduceToNat] at ho52; rw [← Ny518.out] at ho52))
                             have n0_ := Aside0.mk (Kd.R_elder' (by exact uR HO_512000.out) (Kd.R_base ho52) hb)
                             have n1_ := Aside0.mk (Kd.R_lower (Kd.R_new' ho52 (Kd.R_lt (by exact uR HO_512000.out))) (below_size (by exact q1 HB.out GE511.out)))
                             have n2_ := Aside0.mk (blk_below (g := gb511) (o := .cells #[.slice Ao11 t507.length co11, .int .i64 t510] 45 (0, 0)) (by exact uB BK511.out) hb)
                             have n3_ := Aside0.mk (Kd.C_below (by exact uC HR524.out) hb)
                             have n4_ := Aside0.mk (Kd.C_below (by exact uC HR531.out) hb)
                             have n5_ := Aside0.mk (below_step (by exact q1 HB.out GE511.out) hb)
                             clear HO_512000; clear BK511; clear HR524; clear HR531; clear HB; have HO_512000 := n0_; have HO520 := n1_; have BK511 := n2_; have HR524 := n3_; have HR531 := n4_; have HB := n5_; clear n0_ n1_ n2_ n3_ n4_ n5_; clear hb ho52
                             refine hK.out _ _ ⟨(blk_cell BK511.out 0).trans rfl, (blk_cell BK511.out 1).trans rfl⟩ (fun hHeld => ?_)
                             clear hK K
                             refine norm_ (a' := ?_) ?_ ?_
                             rotate_left; show Act.put _ (some 63) _ = _; exact uP
                             refine two_ (i := 5) (j := 15) (Ni := some 68) (Nj := some 10) #[y,y,y,y,y,y,y,y,y,y,y,n,y,y,n,n,n] #[y,y,y,y,y,n,y,y,y,y,y,n,y,y,n,y,n] rfl rfl rfl rfl (two_of HT_.out (by kernel_rfl)) (by decide) (by decide) (fun K hK => ?_) (fun K hK => ?_)
                             · skip
                               refine Kd.R_append_rows_step k32 (w0 := w) w.heap.size (by rfl) (.tmp 63) (.tmp 67) 25 32 (.agg #[(.string ⟨#[]⟩), (.string ⟨#[]⟩), (.bool false)]) 40 rfl Try.underlying25 info32 rfl (by decide) (by omega) v519 y518 y521 _ _ _ (fun k_ => some k_ ≠ (.slice Ao11 t507.length co11 : Value).ownBlock) (fun _ => False) rfl rfl ?aO ?aR (fun _ _ h => h) (fun _ h => h.elim) ?aF ?aB ?aS ?aL ?_
                               (case aR => repeat (first | exact (by exact uC HR524.out) | (with_reducible refine Kd.C_alloc ?_ _) | (with_reducible refine Kd.C_drewN ?_ _) | (with_reducible refine Kd.C_drew ?_)))
                               (case aB => exact (by exact q1 HB.out GE511.out))
                               (case aF => exact (fun k_ hk => Kd.fresh' (Kd.R_lt (by exact uR HO_512000.out)) k_ hk))
                               (case aO => exact (by refine uR ?_; exact Kd.R_mono HO520.out (fun _ hk => hk.2)))
                               (case aS => exact (below_size (by exact q1 HB.out GE511.out)))
                               (case aL => have := LMc37.out; omega)
                               intro v526 w53 ho hb hg hat
                               rw [← Ny525.out] at ho
                               have n0_ := Aside0.mk (Kd.R_after (ok := (fun _ => True)) (by exact uR HO_512000.out) hg hat)
                               have n1_ := Aside0.mk (blk_grown (g := gb511) (o := .cells #[.slice Ao11 t507.length co11, .int .i64 t510] 45 (0, 0)) (by exact uB BK511.out) hg (Kd.R_ne HO520.out BK511.out (by decide)))
                               have n2_ := Aside0.mk (hb)
                               have n3_ := Aside0.mk ((show Kd.C k32 w53 Ao11 y521.length y521 from by rw [Ny521.out]; exact Kd.C_take (m := ((ji34) : Int).toNat) ((Kd.R_reads' (Kd.R_after (ok := (fun _ => True)) (by exact uR HO_512000.out) hg hat)).2.2) KL49.out))
                               have n4_ := Aside0.mk ((show Kd.C k32 w53 A50 y528.length y528 from by rw [Ny528.out, KA50.out]; exact Kd.C_drop (m := ((ji38) : Int).toNat) (c := co11) ((Kd.R_reads' (Kd.R_after (ok := (fun _ => True)) (by exact uR HO_512000.out) hg hat)).2.2) KL50.out ((Kd.R_reads' (Kd.R_after (ok := (fun _ => True)) (by exact uR HO_512000.out) hg hat)).2.1)))
                               have n5_ := Aside0.mk (ho)
                               clear HO_512000; clear BK511; clear HB; clear HR524; clear HR531; clear HO520; have HO_512000 := n0_; have BK511 := n1_; have HB := n2_; have HR524 := n3_; have HR531 := n4_; have HO527 := n5_; clear n0_ n1_ n2_ n3_ n4_ n5_; clear ho hb hg hat
                               refine hK.out _ _ ⟨(blk_cell BK511.out 0).trans rfl, (blk_cell BK511.out 1).trans rfl⟩ (fun hHeld => ?_)
                               clear hK K
                               refine norm_ (a' := ?_) ?_ ?_
                               rotate_left; show Act.put _ (some 68) _ = _; exact uP
                               refine two_ (i := 11) (j := 15) (Ni := some 74) (Nj := some 10) #[y,y,y,y,y,y,y,y,y,y,y,y,y,y,n,n,n] #[y,y,y,y,y,y,y,y,y,y,y,n,y,y,n,y,n] rfl rfl rfl rfl (two_of HT_.out (by kernel_rfl)) (by decide) (by decide) (fun K hK => ?_) (fun K hK => ?_)
                               · skip
                                 refine Kd.R_append_rows_step k32 (w0 := w) w.heap.size (by rfl) (.tmp 68) (.tmp 73) 25 32 (.agg #[(.string ⟨#[]⟩), (.string ⟨#[]⟩), (.bool false)]) 40 rfl Try.underlying25 info32 rfl (by decide) (by omega) v526 y525 y528 _ _ _ (fun k_ => some k_ ≠ (.slice Ao11 t507.length co11 : Value).ownBlock) (fun _ => False) rfl rfl ?aO ?aR (fun _ _ h => h) (fun _ h => h.elim) ?aF ?aB ?aS ?aL ?_
                                 (case aR => repeat (first | exact (by exact uC HR531.out) | (with_reducible refine Kd.C_alloc ?_ _) | (with_reducible refine Kd.C_drewN ?_ _) | (with_reducible refine Kd.C_drew ?_)))
                                 (case aB => exact (by exact q1 HB.out GE511.out))
                                 (case aF => exact (fun k_ hk => Kd.fresh' (Kd.R_lt (by exact uR HO_512000.out)) k_ hk))
                                 (case aO => exact (by exact uR HO527.out))
                                 (case aS => exact (below_size (by exact q1 HB.out GE511.out)))
                                 (case aL => have := LMc41.out; omega)
                                 intro v533 w54 ho hb hg hat
                                 rw [← Ny532.out] at ho
                                 have n0_ := Aside0.mk (Kd.R_after (ok := (fun _ => True)) (by exact uR HO_512000.out) hg hat)
                                 have n1_ := Aside0.mk (blk_grown (g := gb511) (o := .cells #[.slice Ao11 t507.length co11, .int .i64 t510] 45 (0, 0)) (by exact uB BK511.out) hg (Kd.R_ne HO527.out BK511.out (by decide)))
                                 have n2_ := Aside0.mk (hb)
                                 have n3_ := Aside0.mk ((show Kd.C k32 w54 Ao11 y521.length y521 from by rw [Ny521.out]; exact Kd.C_take (m := ((ji34) : Int).toNat) ((Kd.R_reads' (Kd.R_after (ok := (fun _ => True)) (by exact uR HO_512000.out) hg hat)).2.2) KL49.out))
                                 have n4_ := Aside0.mk ((show Kd.C k32 w54 A50 y528.length y528 from by rw [Ny528.out, KA50.out]; exact Kd.C_drop (m := ((ji38) : Int).toNat) (c := co11) ((Kd.R_reads' (Kd.R_after (ok := (fun _ => True)) (by exact uR HO_512000.out) hg hat)).2.2) KL50.out ((Kd.R_reads' (Kd.R_after (ok := (fun _ => True)) (by exact uR HO_512000.out) hg hat)).2.1)))
                                 have n5_ := Aside0.mk (ho)
                                 clear HO_512000; clear BK511; clear HB; clear HR524; clear HR531; clear HO527; have HO_512000 := n0_; have BK511 := n1_; have HB := n2_; have HR524 := n3_; have HR531 := n4_; have HO534 := n5_; clear n0_ n1_ n2_ n3_ n4_ n5_; clear ho hb hg hat
                                 obtain ⟨Ao55, co55, eo55⟩ := Kd.R_slice HO534.out
                                 (first | subst eo55 | (injection eo55 with f1_ f2_ f3_; have f4_ := f1_.symm; have f5_ := f3_.symm; clear f1_ f2_ f3_; subst f4_; subst f5_))
                                 refine hK.out _ _ ⟨(blk_cell BK511.out 0).trans rfl, (blk_cell BK511.out 1).trans rfl⟩ (fun hHeld => ?_)
                                 clear hK K
                                 refine norm_ (a' := ?_) ?_ ?_
                                 rotate_left; show Act.put _ (some 74) _ = _; exact uP; refine pure_ (i := 14) (N := some 77) (v := ?_) (a' := ?_) #[y,y,y,y,y,y,y,y,y,y,y,y,y,y,y,n,n] rfl rfl (any_of HT_.out (by kernel_rfl)) (fun _ _ _ h => h) (Or.inl ⟨by rfl, ?_⟩) ?_ ?_; rotate_left; exact uV; rotate_left; exact uP
                                 refine one_ (i := 15) (N := some 10) #[y,y,y,y,y,y,y,y,y,y,y,y,y,y,y,y,n] rfl rfl (one_of HT_.out (by kernel_rfl)) (by decide) (fun K hK => ?_)
                                 refine box_step ?hg (N := 10) ?hd (cs := #[.slice none 0 0, .int .i64 0]) (t := 45) ?hr ?_; (case hd => rfl); (case hg => rfl); (case hr => first | (go_simp; done) | (go_simp; rfl))
                                 intro gb535 hg w56 hbox hb
                                 have n0_ := Aside0.mk (Kd.R_below (by exact uR HO_512000.out) hb)
                                 have n1_ := Aside0.mk (Kd.R_below (by exact uR HO534.out) hb)
                                 have n2_ := Aside0.mk (blk_below (g := gb511) (o := .cells #[.slice Ao11 t507.length co11, .int .i64 t510] 45 (0, 0)) (by exact uB BK511.out) hb)
                                 have n3_ := Aside0.mk (Kd.C_below (by exact uC HR524.out) hb)
                                 have n4_ := Aside0.mk (Kd.C_below (by exact uC HR531.out) hb)
                                 have n5_ := Aside0.mk (below_step (by exact q1 HB.out GE511.out) hb)
                                 have n6_ := Aside0.mk (hbox)
                                 have n7_ := Aside0.mk ((by rw [hg]; exact (below_size (by exact q1 HB.out GE511.out)) : w.heap.size ≤ gb535))
                                 have n8_ := Aside0.mk ((by rw [hg]; exact (below_size (by exact q1 HB.out GE511.out)) : w.heap.size ≤ gb535))
                                 have n9_ := Aside0.mk ((by rw [hg]; exact Nat.ne_of_lt (blk_lt (g := gb511) (o := .cells #[.slice Ao11 t507.length co11, .int .i64 t510] 45 (0, 0)) (by exact uB BK511.out)) : gb511 ≠ gb535))
                                 have n10_ := Aside0.mk ((by rw [hg]; exact Nat.ne_of_gt (blk_lt (g := gb511) (o := .cells #[.slice Ao11 t507.length co11, .int .i64 t510] 45 (0, 0)) (by exact uB BK511.out)) : gb535 ≠ gb511))
                                 clear HO_512000; clear HO534; clear BK511; clear HR524; clear HR531; clear HB; have HO_512000 := n0_; have HO534 := n1_; have BK511 := n2_; have HR524 := n3_; have HR531 := n4_; have HB := n5_; have BK535 := n6_; have GW535 := n7_; have GE535 := n8_; have NB511_535 := n9_; have NB535_511 := n10_; clear n0_ n1_ n2_ n3_ n4_ n5_ n6_ n7_ n8_ n9_ n10_; clear hb hbox hg
                                 refine hK.out _ _ ⟨(blk_cell BK511.out 0).trans rfl, (blk_cell BK511.out 1).trans rfl⟩ (fun hHeld => ?_)
                                 clear hK K
                                 refine norm_ (a' := ?_) ?_ ?_
                                 rotate_left; show Act.put _ (some 10) _ = _; exact uP
                                 exact norm_ (by simp only [putAll, Act.put, List.setIfInBounds_toArray, List.set_cons_zero, List.set_cons_succ]) (hCont (v519, v526, .slice Ao55 y532.length co55, gb535) _ ⟨hHeld, (by exact uR HO534.out), (by refine uR ?_; exact Kd.R_mono HO_512000.out (fun _ hk => hk.2)), (by exact uB BK511.out), (by exact uB BK535.out), GW535.out, GE535.out, NB511_535.out, NB535_511.out, (by exact q2 HB.out GE511.out GE535.out)⟩)
                               skip
                               refine box_step ?hg (N := 10) ?hd (cs := #[.slice none 0 0, .int .i64 0]) (t := 45) ?hr ?_; (case hd => rfl); (case hg => rfl); (case hr => first | (go_simp; done) | (go_simp; rfl))
                               intro gb535 hg w54 hbox hb
                               have n0_ := Aside0.mk (Kd.R_below (by exact uR HO_512000.out) hb)
                               have n1_ := Aside0.mk (Kd.R_below (by exact uR HO527.out) hb)
                               have n2_ := Aside0.mk (blk_below (g := gb511) (o := .cells #[.slice Ao11 t507.length co11, .int .i64 t510] 45 (0, 0)) (by exact uB BK511.out) hb)
                               have n3_ := Aside0.mk (Kd.C_below (by exact uC HR524.out) hb)
                               have n4_ := Aside0.mk (Kd.C_below (by exact uC HR531.out) hb)
                               have n5_ := Aside0.mk (below_step (by exact q1 HB.out GE511.out) hb)
                               have n6_ := Aside0.mk (hbox)
                               have n7_ := Aside0.mk ((by rw [hg]; exact (below_size (by exact q1 HB.out GE511.out)) : w.heap.size ≤ gb535))
                               have n8_ := Aside0.mk ((by rw [hg]; exact (below_size (by exact q1 HB.out GE511.out)) : w.heap.size ≤ gb535))
                               have n9_ := Aside0.mk ((by rw [hg]; exact Nat.ne_of_lt (blk_lt (g := gb511) (o := .cells #[.slice Ao11 t507.length co11, .int .i64 t510] 45 (0, 0)) (by exact uB BK511.out)) : gb511 ≠ gb535))
                               have n10_ := Aside0.mk ((by rw [hg]; exact Nat.ne_of_gt (blk_lt (g := gb511) (o := .cells #[.slice Ao11 t507.length co11, .int .i64 t510] 45 (0, 0)) (by exact uB BK511.out)) : gb535 ≠ gb511))
                               clear HO_512000; clear HO527; clear BK511; clear HR524; clear HR531; clear HB; have HO_512000 := n0_; have HO527 := n1_; have BK511 := n2_; have HR524 := n3_; have HR531 := n4_; have HB := n5_; have BK535 := n6_; have GW535 := n7_; have GE535 := n8_; have NB511_535 := n9_; have NB535_511 := n10_; clear n0_ n1_ n2_ n3_ n4_ n5_ n6_ n7_ n8_ n9_ n10_; clear hb hbox hg
                               refine hK.out _ _ ⟨(blk_cell BK511.out 0).trans rfl, (blk_cell BK511.out 1).trans rfl⟩ (fun hHeld => ?_)
                               clear hK K
                               refine norm_ (a' := ?_) ?_ ?_
                               rotate_left; show Act.put _ (some 10) _ = _; exact uP
                               refine one_ (i := 11) (N := some 74) #[y,y,y,y,y,y,y,y,y,y,y,y,y,y,n,y,n] rfl rfl (one_of HT_.out (by kernel_rfl)) (by decide) (fun K hK => ?_)
                               refine Kd.R_append_rows_step k32 (w0 := w) w.heap.size (by rfl) (.tmp 68) (.tmp 73) 25 32 (.agg #[(.string ⟨#[]⟩), (.string ⟨#[]⟩), (.bool false)]) 40 rfl Try.underlying25 info32 rfl (by decide) (by omega) v526 y525 y528 _ _ _ (fun k_ => some k_ ≠ (.slice Ao11 t507.length co11 : Value).ownBlock) (fun _ => False) rfl rfl ?aO ?aR (fun _ _ h => h) (fun _ h => h.elim) ?aF ?aB ?aS ?aL ?_
                               (case aR => repeat (first | exact (by exact uC HR531.out) | (with_reducible refine Kd.C_alloc ?_ _) | (with_reducible refine Kd.C_drewN ?_ _) | (with_reducible refine Kd.C_drew ?_)))
                               (case aB => exact (by exact q2 HB.out GE511.out GE535.out))
                               (case aF => exact (fun k_ hk => Kd.fresh' (Kd.R_lt (by exact uR HO_512000.out)) k_ hk))
                               (case aO => exact (by exact uR HO527.out))
                               (case aS => exact (below_size (by exact q2 HB.out GE511.out GE535.out)))
                               (case aL => have := LMc41.out; omega)
                               intro v533 w55 ho hb hg hat
                               rw [← Ny532.out] at ho
                               have n0_ := Aside0.mk (Kd.R_after (ok := (fun _ => True)) (by exact uR HO_512000.out) hg hat)
                               have n1_ := Aside0.mk (blk_grown (g := gb511) (o := .cells #[.slice Ao11 t507.length co11, .int .i64 t510] 45 (0, 0)) (by exact uB BK511.out) hg (Kd.R_ne HO527.out BK511.out (by decide)))
                               have n2_ := Aside0.mk (blk_grown (g := gb535) (o := .cells #[.slice none 0 0, .int .i64 0] 45 (0, 0)) (by exact uB BK535.out) hg (Kd.R_ne HO527.out BK535.out (by decide)))
                               have n3_ := Aside0.mk (hb)
                               have n4_ := Aside0.mk ((show Kd.C k32 w55 Ao11 y521.length y521 from by rw [Ny521.out]; exact Kd.C_take (m := ((ji34) : Int).toNat) ((Kd.R_reads' (Kd.R_after (ok := (fun _ => True)) (by exact uR HO_512000.out) hg hat)).2.2) KL49.out))
                               have n5_ := Aside0.mk ((show Kd.C k32 w55 A50 y528.length y528 from by rw [Ny528.out, KA50.out]; exact Kd.C_drop (m := ((ji38) : Int).toNat) (c := co11) ((Kd.R_reads' (Kd.R_after (ok := (fun _ => True)) (by exact uR HO_512000.out) hg hat)).2.2) KL50.out ((Kd.R_reads' (Kd.R_after (ok := (fun _ => True)) (by exact uR HO_512000.out) hg hat)).2.1)))
                               have n6_ := Aside0.mk (ho)
                               clear HO_512000; clear BK511; clear BK535; clear HB; clear HR524; clear HR531; clear HO527; have HO_512000 := n0_; have BK511 := n1_; have BK535 := n2_; have HB := n3_; have HR524 := n4_; have HR531 := n5_; have HO534 := n6_; clear n0_ n1_ n2_ n3_ n4_ n5_ n6_; clear ho hb hg hat
                               obtain ⟨Ao56, co56, eo56⟩ := Kd.R_slice HO534.out
                               (first | subst eo56 | (injection eo56 with f1_ f2_ f3_; have f4_ := f1_.symm; have f5_ := f3_.symm; clear f1_ f2_ f3_; subst f4_; subst f5_))
                               refine hK.out _ _ ⟨(blk_cell BK511.out 0).trans rfl, (blk_cell BK511.out 1).trans rfl⟩ (fun hHeld => ?_)
                               clear hK K
                               refine norm_ (a' := ?_) ?_ ?_
                               rotate_left; show Act.put _ (some 74) _ = _; exact uP; refine pure_ (i := 14) (N := some 77) (v := ?_) (a' := ?_) #[y,y,y,y,y,y,y,y,y,y,y,y,y,y,y,y,n] rfl rfl (any_of HT_.out (by kernel_rfl)) (fun _ _ _ h => h) (Or.inl ⟨by rfl, ?_⟩) ?_ ?_; rotate_left; exact uV; rotate_left; exact uP
                               exact norm_ (by simp only [putAll, Act.put, List.setIfInBounds_toArray, List.set_cons_zero, List.set_cons_succ]) (hCont (v519, v526, .slice Ao56 y532.length co56, gb535) _ ⟨hHeld, (by exact uR HO534.out), (by refine uR ?_; exact Kd.R_mono HO_512000.out (fun _ hk => hk.2)), (by exact uB BK511.out), (by exact uB BK535.out), GW535.out, GE535.out, NB511_535.out, NB535_511.out, (by exact q2 HB.out GE511.out GE535.out)⟩)
                             skip
                             refine box_step ?hg (N := 10) ?hd (cs := #[.slice none 0 0, .int .i64 0]) (t := 45) ?hr ?_; (case hd => rfl); (case hg => rfl); (case hr => first | (go_simp; done) | (go_simp; rfl))
                             intro gb535 hg w53 hbox hb
                             have n0_ := Aside0.mk (Kd.R_below (by exact uR HO_512000.out) hb)
                             have n1_ := Aside0.mk (Kd.R_below (by exact uR HO520.out) hb)
                             have n2_ := Aside0.mk (blk_below (g := gb511) (o := .cells #[.slice Ao11 t507.length co11, .int .i64 t510] 45 (0, 0)) (by exact uB BK511.out) hb)
                             have n3_ := Aside0.mk (Kd.C_below (by exact uC HR524.out) hb)
                             have n4_ := Aside0.mk (Kd.C_below (by exact uC HR531.out) hb)
                             have n5_ := Aside0.mk (below_step (by exact q1 HB.out GE511.out) hb)
                             have n6_ := Aside0.mk (hbox)
                             have n7_ := Aside0.mk ((by rw [hg]; exact (below_size (by exact q1 HB.out GE511.out)) : w.heap.size ≤ gb535))
                             have n8_ := Aside0.mk ((by rw [hg]; exact (below_size (by exact q1 HB.out GE511.out)) : w.heap.size ≤ gb535))
                             have n9_ := Aside0.mk ((by rw [hg]; exact Nat.ne_of_lt (blk_lt (g := gb511) (o := .cells #[.slice Ao11 t507.length co11, .int .i64 t510] 45 (0, 0)) (by exact uB BK511.out)) : gb511 ≠ gb535))
                             have n10_ := Aside0.mk ((by rw [hg]; exact Nat.ne_of_gt (blk_lt (g := gb511) (o := .cells #[.slice Ao11 t507.length co11, .int .i64 t510] 45 (0, 0)) (by exact uB BK511.out)) : gb535 ≠ gb511))
                             clear HO_512000; clear HO520; clear BK511; clear HR524; clear HR531; clear HB; have HO_512000 := n0_; have HO520 := n1_; have BK511 := n2_; have HR524 := n3_; have HR531 := n4_; have HB := n5_; have BK535 := n6_; have GW535 := n7_; have GE535 := n8_; have NB511_535 := n9_; have NB535_511 := n10_; clear n0_ n1_ n2_ n3_ n4_ n5_ n6_ n7_ n8_ n9_ n10_; clear hb hbox hg
                             refine hK.out _ _ ⟨(blk_cell BK511.out 0).trans rfl, (blk_cell BK511.out 1).trans rfl⟩ (fun hHeld => ?_)
                             clear hK K
                             refine norm_ (a' := ?_) ?_ ?_
                             rotate_left; show Act.put _ (some 10) _ = _; exact uP
                             refine one_ (i := 5) (N := some 68) #[y,y,y,y,y,y,y,y,y,y,y,n,y,y,n,y,n] rfl rfl (one_of HT_.out (by kernel_rfl)) (by decide) (fun K hK => ?_)
                             refine Kd.R_append_rows_step k32 (w0 := w) w.heap.size (by rfl) (.tmp 63) (.tmp 67) 25 32 (.agg #[(.string ⟨#[]⟩), (.string ⟨#[]⟩), (.bool false)]) 40 rfl Try.underlying25 info32 rfl (by decide) (by omega) v519 y518 y521 _ _ _ (fun k_ => some k_ ≠ (.slice Ao11 t507.length co11 : Value).ownBlock) (fun _ => False) rfl rfl ?aO ?aR (fun _ _ h => h) (fun _ h => h.elim) ?aF ?aB ?aS ?aL ?_
                             (case aR => repeat (first | exact (by exact uC HR524.out) | (with_reducible refine Kd.C_alloc ?_ _) | (with_reducible refine Kd.C_drewN ?_ _) | (with_reducible refine Kd.C_drew ?_)))
                             (case aB => exact (by exact q2 HB.out GE511.out GE535.out))
                             (case aF => exact (fun k_ hk => Kd.fresh' (Kd.R_lt (by exact uR HO_512000.out)) k_ hk))
                             (case aO => exact (by refine uR ?_; exact Kd.R_mono HO520.out (fun _ hk => hk.2)))
                             (case aS => exact (below_size (by exact q2 HB.out GE511.out GE535.out)))
                             (case aL => have := LMc37.out; omega)
                             intro v526 w54 ho hb hg hat
                             rw [← Ny525.out] at ho
                             have n0_ := Aside0.mk (Kd.R_after (ok := (fun _ => True)) (by exact uR HO_512000.out) hg hat)
                             have n1_ := Aside0.mk (blk_grown (g := gb511) (o := .cells #[.slice Ao11 t507.length co11, .int .i64 t510] 45 (0, 0)) (by exact uB BK511.out) hg (Kd.R_ne HO520.out BK511.out (by decide)))
                             have n2_ := Aside0.mk (blk_grown (g := gb535) (o := .cells #[.slice none 0 0, .int .i64 0] 45 (0, 0)) (by exact uB BK535.out) hg (Kd.R_ne HO520.out BK535.out (by decide)))
                             have n3_ := Aside0.mk (hb)
                             have n4_ := Aside0.mk ((show Kd.C k32 w54 Ao11 y521.length y521 from by rw [Ny521.out]; exact Kd.C_take (m := ((ji34) : Int).toNat) ((Kd.R_reads' (Kd.R_after (ok := (fun _ => True)) (by exact uR HO_512000.out) hg hat)).2.2) KL49.out))
                             have n5_ := Aside0.mk ((show Kd.C k32 w54 A50 y528.length y528 from by rw [Ny528.out, KA50.out]; exact Kd.C_drop (m := ((ji38) : Int).toNat) (c := co11) ((Kd.R_reads' (Kd.R_after (ok := (fun _ => True)) (by exact uR HO_512000.out) hg hat)).2.2) KL50.out ((Kd.R_reads' (Kd.R_after (ok := (fun _ => True)) (by exact uR HO_512000.out) hg hat)).2.1)))
                             have n6_ := Aside0.mk (ho)
                             clear HO_512000; clear BK511; clear BK535; clear HB; clear HR524; clear HR531; clear HO520; have HO_512000 := n0_; have BK511 := n1_; have BK535 := n2_; have HB := n3_; have HR524 := n4_; have HR531 := n5_; have HO527 := n6_; clear n0_ n1_ n2_ n3_ n4_ n5_ n6_; clear ho hb hg hat
                             refine hK.out _ _ ⟨(blk_cell BK511.out 0).trans rfl, (blk_cell BK511.out 1).trans rfl⟩ (fun hHeld => ?_)
                             clear hK K
                             refine norm_ (a' := ?_) ?_ ?_
                             rotate_left; show Act.put _ (some 68) _ = _; exact uP
                             refine one_ (i := 11) (N := some 74) #[y,y,y,y,y,y,y,y,y,y,y,y,y,y,n,y,n] rfl rfl (one_of HT_.out (by kernel_rfl)) (by decide) (fun K hK => ?_)
                             refine Kd.R_append_rows_step k32 (w0 := w) w.heap.size (by rfl) (.tmp 68) (.tmp 73) 25 32 (.agg #[(.string ⟨#[]⟩), (.string ⟨#[]⟩), (.bool false)]) 40 rfl Try.underlying25 info32 rfl (by decide) (by omega) v526 y525 y528 _ _ _ (fun k_ => some k_ ≠ (.slice Ao11 t507.length co11 : Value).ownBlock) (fun _ => False) rfl rfl ?aO ?aR (fun _ _ h => h) (fun _ h => h.elim) ?aF ?aB ?aS ?aL ?_
                             (case aR => repeat (first | exact (by exact uC HR531.out) | (with_reducible refine Kd.C_alloc ?_ _) | (with_reducible refine Kd.C_drewN ?_ _) | (with_reducible refine Kd.C_drew ?_)))
                             (case aB => exact (by exact q2 HB.out GE511.out GE535.out))
                             (case aF => exact (fun k_ hk => Kd.fresh' (Kd.R_lt (by exact uR HO_512000.out)) k_ hk))
                             (case aO => exact (by exact uR HO527.out))
                             (case aS => exact (below_size (by exact q2 HB.out GE511.out GE535.out)))
                             (case aL => have := LMc41.out; omega)
                             intro v533 w55 ho hb hg hat
                             rw [← Ny532.out] at ho
                             have n0_ := Aside0.mk (Kd.R_after (ok := (fun _ => True)) (by exact uR HO_512000.out) hg hat)
                             have n1_ := Aside0.mk (blk_grown (g := gb511) (o := .cells #[.slice Ao11 t507.length co11, .int .i64 t510] 45 (0, 0)) (by exact uB BK511.out) hg (Kd.R_ne HO527.out BK511.out (by decide)))
                             have n2_ := Aside0.mk (blk_grown (g := gb535) (o := .cells #[.slice none 0 0, .int .i64 0] 45 (0, 0)) (by exact uB BK535.out) hg (Kd.R_ne HO527.out BK535.out (by decide)))
                             have n3_ := Aside0.mk (hb)
                             have n4_ := Aside0.mk ((show Kd.C k32 w55 Ao11 y521.length y521 from by rw [Ny521.out]; exact Kd.C_take (m := ((ji34) : Int).toNat) ((Kd.R_reads' (Kd.R_after (ok := (fun _ => True)) (by exact uR HO_512000.out) hg hat)).2.2) KL49.out))
                             have n5_ := Aside0.mk ((show Kd.C k32 w55 A50 y528.length y528 from by rw [Ny528.out, KA50.out]; exact Kd.C_drop (m := ((ji38) : Int).toNat) (c := co11) ((Kd.R_reads' (Kd.R_after (ok := (fun _ => True)) (by exact uR HO_512000.out) hg hat)).2.2) KL50.out ((Kd.R_reads' (Kd.R_after (ok := (fun _ => True)) (by exact uR HO_512000.out) hg hat)).2.1)))
                             have n6_ := Aside0.mk (ho)
                             clear HO_512000; clear BK511; clear BK535; clear HB; clear HR524; clear HR531; clear HO527; have HO_512000 := n0_; have BK511 := n1_; have BK535 := n2_; have HB := n3_; have HR524 := n4_; have HR531 := n5_; have HO534 := n6_; clear n0_ n1_ n2_ n3_ n4_ n5_ n6_; clear ho hb hg hat
                             obtain ⟨Ao56, co56, eo56⟩ := Kd.R_slice HO534.out
                             (first | subst eo56 | (injection eo56 with f1_ f2_ f3_; have f4_ := f1_.symm; have f5_ := f3_.symm; clear f1_ f2_ f3_; subst f4_; subst f5_))
                             refine hK.out _ _ ⟨(blk_cell BK511.out 0).trans rfl, (blk_cell BK511.out 1).trans rfl⟩ (fun hHeld => ?_)
                             clear hK K
                             refine norm_ (a' := ?_) ?_ ?_
                             rotate_left; show Act.put _ (some 74) _ = _; exact uP; refine pure_ (i := 14) (N := some 77) (v := ?_) (a' := ?_) #[y,y,y,y,y,y,y,y,y,y,y,y,y,y,y,y,n] rfl rfl (any_of HT_.out (by kernel_rfl)) (fun _ _ _ h => h) (Or.inl ⟨by rfl, ?_⟩) ?_ ?_; rotate_left; exact uV; rotate_left; exact uP
                             exact norm_ (by simp only [putAll, Act.put, List.setIfInBounds_toArray, List.set_cons_zero, List.set_cons_succ]) (hCont (v519, v526, .slice Ao56 y532.length co56, gb535) _ ⟨hHeld, (by exact uR HO534.out), (by refine uR ?_; exact Kd.R_mono HO_512000.out (fun _ hk => hk.2)), (by exact uB BK511.out), (by exact uB BK535.out), GW535.out, GE535.out, NB511_535.out, NB535_511.out, (by exact q2 HB.out GE511.out GE535.out)⟩)
                           skip
                           refine box_step ?hg (N := 10) ?hd (cs := #[.slice none 0 0, .int .i64 0]) (t := 45) ?hr ?_; (case hd => rfl); (case hg => rfl); (case hr => first | (go_simp; done) | (go_simp; rfl))
                           intro gb535 hg w51 hbox hb
                           have n0_ := Aside0.mk (Kd.R_below (by exact uR HO_512000.out) hb)
                           have n1_ := Aside0.mk (blk_below (g := gb511) (o := .cells #[.slice Ao11 t507.length co11, .int .i64 t510] 45 (0, 0)) (by exact uB BK511.out) hb)
                           have n2_ := Aside0.mk (Kd.C_below (by exact uC HR524.out) hb)
                           have n3_ := Aside0.mk (Kd.C_below (by exact uC HR531.out) hb)
                           have n4_ := Aside0.mk (below_step (by exact q1 HB.out GE511.out) hb)
                           have n5_ := Aside0.mk (hbox)
                           have n6_ := Aside0.mk ((by rw [hg]; exact (below_size (by exact q1 HB.out GE511.out)) : w.heap.size ≤ gb535))
                           have n7_ := Aside0.mk ((by rw [hg]; exact (below_size (by exact q1 HB.out GE511.out)) : w.heap.size ≤ gb535))
                           have n8_ := Aside0.mk ((by rw [hg]; exact Nat.ne_of_lt (blk_lt (g := gb511) (o := .cells #[.slice Ao11 t507.length co11, .int .i64 t510] 45 (0, 0)) (by exact uB BK511.out)) : gb511 ≠ gb535))
                           have n9_ := Aside0.mk ((by rw [hg]; exact Nat.ne_of_gt (blk_lt (g := gb511) (o := .cells #[.slice Ao11 t507.length co11, .int .i64 t510] 45 (0, 0)) (by exact uB BK511.out)) : gb535 ≠ gb511))
                           clear HO_512000; clear BK511; clear HR524; clear HR531; clear HB; have HO_512000 := n0_; have BK511 := n1_; have HR524 := n2_; have HR531 := n3_; have HB := n4_; have BK535 := n5_; have GW535 := n6_; have GE535 := n7_; have NB511_535 := n8_; have NB535_511 := n9_; clear n0_ n1_ n2_ n3_ n4_ n5_ n6_ n7_ n8_ n9_; clear hb hbox hg
                           refine hK.out _ _ ⟨(blk_cell BK511.out 0).trans rfl, (blk_cell BK511.out 1).trans rfl⟩ (fun hHeld => ?_)
                           clear hK K
                           refine norm_ (a' := ?_) ?_ ?_
                           rotate_left; show Act.put _ (some 10) _ = _; exact uP
                           refine one_ (i := 0) (N := some 63) #[y,y,y,y,y,n,y,y,y,y,y,n,y,y,n,y,n] rfl rfl (one_of HT_.out (by kernel_rfl)) (by decide) (fun K hK => ?_)
                           refine Kd.R_lit_step k32 _ 32 ?hg (N := 63) ?hd (xs := ([] : List (S32))) (inner := []) (ok := fun _ => True) (okp := fun _ => True) ?hr ?hp (fun _ hk => hk) trivial (Below.refl _ _) (Nat.le_refl _) (by simp) ?_; (case hd => rfl); (case hg => rfl); (case hr => first | (go_simp; done) | (go_simp; rfl)); (case hp => exact (Reps.none _ _))
                           intro v519 w52 ho53 hb hg_ hnew_
                           clear hg_ hnew_
                           (first | rw [← Ny518.out] at ho53 | (simp only [Int.reduceToNat] at ho53; rw [← Ny518.out] at ho53))
                           have n0_ := Aside0.mk (Kd.R_elder' (by exact uR HO_512000.out) (Kd.R_base ho53) hb)
                           have n1_ := Aside0.mk (Kd.R_lower (Kd.R_new' ho53 (Kd.R_lt (by exact uR HO_512000.out))) (below_size (by exact q2 HB.out GE511.out GE535.out)))
                           have n2_ := Aside0.mk (blk_below (g := gb511) (o := .cells #[.slice Ao11 t507.length co11, .int .i64 t510] 45 (0, 0)) (by exact uB BK511.out) hb)
                           have n3_ := Aside0.mk (Kd.C_below (by exact uC HR524.out) hb)
                           have n4_ := Aside0.mk (Kd.C_below (by exact uC HR531.out) hb)
                           have n5_ := Aside0.mk (blk_below (g := gb535) (o := .cells #[.slice none 0 0, .int .i64 0] 45 (0, 0)) (by exact uB BK535.out) hb)
                           have n6_ := Aside0.mk (below_step (by exact q2 HB.out GE511.out GE535.out) hb)
                           clear HO_512000; clear BK511; clear HR524; clear HR531; clear BK535; clear HB; have HO_512000 := n0_; have HO520 := n1_; have BK511 := n2_; have HR524 := n3_; have HR531 := n4_; have BK535 := n5_; have HB := n6_; clear n0_ n1_ n2_ n3_ n4_ n5_ n6_; clear hb ho53
                           refine hK.out _ _ ⟨(blk_cell BK511.out 0).trans rfl, (blk_cell BK511.out 1).trans rfl⟩ (fun hHeld => ?_)
                           clear hK K
                           refine norm_ (a' := ?_) ?_ ?_
                           rotate_left; show Act.put _ (some 63) _ = _; exact uP
                           refine one_ (i := 5) (N := some 68) #[y,y,y,y,y,y,y,y,y,y,y,n,y,y,n,y,n] rfl rfl (one_of HT_.out (by kernel_rfl)) (by decide) (fun K hK => ?_)
                           refine Kd.R_append_rows_step k32 (w0 := w) w.heap.size (by rfl) (.tmp 63) (.tmp 67) 25 32 (.agg #[(.string ⟨#[]⟩), (.string ⟨#[]⟩), (.bool false)]) 40 rfl Try.underlying25 info32 rfl (by decide) (by omega) v519 y518 y521 _ _ _ (fun k_ => some k_ ≠ (.slice Ao11 t507.length co11 : Value).ownBlock) (fun _ => False) rfl rfl ?aO ?aR (fun _ _ h => h) (fun _ h => h.elim) ?aF ?aB ?aS ?aL ?_
                           (case aR => repeat (first | exact (by exact uC HR524.out) | (with_reducible refine Kd.C_alloc ?_ _) | (with_reducible refine Kd.C_drewN ?_ _) | (with_reducible refine Kd.C_drew ?_)))
                           (case aB => exact (by exact q2 HB.out GE511.out GE535.out))
                           (case aF => exact (fun k_ hk => Kd.fresh' (Kd.R_lt (by exact uR HO_512000.out)) k_ hk))
                           (case aO => exact (by refine uR ?_; exact Kd.R_mono HO520.out (fun _ hk => hk.2)))
                           (case aS => exact (below_size (by exact q2 HB.out GE511.out GE535.out)))
                           (case aL => have := LMc37.out; omega)
                           intro v526 w54 ho hb hg hat
                           rw [← Ny525.out] at ho
                           have n0_ := Aside0.mk (Kd.R_after (ok := (fun _ => True)) (by exact uR HO_512000.out) hg hat)
                           have n1_ := Aside0.mk (blk_grown (g := gb511) (o := .cells #[.slice Ao11 t507.length co11, .int .i64 t510] 45 (0, 0)) (by exact uB BK511.out) hg (Kd.R_ne HO520.out BK511.out (by decide)))
                           have n2_ := Aside0.mk (blk_grown (g := gb535) (o := .cells #[.slice none 0 0, .int .i64 0] 45 (0, 0)) (by exact uB BK535.out) hg (Kd.R_ne HO520.out BK535.out (by decide)))
                           have n3_ := Aside0.mk (hb)
                           have n4_ := Aside0.mk ((show Kd.C k32 w54 Ao11 y521.length y521 from by rw [Ny521.out]; exact Kd.C_take (m := ((ji34) : Int).toNat) ((Kd.R_reads' (Kd.R_after (ok := (fun _ => True)) (by exact uR HO_512000.out) hg hat)).2.2) KL49.out))
                           have n5_ := Aside0.mk ((show Kd.C k32 w54 A50 y528.length y528 from by rw [Ny528.out, KA50.out]; exact Kd.C_drop (m := ((ji38) : Int).toNat) (c := co11) ((Kd.R_reads' (Kd.R_after (ok := (fun _ => True)) (by exact uR HO_512000.out) hg hat)).2.2) KL50.out ((Kd.R_reads' (Kd.R_after (ok := (fun _ => True)) (by exact uR HO_512000.out) hg hat)).2.1)))
                           have n6_ := Aside0.mk (ho)
                           clear HO_512000; clear BK511; clear BK535; clear HB; clear HR524; clear HR531; clear HO520; have HO_512000 := n0_; have BK511 := n1_; have BK535 := n2_; have HB := n3_; have HR524 := n4_; have HR531 := n5_; have HO527 := n6_; clear n0_ n1_ n2_ n3_ n4_ n5_ n6_; clear ho hb hg hat
                           refine hK.out _ _ ⟨(blk_cell BK511.out 0).trans rfl, (blk_cell BK511.out 1).trans rfl⟩ (fun hHeld => ?_)
                           clear hK K
                           refine norm_ (a' := ?_) ?_ ?_
                           rotate_left; show Act.put _ (some 68) _ = _; exact uP
                           refine one_ (i := 11) (N := some 74) #[y,y,y,y,y,y,y,y,y,y,y,y,y,y,n,y,n] rfl rfl (one_of HT_.out (by kernel_rfl)) (by decide) (fun K hK => ?_)
                           refine Kd.R_append_rows_step k32 (w0 := w) w.heap.size (by rfl) (.tmp 68) (.tmp 73) 25 32 (.agg #[(.string ⟨#[]⟩), (.string ⟨#[]⟩), (.bool false)]) 40 rfl Try.underlying25 info32 rfl (by decide) (by omega) v526 y525 y528 _ _ _ (fun k_ => some k_ ≠ (.slice Ao11 t507.length co11 : Value).ownBlock) (fun _ => False) rfl rfl ?aO ?aR (fun _ _ h => h) (fun _ h => h.elim) ?aF ?aB ?aS ?aL ?_
                           (case aR => repeat (first | exact (by exact uC HR531.out) | (with_reducible refine Kd.C_alloc ?_ _) | (with_reducible refine Kd.C_drewN ?_ _) | (with_reducible refine Kd.C_drew ?_)))
                           (case aB => exact (by exact q2 HB.out GE511.out GE535.out))
                           (case aF => exact (fun k_ hk => Kd.fresh' (Kd.R_lt (by exact uR HO_512000.out)) k_ hk))
                           (case aO => exact (by exact uR HO527.out))
                           (case aS => exact (below_size (by exact q2 HB.out GE511.out GE535.out)))
                           (case aL => have := LMc41.out; omega)
                           intro v533 w55 ho hb hg hat
                           rw [← Ny532.out] at ho
                           have n0_ := Aside0.mk (Kd.R_after (ok := (fun _ => True)) (by exact uR HO_512000.out) hg hat)
                           have n1_ := Aside0.mk (blk_grown (g := gb511) (o := .cells #[.slice Ao11 t507.length co11, .int .i64 t510] 45 (0, 0)) (by exact uB BK511.out) hg (Kd.R_ne HO527.out BK511.out (by decide)))
                           have n2_ := Aside0.mk (blk_grown (g := gb535) (o := .cells #[.slice none 0 0, .int .i64 0] 45 (0, 0)) (by exact uB BK535.out) hg (Kd.R_ne HO527.out BK535.out (by decide)))
                           have n3_ := Aside0.mk (hb)
                           have n4_ := Aside0.mk ((show Kd.C k32 w55 Ao11 y521.length y521 from by rw [Ny521.out]; exact Kd.C_take (m := ((ji34) : Int).toNat) ((Kd.R_reads' (Kd.R_after (ok := (fun _ => True)) (by exact uR HO_512000.out) hg hat)).2.2) KL49.out))
                           have n5_ := Aside0.mk ((show Kd.C k32 w55 A50 y528.length y528 from by rw [Ny528.out, KA50.out]; exact Kd.C_drop (m := ((ji38) : Int).toNat) (c := co11) ((Kd.R_reads' (Kd.R_after (ok := (fun _ => True)) (by exact uR HO_512000.out) hg hat)).2.2) KL50.out ((Kd.R_reads' (Kd.R_after (ok := (fun _ => True)) (by exact uR HO_512000.out) hg hat)).2.1)))
                           have n6_ := Aside0.mk (ho)
                           clear HO_512000; clear BK511; clear BK535; clear HB; clear HR524; clear HR531; clear HO527; have HO_512000 := n0_; have BK511 := n1_; have BK535 := n2_; have HB := n3_; have HR524 := n4_; have HR531 := n5_; have HO534 := n6_; clear n0_ n1_ n2_ n3_ n4_ n5_ n6_; clear ho hb hg hat
                           obtain ⟨Ao56, co56, eo56⟩ := Kd.R_slice HO534.out
                           (first | subst eo56 | (injection eo56 with f1_ f2_ f3_; have f4_ := f1_.symm; have f5_ := f3_.symm; clear f1_ f2_ f3_; subst f4_; subst f5_))
                           refine hK.out _ _ ⟨(blk_cell BK511.out 0).trans rfl, (blk_cell BK511.out 1).trans rfl⟩ (fun hHeld => ?_)
                           clear hK K
                           refine norm_ (a' := ?_) ?_ ?_
                           rotate_left; show Act.put _ (some 74) _ = _; exact uP; refine pure_ (i := 14) (N := some 77) (v := ?_) (a' := ?_) #[y,y,y,y,y,y,y,y,y,y,y,y,y,y,y,y,n] rfl rfl (any_of HT_.out (by kernel_rfl)) (fun _ _ _ h => h) (Or.inl ⟨by rfl, ?_⟩) ?_ ?_; rotate_left; exact uV; rotate_left; exact uP
                           exact norm_ (by simp only [putAll, Act.put, List.setIfInBounds_toArray, List.set_cons_zero, List.set_cons_succ]) (hCont (v519, v526, .slice Ao56 y532.length co56, gb535) _ ⟨hHeld, (by exact uR HO534.out), (by refine uR ?_; exact Kd.R_mono HO_512000.out (fun _ hk => hk.2)), (by exact uB BK511.out), (by exact uB BK535.out), GW535.out, GE535.out, NB511_535.out, NB535_511.out, (by exact q2 HB.out GE511.out GE535.out)⟩)
                         rintro ⟨v519, v526, v533, gb535⟩ w57 ⟨hS_, h0_, h1_, h2_, h3_, h4_, h5_, h6_, h7_, h8_⟩
                         have n0_ : Aside0 (Kd.R k32 32 w57 w.heap.size (fun k_ => some k_ ≠ (.slice Ao11 t507.length co11 : Value).ownBlock) v533 y532) := ⟨h0_⟩
                         have n1_ : Aside0 (Kd.R k32 32 w57 w.heap.size (fun k_ => some k_ ≠ (v533 : Value).ownBlock) (.slice Ao11 t507.length co11) t507) := ⟨h1_⟩
                         have n2_ : Aside0 (w57.heap[gb511]? = some (.cells #[.slice Ao11 t507.length co11, .int .i64 t510] 45 (0, 0))) := ⟨h2_⟩
                         have n3_ : Aside0 (w57.heap[gb535]? = some (.cells #[.slice none 0 0, .int .i64 0] 45 (0, 0))) := ⟨h3_⟩
                         have n4_ : Aside0 (w.heap.size ≤ gb535) := ⟨h4_⟩
                         have n5_ : Aside0 (w.heap.size ≤ gb535) := ⟨h5_⟩
                         have n6_ : Aside0 (gb511 ≠ gb535) := ⟨h6_⟩
                         have n7_ : Aside0 (gb535 ≠ gb511) := ⟨h7_⟩
                         have n8_ : Aside0 (Below w.heap.size w w57) := ⟨h8_⟩
                         clear HO_512000; clear BK511; clear HB; clear h0_ h1_ h2_ h3_ h4_ h5_ h6_ h7_ h8_; have HO534 := n0_; have HO_512000 := n1_; have BK511 := n2_; have BK535 := n3_; have GW535 := n4_; have GE535 := n5_; have NB511_535 := n6_; have NB535_511 := n7_; have HB := n8_; clear n0_ n1_ n2_ n3_ n4_ n5_ n6_ n7_ n8_
                         have hHeld : w57.cell? ⟨gb511, 0, none⟩ = some (.slice Ao11 t507.length co11) ∧ w57.cell? ⟨gb511, 1, none⟩ = some (.int .i64 t510) := hS_
                         obtain ⟨Ao58, co58, eo58⟩ := Kd.R_slice HO534.out
                         (first | subst eo58 | (injection eo58 with f1_ f2_ f3_; have f4_ := f1_.symm; have f5_ := f3_.symm; clear f1_ f2_ f3_; subst f4_; subst f5_))
                         refine norm_ (a' := ?_) ?_ ?_
                         rotate_left
                         · simp only [putAll, Act.put, List.setIfInBounds_toArray, List.set_cons_zero, List.set_cons_succ]
                           rfl
                         refine one_ (i := 16) (N := none) #[y,y,y,y,y,y,y,y,y,y,y,y,y,y,y,y,y] rfl rfl (one_of HT_.out (by kernel_rfl)) (by decide) (fun K hK => ?_)
                         have hs59 : w57.cell? ⟨gb535, 0, none⟩ = some (.slice none 0 0) := (blk_cell BK535.out 0).trans rfl
                         have hfs59 := blk_frozen BK535.out 0; have hns59_0 := NB511_535.out; have hms59_0 := NB535_511.out
                         have hs60 : w57.cell? ⟨gb535, 1, none⟩ = some (.int .i64 0) := (blk_cell BK535.out 1).trans rfl
                         have hfs60 := blk_frozen BK535.out 1; have hns60_0 := NB511_535.out; have hms60_0 := NB535_511.out
                         refine skip_ (w1 := ?_) (by rfl) rfl ?_ ?_
                         rotate_left
                         · go_simp
                           rfl
                         refine hK.out _ _ ⟨((cell_far (p := ⟨gb535, _, none⟩) NB511_535.out _).trans (((cell_far (p := ⟨gb535, _, none⟩) NB511_535.out _).trans (hHeld.1)))), ((cell_far (p := ⟨gb535, _, none⟩) NB511_535.out _).trans (((cell_far (p := ⟨gb535, _, none⟩) NB511_535.out _).trans (hHeld.2))))⟩ (fun hHeld => ?_)
                         clear hK K
                         refine done_ (done_of HT_.out (by kernel_rfl)) ?_
                         try go_wp2
                         have n0_ : Aside0 (Kd.R k32 32 ((w57.setCell ⟨gb535, 0, none⟩ (.slice Ao58 y532.length co58)).setCell ⟨gb535, 1, none⟩ (.int .i64 t510)) w.heap.size (fun k_ => some k_ ≠ (.slice Ao58 y532.length co58 : Value).ownBlock) (.slice Ao11 t507.length co11) t507) := ⟨by refine uR ?_; exact Kd.R_mono (Kd.R_far (p := ⟨gb535, 1, none⟩) (Kd.R_far (p := ⟨gb535, 0, none⟩) (Kd.R_types HO_512000.out BK535.out (by decide)) (fun _ hk => hk.2) (.slice Ao58 y532.length co58)) (fun _ hk => hk.2) (.int .i64 t510)) (fun _ hk => hk.1)⟩
                         have n1_ : Aside0 (Kd.R k32 32 ((w57.setCell ⟨gb535, 0, none⟩ (.slice Ao58 y532.length co58)).setCell ⟨gb535, 1, none⟩ (.int .i64 t510)) w.heap.size (fun k_ => some k_ ≠ (.slice Ao11 t507.length co11 : Value).ownBlock) (.slice Ao58 y532.length co58) y532) := ⟨by refine uR ?_; exact Kd.R_mono (Kd.R_far (p := ⟨gb535, 1, none⟩) (Kd.R_far (p := ⟨gb535, 0, none⟩) (Kd.R_types HO534.out BK535.out (by decide)) (fun _ hk => hk.2) (.slice Ao58 y532.length co58)) (fun _ hk => hk.2) (.int .i64 t510)) (fun _ hk => hk.1)⟩
                         have n2_ : Aside0 (((w57.setCell ⟨gb535, 0, none⟩ (.slice Ao58 y532.length co58)).setCell ⟨gb535, 1, none⟩ (.int .i64 t510)).heap[gb511]? = some (.cells #[.slice Ao11 t507.length co11, .int .i64 t510] 45 (0, 0))) := ⟨by refine uB ?_; refine blk_far ?_ NB511_535.out _; refine uB ?_; refine blk_far ?_ NB511_535.out _; refine uB ?_; exact BK511.out⟩
                         have n3_ : Aside0 (((w57.setCell ⟨gb535, 0, none⟩ (.slice Ao58 y532.length co58)).setCell ⟨gb535, 1, none⟩ (.int .i64 t510)).heap[gb535]? = some (.cells #[.slice Ao58 y532.length co58, .int .i64 t510] 45 (0, 0))) := ⟨by refine uB ?_; refine blk_put (cs := #[.slice Ao58 y532.length co58, .int .i64 0]) ?_ 1 _ rfl; refine uB ?_; refine blk_put (cs := #[.slice none 0 0, .int .i64 0]) ?_ 0 _ rfl; refine uB ?_; exact BK535.out⟩
                         have n4_ : Aside0 (Below w.heap.size w ((w57.setCell ⟨gb535, 0, none⟩ (.slice Ao58 y532.length co58)).setCell ⟨gb535, 1, none⟩ (.int .i64 t510))) := ⟨by exact q2 HB.out GE511.out GE535.out⟩
                         (try clear HO_512000); (try clear HO534); (try clear BK511); (try clear BK535); (try clear HB)
                         generalize ((w57.setCell ⟨gb535, 0, none⟩ (.slice Ao58 y532.length co58)).setCell ⟨gb535, 1, none⟩ (.int .i64 t510)) = w61 at n0_ n1_ n2_ n3_ n4_ ⊢
                         have HO_512000 := n0_; have HO534 := n1_; have BK511 := n2_; have BK535 := n3_; have HB := n4_; clear n0_ n1_ n2_ n3_ n4_
                         have n0_ := Aside0.mk (Kd.R_drew HO_512000.out)
                         have n1_ := Aside0.mk (Kd.R_drew HO534.out)
                         have n2_ := Aside0.mk (blk_drew BK511.out)
                         have n3_ := Aside0.mk (blk_drew BK535.out)
                         have n4_ := Aside0.mk (below_drew1 HB.out)
                         clear HO_512000; clear HO534; clear BK511; clear BK535; clear HB; have HO_512000 := n0_; have HO534 := n1_; have BK511 := n2_; have BK535 := n3_; have HB := n4_; clear n0_ n1_ n2_ n3_ n4_
                         have p537 : 0 ≤ ((ji34) : Int) := of_decide_eq_true (by first | (with_reducible assumption) | assumption)
                         have q537 : (ji34) < (t507.length : Int) := of_decide_eq_true (by first | (with_reducible assumption) | assumption)
                         obtain ⟨ad537, e537, hx537_0, hx537_1, hx537_2⟩ := at_T32 (Kd.R_reads' HO_512000.out).2.2 (ji34) p537 q537
                         cases e537
                         replace p537 := eq_true p537
                         replace q537 := eq_true q537
                         refine start_ (n := 23) (S := fun w' => w'.cell? ⟨gb511, 0, none⟩ = some (.slice (some ad537) t507.length co11) ∧ w'.cell? ⟨gb511, 1, none⟩ = some (.int .i64 t510) ∧ w'.cell? ⟨gb535, 0, none⟩ = some (.slice Ao58 y532.length co58) ∧ w'.cell? ⟨gb535, 1, none⟩ = some (.int .i64 t510) ∧ w'.cell? (ad537.add (((ji34)).toNat * 3)) = some (.string ((rd_T32 t507 (ji34)).f0)) ∧ w'.cell? ⟨(ad537.add (((ji34)).toNat * 3)).block, (ad537.add (((ji34)).toNat * 3)).off + 1, none⟩ = some (.string ((rd_T32 t507 (ji34)).f1)) ∧ w'.cell? ⟨(ad537.add (((ji34)).toNat * 3)).block, (ad537.add (((ji34)).toNat * 3)).off + 2, none⟩ = some (.bool ((rd_T32 t507 (ji34)).f2))) (ds := []) #[n,n,n,n,n,n,n,n,n,n,n,n,n,n,n,n,n,n,n,n,n,n,n] (by kernel_rfl) rfl rfl ⟨(blk_cell BK511.out 0).trans rfl, (blk_cell BK511.out 1).trans rfl, (blk_cell BK535.out 0).trans rfl, (blk_cell BK535.out 1).trans rfl, hx537_0, hx537_1, hx537_2⟩ (fun hHeld => ?_); refine with_tabW laws_FnTableSize.tab16 laws_FnTableSize.bits16 (fun HT_ HW_ => ?_)
                         generalize w61.drew = w62 at HO_512000 HO534 BK511 BK535 HB hx537_0 hx537_1 hx537_2 hHeld ⊢
                         refine pure_ (i := 0) (N := some 78) (v := ?_) (a' := ?_) #[y,n,n,n,n,n,n,n,n,n,n,n,n,n,n,n,n,n,n,n,n,n,n] rfl rfl (any_of HT_.out (by kernel_rfl)) (fun _ _ _ h => h) (Or.inl ⟨by rfl, ?_⟩) ?_ ?_; rotate_left; exact uV; rotate_left; exact uP; refine pure_ (i := 1) (N := some 79) (v := ?_) (a' := ?_) #[y,y,n,n,n,n,n,n,n,n,n,n,n,n,n,n,n,n,n,n,n,n,n] rfl rfl (any_of HT_.out (by kernel_rfl)) (fun _ _ _ h => h) (Or.inl ⟨by rfl, ?_⟩) ?_ ?_; rotate_left; exact uV; rotate_left; exact uP; refine pure_ (i := 2) (N := some 80) (v := ?_) (a' := ?_) #[y,y,y,n,n,n,n,n,n,n,n,n,n,n,n,n,n,n,n,n,n,n,n] rfl rfl (any_of HT_.out (by kernel_rfl)) (fun _ _ _ h => h) (Or.inl ⟨by rfl, ?_⟩) ?_ ?_; rotate_left; exact uV; rotate_left; exact uP; refine pure_ (i := 3) (N := some 81) (v := ?_) (a' := ?_) #[y,y,y,y,n,n,n,n,n,n,n,n,n,n,n,n,n,n,n,n,n,n,n] rfl rfl (any_of HT_.out (by kernel_rfl)) (fun _ _ _ h => h) (Or.inl ⟨by rfl, ?_⟩) ?_ ?_; rotate_left; exact uV; rotate_left; exact uP; refine pure_ (i := 4) (N := some 82) (v := ?_) (a' := ?_) #[y,y,y,y,y,n,n,n,n,n,n,n,n,n,n,n,n,n,n,n,n,n,n] rfl rfl (any_of HT_.out (by kernel_rfl)) (fun _ _ _ h => h) (Or.inl ⟨by rfl, ?_⟩) ?_ ?_; rotate_left; exact uV; rotate_left; exact uP; refine pure_ (i := 5) (N := some 83) (v := ?_) (a' := ?_) #[y,y,y,y,y,y,n,n,n,n,n,n,n,n,n,n,n,n,n,n,n,n,n] rfl rfl (any_of HT_.out (by kernel_rfl)) (fun _ _ _ h => h) (Or.inl ⟨by rfl, ?_⟩) ?_ ?_; rotate_left; exact uV; rotate_left; exact uP; refine take_ (i := 6) (N := some 84) (v := ?_) (a' := ?_) #[y,y,y,y,y,y,y,n,n,n,n,n,n,n,n,n,n,n,n,n,n,n,n] rfl rfl (take_ofW HT_.out HW_.out (by kernel_rfl)) (fun _ _ _ h => h) (Or.inl ⟨by rfl, ?_⟩) hHeld ?_ ?_; rotate_left; exact uV7; rotate_left; exact uP; refine pure_ (i := 7) (N := some 85) (v := ?_) (a' := ?_) #[y,y,y,y,y,y,y,y,n,n,n,n,n,n,n,n,n,n,n,n,n,n,n] rfl rfl (any_of HT_.out (by kernel_rfl)) (fun _ _ _ h => h) (Or.inl ⟨by rfl, ?_⟩) ?_ ?_; rotate_left; exact uV; rotate_left; exact uP; refine pure_ (i := 8) (N := some 86) (v := ?_) (a' := ?_) #[y,y,y,y,y,y,y,y,y,n,n,n,n,n,n,n,n,n,n,n,n,n,n] rfl rfl (any_of HT_.out (by kernel_rfl)) (fun _ _ _ h => h) (Or.inl ⟨by rfl, ?_⟩) ?_ ?_; rotate_left; exact uV; rotate_left; exact uP; refine pure_ (i := 9) (N := some 87) (v := ?_) (a' := ?_) #[y,y,y,y,y,y,y,y,y,y,n,n,n,n,n,n,n,n,n,n,n,n,n] rfl rfl (any_of HT_.out (by kernel_rfl)) (fun _ _ _ h => h) (Or.inl ⟨by rfl, ?_⟩) ?_ ?_; rotate_left; exact uV; rotate_left; exact uP; refine pure_ (i := 12) (N := some 90) (v := ?_) (a' := ?_) #[y,y,y,y,y,y,y,y,y,y,n,n,y,n,n,n,n,n,n,n,n,n,n] rfl rfl (any_of HT_.out (by kernel_rfl)) (fun _ _ _ h => h) (Or.inl ⟨by rfl, ?_⟩) ?_ ?_; rotate_left; exact uV; rotate_left; exact uP; refine pure_ (i := 13) (N := some 91) (v := ?_) (a' := ?_) #[y,y,y,y,y,y,y,y,y,y,n,n,y,y,n,n,n,n,n,n,n,n,n] rfl rfl (any_of HT_.out (by kernel_rfl)) (fun _ _ _ h => h) (Or.inl ⟨by rfl, ?_⟩) ?_ ?_; rotate_left; exact uV; rotate_left; exact uP; refine pure_ (i := 15) (N := some 93) (v := ?_) (a' := ?_) #[y,y,y,y,y,y,y,y,y,y,n,n,y,y,n,y,n,n,n,n,n,n,n] rfl rfl (any_of HT_.out (by kernel_rfl)) (fun _ _ _ h => h) (Or.inl ⟨by rfl, ?_⟩) ?_ ?_
                         rotate_left; exact uV; rotate_left; exact uP; refine take_ (i := 10) (N := some 88) (v := ?_) (a' := ?_) #[y,y,y,y,y,y,y,y,y,y,y,n,y,y,n,y,n,n,n,n,n,n,n] rfl rfl (take_ofW HT_.out HW_.out (by kernel_rfl)) (fun _ _ _ h => h) (Or.inl ⟨by rfl, ?_⟩) hHeld ?_ ?_; rotate_left; exact uV7; rotate_left; exact uP; refine take_ (i := 14) (N := some 92) (v := ?_) (a' := ?_) #[y,y,y,y,y,y,y,y,y,y,y,n,y,y,y,y,n,n,n,n,n,n,n] rfl rfl (take_ofW HT_.out HW_.out (by kernel_rfl)) (fun _ _ _ h => h) (Or.inl ⟨by rfl, ?_⟩) hHeld ?_ ?_; rotate_left; exact uV7; rotate_left; exact uP; refine pure_ (i := 16) (N := some 94) (v := ?_) (a' := ?_) #[y,y,y,y,y,y,y,y,y,y,y,n,y,y,y,y,y,n,n,n,n,n,n] rfl rfl (any_of HT_.out (by kernel_rfl)) (fun _ _ _ h => h) (Or.inl ⟨by rfl, ?_⟩) ?_ ?_; rotate_left; exact uV; rotate_left; exact uP; refine take_ (i := 17) (N := some 95) (v := ?_) (a' := ?_) #[y,y,y,y,y,y,y,y,y,y,y,n,y,y,y,y,y,y,n,n,n,n,n] rfl rfl (take_ofW HT_.out HW_.out (by kernel_rfl)) (fun _ _ _ h => h) (Or.inl ⟨by rfl, ?_⟩) hHeld ?_ ?_; rotate_left; exact uV7; rotate_left; exact uP
                         refine one_ (i := 11) (N := some 89) #[y,y,y,y,y,y,y,y,y,y,y,y,y,y,y,y,y,y,n,n,n,n,n] rfl rfl (one_of HT_.out (by kernel_rfl)) (by decide) (fun K hK => ?_)
                         refine goes_ Try.func31 (by kernel_rfl) rfl #[.agg #[.slice Ao58 y532.length co58, .int .i64 t510]] (by rfl) rfl rfl (by (try simp only [List.map_toArray, List.map_cons, List.map_nil]); first | done | rfl | (simp only [List.length_drop, List.length_take]; rfl)) ?_
                         with_reducible refine (impl_TableSize.calls k3 _ _ y532 t510 t536 _ ?side1 ?side2 A44.out).mono ?_
                         (case side1 => repeat (first | exact (Kd.R_reads' HO534.out).2.2 | (with_reducible refine Kd.C_alloc ?_ _) | (with_reducible refine Kd.C_drewN ?_ _) | (with_reducible refine Kd.C_drew ?_)))
                         (case side2 => exact (Kd.R_reads' HO534.out).2.1)
                         rintro e w63 ⟨rfl, hb⟩
                         have HS4_ := (hb.cell (World.block_lt_of_cell? _ _ (hHeld.2.2.2.2.1))).trans (hHeld.2.2.2.2.1)
                         have HS5_ := (hb.cell (World.block_lt_of_cell? _ _ (hHeld.2.2.2.2.2.1))).trans (hHeld.2.2.2.2.2.1)
                         have HS6_ := (hb.cell (World.block_lt_of_cell? _ _ (hHeld.2.2.2.2.2.2))).trans (hHeld.2.2.2.2.2.2)
                         refine ⟨_, rfl, ?_⟩
                         have n0_ := Aside0.mk (Kd.R_below (by exact uR HO_512000.out) hb)
                         have n1_ := Aside0.mk (Kd.R_below (by exact uR HO534.out) hb)
                         have n2_ := Aside0.mk (blk_below (g := gb511) (o := .cells #[.slice (some ad537) t507.length co11, .int .i64 t510] 45 (0, 0)) (by exact uB BK511.out) hb)
                         have n3_ := Aside0.mk (blk_below (g := gb535) (o := .cells #[.slice Ao58 y532.length co58, .int .i64 t510] 45 (0, 0)) (by exact uB BK535.out) hb)
                         have n4_ := Aside0.mk (below_step (by exact q2 HB.out GE511.out GE535.out) hb)
                         clear HO_512000; clear HO534; clear BK511; clear BK535; clear HB; have HO_512000 := n0_; have HO534 := n1_; have BK511 := n2_; have BK535 := n3_; have HB := n4_; clear n0_ n1_ n2_ n3_ n4_; (try clear hb); (try clear hb2); (try clear hk); (try clear hi)
                         refine hK.out _ _ ⟨(blk_cell BK511.out 0).trans rfl, (blk_cell BK511.out 1).trans rfl, (blk_cell BK535.out 0).trans rfl, (blk_cell BK535.out 1).trans rfl, HS4_, HS5_, HS6_⟩ (fun hHeld => ?_)
                         clear hK K
                         refine norm_ (a' := ?_) ?_ ?_
                         rotate_left; show Act.put _ (some 89) _ = _; exact uP
                         refine one_ (i := 18) (N := some 96) #[y,y,y,y,y,y,y,y,y,y,y,y,y,y,y,y,y,y,y,n,n,n,n] rfl rfl (one_of HT_.out (by kernel_rfl)) (by decide) (fun K hK => ?_)
                         refine goes_ Try.func34 (by kernel_rfl) rfl #[.agg #[.string ((rd_T32 t507 (ji34)).f0), .string ((rd_T32 t507 (ji34)).f1), .bool ((rd_T32 t507 (ji34)).f2)]] (by rfl) rfl rfl (by (try simp only [List.map_toArray, List.map_cons, List.map_nil]); first | done | (simp only [hji34]; rfl) | rfl | (simp only [List.length_drop, List.length_take]; rfl)) ?_
                         with_reducible refine (laws_lkOne.calls ((rd_T32 t507 (ji34)).f0) ((rd_T32 t507 (ji34)).f1) ((rd_T32 t507 (ji34)).f2) t538 _ A46.out).mono ?_
                         rintro e w64 ⟨rfl, hb⟩
                         have HS4_ := (hb.cell (World.block_lt_of_cell? _ _ (hHeld.2.2.2.2.1))).trans (hHeld.2.2.2.2.1)
                         have HS5_ := (hb.cell (World.block_lt_of_cell? _ _ (hHeld.2.2.2.2.2.1))).trans (hHeld.2.2.2.2.2.1)
                         have HS6_ := (hb.cell (World.block_lt_of_cell? _ _ (hHeld.2.2.2.2.2.2))).trans (hHeld.2.2.2.2.2.2)
                         refine ⟨_, rfl, ?_⟩
                         have n0_ := Aside0.mk (Kd.R_below (by exact uR HO_512000.out) hb)
                         have n1_ := Aside0.mk (Kd.R_below (by exact uR HO534.out) hb)
                         have n2_ := Aside0.mk (blk_below (g := gb511) (o := .cells #[.slice (some ad537) t507.length co11, .int .i64 t510] 45 (0, 0)) (by exact uB BK511.out) hb)
                         have n3_ := Aside0.mk (blk_below (g := gb535) (o := .cells #[.slice Ao58 y532.length co58, .int .i64 t510] 45 (0, 0)) (by exact uB BK535.out) hb)
                         have n4_ := Aside0.mk (below_step (by exact q2 HB.out GE511.out GE535.out) hb)
                         clear HO_512000; clear HO534; clear BK511; clear BK535; clear HB; have HO_512000 := n0_; have HO534 := n1_; have BK511 := n2_; have BK535 := n3_; have HB := n4_; clear n0_ n1_ n2_ n3_ n4_; (try clear hb); (try clear hb2); (try clear hk); (try clear hi)
                         refine hK.out _ _ ⟨(blk_cell BK511.out 0).trans rfl, (blk_cell BK511.out 1).trans rfl, (blk_cell BK535.out 0).trans rfl, (blk_cell BK535.out 1).trans rfl, HS4_, HS5_, HS6_⟩ (fun hHeld => ?_)
                         clear hK K
                         refine norm_ (a' := ?_) ?_ ?_
                         rotate_left; show Act.put _ (some 96) _ = _; exact uP; refine pure_ (i := 19) (N := some 97) (v := ?_) (a' := ?_) #[y,y,y,y,y,y,y,y,y,y,y,y,y,y,y,y,y,y,y,y,n,n,n] rfl rfl (any_of HT_.out (by kernel_rfl)) (fun _ _ _ h => h) (Or.inl ⟨by rfl, ?_⟩) ?_ ?_; rotate_left; exact uV; rotate_left; exact uP; refine pure_ (i := 20) (N := some 98) (v := ?_) (a' := ?_) #[y,y,y,y,y,y,y,y,y,y,y,y,y,y,y,y,y,y,y,y,y,n,n] rfl rfl (any_of HT_.out (by kernel_rfl)) (fun _ _ _ h => h) (Or.inl ⟨by rfl, ?_⟩) ?_ ?_; rotate_left; exact uV; rotate_left; exact uP; refine pure_ (i := 21) (N := some 99) (v := ?_) (a' := ?_) #[y,y,y,y,y,y,y,y,y,y,y,y,y,y,y,y,y,y,y,y,y,y,n] rfl rfl (any_of HT_.out (by kernel_rfl)) (fun _ _ _ h => h) (Or.inl ⟨by rfl, ?_⟩) ?_ ?_; rotate_left; exact uV; rotate_left; exact uP; refine pure_ (i := 22) (N := some 4) (v := ?_) (a' := ?_) #[y,y,y,y,y,y,y,y,y,y,y,y,y,y,y,y,y,y,y,y,y,y,y] rfl rfl (any_of HT_.out (by kernel_rfl)) (fun _ _ _ h => h) (Or.inl ⟨by rfl, ?_⟩) ?_ ?_; rotate_left; exact uV; rotate_left; exact uP
                         refine done_ (done_of HT_.out (by kernel_rfl)) ?_
                         try go_wp2
                         go_ret
                         exact ⟨by first | rfl | (simp [errW_none, errW_some] <;> rfl) | (simp only [← hji34, ← hji38]; first | rfl | (simp [errW_none, errW_some] <;> rfl)) | (simp [*, errW_none, errW_some] <;> rfl), by exact q2 HB.out GE511.out GE535.out⟩
                       rw [if_neg c45] at H
                       exact absurd H (by simp)
                     rw [if_neg c43] at H
                     have c43b0 : decide (t512 ≤ t510) = false := decide_eq_false c43
                     clear c43
                     obtain rfl := Option.some.inj H
                     have hcz65_0 : wr.cell? ⟨gb511, 0, none⟩ = some (.slice Ao11 t507.length co11) := (blk_cell BK511.out 0).trans rfl
                     have hcz65_1 : wr.cell? ⟨gb511, 1, none⟩ = some (.int .i64 t510) := (blk_cell BK511.out 1).trans rfl
                     have hfz65_0 := blk_frozen BK511.out 0; have hfz65_1 := blk_frozen BK511.out 1
                     try go_wp2
                     have n0_ := Aside0.mk (Kd.R_drew HO_512000.out)
                     have n1_ := Aside0.mk (blk_drew BK511.out)
                     have n2_ := Aside0.mk (below_drew1 HB.out)
                     clear HO_512000; clear BK511; clear HB; have HO_512000 := n0_; have BK511 := n1_; have HB := n2_; clear n0_ n1_ n2_
                     have q67 : ((ji34) : Int) ≤ ((t507.length : Int) : Int) := of_decide_eq_true (by first | (with_reducible assumption) | assumption)
                     obtain ⟨i067, hi067, _, hsz67, _⟩ := info_parts info32
                     have hroom67 : t507.length ≤ co11 := (Kd.R_reads' HO_512000.out).2.1
                     have hC67 : Kd.C k32 _ Ao11 t507.length t507 := (Kd.R_reads' HO_512000.out).2.2
                     have hcut67 := cut_to (P := Try.prog) 25 32 .i64 Try.underlying25 hi067 Ao11 t507.length co11 (ji34) (of_decide_eq_true (by first | (with_reducible assumption) | assumption)) q67 hroom67
                     have hr67 := Kd.C_take (m := ((ji34) : Int).toNat) hC67 (by omega)
                     have hy67 : y521.length = ((ji34) : Int).toNat := (by rw [Ny521.out, List.length_take]; omega)
                     rw [← Ny521.out] at hr67
                     rw [← hy67] at hcut67
                     have HR524 := Aside0.mk hr67
                     have HC524 := Aside0.mk (show y521.length ≤ co11 from by omega)
                     clear hr67 hC67 hroom67 hi067 hsz67; have KY67 := Aside0.mk hy67; clear hy67
                     have KL67 := Aside0.mk (show ((ji34) : Int).toNat ≤ t507.length from by omega)
                     replace q67 := eq_true q67
                     have q68 : ((ji38) : Int) ≤ ((t507.length : Int) : Int) := of_decide_eq_true (by first | (with_reducible assumption) | assumption)
                     obtain ⟨i068, hi068, _, hsz68, _⟩ := info_parts info32
                     have hroom68 : t507.length ≤ co11 := (Kd.R_reads' HO_512000.out).2.1
                     have hC68 : Kd.C k32 _ Ao11 t507.length t507 := (Kd.R_reads' HO_512000.out).2.2
                     have q068 : (0 : Int) ≤ ((ji38) : Int) := of_decide_eq_true (by first | (with_reducible assumption) | assumption)
                     have hcut68 := cut_from (P := Try.prog) 25 32 .i64 Try.underlying25 hi068 3 hsz68 Ao11 t507.length co11 (ji38) q068 q68
                     have hr68 := Kd.C_drop (m := ((ji38) : Int).toNat) (c := co11) hC68 (by omega) hroom68
                     obtain ⟨A68, hA68⟩ : ∃ A1, A1 = (if co11 = ((ji38) : Int).toNat then Ao11 else (Ao11 : Option Addr).map (·.add (((ji38) : Int).toNat * 3))) := ⟨_, rfl⟩
                     obtain ⟨c68, hc68⟩ : ∃ c1, c1 = co11 - ((ji38) : Int).toNat := ⟨_, rfl⟩
                     have hy68 : y528.length = t507.length - ((ji38) : Int).toNat := (by rw [Ny528.out, List.length_drop] <;> omega)
                     rw [show (t507).drop ((ji38) : Int).toNat = y528 from Ny528.out.symm] at hr68
                     replace hr68 : Kd.C k32 _ A68 y528.length y528 := (by rw [hA68]; exact hr68)
                     rw [← hy68, ← hA68, ← hc68] at hcut68
                     have HR531 := Aside0.mk hr68
                     have HC531 := Aside0.mk (show y528.length ≤ c68 from by rw [hy68, hc68]; exact Nat.sub_le_sub_right hroom68 _)
                     clear hr68 hC68 hroom68 hi068 hsz68 hc68; have KY68 := Aside0.mk hy68; have KA68 := Aside0.mk hA68; clear hy68 hA68
                     have KL68 := Aside0.mk (show ((ji38) : Int).toNat ≤ t507.length from by omega)
                     replace q68 := eq_true q68
                     refine start_ (n := 17) (S := fun w' => w'.cell? ⟨gb511, 0, none⟩ = some (.slice Ao11 t507.length co11) ∧ w'.cell? ⟨gb511, 1, none⟩ = some (.int .i64 t510)) (ds := []) #[n,n,n,n,n,n,n,n,n,n,n,n,n,n,n,n,n] (by kernel_rfl) rfl rfl ⟨(blk_cell BK511.out 0).trans rfl, (blk_cell BK511.out 1).trans rfl⟩ (fun hHeld => ?_); refine with_tabW laws_FnTableSize.tab15 laws_FnTableSize.bits15 (fun HT_ HW_ => ?_)
                     generalize wr.drew = w66 at HO_512000 BK511 HB HR524 HR531 hHeld ⊢
                     refine pure_ (i := 1) (N := some 64) (v := ?_) (a' := ?_) #[n,y,n,n,n,n,n,n,n,n,n,n,n,n,n,n,n] rfl rfl (any_of HT_.out (by kernel_rfl)) (fun _ _ _ h => h) (Or.inl ⟨by rfl, ?_⟩) ?_ ?_; rotate_left; exact uV; rotate_left; exact uP; refine pure_ (i := 3) (N := some 66) (v := ?_) (a' := ?_) #[n,y,n,y,n,n,n,n,n,n,n,n,n,n,n,n,n] rfl rfl (any_of HT_.out (by kernel_rfl)) (fun _ _ _ h => h) (Or.inl ⟨by rfl, ?_⟩) ?_ ?_; rotate_left; exact uV; rotate_left; exact uP; refine pure_ (i := 6) (N := some 69) (v := ?_) (a' := ?_) #[n,y,n,y,n,n,y,n,n,n,n,n,n,n,n,n,n] rfl rfl (any_of HT_.out (by kernel_rfl)) (fun _ _ _ h => h) (Or.inl ⟨by rfl, ?_⟩) ?_ ?_; rotate_left; exact uV; rotate_left; exact uP; refine pure_ (i := 8) (N := some 71) (v := ?_) (a' := ?_) #[n,y,n,y,n,n,y,n,y,n,n,n,n,n,n,n,n] rfl rfl (any_of HT_.out (by kernel_rfl)) (fun _ _ _ h => h) (Or.inl ⟨by rfl, ?_⟩) ?_ ?_; rotate_left; exact uV; rotate_left; exact uP; refine pure_ (i := 9) (N := some 72) (v := ?_) (a' := ?_) #[n,y,n,y,n,n,y,n,y,y,n,n,n,n,n,n,n] rfl rfl (any_of HT_.out (by kernel_rfl)) (fun _ _ _ h => h) (Or.inl ⟨by rfl, ?_⟩) ?_ ?_; rotate_left; exact uV; rotate_left; exact uP; refine pure_ (i := 12) (N := some 75) (v := ?_) (a' := ?_) #[n,y,n,y,n,n,y,n,y,y,n,n,y,n,n,n,n] rfl rfl (any_of HT_.out (by kernel_rfl)) (fun _ _ _ h => h) (Or.inl ⟨by rfl, ?_⟩) ?_ ?_; rotate_left; exact uV; rotate_left; exact uP; refine take_ (i := 2) (N := some 65) (v := ?_) (a' := ?_) #[n,y,y,y,n,n,y,n,y,y,n,n,y,n,n,n,n] rfl rfl (take_ofW HT_.out HW_.out (by kernel_rfl)) (fun _ _ _ h => h) (Or.inl ⟨by rfl, ?_⟩) hHeld ?_ ?_; rotate_left; exact uV2; rotate_left; exact uP; refine pure_ (i := 4) (N := some 67) (v := ?_) (a' := ?_) #[n,y,y,y,y,n,y,n,y,y,n,n,y,n,n,n,n] rfl rfl (any_of HT_.out (by kernel_rfl)) (fun _ _ _ h => h) (Or.inl ⟨by rfl, ?_⟩) ?_ ?_; rotate_left; exact uV; rotate_left; exact uP; refine take_ (i := 7) (N := some 70) (v := ?_) (a' := ?_) #[n,y,y,y,y,n,y,y,y,y,n,n,y,n,n,n,n] rfl rfl (take_ofW HT_.out HW_.out (by kernel_rfl)) (fun _ _ _ h => h) (Or.inl ⟨by rfl, ?_⟩) hHeld ?_ ?_; rotate_left; exact uV2; rotate_left; exact uP; refine pure_ (i := 10) (N := some 73) (v := ?_) (a' := ?_) #[n,y,y,y,y,n,y,y,y,y,y,n,y,n,n,n,n] rfl rfl (any_of HT_.out (by kernel_rfl)) (fun _ _ _ h => h) (Or.inl ⟨by rfl, ?_⟩) ?_ ?_; rotate_left; exact uV; rotate_left; exact uP; refine take_ (i := 13) (N := some 76) (v := ?_) (a' := ?_) #[n,y,y,y,y,n,y,y,y,y,y,n,y,y,n,n,n] rfl rfl (take_ofW HT_.out HW_.out (by kernel_rfl)) (fun _ _ _ h => h) (Or.inl ⟨by rfl, ?_⟩) hHeld ?_ ?_; rotate_left; exact uV2; rotate_left; exact uP
                     refine join_ (σ := Value × Value × Value × Nat) 1 #[y,y,y,y,y,y,y,y,y,y,y,y,y,y,y,y,n] (fun s_ => [(63, s_.1), (68, s_.2.1), (74, s_.2.2.1), (10, .pointer (some ⟨s_.2.2.2, 0, none⟩)), (77, .agg #[s_.2.2.1, .int .i64 t510])]) (fun s_ w' => (w'.cell? ⟨gb511, 0, none⟩ = some (.slice Ao11 t507.length co11) ∧ w'.cell? ⟨gb511, 1, none⟩ = some (.int .i64 t510)) ∧ (Kd.R k32 32 w' w.heap.size (fun k_ => some k_ ≠ (.slice Ao11 t507.length co11 : Value).ownBlock) s_.2.2.1 y532) ∧ (Kd.R k32 32 w' w.heap.size (fun k_ => some k_ ≠ (s_.2.2.1 : Value).ownBlock) (.slice Ao11 t507.length co11) t507) ∧ (w'.heap[gb511]? = some (.cells #[.slice Ao11 t507.length co11, .int .i64 t510] 45 (0, 0))) ∧ (w'.heap[s_.2.2.2]? = some (.cells #[.slice none 0 0, .int .i64 0] 45 (0, 0))) ∧ (w.heap.size ≤ s_.2.2.2) ∧ (w.heap.size ≤ s_.2.2.2) ∧ (gb511 ≠ s_.2.2.2) ∧ (s_.2.2.2 ≠ gb511) ∧ (Below w.heap.size w w')) ?_ ?_
                     rotate_left
                     · intro hCont
                       refine two_ (i := 0) (j := 15) (Ni := some 63) (Nj := some 10) #[y,y,y,y,y,n,y,y,y,y,y,n,y,y,n,n,n] #[n,y,y,y,y,n,y,y,y,y,y,n,y,y,n,y,n] rfl rfl rfl rfl (two_of HT_.out (by kernel_rfl)) (by decide) (by decide) (fun K hK => ?_) (fun K hK => ?_)
                       · skip
                         refine Kd.R_lit_step k32 _ 32 ?hg (N := 63) ?hd (xs := ([] : List (S32))) (inner := []) (ok := fun _ => True) (okp := fun _ => True) ?hr ?hp (fun _ hk => hk) trivial (Below.refl _ _) (Nat.le_refl _) (by simp) ?_; (case hd => rfl); (case hg => rfl); (case hr => first | (go_simp; done) | (go_simp; rfl)); (case hp => exact (Reps.none _ _))
                         intro v519 w69 ho70 hb hg_ hnew_
                         clear hg_ hnew_
                         (first | rw [← Ny518.out] at ho70 | (simp only [Int.reduceToNat] at ho70; rw [← Ny518.out] at ho70))
                         have n0_ := Aside0.mk (Kd.R_elder' (by exact uR HO_512000.out) (Kd.R_base ho70) hb)
                         have n1_ := Aside0.mk (Kd.R_lower (Kd.R_new' ho70 (Kd.R_lt (by exact uR HO_512000.out))) (below_size (by exact q1 HB.out GE511.out)))
                         have n2_ := Aside0.mk (blk_below (g := gb511) (o := .cells #[.slice Ao11 t507.length co11, .int .i64 t510] 45 (0, 0)) (by exact uB BK511.out) hb)
                         have n3_ := Aside0.mk (Kd.C_below (by exact uC HR524.out) hb)
                         have n4_ := Aside0.mk (Kd.C_below (by exact uC HR531.out) hb)
                         have n5_ := Aside0.mk (below_step (by exact q1 HB.out GE511.out) hb)
                         clear HO_512000; clear BK511; clear HR524; clear HR531; clear HB; have HO_512000 := n0_; have HO520 := n1_; have BK511 := n2_; have HR524 := n3_; have HR531 := n4_; have HB := n5_; clear n0_ n1_ n2_ n3_ n4_ n5_; clear hb ho70
                         refine hK.out _ _ ⟨(blk_cell BK511.out 0).trans rfl, (blk_cell BK511.out 1).trans rfl⟩ (fun hHeld => ?_)
                         clear hK K
                         refine norm_ (a' := ?_) ?_ ?_
                         rotate_left; show Act.put _ (some 63) _ = _; exact uP
                         refine two_ (i := 5) (j := 15) (Ni := some 68) (Nj := some 10) #[y,y,y,y,y,y,y,y,y,y,y,n,y,y,n,n,n] #[y,y,y,y,y,n,y,y,y,y,y,n,y,y,n,y,n] rfl rfl rfl rfl (two_of HT_.out (by kernel_rfl)) (by decide) (by decide) (fun K hK => ?_) (fun K hK => ?_)
                         · skip
                           refine Kd.R_append_rows_step k32 (w0 := w) w.heap.size (by rfl) (.tmp 63) (.tmp 67) 25 32 (.agg #[(.string ⟨#[]⟩), (.string ⟨#[]⟩), (.bool false)]) 40 rfl Try.underlying25 info32 rfl (by decide) (by omega) v519 y518 y521 _ _ _ (fun k_ => some k_ ≠ (.slice Ao11 t507.length co11 : Value).ownBlock) (fun _ => False) rfl rfl ?aO ?aR (fun _ _ h => h) (fun _ h => h.elim) ?aF ?aB ?aS ?aL ?_
                           (case aR => repeat (first | exact (by exact uC HR524.out) | (with_reducible refine Kd.C_alloc ?_ _) | (with_reducible refine Kd.C_drewN ?_ _) | (with_reducible refine Kd.C_drew ?_)))
                           (case aB => exact (by exact q1 HB.out GE511.out))
                           (case aF => exact (fun k_ hk => Kd.fresh' (Kd.R_lt (by exact uR HO_512000.out)) k_ hk))
                           (case aO => exact (by refine uR ?_; exact Kd.R_mono HO520.out (fun _ hk => hk.2)))
                           (case aS => exact (below_size (by exact q1 HB.out GE511.out)))
                           (case aL => have := LMc37.out; omega)
                           intro v526 w71 ho hb hg hat
                           rw [← Ny525.out] at ho
                           have n0_ := Aside0.mk (Kd.R_after (ok := (fun _ => True)) (by exact uR HO_512000.out) hg hat)
                           have n1_ := Aside0.mk (blk_grown (g := gb511) (o := .cells #[.slice Ao11 t507.length co11, .int .i64 t510] 45 (0, 0)) (by exact uB BK511.out) hg (Kd.R_ne HO520.out BK511.out (by decide)))
                           have n2_ := Aside0.mk (hb)
                           have n3_ := Aside0.mk ((show Kd.C k32 w71 Ao11 y521.length y521 from by rw [Ny521.out]; exact Kd.C_take (m := ((ji34) : Int).toNat) ((Kd.R_reads' (Kd.R_after (ok := (fun _ => True)) (by exact uR HO_512000.out) hg hat)).2.2) KL67.out))
                           have n4_ := Aside0.mk ((show Kd.C k32 w71 A68 y528.length y528 from by rw [Ny528.out, KA68.out]; exact Kd.C_drop (m := ((ji38) : Int).toNat) (c := co11) ((Kd.R_reads' (Kd.R_after (ok := (fun _ => True)) (by exact uR HO_512000.out) hg hat)).2.2) KL68.out ((Kd.R_reads' (Kd.R_after (ok := (fun _ => True)) (by exact uR HO_512000.out) hg hat)).2.1)))
                           have n5_ := Aside0.mk (ho)
                           clear HO_512000; clear BK511; clear HB; clear HR524; clear HR531; clear HO520; have HO_512000 := n0_; have BK511 := n1_; have HB := n2_; have HR524 := n3_; have HR531 := n4_; have HO527 := n5_; clear n0_ n1_ n2_ n3_ n4_ n5_; clear ho hb hg hat
                           refine hK.out _ _ ⟨(blk_cell BK511.out 0).trans rfl, (blk_cell BK511.out 1).trans rfl⟩ (fun hHeld => ?_)
                           clear hK K
                           refine norm_ (a' := ?_) ?_ ?_
                           rotate_left; show Act.put _ (some 68) _ = _; exact uP
                           refine two_ (i := 11) (j := 15) (Ni := some 74) (Nj := some 10) #[y,y,y,y,y,y,y,y,y,y,y,y,y,y,n,n,n] #[y,y,y,y,y,y,y,y,y,y,y,n,y,y,n,y,n] rfl rfl rfl rfl (two_of HT_.out (by kernel_rfl)) (by decide) (by decide) (fun K hK => ?_) (fun K hK => ?_)
                           · skip
                             refine Kd.R_append_rows_step k32 (w0 := w) w.heap.size (by rfl) (.tmp 68) (.tmp 73) 25 32 (.agg #[(.string ⟨#[]⟩), (.string ⟨#[]⟩), (.bool false)]) 40 rfl Try.underlying25 info32 rfl (by decide) (by omega) v526 y525 y528 _ _ _ (fun k_ => some k_ ≠ (.slice Ao11 t507.length co11 : Value).ownBlock) (fun _ => False) rfl rfl ?aO ?aR (fun _ _ h => h) (fun _ h => h.elim) ?aF ?aB ?aS ?aL ?_
                             (case aR => repeat (first | exact (by exact uC HR531.out) | (with_reducible refine Kd.C_alloc ?_ _) | (with_reducible refine Kd.C_drewN ?_ _) | (with_reducible refine Kd.C_drew ?_)))
                             (case aB => exact (by exact q1 HB.out GE511.out))
                             (case aF => exact (fun k_ hk => Kd.fresh' (Kd.R_lt (by exact uR HO_512000.out)) k_ hk))
                             (case aO => exact (by exact uR HO527.out))
                             (case aS => exact (below_size (by exact q1 HB.out GE511.out)))
                             (case aL => have := LMc41.out; omega)
                             intro v533 w72 ho hb hg hat
                             rw [← Ny532.out] at ho
                             have n0_ := Aside0.mk (Kd.R_after (ok := (fun _ => True)) (by exact uR HO_512000.out) hg hat)
                             have n1_ := Aside0.mk (blk_grown (g := gb511) (o := .cells #[.slice Ao11 t507.length co11, .int .i64 t510] 45 (0, 0)) (by exact uB BK511.out) hg (Kd.R_ne HO527.out BK511.out (by decide)))
                             have n2_ := Aside0.mk (hb)
                             have n3_ := Aside0.mk ((show Kd.C k32 w72 Ao11 y521.length y521 from by rw [Ny521.out]; exact Kd.C_take (m := ((ji34) : Int).toNat) ((Kd.R_reads' (Kd.R_after (ok := (fun _ => True)) (by exact uR HO_512000.out) hg hat)).2.2) KL67.out))
                             have n4_ := Aside0.mk ((show Kd.C k32 w72 A68 y528.length y528 from by rw [Ny528.out, KA68.out]; exact Kd.C_drop (m := ((ji38) : Int).toNat) (c := co11) ((Kd.R_reads' (Kd.R_after (ok := (fun _ => True)) (by exact uR HO_512000.out) hg hat)).2.2) KL68.out ((Kd.R_reads' (Kd.R_after (ok := (fun _ => True)) (by exact uR HO_512000.out) hg hat)).2.1)))
                             have n5_ := Aside0.mk (ho)
                             clear HO_512000; clear BK511; clear HB; clear HR524; clear HR531; clear HO527; have HO_512000 := n0_; have BK511 := n1_; have HB := n2_; have HR524 := n3_; have HR531 := n4_; have HO534 := n5_; clear n0_ n1_ n2_ n3_ n4_ n5_; clear ho hb hg hat
                             obtain ⟨Ao73, co73, eo73⟩ := Kd.R_slice HO534.out
                             (first | subst eo73 | (injection eo73 with f1_ f2_ f3_; have f4_ := f1_.symm; have f5_ := f3_.symm; clear f1_ f2_ f3_; subst f4_; subst f5_))
                             refine hK.out _ _ ⟨(blk_cell BK511.out 0).trans rfl, (blk_cell BK511.out 1).trans rfl⟩ (fun hHeld => ?_)
                             clear hK K
                             refine norm_ (a' := ?_) ?_ ?_
                             rotate_left; show Act.put _ (some 74) _ = _; exact uP; refine pure_ (i := 14) (N := some 77) (v := ?_) (a' := ?_) #[y,y,y,y,y,y,y,y,y,y,y,y,y,y,y,n,n] rfl rfl (any_of HT_.out (by kernel_rfl)) (fun _ _ _ h => h) (Or.inl ⟨by rfl, ?_⟩) ?_ ?_; rotate_left; exact uV; rotate_left; exact uP
                             refine one_ (i := 15) (N := some 10) #[y,y,y,y,y,y,y,y,y,y,y,y,y,y,y,y,n] rfl rfl (one_of HT_.out (by kernel_rfl)) (by decide) (fun K hK => ?_)
                             refine box_step ?hg (N := 10) ?hd (cs := #[.slice none 0 0, .int .i64 0]) (t := 45) ?hr ?_; (case hd => rfl); (case hg => rfl); (case hr => first | (go_simp; done) | (go_simp; rfl))
                             intro gb535 hg w74 hbox hb
                             have n0_ := Aside0.mk (Kd.R_below (by exact uR HO_512000.out) hb)
                             have n1_ := Aside0.mk (Kd.R_below (by exact uR HO534.out) hb)
                             have n2_ := Aside0.mk (blk_below (g := gb511) (o := .cells #[.slice Ao11 t507.length co11, .int .i64 t510] 45 (0, 0)) (by exact uB BK511.out) hb)
                             have n3_ := Aside0.mk (Kd.C_below (by exact uC HR524.out) hb)
                             have n4_ := Aside0.mk (Kd.C_below (by exact uC HR531.out) hb)
                             have n5_ := Aside0.mk (below_step (by exact q1 HB.out GE511.out) hb)
                             have n6_ := Aside0.mk (hbox)
                             have n7_ := Aside0.mk ((by rw [hg]; exact (below_size (by exact q1 HB.out GE511.out)) : w.heap.size ≤ gb535))
                             have n8_ := Aside0.mk ((by rw [hg]; exact (below_size (by exact q1 HB.out GE511.out)) : w.heap.size ≤ gb535))
                             have n9_ := Aside0.mk ((by rw [hg]; exact Nat.ne_of_lt (blk_lt (g := gb511) (o := .cells #[.slice Ao11 t507.length co11, .int .i64 t510] 45 (0, 0)) (by exact uB BK511.out)) : gb511 ≠ gb535))
                             have n10_ := Aside0.mk ((by rw [hg]; exact Nat.ne_of_gt (blk_lt (g := gb511) (o := .cells #[.slice Ao11 t507.length co11, .int .i64 t510] 45 (0, 0)) (by exact uB BK511.out)) : gb535 ≠ gb511))
                             clear HO_512000; clear HO534; clear BK511; clear HR524; clear HR531; clear HB; have HO_512000 := n0_; have HO534 := n1_; have BK511 := n2_; have HR524 := n3_; have HR531 := n4_; have HB := n5_; have BK535 := n6_; have GW535 := n7_; have GE535 := n8_; have NB511_535 := n9_; have NB535_511 := n10_; clear n0_ n1_ n2_ n3_ n4_ n5_ n6_ n7_ n8_ n9_ n10_; clear hb hbox hg
                             refine hK.out _ _ ⟨(blk_cell BK511.out 0).trans rfl, (blk_cell BK511.out 1).trans rfl⟩ (fun hHeld => ?_)
                             clear hK K
                             refine norm_ (a' := ?_) ?_ ?_
                             rotate_left; show Act.put _ (some 10) _ = _; exact uP
                             exact norm_ (by simp only [putAll, Act.put, List.setIfInBounds_toArray, List.set_cons_zero, List.set_cons_succ]) (hCont (v519, v526, .slice Ao73 y532.length co73, gb535) _ ⟨hHeld, (by exact uR HO534.out), (by refine uR ?_; exact Kd.R_mono HO_512000.out (fun _ hk => hk.2)), (by exact uB BK511.out), (by exact uB BK535.out), GW535.out, GE535.out, NB511_535.out, NB535_511.out, (by exact q2 HB.out GE511.out GE535.out)⟩)
                           skip
                           refine box_step ?hg (N := 10) ?hd (cs := #[.slice none 0 0, .int .i64 0]) (t := 45) ?hr ?_; (case hd => rfl); (case hg => rfl); (case hr => first | (go_simp; done) | (go_simp; rfl))
                           intro gb535 hg w72 hbox hb
                           have n0_ := Aside0.mk (Kd.R_below (by exact uR HO_512000.out) hb)
                           have n1_ := Aside0.mk (Kd.R_below (by exact uR HO527.out) hb)
                           have n2_ := Aside0.mk (blk_below (g := gb511) (o := .cells #[.slice Ao11 t507.length co11, .int .i64 t510] 45 (0, 0)) (by exact uB BK511.out) hb)
                           have n3_ := Aside0.mk (Kd.C_below (by exact uC HR524.out) hb)
                           have n4_ := Aside0.mk (Kd.C_below (by exact uC HR531.out) hb)
                           have n5_ := Aside0.mk (below_step (by exact q1 HB.out GE511.out) hb)
                           have n6_ := Aside0.mk (hbox)
                           have n7_ := Aside0.mk ((by rw [hg]; exact (below_size (by exact q1 HB.out GE511.out)) : w.heap.size ≤ gb535))
                           have n8_ := Aside0.mk ((by rw [hg]; exact (below_size (by exact q1 HB.out GE511.out)) : w.heap.size ≤ gb535))
                           have n9_ := Aside0.mk ((by rw [hg]; exact Nat.ne_of_lt (blk_lt (g := gb511) (o := .cells #[.slice Ao11 t507.length co11, .int .i64 t510] 45 (0, 0)) (by exact uB BK511.out)) : gb511 ≠ gb535))
                           have n10_ := Aside0.mk ((by rw [hg]; exact Nat.ne_of_gt (blk_lt (g := gb511) (o := .cells #[.slice Ao11 t507.length co11, .int .i64 t510] 45 (0, 0)) (by exact uB BK511.out)) : gb535 ≠ gb511))
                           clear HO_512000; clear HO527; clear BK511; clear HR524; clear HR531; clear HB; have HO_512000 := n0_; have HO527 := n1_; have BK511 := n2_; have HR524 := n3_; have HR531 := n4_; have HB := n5_; have BK535 := n6_; have GW535 := n7_; have GE535 := n8_; have NB511_535 := n9_; have NB535_511 := n10_; clear n0_ n1_ n2_ n3_ n4_ n5_ n6_ n7_ n8_ n9_ n10_; clear hb hbox hg
                           refine hK.out _ _ ⟨(blk_cell BK511.out 0).trans rfl, (blk_cell BK511.out 1).trans rfl⟩ (fun hHeld => ?_)
                           clear hK K
                           refine norm_ (a' := ?_) ?_ ?_
                           rotate_left; show Act.put _ (some 10) _ = _; exact uP
                           refine one_ (i := 11) (N := some 74) #[y,y,y,y,y,y,y,y,y,y,y,y,y,y,n,y,n] rfl rfl (one_of HT_.out (by kernel_rfl)) (by decide) (fun K hK => ?_)
                           refine Kd.R_append_rows_step k32 (w0 := w) w.heap.size (by rfl) (.tmp 68) (.tmp 73) 25 32 (.agg #[(.string ⟨#[]⟩), (.string ⟨#[]⟩), (.bool false)]) 40 rfl Try.underlying25 info32 rfl (by decide) (by omega) v526 y525 y528 _ _ _ (fun k_ => some k_ ≠ (.slice Ao11 t507.length co11 : Value).ownBlock) (fun _ => False) rfl rfl ?aO ?aR (fun _ _ h => h) (fun _ h => h.elim) ?aF ?aB ?aS ?aL ?_
                           (case aR => repeat (first | exact (by exact uC HR531.out) | (with_reducible refine Kd.C_alloc ?_ _) | (with_reducible refine Kd.C_drewN ?_ _) | (with_reducible refine Kd.C_drew ?_)))
                           (case aB => exact (by exact q2 HB.out GE511.out GE535.out))
                           (case aF => exact (fun k_ hk => Kd.fresh' (Kd.R_lt (by exact uR HO_512000.out)) k_ hk))
                           (case aO => exact (by exact uR HO527.out))
                           (case aS => exact (below_size (by exact q2 HB.out GE511.out GE535.out)))
                           (case aL => have := LMc41.out; omega)
                           intro v533 w73 ho hb hg hat
                           rw [← Ny532.out] at ho
                           have n0_ := Aside0.mk (Kd.R_after (ok := (fun _ => True)) (by exact uR HO_512000.out) hg hat)
                           have n1_ := Aside0.mk (blk_grown (g := gb511) (o := .cells #[.slice Ao11 t507.length co11, .int .i64 t510] 45 (0, 0)) (by exact uB BK511.out) hg (Kd.R_ne HO527.out BK511.out (by decide)))
                           have n2_ := Aside0.mk (blk_grown (g := gb535) (o := .cells #[.slice none 0 0, .int .i64 0] 45 (0, 0)) (by exact uB BK535.out) hg (Kd.R_ne HO527.out BK535.out (by decide)))
                           have n3_ := Aside0.mk (hb)
                           have n4_ := Aside0.mk ((show Kd.C k32 w73 Ao11 y521.length y521 from by rw [Ny521.out]; exact Kd.C_take (m := ((ji34) : Int).toNat) ((Kd.R_reads' (Kd.R_after (ok := (fun _ => True)) (by exact uR HO_512000.out) hg hat)).2.2) KL67.out))
                           have n5_ := Aside0.mk ((show Kd.C k32 w73 A68 y528.length y528 from by rw [Ny528.out, KA68.out]; exact Kd.C_drop (m := ((ji38) : Int).toNat) (c := co11) ((Kd.R_reads' (Kd.R_after (ok := (fun _ => True)) (by exact uR HO_512000.out) hg hat)).2.2) KL68.out ((Kd.R_reads' (Kd.R_after (ok := (fun _ => True)) (by exact uR HO_512000.out) hg hat)).2.1)))
                           have n6_ := Aside0.mk (ho)
                           clear HO_512000; clear BK511; clear BK535; clear HB; clear HR524; clear HR531; clear HO527; have HO_512000 := n0_; have BK511 := n1_; have BK535 := n2_; have HB := n3_; have HR524 := n4_; have HR531 := n5_; have HO534 := n6_; clear n0_ n1_ n2_ n3_ n4_ n5_ n6_; clear ho hb hg hat
                           obtain ⟨Ao74, co74, eo74⟩ := Kd.R_slice HO534.out
                           (first | subst eo74 | (injection eo74 with f1_ f2_ f3_; have f4_ := f1_.symm; have f5_ := f3_.symm; clear f1_ f2_ f3_; subst f4_; subst f5_))
                           refine hK.out _ _ ⟨(blk_cell BK511.out 0).trans rfl, (blk_cell BK511.out 1).trans rfl⟩ (fun hHeld => ?_)
                           clear hK K
                           refine norm_ (a' := ?_) ?_ ?_
                           rotate_left; show Act.put _ (some 74) _ = _; exact uP; refine pure_ (i := 14) (N := some 77) (v := ?_) (a' := ?_) #[y,y,y,y,y,y,y,y,y,y,y,y,y,y,y,y,n] rfl rfl (any_of HT_.out (by kernel_rfl)) (fun _ _ _ h => h) (Or.inl ⟨by rfl, ?_⟩) ?_ ?_; rotate_left; exact uV; rotate_left; exact uP
                           exact norm_ (by simp only [putAll, Act.put, List.setIfInBounds_toArray, List.set_cons_zero, List.set_cons_succ]) (hCont (v519, v526, .slice Ao74 y532.length co74, gb535) _ ⟨hHeld, (by exact uR HO534.out), (by refine uR ?_; exact Kd.R_mono HO_512000.out (fun _ hk => hk.2)), (by exact uB BK511.out), (by exact uB BK535.out), GW535.out, GE535.out, NB511_535.out, NB535_511.out, (by exact q2 HB.out GE511.out GE535.out)⟩)
                         skip
                         refine box_step ?hg (N := 10) ?hd (cs := #[.slice none 0 0, .int .i64 0]) (t := 45) ?hr ?_; (case hd => rfl); (case hg => rfl); (case hr => first | (go_simp; done) | (go_simp; rfl))
                         intro gb535 hg w71 hbox hb
                         have n0_ := Aside0.mk (Kd.R_below (by exact uR HO_512000.out) hb)
                         have n1_ := Aside0.mk (Kd.R_below (by exact uR HO520.out) hb)
                         have n2_ := Aside0.mk (blk_below (g := gb511) (o := .cells #[.slice Ao11 t507.length co11, .int .i64 t510] 45 (0, 0)) (by exact uB BK511.out) hb)
                         have n3_ := Aside0.mk (Kd.C_below (by exact uC HR524.out) hb)
                         have n4_ := Aside0.mk (Kd.C_below (by exact uC HR531.out) hb)
                         have n5_ := Aside0.mk (below_step (by exact q1 HB.out GE511.out) hb)
                         have n6_ := Aside0.mk (hbox)
                         have n7_ := Aside0.mk ((by rw [hg]; exact (below_size (by exact q1 HB.out GE511.out)) : w.heap.size ≤ gb535))
                         have n8_ := Aside0.mk ((by rw [hg]; exact (below_size (by exact q1 HB.out GE511.out)) : w.heap.size ≤ gb535))
                         have n9_ := Aside0.mk ((by rw [hg]; exact Nat.ne_of_lt (blk_lt (g := gb511) (o := .cells #[.slice Ao11 t507.length co11, .int .i64 t510] 45 (0, 0)) (by exact uB BK511.out)) : gb511 ≠ gb535))
                         have n10_ := Aside0.mk ((by rw [hg]; exact Nat.ne_of_gt (blk_lt (g := gb511) (o := .cells #[.slice Ao11 t507.length co11, .int .i64 t510] 45 (0, 0)) (by exact uB BK511.out)) : gb535 ≠ gb511))
                         clear HO_512000; clear HO520; clear BK511; clear HR524; clear HR531; clear HB; have HO_512000 := n0_; have HO520 := n1_; have BK511 := n2_; have HR524 := n3_; have HR531 := n4_; have HB := n5_; have BK535 := n6_; have GW535 := n7_; have GE535 := n8_; have NB511_535 := n9_; have NB535_511 := n10_; clear n0_ n1_ n2_ n3_ n4_ n5_ n6_ n7_ n8_ n9_ n10_; clear hb hbox hg
                         refine hK.out _ _ ⟨(blk_cell BK511.out 0).trans rfl, (blk_cell BK511.out 1).trans rfl⟩ (fun hHeld => ?_)
                         clear hK K
                         refine norm_ (a' := ?_) ?_ ?_
                         rotate_left; show Act.put _ (some 10) _ = _; exact uP
                         refine one_ (i := 5) (N := some 68) #[y,y,y,y,y,y,y,y,y,y,y,n,y,y,n,y,n] rfl rfl (one_of HT_.out (by kernel_rfl)) (by decide) (fun K hK => ?_)
                         refine Kd.R_append_rows_step k32 (w0 := w) w.heap.size (by rfl) (.tmp 63) (.tmp 67) 25 32 (.agg #[(.string ⟨#[]⟩), (.string ⟨#[]⟩), (.bool false)]) 40 rfl Try.underlying25 info32 rfl (by decide) (by omega) v519 y518 y521 _ _ _ (fun k_ => some k_ ≠ (.slice Ao11 t507.length co11 : Value).ownBlock) (fun _ => False) rfl rfl ?aO ?aR (fun _ _ h => h) (fun _ h => h.elim) ?aF ?aB ?aS ?aL ?_
                         (case aR => repeat (first | exact (by exact uC HR524.out) | (with_reducible refine Kd.C_alloc ?_ _) | (with_reducible refine Kd.C_drewN ?_ _) | (with_reducible refine Kd.C_drew ?_)))
                         (case aB => exact (by exact q2 HB.out GE511.out GE535.out))
                         (case aF => exact (fun k_ hk => Kd.fresh' (Kd.R_lt (by exact uR HO_512000.out)) k_ hk))
                         (case aO => exact (by refine uR ?_; exact Kd.R_mono HO520.out (fun _ hk => hk.2)))
                         (case aS => exact (below_size (by exact q2 HB.out GE511.out GE535.out)))
                         (case aL => have := LMc37.out; omega)
                         intro v526 w72 ho hb hg hat
                         rw [← Ny525.out] at ho
                         have n0_ := Aside0.mk (Kd.R_after (ok := (fun _ => True)) (by exact uR HO_512000.out) hg hat)
                         have n1_ := Aside0.mk (blk_grown (g := gb511) (o := .cells #[.slice Ao11 t507.length co11, .int .i64 t510] 45 (0, 0)) (by exact uB BK511.out) hg (Kd.R_ne HO520.out BK511.out (by decide)))
                         have n2_ := Aside0.mk (blk_grown (g := gb535) (o := .cells #[.slice none 0 0, .int .i64 0] 45 (0, 0)) (by exact uB BK535.out) hg (Kd.R_ne HO520.out BK535.out (by decide)))
                         have n3_ := Aside0.mk (hb)
                         have n4_ := Aside0.mk ((show Kd.C k32 w72 Ao11 y521.length y521 from by rw [Ny521.out]; exact Kd.C_take (m := ((ji34) : Int).toNat) ((Kd.R_reads' (Kd.R_after (ok := (fun _ => True)) (by exact uR HO_512000.out) hg hat)).2.2) KL67.out))
                         have n5_ := Aside0.mk ((show Kd.C k32 w72 A68 y528.length y528 from by rw [Ny528.out, KA68.out]; exact Kd.C_drop (m := ((ji38) : Int).toNat) (c := co11) ((Kd.R_reads' (Kd.R_after (ok := (fun _ => True)) (by exact uR HO_512000.out) hg hat)).2.2) KL68.out ((Kd.R_reads' (Kd.R_after (ok := (fun _ => True)) (by exact uR HO_512000.out) hg hat)).2.1)))
                         have n6_ := Aside0.mk (ho)
                         clear HO_512000; clear BK511; clear BK535; clear HB; clear HR524; clear HR531; clear HO520; have HO_512000 := n0_; have BK511 := n1_; have BK535 := n2_; have HB := n3_; have HR524 := n4_; have HR531 := n5_; have HO527 := n6_; clear n0_ n1_ n2_ n3_ n4_ n5_ n6_; clear ho hb hg hat
                         refine hK.out _ _ ⟨(blk_cell BK511.out 0).trans rfl, (blk_cell BK511.out 1).trans rfl⟩ (fun hHeld => ?_)
                         clear hK K
                         refine norm_ (a' := ?_) ?_ ?_
                         rotate_left; show Act.put _ (some 68) _ = _; exact uP
                         refine one_ (i := 11) (N := some 74) #[y,y,y,y,y,y,y,y,y,y,y,y,y,y,n,y,n] rfl rfl (one_of HT_.out (by kernel_rfl)) (by decide) (fun K hK => ?_)
                         refine Kd.R_append_rows_step k32 (w0 := w) w.heap.size (by rfl) (.tmp 68) (.tmp 73) 25 32 (.agg #[(.string ⟨#[]⟩), (.string ⟨#[]⟩), (.bool false)]) 40 rfl Try.underlying25 info32 rfl (by decide) (by omega) v526 y525 y528 _ _ _ (fun k_ => some k_ ≠ (.slice Ao11 t507.length co11 : Value).ownBlock) (fun _ => False) rfl rfl ?aO ?aR (fun _ _ h => h) (fun _ h => h.elim) ?aF ?aB ?aS ?aL ?_
                         (case aR => repeat (first | exact (by exact uC HR531.out) | (with_reducible refine Kd.C_alloc ?_ _) | (with_reducible refine Kd.C_drewN ?_ _) | (with_reducible refine Kd.C_drew ?_)))
                         (case aB => exact (by exact q2 HB.out GE511.out GE535.out))
                         (case aF => exact (fun k_ hk => Kd.fresh' (Kd.R_lt (by exact uR HO_512000.out)) k_ hk))
                         (case aO => exact (by exact uR HO527.out))
                         (case aS => exact (below_size (by exact q2 HB.out GE511.out GE535.out)))
                         (case aL => have := LMc41.out; omega)
                         intro v533 w73 ho hb hg hat
                         rw [← Ny532.out] at ho
                         have n0_ := Aside0.mk (Kd.R_after (ok := (fun _ => True)) (by exact uR HO_512000.out) hg hat)
                         have n1_ := Aside0.mk (blk_grown (g := gb511) (o := .cells #[.slice Ao11 t507.length co11, .int .i64 t510] 45 (0, 0)) (by exact uB BK511.out) hg (Kd.R_ne HO527.out BK511.out (by decide)))
                         have n2_ := Aside0.mk (blk_grown (g := gb535) (o := .cells #[.slice none 0 0, .int .i64 0] 45 (0, 0)) (by exact uB BK535.out) hg (Kd.R_ne HO527.out BK535.out (by decide)))
                         have n3_ := Aside0.mk (hb)
                         have n4_ := Aside0.mk ((show Kd.C k32 w73 Ao11 y521.length y521 from by rw [Ny521.out]; exact Kd.C_take (m := ((ji34) : Int).toNat) ((Kd.R_reads' (Kd.R_after (ok := (fun _ => True)) (by exact uR HO_512000.out) hg hat)).2.2) KL67.out))
                         have n5_ := Aside0.mk ((show Kd.C k32 w73 A68 y528.length y528 from by rw [Ny528.out, KA68.out]; exact Kd.C_drop (m := ((ji38) : Int).toNat) (c := co11) ((Kd.R_reads' (Kd.R_after (ok := (fun _ => True)) (by exact uR HO_512000.out) hg hat)).2.2) KL68.out ((Kd.R_reads' (Kd.R_after (ok := (fun _ => True)) (by exact uR HO_512000.out) hg hat)).2.1)))
                         have n6_ := Aside0.mk (ho)
                         clear HO_512000; clear BK511; clear BK535; clear HB; clear HR524; clear HR531; clear HO527; have HO_512000 := n0_; have BK511 := n1_; have BK535 := n2_; have HB := n3_; have HR524 := n4_; have HR531 := n5_; have HO534 := n6_; clear n0_ n1_ n2_ n3_ n4_ n5_ n6_; clear ho hb hg hat
                         obtain ⟨Ao74, co74, eo74⟩ := Kd.R_slice HO534.out
                         (first | subst eo74 | (injection eo74 with f1_ f2_ f3_; have f4_ := f1_.symm; have f5_ := f3_.symm; clear f1_ f2_ f3_; subst f4_; subst f5_))
                         refine hK.out _ _ ⟨(blk_cell BK511.out 0).trans rfl, (blk_cell BK511.out 1).trans rfl⟩ (fun hHeld => ?_)
                         clear hK K
                         refine norm_ (a' := ?_) ?_ ?_
                         rotate_left; show Act.put _ (some 74) _ = _; exact uP; refine pure_ (i := 14) (N := some 77) (v := ?_) (a' := ?_) #[y,y,y,y,y,y,y,y,y,y,y,y,y,y,y,y,n] rfl rfl (any_of HT_.out (by kernel_rfl)) (fun _ _ _ h => h) (Or.inl ⟨by rfl, ?_⟩) ?_ ?_; rotate_left; exact uV; rotate_left; exact uP
                         exact norm_ (by simp only [putAll, Act.put, List.setIfInBounds_toArray, List.set_cons_zero, List.set_cons_succ]) (hCont (v519, v526, .slice Ao74 y532.length co74, gb535) _ ⟨hHeld, (by exact uR HO534.out), (by refine uR ?_; exact Kd.R_mono HO_512000.out (fun _ hk => hk.2)), (by exact uB BK511.out), (by exact uB BK535.out), GW535.out, GE535.out, NB511_535.out, NB535_511.out, (by exact q2 HB.out GE511.out GE535.out)⟩)
                       skip
                       refine box_step ?hg (N := 10) ?hd (cs := #[.slice none 0 0, .int .i64 0]) (t := 45) ?hr ?_; (case hd => rfl); (case hg => rfl); (case hr => first | (go_simp; done) | (go_simp; rfl))
                       intro gb535 hg w69 hbox hb
                       have n0_ := Aside0.mk (Kd.R_below (by exact uR HO_512000.out) hb)
                       have n1_ := Aside0.mk (blk_below (g := gb511) (o := .cells #[.slice Ao11 t507.length co11, .int .i64 t510] 45 (0, 0)) (by exact uB BK511.out) hb)
                       have n2_ := Aside0.mk (Kd.C_below (by exact uC HR524.out) hb)
                       have n3_ := Aside0.mk (Kd.C_below (by exact uC HR531.out) hb)
                       have n4_ := Aside0.mk (below_step (by exact q1 HB.out GE511.out) hb)
                       have n5_ := Aside0.mk (hbox)
                       have n6_ := Aside0.mk ((by rw [hg]; exact (below_size (by exact q1 HB.out GE511.out)) : w.heap.size ≤ gb535))
                       have n7_ := Aside0.mk ((by rw [hg]; exact (below_size (by exact q1 HB.out GE511.out)) : w.heap.size ≤ gb535))
                       have n8_ := Aside0.mk ((by rw [hg]; exact Nat.ne_of_lt (blk_lt (g := gb511) (o := .cells #[.slice Ao11 t507.length co11, .int .i64 t510] 45 (0, 0)) (by exact uB BK511.out)) : gb511 ≠ gb535))
                       have n9_ := Aside0.mk ((by rw [hg]; exact Nat.ne_of_gt (blk_lt (g := gb511) (o := .cells #[.slice Ao11 t507.length co11, .int .i64 t510] 45 (0, 0)) (by exact uB BK511.out)) : gb535 ≠ gb511))
                       clear HO_512000; clear BK511; clear HR524; clear HR531; clear HB; have HO_512000 := n0_; have BK511 := n1_; have HR524 := n2_; have HR531 := n3_; have HB := n4_; have BK535 := n5_; have GW535 := n6_; have GE535 := n7_; have NB511_535 := n8_; have NB535_511 := n9_; clear n0_ n1_ n2_ n3_ n4_ n5_ n6_ n7_ n8_ n9_; clear hb hbox hg
                       refine hK.out _ _ ⟨(blk_cell BK511.out 0).trans rfl, (blk_cell BK511.out 1).trans rfl⟩ (fun hHeld => ?_)
                       clear hK K
                       refine norm_ (a' := ?_) ?_ ?_
                       rotate_left; show Act.put _ (some 10) _ = _; exact uP
                       refine one_ (i := 0) (N := some 63) #[y,y,y,y,y,n,y,y,y,y,y,n,y,y,n,y,n] rfl rfl (one_of HT_.out (by kernel_rfl)) (by decide) (fun K hK => ?_)
                       refine Kd.R_lit_step k32 _ 32 ?hg (N := 63) ?hd (xs := ([] : List (S32))) (inner := []) (ok := fun _ => True) (okp := fun _ => True) ?hr ?hp (fun _ hk => hk) trivial (Below.refl _ _) (Nat.le_refl _) (by simp) ?_; (case hd => rfl); (case hg => rfl); (case hr => first | (go_simp; done) | (go_simp; rfl)); (case hp => exact (Reps.none _ _))
                       intro v519 w70 ho71 hb hg_ hnew_
                       clear hg_ hnew_
                       (first | rw [← Ny518.out] at ho71 | (simp only [Int.reduceToNat] at ho71; rw [← Ny518.out] at ho71))
                       have n0_ := Aside0.mk (Kd.R_elder' (by exact uR HO_512000.out) (Kd.R_base ho71) hb)
                       have n1_ := Aside0.mk (Kd.R_lower (Kd.R_new' ho71 (Kd.R_lt (by exact uR HO_512000.out))) (below_size (by exact q2 HB.out GE511.out GE535.out)))
                       have n2_ := Aside0.mk (blk_below (g := gb511) (o := .cells #[.slice Ao11 t507.length co11, .int .i64 t510] 45 (0, 0)) (by exact uB BK511.out) hb)
                       have n3_ := Aside0.mk (Kd.C_below (by exact uC HR524.out) hb)
                       have n4_ := Aside0.mk (Kd.C_below (by exact uC HR531.out) hb)
                       have n5_ := Aside0.mk (blk_below (g := gb535) (o := .cells #[.slice none 0 0, .int .i64 0] 45 (0, 0)) (by exact uB BK535.out) hb)
                       have n6_ := Aside0.mk (below_step (by exact q2 HB.out GE511.out GE535.out) hb)
                       clear HO_512000; clear BK511; clear HR524; clear HR531; clear BK535; clear HB; have HO_512000 := n0_; have HO520 := n1_; have BK511 := n2_; have HR524 := n3_; have HR531 := n4_; have BK535 := n5_; have HB := n6_; clear n0_ n1_ n2_ n3_ n4_ n5_ n6_; clear hb ho71
                       refine hK.out _ _ ⟨(blk_cell BK511.out 0).trans rfl, (blk_cell BK511.out 1).trans rfl⟩ (fun hHeld => ?_)
                       clear hK K
                       refine norm_ (a' := ?_) ?_ ?_
                       rotate_left; show Act.put _ (some 63) _ = _; exact uP
                       refine one_ (i := 5) (N := some 68) #[y,y,y,y,y,y,y,y,y,y,y,n,y,y,n,y,n] rfl rfl (one_of HT_.out (by kernel_rfl)) (by decide) (fun K hK => ?_)
                       refine Kd.R_append_rows_step k32 (w0 := w) w.heap.size (by rfl) (.tmp 63) (.tmp 67) 25 32 (.agg #[(.string ⟨#[]⟩), (.string ⟨#[]⟩), (.bool false)]) 40 rfl Try.underlying25 info32 rfl (by decide) (by omega) v519 y518 y521 _ _ _ (fun k_ => some k_ ≠ (.slice Ao11 t507.length co11 : Value).ownBlock) (fun _ => False) rfl rfl ?aO ?aR (fun _ _ h => h) (fun _ h => h.elim) ?aF ?aB ?aS ?aL ?_
                       (case aR => repeat (first | exact (by exact uC HR524.out) | (with_reducible refine Kd.C_alloc ?_ _) | (with_reducible refine Kd.C_drewN ?_ _) | (with_reducible refine Kd.C_drew ?_)))
                       (case aB => exact (by exact q2 HB.out GE511.out GE535.out))
                       (case aF => exact (fun k_ hk => Kd.fresh' (Kd.R_lt (by exact uR HO_512000.out)) k_ hk))
                       (case aO => exact (by refine uR ?_; exact Kd.R_mono HO520.out (fun _ hk => hk.2)))
                       (case aS => exact (below_size (by exact q2 HB.out GE511.out GE535.out)))
                       (case aL => have := LMc37.out; omega)
                       intro v526 w72 ho hb hg hat
                       rw [← Ny525.out] at ho
                       have n0_ := Aside0.mk (Kd.R_after (ok := (fun _ => True)) (by exact uR HO_512000.out) hg hat)
                       have n1_ := Aside0.mk (blk_grown (g := gb511) (o := .cells #[.slice Ao11 t507.length co11, .int .i64 t510] 45 (0, 0)) (by exact uB BK511.out) hg (Kd.R_ne HO520.out BK511.out (by decide)))
                       have n2_ := Aside0.mk (blk_grown (g := gb535) (o := .cells #[.slice none 0 0, .int .i64 0] 45 (0, 0)) (by exact uB BK535.out) hg (Kd.R_ne HO520.out BK535.out (by decide)))
                       have n3_ := Aside0.mk (hb)
                       have n4_ := Aside0.mk ((show Kd.C k32 w72 Ao11 y521.length y521 from by rw [Ny521.out]; exact Kd.C_take (m := ((ji34) : Int).toNat) ((Kd.R_reads' (Kd.R_after (ok := (fun _ => True)) (by exact uR HO_512000.out) hg hat)).2.2) KL67.out))
                       have n5_ := Aside0.mk ((show Kd.C k32 w72 A68 y528.length y528 from by rw [Ny528.out, KA68.out]; exact Kd.C_drop (m := ((ji38) : Int).toNat) (c := co11) ((Kd.R_reads' (Kd.R_after (ok := (fun _ => True)) (by exact uR HO_512000.out) hg hat)).2.2) KL68.out ((Kd.R_reads' (Kd.R_after (ok := (fun _ => True)) (by exact uR HO_512000.out) hg hat)).2.1)))
                       have n6_ := Aside0.mk (ho)
                       clear HO_512000; clear BK511; clear BK535; clear HB; clear HR524; clear HR531; clear HO520; have HO_512000 := n0_; have BK511 := n1_; have BK535 := n2_; have HB := n3_; have HR524 := n4_; have HR531 := n5_; have HO527 := n6_; clear n0_ n1_ n2_ n3_ n4_ n5_ n6_; clear ho hb hg hat
                       refine hK.out _ _ ⟨(blk_cell BK511.out 0).trans rfl, (blk_cell BK511.out 1).trans rfl⟩ (fun hHeld => ?_)
                       clear hK K
                       refine norm_ (a' := ?_) ?_ ?_
                       rotate_left; show Act.put _ (some 68) _ = _; exact uP
                       refine one_ (i := 11) (N := some 74) #[y,y,y,y,y,y,y,y,y,y,y,y,y,y,n,y,n] rfl rfl (one_of HT_.out (by kernel_rfl)) (by decide) (fun K hK => ?_)
                       refine Kd.R_append_rows_step k32 (w0 := w) w.heap.size (by rfl) (.tmp 68) (.tmp 73) 25 32 (.agg #[(.string ⟨#[]⟩), (.string ⟨#[]⟩), (.bool false)]) 40 rfl Try.underlying25 info32 rfl (by decide) (by omega) v526 y525 y528 _ _ _ (fun k_ => some k_ ≠ (.slice Ao11 t507.length co11 : Value).ownBlock) (fun _ => False) rfl rfl ?aO ?aR (fun _ _ h => h) (fun _ h => h.elim) ?aF ?aB ?aS ?aL ?_
                       (case aR => repeat (first | exact (by exact uC HR531.out) | (with_reducible refine Kd.C_alloc ?_ _) | (with_reducible refine Kd.C_drewN ?_ _) | (with_reducible refine Kd.C_drew ?_)))
                       (case aB => exact (by exact q2 HB.out GE511.out GE535.out))
                       (case aF => exact (fun k_ hk => Kd.fresh' (Kd.R_lt (by exact uR HO_512000.out)) k_ hk))
                       (case aO => exact (by exact uR HO527.out))
                       (case aS => exact (below_size (by exact q2 HB.out GE511.out GE535.out)))
                       (case aL => have := LMc41.out; omega)
                       intro v533 w73 ho hb hg hat
                       rw [← Ny532.out] at ho
                       have n0_ := Aside0.mk (Kd.R_after (ok := (fun _ => True)) (by exact uR HO_512000.out) hg hat)
                       have n1_ := Aside0.mk (blk_grown (g := gb511) (o := .cells #[.slice Ao11 t507.length co11, .int .i64 t510] 45 (0, 0)) (by exact uB BK511.out) hg (Kd.R_ne HO527.out BK511.out (by decide)))
                       have n2_ := Aside0.mk (blk_grown (g := gb535) (o := .cells #[.slice none 0 0, .int .i64 0] 45 (0, 0)) (by exact uB BK535.out) hg (Kd.R_ne HO527.out BK535.out (by decide)))
                       have n3_ := Aside0.mk (hb)
                       have n4_ := Aside0.mk ((show Kd.C k32 w73 Ao11 y521.length y521 from by rw [Ny521.out]; exact Kd.C_take (m := ((ji34) : Int).toNat) ((Kd.R_reads' (Kd.R_after (ok := (fun _ => True)) (by exact uR HO_512000.out) hg hat)).2.2) KL67.out))
                       have n5_ := Aside0.mk ((show Kd.C k32 w73 A68 y528.length y528 from by rw [Ny528.out, KA68.out]; exact Kd.C_drop (m := ((ji38) : Int).toNat) (c := co11) ((Kd.R_reads' (Kd.R_after (ok := (fun _ => True)) (by exact uR HO_512000.out) hg hat)).2.2) KL68.out ((Kd.R_reads' (Kd.R_after (ok := (fun _ => True)) (by exact uR HO_512000.out) hg hat)).2.1)))
                       have n6_ := Aside0.mk (ho)
                       clear HO_512000; clear BK511; clear BK535; clear HB; clear HR524; clear HR531; clear HO527; have HO_512000 := n0_; have BK511 := n1_; have BK535 := n2_; have HB := n3_; have HR524 := n4_; have HR531 := n5_; have HO534 := n6_; clear n0_ n1_ n2_ n3_ n4_ n5_ n6_; clear ho hb hg hat
                       obtain ⟨Ao74, co74, eo74⟩ := Kd.R_slice HO534.out
                       (first | subst eo74 | (injection eo74 with f1_ f2_ f3_; have f4_ := f1_.symm; have f5_ := f3_.symm; clear f1_ f2_ f3_; subst f4_; subst f5_))
                       refine hK.out _ _ ⟨(blk_cell BK511.out 0).trans rfl, (blk_cell BK511.out 1).trans rfl⟩ (fun hHeld => ?_)
                       clear hK K
                       refine norm_ (a' := ?_) ?_ ?_
                       rotate_left; show Act.put _ (some 74) _ = _; exact uP; refine pure_ (i := 14) (N := some 77) (v := ?_) (a' := ?_) #[y,y,y,y,y,y,y,y,y,y,y,y,y,y,y,y,n] rfl rfl (any_of HT_.out (by kernel_rfl)) (fun _ _ _ h => h) (Or.inl ⟨by rfl, ?_⟩) ?_ ?_; rotate_left; exact uV; rotate_left; exact uP
                       exact norm_ (by simp only [putAll, Act.put, List.setIfInBounds_toArray, List.set_cons_zero, List.set_cons_succ]) (hCont (v519, v526, .slice Ao74 y532.length co74, gb535) _ ⟨hHeld, (by exact uR HO534.out), (by refine uR ?_; exact Kd.R_mono HO_512000.out (fun _ hk => hk.2)), (by exact uB BK511.out), (by exact uB BK535.out), GW535.out, GE535.out, NB511_535.out, NB535_511.out, (by exact q2 HB.out GE511.out GE535.out)⟩)
                     rintro ⟨v519, v526, v533, gb535⟩ w75 ⟨hS_, h0_, h1_, h2_, h3_, h4_, h5_, h6_, h7_, h8_⟩
                     have n0_ : Aside0 (Kd.R k32 32 w75 w.heap.size (fun k_ => some k_ ≠ (.slice Ao11 t507.length co11 : Value).ownBlock) v533 y532) := ⟨h0_⟩
                     have n1_ : Aside0 (Kd.R k32 32 w75 w.heap.size (fun k_ => some k_ ≠ (v533 : Value).ownBlock) (.slice Ao11 t507.length co11) t507) := ⟨h1_⟩
                     have n2_ : Aside0 (w75.heap[gb511]? = some (.cells #[.slice Ao11 t507.length co11, .int .i64 t510] 45 (0, 0))) := ⟨h2_⟩
                     have n3_ : Aside0 (w75.heap[gb535]? = some (.cells #[.slice none 0 0, .int .i64 0] 45 (0, 0))) := ⟨h3_⟩
                     have n4_ : Aside0 (w.heap.size ≤ gb535) := ⟨h4_⟩
                     have n5_ : Aside0 (w.heap.size ≤ gb535) := ⟨h5_⟩
                     have n6_ : Aside0 (gb511 ≠ gb535) := ⟨h6_⟩
                     have n7_ : Aside0 (gb535 ≠ gb511) := ⟨h7_⟩
                     have n8_ : Aside0 (Below w.heap.size w w75) := ⟨h8_⟩
                     clear HO_512000; clear BK511; clear HB; clear h0_ h1_ h2_ h3_ h4_ h5_ h6_ h7_ h8_; have HO534 := n0_; have HO_512000 := n1_; have BK511 := n2_; have BK535 := n3_; have GW535 := n4_; have GE535 := n5_; have NB511_535 := n6_; have NB535_511 := n7_; have HB := n8_; clear n0_ n1_ n2_ n3_ n4_ n5_ n6_ n7_ n8_
                     have hHeld : w75.cell? ⟨gb511, 0, none⟩ = some (.slice Ao11 t507.length co11) ∧ w75.cell? ⟨gb511, 1, none⟩ = some (.int .i64 t510) := hS_
                     obtain ⟨Ao76, co76, eo76⟩ := Kd.R_slice HO534.out
                     (first | subst eo76 | (injection eo76 with f1_ f2_ f3_; have f4_ := f1_.symm; have f5_ := f3_.symm; clear f1_ f2_ f3_; subst f4_; subst f5_))
                     refine norm_ (a' := ?_) ?_ ?_
                     rotate_left
                     · simp only [putAll, Act.put, List.setIfInBounds_toArray, List.set_cons_zero, List.set_cons_succ]
                       rfl
                     refine one_ (i := 16) (N := none) #[y,y,y,y,y,y,y,y,y,y,y,y,y,y,y,y,y] rfl rfl (one_of HT_.out (by kernel_rfl)) (by decide) (fun K hK => ?_)
                     have hs77 : w75.cell? ⟨gb535, 0, none⟩ = some (.slice none 0 0) := (blk_cell BK535.out 0).trans rfl
                     have hfs77 := blk_frozen BK535.out 0; have hns77_0 := NB511_535.out; have hms77_0 := NB535_511.out
                     have hs78 : w75.cell? ⟨gb535, 1, none⟩ = some (.int .i64 0) := (blk_cell BK535.out 1).trans rfl
                     have hfs78 := blk_frozen BK535.out 1; have hns78_0 := NB511_535.out; have hms78_0 := NB535_511.out
                     refine skip_ (w1 := ?_) (by rfl) rfl ?_ ?_
                     rotate_left
                     · go_simp
                       rfl
                     refine hK.out _ _ ⟨((cell_far (p := ⟨gb535, _, none⟩) NB511_535.out _).trans (((cell_far (p := ⟨gb535, _, none⟩) NB511_535.out _).trans (hHeld.1)))), ((cell_far (p := ⟨gb535, _, none⟩) NB511_535.out _).trans (((cell_far (p := ⟨gb535, _, none⟩) NB511_535.out _).trans (hHeld.2))))⟩ (fun hHeld => ?_)
                     clear hK K
                     refine done_ (done_of HT_.out (by kernel_rfl)) ?_
                     try go_wp2
                     have n0_ : Aside0 (Kd.R k32 32 ((w75.setCell ⟨gb535, 0, none⟩ (.slice Ao76 y532.length co76)).setCell ⟨gb535, 1, none⟩ (.int .i64 t510)) w.heap.size (fun k_ => some k_ ≠ (.slice Ao76 y532.length co76 : Value).ownBlock) (.slice Ao11 t507.length co11) t507) := ⟨by refine uR ?_; exact Kd.R_mono (Kd.R_far (p := ⟨gb535, 1, none⟩) (Kd.R_far (p := ⟨gb535, 0, none⟩) (Kd.R_types HO_512000.out BK535.out (by decide)) (fun _ hk => hk.2) (.slice Ao76 y532.length co76)) (fun _ hk => hk.2) (.int .i64 t510)) (fun _ hk => hk.1)⟩
                     have n1_ : Aside0 (Kd.R k32 32 ((w75.setCell ⟨gb535, 0, none⟩ (.slice Ao76 y532.length co76)).setCell ⟨gb535, 1, none⟩ (.int .i64 t510)) w.heap.size (fun k_ => some k_ ≠ (.slice Ao11 t507.length co11 : Value).ownBlock) (.slice Ao76 y532.length co76) y532) := ⟨by refine uR ?_; exact Kd.R_mono (Kd.R_far (p := ⟨gb535, 1, none⟩) (Kd.R_far (p := ⟨gb535, 0, none⟩) (Kd.R_types HO534.out BK535.out (by decide)) (fun _ hk => hk.2) (.slice Ao76 y532.length co76)) (fun _ hk => hk.2) (.int .i64 t510)) (fun _ hk => hk.1)⟩
                     have n2_ : Aside0 (((w75.setCell ⟨gb535, 0, none⟩ (.slice Ao76 y532.length co76)).setCell ⟨gb535, 1, none⟩ (.int .i64 t510)).heap[gb511]? = some (.cells #[.slice Ao11 t507.length co11, .int .i64 t510] 45 (0, 0))) := ⟨by refine uB ?_; refine blk_far ?_ NB511_535.out _; refine uB ?_; refine blk_far ?_ NB511_535.out _; refine uB ?_; exact BK511.out⟩
                     have n3_ : Aside0 (((w75.setCell ⟨gb535, 0, none⟩ (.slice Ao76 y532.length co76)).setCell ⟨gb535, 1, none⟩ (.int .i64 t510)).heap[gb535]? = some (.cells #[.slice Ao76 y532.length co76, .int .i64 t510] 45 (0, 0))) := ⟨by refine uB ?_; refine blk_put (cs := #[.slice Ao76 y532.length co76, .int .i64 0]) ?_ 1 _ rfl; refine uB ?_; refine blk_put (cs := #[.slice none 0 0, .int .i64 0]) ?_ 0 _ rfl; refine uB ?_; exact BK535.out⟩
                     have n4_ : Aside0 (Below w.heap.size w ((w75.setCell ⟨gb535, 0, none⟩ (.slice Ao76 y532.length co76)).setCell ⟨gb535, 1, none⟩ (.int .i64 t510))) := ⟨by exact q2 HB.out GE511.out GE535.out⟩
                     (try clear HO_512000); (try clear HO534); (try clear BK511); (try clear BK535); (try clear HB)
                     generalize ((w75.setCell ⟨gb535, 0, none⟩ (.slice Ao76 y532.length co76)).setCell ⟨gb535, 1, none⟩ (.int .i64 t510)) = w79 at n0_ n1_ n2_ n3_ n4_ ⊢
                     have HO_512000 := n0_; have HO534 := n1_; have BK511 := n2_; have BK535 := n3_; have HB := n4_; clear n0_ n1_ n2_ n3_ n4_
                     have n0_ := Aside0.mk (Kd.R_drew HO_512000.out)
                     have n1_ := Aside0.mk (Kd.R_drew HO534.out)
                     have n2_ := Aside0.mk (blk_drew BK511.out)
                     have n3_ := Aside0.mk (blk_drew BK535.out)
                     have n4_ := Aside0.mk (below_drew1 HB.out)
                     clear HO_512000; clear HO534; clear BK511; clear BK535; clear HB; have HO_512000 := n0_; have HO534 := n1_; have BK511 := n2_; have BK535 := n3_; have HB := n4_; clear n0_ n1_ n2_ n3_ n4_
                     refine start_ (n := 23) (S := fun w' => w'.cell? ⟨gb511, 0, none⟩ = some (.slice Ao11 t507.length co11) ∧ w'.cell? ⟨gb511, 1, none⟩ = some (.int .i64 t510)) (ds := []) #[n,n,n,n,n,n,n,n,n,n,n,n,n,n,n,n,n,n,n,n,n,n,n] (by kernel_rfl) rfl rfl ⟨(blk_cell BK511.out 0).trans rfl, (blk_cell BK511.out 1).trans rfl⟩ (fun hHeld => ?_); refine with_tabW laws_FnTableSize.tab16 laws_FnTableSize.bits16 (fun HT_ HW_ => ?_)
                     generalize w79.drew = w80 at HO_512000 HO534 BK511 BK535 HB hHeld ⊢
                     refine pure_ (i := 0) (N := some 78) (v := ?_) (a' := ?_) #[y,n,n,n,n,n,n,n,n,n,n,n,n,n,n,n,n,n,n,n,n,n,n] rfl rfl (any_of HT_.out (by kernel_rfl)) (fun _ _ _ h => h) (Or.inl ⟨by rfl, ?_⟩) ?_ ?_; rotate_left; exact uV; rotate_left; exact uP; refine pure_ (i := 1) (N := some 79) (v := ?_) (a' := ?_) #[y,y,n,n,n,n,n,n,n,n,n,n,n,n,n,n,n,n,n,n,n,n,n] rfl rfl (any_of HT_.out (by kernel_rfl)) (fun _ _ _ h => h) (Or.inl ⟨by rfl, ?_⟩) ?_ ?_; rotate_left; exact uV; rotate_left; exact uP; refine pure_ (i := 2) (N := some 80) (v := ?_) (a' := ?_) #[y,y,y,n,n,n,n,n,n,n,n,n,n,n,n,n,n,n,n,n,n,n,n] rfl rfl (any_of HT_.out (by kernel_rfl)) (fun _ _ _ h => h) (Or.inl ⟨by rfl, ?_⟩) ?_ ?_; rotate_left; exact uV; rotate_left; exact uP; refine pure_ (i := 3) (N := some 81) (v := ?_) (a' := ?_) #[y,y,y,y,n,n,n,n,n,n,n,n,n,n,n,n,n,n,n,n,n,n,n] rfl rfl (any_of HT_.out (by kernel_rfl)) (fun _ _ _ h => h) (Or.inl ⟨by rfl, ?_⟩) ?_ ?_; rotate_left; exact uV; rotate_left; exact uP; refine pure_ (i := 4) (N := some 82) (v := ?_) (a' := ?_) #[y,y,y,y,y,n,n,n,n,n,n,n,n,n,n,n,n,n,n,n,n,n,n] rfl rfl (any_of HT_.out (by kernel_rfl)) (fun _ _ _ h => h) (Or.inl ⟨by rfl, ?_⟩) ?_ ?_; rotate_left; exact uV; rotate_left; exact uP; refine pure_ (i := 5) (N := some 83) (v := ?_) (a' := ?_) #[y,y,y,y,y,y,n,n,n,n,n,n,n,n,n,n,n,n,n,n,n,n,n] rfl rfl (any_of HT_.out (by kernel_rfl)) (fun _ _ _ h => h) (Or.inl ⟨by rfl, ?_⟩) ?_ ?_; rotate_left; exact uV; rotate_left; exact uP; refine take_ (i := 6) (N := some 84) (v := ?_) (a' := ?_) #[y,y,y,y,y,y,y,n,n,n,n,n,n,n,n,n,n,n,n,n,n,n,n] rfl rfl (take_ofW HT_.out HW_.out (by kernel_rfl)) (fun _ _ _ h => h) (Or.inl ⟨by rfl, ?_⟩) hHeld ?_ ?_; rotate_left; exact uV2; rotate_left; exact uP; refine pure_ (i := 7) (N := some 85) (v := ?_) (a' := ?_) #[y,y,y,y,y,y,y,y,n,n,n,n,n,n,n,n,n,n,n,n,n,n,n] rfl rfl (any_of HT_.out (by kernel_rfl)) (fun _ _ _ h => h) (Or.inl ⟨by rfl, ?_⟩) ?_ ?_; rotate_left; exact uV; rotate_left; exact uP; refine pure_ (i := 8) (N := some 86) (v := ?_) (a' := ?_) #[y,y,y,y,y,y,y,y,y,n,n,n,n,n,n,n,n,n,n,n,n,n,n] rfl rfl (any_of HT_.out (by kernel_rfl)) (fun _ _ _ h => h) (Or.inl ⟨by rfl, ?_⟩) ?_ ?_; rotate_left; exact uV; rotate_left; exact uP; refine pure_ (i := 9) (N := some 87) (v := ?_) (a' := ?_) #[y,y,y,y,y,y,y,y,y,y,n,n,n,n,n,n,n,n,n,n,n,n,n] rfl rfl (any_of HT_.out (by kernel_rfl)) (fun _ _ _ h => h) (Or.inl ⟨by rfl, ?_⟩) ?_ ?_; rotate_left; exact uV; rotate_left; exact uP; refine pure_ (i := 10) (N := some 88) (v := undef) (a' := ?_) #[y,y,y,y,y,y,y,y,y,y,y,n,n,n,n,n,n,n,n,n,n,n,n] rfl rfl (any_of HT_.out (by kernel_rfl)) (fun _ _ _ h => h) (Or.inr ⟨by rfl, rfl⟩) ?_ ?_; rotate_left; exact uP; refine pure_ (i := 11) (N := some 89) (v := undef) (a' := ?_) #[y,y,y,y,y,y,y,y,y,y,y,y,n,n,n,n,n,n,n,n,n,n,n] rfl rfl (any_of HT_.out (by kernel_rfl)) (fun _ _ _ h => h) (Or.inr ⟨by rfl, rfl⟩) ?_ ?_; rotate_left; exact uP; refine pure_ (i := 12) (N := some 90) (v := undef) (a' := ?_) #[y,y,y,y,y,y,y,y,y,y,y,y,y,n,n,n,n,n,n,n,n,n,n] rfl rfl (any_of HT_.out (by kernel_rfl)) (fun _ _ _ h => h) (Or.inr ⟨by rfl, rfl⟩) ?_ ?_
                     rotate_left; exact uP; refine pure_ (i := 13) (N := some 91) (v := undef) (a' := ?_) #[y,y,y,y,y,y,y,y,y,y,y,y,y,y,n,n,n,n,n,n,n,n,n] rfl rfl (any_of HT_.out (by kernel_rfl)) (fun _ _ _ h => h) (Or.inr ⟨by rfl, rfl⟩) ?_ ?_; rotate_left; exact uP; refine pure_ (i := 14) (N := some 92) (v := undef) (a' := ?_) #[y,y,y,y,y,y,y,y,y,y,y,y,y,y,y,n,n,n,n,n,n,n,n] rfl rfl (any_of HT_.out (by kernel_rfl)) (fun _ _ _ h => h) (Or.inr ⟨by rfl, rfl⟩) ?_ ?_; rotate_left; exact uP; refine pure_ (i := 15) (N := some 93) (v := undef) (a' := ?_) #[y,y,y,y,y,y,y,y,y,y,y,y,y,y,y,y,n,n,n,n,n,n,n] rfl rfl (any_of HT_.out (by kernel_rfl)) (fun _ _ _ h => h) (Or.inr ⟨by rfl, rfl⟩) ?_ ?_; rotate_left; exact uP; refine pure_ (i := 16) (N := some 94) (v := undef) (a' := ?_) #[y,y,y,y,y,y,y,y,y,y,y,y,y,y,y,y,y,n,n,n,n,n,n] rfl rfl (any_of HT_.out (by kernel_rfl)) (fun _ _ _ h => h) (Or.inr ⟨by rfl, rfl⟩) ?_ ?_; rotate_left; exact uP; refine pure_ (i := 17) (N := some 95) (v := undef) (a' := ?_) #[y,y,y,y,y,y,y,y,y,y,y,y,y,y,y,y,y,y,n,n,n,n,n] rfl rfl (any_of HT_.out (by kernel_rfl)) (fun _ _ _ h => h) (Or.inr ⟨by rfl, rfl⟩) ?_ ?_; rotate_left; exact uP; refine pure_ (i := 18) (N := some 96) (v := undef) (a' := ?_) #[y,y,y,y,y,y,y,y,y,y,y,y,y,y,y,y,y,y,y,n,n,n,n] rfl rfl (any_of HT_.out (by kernel_rfl)) (fun _ _ _ h => h) (Or.inr ⟨by rfl, rfl⟩) ?_ ?_; rotate_left; exact uP; refine pure_ (i := 19) (N := some 97) (v := undef) (a' := ?_) #[y,y,y,y,y,y,y,y,y,y,y,y,y,y,y,y,y,y,y,y,n,n,n] rfl rfl (any_of HT_.out (by kernel_rfl)) (fun _ _ _ h => h) (Or.inr ⟨by rfl, rfl⟩) ?_ ?_; rotate_left; exact uP; refine pure_ (i := 20) (N := some 98) (v := undef) (a' := ?_) #[y,y,y,y,y,y,y,y,y,y,y,y,y,y,y,y,y,y,y,y,y,n,n] rfl rfl (any_of HT_.out (by kernel_rfl)) (fun _ _ _ h => h) (Or.inr ⟨by rfl, rfl⟩) ?_ ?_; rotate_left; exact uP; refine pure_ (i := 21) (N := some 99) (v := ?_) (a' := ?_) #[y,y,y,y,y,y,y,y,y,y,y,y,y,y,y,y,y,y,y,y,y,y,n] rfl rfl (any_of HT_.out (by kernel_rfl)) (fun _ _ _ h => h) (Or.inl ⟨by rfl, ?_⟩) ?_ ?_; rotate_left; exact uV; rotate_left; exact uP; refine pure_ (i := 22) (N := some 4) (v := ?_) (a' := ?_) #[y,y,y,y,y,y,y,y,y,y,y,y,y,y,y,y,y,y,y,y,y,y,y] rfl rfl (any_of HT_.out (by kernel_rfl)) (fun _ _ _ h => h) (Or.inl ⟨by rfl, ?_⟩) ?_ ?_; rotate_left; exact uV; rotate_left; exact uP
                     refine done_ (done_of HT_.out (by kernel_rfl)) ?_
                     try go_wp2
                     go_ret
                     exact ⟨by first | rfl | (simp [errW_none, errW_some] <;> rfl) | (simp only [← hji34, ← hji38]; first | rfl | (simp [errW_none, errW_some] <;> rfl)) | (simp [*, errW_none, errW_some] <;> rfl), by exact q2 HB.out GE511.out GE535.out⟩
                   rw [if_neg c42] at H
                   have c42b0 : (t512 == x7_3) = false := beq_eq_false_iff_ne.mpr c42
                   have c42b1 : (t512 != x7_3) = true := bne_iff_ne.mpr c42
                   obtain rfl := Option.some.inj H
                   have hcz81_0 : wr.cell? ⟨gb511, 0, none⟩ = some (.slice Ao11 t507.length co11) := (blk_cell BK511.out 0).trans rfl
                   have hcz81_1 : wr.cell? ⟨gb511, 1, none⟩ = some (.int .i64 t510) := (blk_cell BK511.out 1).trans rfl
                   have hfz81_0 := blk_frozen BK511.out 0; have hfz81_1 := blk_frozen BK511.out 1
                   try go_wp2
                   have n0_ := Aside0.mk (Kd.R_drew HO_512000.out)
                   have n1_ := Aside0.mk (blk_drew BK511.out)
                   have n2_ := Aside0.mk (below_drew1 HB.out)
                   clear HO_512000; clear BK511; clear HB; have HO_512000 := n0_; have BK511 := n1_; have HB := n2_; clear n0_ n1_ n2_
                   have q83 : ((ji34) : Int) ≤ ((t507.length : Int) : Int) := of_decide_eq_true (by first | (with_reducible assumption) | assumption)
                   obtain ⟨i083, hi083, _, hsz83, _⟩ := info_parts info32
                   have hroom83 : t507.length ≤ co11 := (Kd.R_reads' HO_512000.out).2.1
                   have hC83 : Kd.C k32 _ Ao11 t507.length t507 := (Kd.R_reads' HO_512000.out).2.2
                   have hcut83 := cut_to (P := Try.prog) 25 32 .i64 Try.underlying25 hi083 Ao11 t507.length co11 (ji34) (of_decide_eq_true (by first | (with_reducible assumption) | assumption)) q83 hroom83
                   have hr83 := Kd.C_take (m := ((ji34) : Int).toNat) hC83 (by omega)
                   have hy83 : y521.length = ((ji34) : Int).toNat := (by rw [Ny521.out, List.length_take]; omega)
                   rw [← Ny521.out] at hr83
                   rw [← hy83] at hcut83
                   have HR524 := Aside0.mk hr83
                   have HC524 := Aside0.mk (show y521.length ≤ co11 from by omega)
                   clear hr83 hC83 hroom83 hi083 hsz83; have KY83 := Aside0.mk hy83; clear hy83
                   have KL83 := Aside0.mk (show ((ji34) : Int).toNat ≤ t507.length from by omega)
                   replace q83 := eq_true q83
                   have q84 : ((ji38) : Int) ≤ ((t507.length : Int) : Int) := of_decide_eq_true (by first | (with_reducible assumption) | assumption)
                   obtain ⟨i084, hi084, _, hsz84, _⟩ := info_parts info32
                   have hroom84 : t507.length ≤ co11 := (Kd.R_reads' HO_512000.out).2.1
                   have hC84 : Kd.C k32 _ Ao11 t507.length t507 := (Kd.R_reads' HO_512000.out).2.2
                   have q084 : (0 : Int) ≤ ((ji38) : Int) := of_decide_eq_true (by first | (with_reducible assumption) | assumption)
                   have hcut84 := cut_from (P := Try.prog) 25 32 .i64 Try.underlying25 hi084 3 hsz84 Ao11 t507.length co11 (ji38) q084 q84
                   have hr84 := Kd.C_drop (m := ((ji38) : Int).toNat) (c := co11) hC84 (by omega) hroom84
                   obtain ⟨A84, hA84⟩ : ∃ A1, A1 = (if co11 = ((ji38) : Int).toNat then Ao11 else (Ao11 : Option Addr).map (·.add (((ji38) : Int).toNat * 3))) := ⟨_, rfl⟩
                   obtain ⟨c84, hc84⟩ : ∃ c1, c1 = co11 - ((ji38) : Int).toNat := ⟨_, rfl⟩
                   have hy84 : y528.length = t507.length - ((ji38) : Int).toNat := (by rw [Ny528.out, List.length_drop] <;> omega)
                   rw [show (t507).drop ((ji38) : Int).toNat = y528 from Ny528.out.symm] at hr84
                   replace hr84 : Kd.C k32 _ A84 y528.length y528 := (by rw [hA84]; exact hr84)
                   rw [← hy84, ← hA84, ← hc84] at hcut84
                   have HR531 := Aside0.mk hr84
                   have HC531 := Aside0.mk (show y528.length ≤ c84 from by rw [hy84, hc84]; exact Nat.sub_le_sub_right hroom84 _)
                   clear hr84 hC84 hroom84 hi084 hsz84 hc84; have KY84 := Aside0.mk hy84; have KA84 := Aside0.mk hA84; clear hy84 hA84
                   have KL84 := Aside0.mk (show ((ji38) : Int).toNat ≤ t507.length from by omega)
                   replace q84 := eq_true q84
                   refine start_ (n := 17) (S := fun w' => w'.cell? ⟨gb511, 0, none⟩ = some (.slice Ao11 t507.length co11) ∧ w'.cell? ⟨gb511, 1, none⟩ = some (.int .i64 t510)) (ds := []) #[n,n,n,n,n,n,n,n,n,n,n,n,n,n,n,n,n] (by kernel_rfl) rfl rfl ⟨(blk_cell BK511.out 0).trans rfl, (blk_cell BK511.out 1).trans rfl⟩ (fun hHeld => ?_); refine with_tabW laws_FnTableSize.tab15 laws_FnTableSize.bits15 (fun HT_ HW_ => ?_)
                   generalize wr.drew = w82 at HO_512000 BK511 HB HR524 HR531 hHeld ⊢
                   refine pure_ (i := 1) (N := some 64) (v := ?_) (a' := ?_) #[n,y,n,n,n,n,n,n,n,n,n,n,n,n,n,n,n] rfl rfl (any_of HT_.out (by kernel_rfl)) (fun _ _ _ h => h) (Or.inl ⟨by rfl, ?_⟩) ?_ ?_; rotate_left; exact uV; rotate_left; exact uP; refine pure_ (i := 3) (N := some 66) (v := ?_) (a' := ?_) #[n,y,n,y,n,n,n,n,n,n,n,n,n,n,n,n,n] rfl rfl (any_of HT_.out (by kernel_rfl)) (fun _ _ _ h => h) (Or.inl ⟨by rfl, ?_⟩) ?_ ?_; rotate_left; exact uV; rotate_left; exact uP; refine pure_ (i := 6) (N := some 69) (v := ?_) (a' := ?_) #[n,y,n,y,n,n,y,n,n,n,n,n,n,n,n,n,n] rfl rfl (any_of HT_.out (by kernel_rfl)) (fun _ _ _ h => h) (Or.inl ⟨by rfl, ?_⟩) ?_ ?_; rotate_left; exact uV; rotate_left; exact uP; refine pure_ (i := 8) (N := some 71) (v := ?_) (a' := ?_) #[n,y,n,y,n,n,y,n,y,n,n,n,n,n,n,n,n] rfl rfl (any_of HT_.out (by kernel_rfl)) (fun _ _ _ h => h) (Or.inl ⟨by rfl, ?_⟩) ?_ ?_; rotate_left; exact uV; rotate_left; exact uP; refine pure_ (i := 9) (N := some 72) (v := ?_) (a' := ?_) #[n,y,n,y,n,n,y,n,y,y,n,n,n,n,n,n,n] rfl rfl (any_of HT_.out (by kernel_rfl)) (fun _ _ _ h => h) (Or.inl ⟨by rfl, ?_⟩) ?_ ?_; rotate_left; exact uV; rotate_left; exact uP; refine pure_ (i := 12) (N := some 75) (v := ?_) (a' := ?_) #[n,y,n,y,n,n,y,n,y,y,n,n,y,n,n,n,n] rfl rfl (any_of HT_.out (by kernel_rfl)) (fun _ _ _ h => h) (Or.inl ⟨by rfl, ?_⟩) ?_ ?_; rotate_left; exact uV; rotate_left; exact uP; refine take_ (i := 2) (N := some 65) (v := ?_) (a' := ?_) #[n,y,y,y,n,n,y,n,y,y,n,n,y,n,n,n,n] rfl rfl (take_ofW HT_.out HW_.out (by kernel_rfl)) (fun _ _ _ h => h) (Or.inl ⟨by rfl, ?_⟩) hHeld ?_ ?_; rotate_left; exact uV2; rotate_left; exact uP; refine pure_ (i := 4) (N := some 67) (v := ?_) (a' := ?_) #[n,y,y,y,y,n,y,n,y,y,n,n,y,n,n,n,n] rfl rfl (any_of HT_.out (by kernel_rfl)) (fun _ _ _ h => h) (Or.inl ⟨by rfl, ?_⟩) ?_ ?_; rotate_left; exact uV; rotate_left; exact uP; refine take_ (i := 7) (N := some 70) (v := ?_) (a' := ?_) #[n,y,y,y,y,n,y,y,y,y,n,n,y,n,n,n,n] rfl rfl (take_ofW HT_.out HW_.out (by kernel_rfl)) (fun _ _ _ h => h) (Or.inl ⟨by rfl, ?_⟩) hHeld ?_ ?_; rotate_left; exact uV2; rotate_left; exact uP; refine pure_ (i := 10) (N := some 73) (v := ?_) (a' := ?_) #[n,y,y,y,y,n,y,y,y,y,y,n,y,n,n,n,n] rfl rfl (any_of HT_.out (by kernel_rfl)) (fun _ _ _ h => h) (Or.inl ⟨by rfl, ?_⟩) ?_ ?_; rotate_left; exact uV; rotate_left; exact uP; refine take_ (i := 13) (N := some 76) (v := ?_) (a' := ?_) #[n,y,y,y,y,n,y,y,y,y,y,n,y,y,n,n,n] rfl rfl (take_ofW HT_.out HW_.out (by kernel_rfl)) (fun _ _ _ h => h) (Or.inl ⟨by rfl, ?_⟩) hHeld ?_ ?_; rotate_left; exact uV2; rotate_left; exact uP
                   refine join_ (σ := Value × Value × Value × Nat) 1 #[y,y,y,y,y,y,y,y,y,y,y,y,y,y,y,y,n] (fun s_ => [(63, s_.1), (68, s_.2.1), (74, s_.2.2.1), (10, .pointer (some ⟨s_.2.2.2, 0, none⟩)), (77, .agg #[s_.2.2.1, .int .i64 t510])]) (fun s_ w' => (w'.cell? ⟨gb511, 0, none⟩ = some (.slice Ao11 t507.length co11) ∧ w'.cell? ⟨gb511, 1, none⟩ = some (.int .i64 t510)) ∧ (Kd.R k32 32 w' w.heap.size (fun k_ => some k_ ≠ (.slice Ao11 t507.length co11 : Value).ownBlock) s_.2.2.1 y532) ∧ (Kd.R k32 32 w' w.heap.size (fun k_ => some k_ ≠ (s_.2.2.1 : Value).ownBlock) (.slice Ao11 t507.length co11) t507) ∧ (w'.heap[gb511]? = some (.cells #[.slice Ao11 t507.length co11, .int .i64 t510] 45 (0, 0))) ∧ (w'.heap[s_.2.2.2]? = some (.cells #[.slice none 0 0, .int .i64 0] 45 (0, 0))) ∧ (w.heap.size ≤ s_.2.2.2) ∧ (w.heap.size ≤ s_.2.2.2) ∧ (gb511 ≠ s_.2.2.2) ∧ (s_.2.2.2 ≠ gb511) ∧ (Below w.heap.size w w')) ?_ ?_
                   rotate_left
                   · intro hCont
                     refine two_ (i := 0) (j := 15) (Ni := some 63) (Nj := some 10) #[y,y,y,y,y,n,y,y,y,y,y,n,y,y,n,n,n] #[n,y,y,y,y,n,y,y,y,y,y,n,y,y,n,y,n] rfl rfl rfl rfl (two_of HT_.out (by kernel_rfl)) (by decide) (by decide) (fun K hK => ?_) (fun K hK => ?_)
                     · skip
                       refine Kd.R_lit_step k32 _ 32 ?hg (N := 63) ?hd (xs := ([] : List (S32))) (inner := []) (ok := fun _ => True) (okp := fun _ => True) ?hr ?hp (fun _ hk => hk) trivial (Below.refl _ _) (Nat.le_refl _) (by simp) ?_; (case hd => rfl); (case hg => rfl); (case hr => first | (go_simp; done) | (go_simp; rfl)); (case hp => exact (Reps.none _ _))
                       intro v519 w85 ho86 hb hg_ hnew_
                       clear hg_ hnew_
                       (first | rw [← Ny518.out] at ho86 | (simp only [Int.reduceToNat] at ho86; rw [← Ny518.out] at ho86))
                       have n0_ := Aside0.mk (Kd.R_elder' (by exact uR HO_512000.out) (Kd.R_base ho86) hb)
                       have n1_ := Aside0.mk (Kd.R_lower (Kd.R_new' ho86 (Kd.R_lt (by exact uR HO_512000.out))) (below_size (by exact q1 HB.out GE511.out)))
                       have n2_ := Aside0.mk (blk_below (g := gb511) (o := .cells #[.slice Ao11 t507.length co11, .int .i64 t510] 45 (0, 0)) (by exact uB BK511.out) hb)
                       have n3_ := Aside0.mk (Kd.C_below (by exact uC HR524.out) hb)
                       have n4_ := Aside0.mk (Kd.C_below (by exact uC HR531.out) hb)
                       have n5_ := Aside0.mk (below_step (by exact q1 HB.out GE511.out) hb)
                       clear HO_512000; clear BK511; clear HR524; clear HR531; clear HB; have HO_512000 := n0_; have HO520 := n1_; have BK511 := n2_; have HR524 := n3_; have HR531 := n4_; have HB := n5_; clear n0_ n1_ n2_ n3_ n4_ n5_; clear hb ho86
                       refine hK.out _ _ ⟨(blk_cell BK511.out 0).trans rfl, (blk_cell BK511.out 1).trans rfl⟩ (fun hHeld => ?_)
                       clear hK K
                       refine norm_ (a' := ?_) ?_ ?_
                       rotate_left; show Act.put _ (some 63) _ = _; exact uP
                       refine two_ (i := 5) (j := 15) (Ni := some 68) (Nj := some 10) #[y,y,y,y,y,y,y,y,y,y,y,n,y,y,n,n,n] #[y,y,y,y,y,n,y,y,y,y,y,n,y,y,n,y,n] rfl rfl rfl rfl (two_of HT_.out (by kernel_rfl)) (by decide) (by decide) (fun K hK => ?_) (fun K hK => ?_)
                       · skip
                         refine Kd.R_append_rows_step k32 (w0 := w) w.heap.size (by rfl) (.tmp 63) (.tmp 67) 25 32 (.agg #[(.string ⟨#[]⟩), (.string ⟨#[]⟩), (.bool false)]) 40 rfl Try.underlying25 info32 rfl (by decide) (by omega) v519 y518 y521 _ _ _ (fun k_ => some k_ ≠ (.slice Ao11 t507.length co11 : Value).ownBlock) (fun _ => False) rfl rfl ?aO ?aR (fun _ _ h => h) (fun _ h => h.elim) ?aF ?aB ?aS ?aL ?_
                         (case aR => repeat (first | exact (by exact uC HR524.out) | (with_reducible refine Kd.C_alloc ?_ _) | (with_reducible refine Kd.C_drewN ?_ _) | (with_reducible refine Kd.C_drew ?_)))
                         (case aB => exact (by exact q1 HB.out GE511.out))
                         (case aF => exact (fun k_ hk => Kd.fresh' (Kd.R_lt (by exact uR HO_512000.out)) k_ hk))
                         (case aO => exact (by refine uR ?_; exact Kd.R_mono HO520.out (fun _ hk => hk.2)))
                         (case aS => exact (below_size (by exact q1 HB.out GE511.out)))
                         (case aL => have := LMc37.out; omega)
                         intro v526 w87 ho hb hg hat
                         rw [← Ny525.out] at ho
                         have n0_ := Aside0.mk (Kd.R_after (ok := (fun _ => True)) (by exact uR HO_512000.out) hg hat)
                         have n1_ := Aside0.mk (blk_grown (g := gb511) (o := .cells #[.slice Ao11 t507.length co11, .int .i64 t510] 45 (0, 0)) (by exact uB BK511.out) hg (Kd.R_ne HO520.out BK511.out (by decide)))
                         have n2_ := Aside0.mk (hb)
                         have n3_ := Aside0.mk ((show Kd.C k32 w87 Ao11 y521.length y521 from by rw [Ny521.out]; exact Kd.C_take (m := ((ji34) : Int).toNat) ((Kd.R_reads' (Kd.R_after (ok := (fun _ => True)) (by exact uR HO_512000.out) hg hat)).2.2) KL83.out))
                         have n4_ := Aside0.mk ((show Kd.C k32 w87 A84 y528.length y528 from by rw [Ny528.out, KA84.out]; exact Kd.C_drop (m := ((ji38) : Int).toNat) (c := co11) ((Kd.R_reads' (Kd.R_after (ok := (fun _ => True)) (by exact uR HO_512000.out) hg hat)).2.2) KL84.out ((Kd.R_reads' (Kd.R_after (ok := (fun _ => True)) (by exact uR HO_512000.out) hg hat)).2.1)))
                         have n5_ := Aside0.mk (ho)
                         clear HO_512000; clear BK511; clear HB; clear HR524; clear HR531; clear HO520; have HO_512000 := n0_; have BK511 := n1_; have HB := n2_; have HR524 := n3_; have HR531 := n4_; have HO527 := n5_; clear n0_ n1_ n2_ n3_ n4_ n5_; clear ho hb hg hat
                         refine hK.out _ _ ⟨(blk_cell BK511.out 0).trans rfl, (blk_cell BK511.out 1).trans rfl⟩ (fun hHeld => ?_)
                         clear hK K
                         refine norm_ (a' := ?_) ?_ ?_
                         rotate_left; show Act.put _ (some 68) _ = _; exact uP
                         refine two_ (i := 11) (j := 15) (Ni := some 74) (Nj := some 10) #[y,y,y,y,y,y,y,y,y,y,y,y,y,y,n,n,n] #[y,y,y,y,y,y,y,y,y,y,y,n,y,y,n,y,n] rfl rfl rfl rfl (two_of HT_.out (by kernel_rfl)) (by decide) (by decide) (fun K hK => ?_) (fun K hK => ?_)
                         · skip
                           refine Kd.R_append_rows_step k32 (w0 := w) w.heap.size (by rfl) (.tmp 68) (.tmp 73) 25 32 (.agg #[(.string ⟨#[]⟩), (.string ⟨#[]⟩), (.bool false)]) 40 rfl Try.underlying25 info32 rfl (by decide) (by omega) v526 y525 y528 _ _ _ (fun k_ => some k_ ≠ (.slice Ao11 t507.length co11 : Value).ownBlock) (fun _ => False) rfl rfl ?aO ?aR (fun _ _ h => h) (fun _ h => h.elim) ?aF ?aB ?aS ?aL ?_
                           (case aR => repeat (first | exact (by exact uC HR531.out) | (with_reducible refine Kd.C_alloc ?_ _) | (with_reducible refine Kd.C_drewN ?_ _) | (with_reducible refine Kd.C_drew ?_)))
                           (case aB => exact (by exact q1 HB.out GE511.out))
                           (case aF => exact (fun k_ hk => Kd.fresh' (Kd.R_lt (by exact uR HO_512000.out)) k_ hk))
                           (case aO => exact (by exact uR HO527.out))
                           (case aS => exact (below_size (by exact q1 HB.out GE511.out)))
                           (case aL => have := LMc41.out; omega)
                           intro v533 w88 ho hb hg hat
                           rw [← Ny532.out] at ho
                           have n0_ := Aside0.mk (Kd.R_after (ok := (fun _ => True)) (by exact uR HO_512000.out) hg hat)
                           have n1_ := Aside0.mk (blk_grown (g := gb511) (o := .cells #[.slice Ao11 t507.length co11, .int .i64 t510] 45 (0, 0)) (by exact uB BK511.out) hg (Kd.R_ne HO527.out BK511.out (by decide)))
                           have n2_ := Aside0.mk (hb)
                           have n3_ := Aside0.mk ((show Kd.C k32 w88 Ao11 y521.length y521 from by rw [Ny521.out]; exact Kd.C_take (m := ((ji34) : Int).toNat) ((Kd.R_reads' (Kd.R_after (ok := (fun _ => True)) (by exact uR HO_512000.out) hg hat)).2.2) KL83.out))
                           have n4_ := Aside0.mk ((show Kd.C k32 w88 A84 y528.length y528 from by rw [Ny528.out, KA84.out]; exact Kd.C_drop (m := ((ji38) : Int).toNat) (c := co11) ((Kd.R_reads' (Kd.R_after (ok := (fun _ => True)) (by exact uR HO_512000.out) hg hat)).2.2) KL84.out ((Kd.R_reads' (Kd.R_after (ok := (fun _ => True)) (by exact uR HO_512000.out) hg hat)).2.1)))
                           have n5_ := Aside0.mk (ho)
                           clear HO_512000; clear BK511; clear HB; clear HR524; clear HR531; clear HO527; have HO_512000 := n0_; have BK511 := n1_; have HB := n2_; have HR524 := n3_; have HR531 := n4_; have HO534 := n5_; clear n0_ n1_ n2_ n3_ n4_ n5_; clear ho hb hg hat
                           obtain ⟨Ao89, co89, eo89⟩ := Kd.R_slice HO534.out
                           (first | subst eo89 | (injection eo89 with f1_ f2_ f3_; have f4_ := f1_.symm; have f5_ := f3_.symm; clear f1_ f2_ f3_; subst f4_; subst f5_))
                           refine hK.out _ _ ⟨(blk_cell BK511.out 0).trans rfl, (blk_cell BK511.out 1).trans rfl⟩ (fun hHeld => ?_)
                           clear hK K
                           refine norm_ (a' := ?_) ?_ ?_
                           rotate_left; show Act.put _ (some 74) _ = _; exact uP; refine pure_ (i := 14) (N := some 77) (v := ?_) (a' := ?_) #[y,y,y,y,y,y,y,y,y,y,y,y,y,y,y,n,n] rfl rfl (any_of HT_.out (by kernel_rfl)) (fun _ _ _ h => h) (Or.inl ⟨by rfl, ?_⟩) ?_ ?_; rotate_left; exact uV; rotate_left; exact uP
                           refine one_ (i := 15) (N := some 10) #[y,y,y,y,y,y,y,y,y,y,y,y,y,y,y,y,n] rfl rfl (one_of HT_.out (by kernel_rfl)) (by decide) (fun K hK => ?_)
                           refine box_step ?hg (N := 10) ?hd (cs := #[.slice none 0 0, .int .i64 0]) (t := 45) ?hr ?_; (case hd => rfl); (case hg => rfl); (case hr => first | (go_simp; done) | (go_simp; rfl))
                           intro gb535 hg w90 hbox hb
                           have n0_ := Aside0.mk (Kd.R_below (by exact uR HO_512000.out) hb)
                           have n1_ := Aside0.mk (Kd.R_below (by exact uR HO534.out) hb)
                           have n2_ := Aside0.mk (blk_below (g := gb511) (o := .cells #[.slice Ao11 t507.length co11, .int .i64 t510] 45 (0, 0)) (by exact uB BK511.out) hb)
                           have n3_ := Aside0.mk (Kd.C_below (by exact uC HR524.out) hb)
                           have n4_ := Aside0.mk (Kd.C_below (by exact uC HR531.out) hb)
                           have n5_ := Aside0.mk (below_step (by exact q1 HB.out GE511.out) hb)
                           have n6_ := Aside0.mk (hbox)
                           have n7_ := Aside0.mk ((by rw [hg]; exact (below_size (by exact q1 HB.out GE511.out)) : w.heap.size ≤ gb535))
                           have n8_ := Aside0.mk ((by rw [hg]; exact (below_size (by exact q1 HB.out GE511.out)) : w.heap.size ≤ gb535))
                           have n9_ := Aside0.mk ((by rw [hg]; exact Nat.ne_of_lt (blk_lt (g := gb511) (o := .cells #[.slice Ao11 t507.length co11, .int .i64 t510] 45 (0, 0)) (by exact uB BK511.out)) : gb511 ≠ gb535))
                           have n10_ := Aside0.mk ((by rw [hg]; exact Nat.ne_of_gt (blk_lt (g := gb511) (o := .cells #[.slice Ao11 t507.length co11, .int .i64 t510] 45 (0, 0)) (by exact uB BK511.out)) : gb535 ≠ gb511))
                           clear HO_512000; clear HO534; clear BK511; clear HR524; clear HR531; clear HB; have HO_512000 := n0_; have HO534 := n1_; have BK511 := n2_; have HR524 := n3_; have HR531 := n4_; have HB := n5_; have BK535 := n6_; have GW535 := n7_; have GE535 := n8_; have NB511_535 := n9_; have NB535_511 := n10_; clear n0_ n1_ n2_ n3_ n4_ n5_ n6_ n7_ n8_ n9_ n10_; clear hb hbox hg
                           refine hK.out _ _ ⟨(blk_cell BK511.out 0).trans rfl, (blk_cell BK511.out 1).trans rfl⟩ (fun hHeld => ?_)
                           clear hK K
                           refine norm_ (a' := ?_) ?_ ?_
                           rotate_left; show Act.put _ (some 10) _ = _; exact uP
                           exact norm_ (by simp only [putAll, Act.put, List.setIfInBounds_toArray, List.set_cons_zero, List.set_cons_succ]) (hCont (v519, v526, .slice Ao89 y532.length co89, gb535) _ ⟨hHeld, (by exact uR HO534.out), (by refine uR ?_; exact Kd.R_mono HO_512000.out (fun _ hk => hk.2)), (by exact uB BK511.out), (by exact uB BK535.out), GW535.out, GE535.out, NB511_535.out, NB535_511.out, (by exact q2 HB.out GE511.out GE535.out)⟩)
                         skip
                         refine box_step ?hg (N := 10) ?hd (cs := #[.slice none 0 0, .int .i64 0]) (t := 45) ?hr ?_; (case hd => rfl); (case hg => rfl); (case hr => first | (go_simp; done) | (go_simp; rfl))
                         intro gb535 hg w88 hbox hb
                         have n0_ := Aside0.mk (Kd.R_below (by exact uR HO_512000.out) hb)
                         have n1_ := Aside0.mk (Kd.R_below (by exact uR HO527.out) hb)
                         have n2_ := Aside0.mk (blk_below (g := gb511) (o := .cells #[.slice Ao11 t507.length co11, .int .i64 t510] 45 (0, 0)) (by exact uB BK511.out) hb)
                         have n3_ := Aside0.mk (Kd.C_below (by exact uC HR524.out) hb)
                         have n4_ := Aside0.mk (Kd.C_below (by exact uC HR531.out) hb)
                         have n5_ := Aside0.mk (below_step (by exact q1 HB.out GE511.out) hb)
                         have n6_ := Aside0.mk (hbox)
                         have n7_ := Aside0.mk ((by rw [hg]; exact (below_size (by exact q1 HB.out GE511.out)) : w.heap.size ≤ gb535))
                         have n8_ := Aside0.mk ((by rw [hg]; exact (below_size (by exact q1 HB.out GE511.out)) : w.heap.size ≤ gb535))
                         have n9_ := Aside0.mk ((by rw [hg]; exact Nat.ne_of_lt (blk_lt (g := gb511) (o := .cells #[.slice Ao11 t507.length co11, .int .i64 t510] 45 (0, 0)) (by exact uB BK511.out)) : gb511 ≠ gb535))
                         have n10_ := Aside0.mk ((by rw [hg]; exact Nat.ne_of_gt (blk_lt (g := gb511) (o := .cells #[.slice Ao11 t507.length co11, .int .i64 t510] 45 (0, 0)) (by exact uB BK511.out)) : gb535 ≠ gb511))
                         clear HO_512000; clear HO527; clear BK511; clear HR524; clear HR531; clear HB; have HO_512000 := n0_; have HO527 := n1_; have BK511 := n2_; have HR524 := n3_; have HR531 := n4_; have HB := n5_; have BK535 := n6_; have GW535 := n7_; have GE535 := n8_; have NB511_535 := n9_; have NB535_511 := n10_; clear n0_ n1_ n2_ n3_ n4_ n5_ n6_ n7_ n8_ n9_ n10_; clear hb hbox hg
                         refine hK.out _ _ ⟨(blk_cell BK511.out 0).trans rfl, (blk_cell BK511.out 1).trans rfl⟩ (fun hHeld => ?_)
                         clear hK K
                         refine norm_ (a' := ?_) ?_ ?_
                         rotate_left; show Act.put _ (some 10) _ = _; exact uP
                         refine one_ (i := 11) (N := some 74) #[y,y,y,y,y,y,y,y,y,y,y,y,y,y,n,y,n] rfl rfl (one_of HT_.out (by kernel_rfl)) (by decide) (fun K hK => ?_)
                         refine Kd.R_append_rows_step k32 (w0 := w) w.heap.size (by rfl) (.tmp 68) (.tmp 73) 25 32 (.agg #[(.string ⟨#[]⟩), (.string ⟨#[]⟩), (.bool false)]) 40 rfl Try.underlying25 info32 rfl (by decide) (by omega) v526 y525 y528 _ _ _ (fun k_ => some k_ ≠ (.slice Ao11 t507.length co11 : Value).ownBlock) (fun _ => False) rfl rfl ?aO ?aR (fun _ _ h => h) (fun _ h => h.elim) ?aF ?aB ?aS ?aL ?_
                         (case aR => repeat (first | exact (by exact uC HR531.out) | (with_reducible refine Kd.C_alloc ?_ _) | (with_reducible refine Kd.C_drewN ?_ _) | (with_reducible refine Kd.C_drew ?_)))
                         (case aB => exact (by exact q2 HB.out GE511.out GE535.out))
                         (case aF => exact (fun k_ hk => Kd.fresh' (Kd.R_lt (by exact uR HO_512000.out)) k_ hk))
                         (case aO => exact (by exact uR HO527.out))
                         (case aS => exact (below_size (by exact q2 HB.out GE511.out GE535.out)))
                         (case aL => have := LMc41.out; omega)
                         intro v533 w89 ho hb hg hat
                         rw [← Ny532.out] at ho
                         have n0_ := Aside0.mk (Kd.R_after (ok := (fun _ => True)) (by exact uR HO_512000.out) hg hat)
                         have n1_ := Aside0.mk (blk_grown (g := gb511) (o := .cells #[.slice Ao11 t507.length co11, .int .i64 t510] 45 (0, 0)) (by exact uB BK511.out) hg (Kd.R_ne HO527.out BK511.out (by decide)))
                         have n2_ := Aside0.mk (blk_grown (g := gb535) (o := .cells #[.slice none 0 0, .int .i64 0] 45 (0, 0)) (by exact uB BK535.out) hg (Kd.R_ne HO527.out BK535.out (by decide)))
                         have n3_ := Aside0.mk (hb)
                         have n4_ := Aside0.mk ((show Kd.C k32 w89 Ao11 y521.length y521 from by rw [Ny521.out]; exact Kd.C_take (m := ((ji34) : Int).toNat) ((Kd.R_reads' (Kd.R_after (ok := (fun _ => True)) (by exact uR HO_512000.out) hg hat)).2.2) KL83.out))
                         have n5_ := Aside0.mk ((show Kd.C k32 w89 A84 y528.length y528 from by rw [Ny528.out, KA84.out]; exact Kd.C_drop (m := ((ji38) : Int).toNat) (c := co11) ((Kd.R_reads' (Kd.R_after (ok := (fun _ => True)) (by exact uR HO_512000.out) hg hat)).2.2) KL84.out ((Kd.R_reads' (Kd.R_after (ok := (fun _ => True)) (by exact uR HO_512000.out) hg hat)).2.1)))
                         have n6_ := Aside0.mk (ho)
                         clear HO_512000; clear BK511; clear BK535; clear HB; clear HR524; clear HR531; clear HO527; have HO_512000 := n0_; have BK511 := n1_; have BK535 := n2_; have HB := n3_; have HR524 := n4_; have HR531 := n5_; have HO534 := n6_; clear n0_ n1_ n2_ n3_ n4_ n5_ n6_; clear ho hb hg hat
                         obtain ⟨Ao90, co90, eo90⟩ := Kd.R_slice HO534.out
                         (first | subst eo90 | (injection eo90 with f1_ f2_ f3_; have f4_ := f1_.symm; have f5_ := f3_.symm; clear f1_ f2_ f3_; subst f4_; subst f5_))
                         refine hK.out _ _ ⟨(blk_cell BK511.out 0).trans rfl, (blk_cell BK511.out 1).trans rfl⟩ (fun hHeld => ?_)
                         clear hK K
                         refine norm_ (a' := ?_) ?_ ?_
                         rotate_left; show Act.put _ (some 74) _ = _; exact uP; refine pure_ (i := 14) (N := some 77) (v := ?_) (a' := ?_) #[y,y,y,y,y,y,y,y,y,y,y,y,y,y,y,y,n] rfl rfl (any_of HT_.out (by kernel_rfl)) (fun _ _ _ h => h) (Or.inl ⟨by rfl, ?_⟩) ?_ ?_; rotate_left; exact uV; rotate_left; exact uP
                         exact norm_ (by simp only [putAll, Act.put, List.setIfInBounds_toArray, List.set_cons_zero, List.set_cons_succ]) (hCont (v519, v526, .slice Ao90 y532.length co90, gb535) _ ⟨hHeld, (by exact uR HO534.out), (by refine uR ?_; exact Kd.R_mono HO_512000.out (fun _ hk => hk.2)), (by exact uB BK511.out), (by exact uB BK535.out), GW535.out, GE535.out, NB511_535.out, NB535_511.out, (by exact q2 HB.out GE511.out GE535.out)⟩)
                       skip
                       refine box_step ?hg (N := 10) ?hd (cs := #[.slice none 0 0, .int .i64 0]) (t := 45) ?hr ?_; (case hd => rfl); (case hg => rfl); (case hr => first | (go_simp; done) | (go_simp; rfl))
                       intro gb535 hg w87 hbox hb
                       have n0_ := Aside0.mk (Kd.R_below (by exact uR HO_512000.out) hb)
                       have n1_ := Aside0.mk (Kd.R_below (by exact uR HO520.out) hb)
                       have n2_ := Aside0.mk (blk_below (g := gb511) (o := .cells #[.slice Ao11 t507.length co11, .int .i64 t510] 45 (0, 0)) (by exact uB BK511.out) hb)
                       have n3_ := Aside0.mk (Kd.C_below (by exact uC HR524.out) hb)
                       have n4_ := Aside0.mk (Kd.C_below (by exact uC HR531.out) hb)
                       have n5_ := Aside0.mk (below_step (by exact q1 HB.out GE511.out) hb)
                       have n6_ := Aside0.mk (hbox)
                       have n7_ := Aside0.mk ((by rw [hg]; exact (below_size (by exact q1 HB.out GE511.out)) : w.heap.size ≤ gb535))
                       have n8_ := Aside0.mk ((by rw [hg]; exact (below_size (by exact q1 HB.out GE511.out)) : w.heap.size ≤ gb535))
                       have n9_ := Aside0.mk ((by rw [hg]; exact Nat.ne_of_lt (blk_lt (g := gb511) (o := .cells #[.slice Ao11 t507.length co11, .int .i64 t510] 45 (0, 0)) (by exact uB BK511.out)) : gb511 ≠ gb535))
                       have n10_ := Aside0.mk ((by rw [hg]; exact Nat.ne_of_gt (blk_lt (g := gb511) (o := .cells #[.slice Ao11 t507.length co11, .int .i64 t510] 45 (0, 0)) (by exact uB BK511.out)) : gb535 ≠ gb511))
                       clear HO_512000; clear HO520; clear BK511; clear HR524; clear HR531; clear HB; have HO_512000 := n0_; have HO520 := n1_; have BK511 := n2_; have HR524 := n3_; have HR531 := n4_; have HB := n5_; have BK535 := n6_; have GW535 := n7_; have GE535 := n8_; have NB511_535 := n9_; have NB535_511 := n10_; clear n0_ n1_ n2_ n3_ n4_ n5_ n6_ n7_ n8_ n9_ n10_; clear hb hbox hg
                       refine hK.out _ _ ⟨(blk_cell BK511.out 0).trans rfl, (blk_cell BK511.out 1).trans rfl⟩ (fun hHeld => ?_)
                       clear hK K
                       refine norm_ (a' := ?_) ?_ ?_
                       rotate_left; show Act.put _ (some 10) _ = _; exact uP
                       refine one_ (i := 5) (N := some 68) #[y,y,y,y,y,y,y,y,y,y,y,n,y,y,n,y,n] rfl rfl (one_of HT_.out (by kernel_rfl)) (by decide) (fun K hK => ?_)
                       refine Kd.R_append_rows_step k32 (w0 := w) w.heap.size (by rfl) (.tmp 63) (.tmp 67) 25 32 (.agg #[(.string ⟨#[]⟩), (.string ⟨#[]⟩), (.bool false)]) 40 rfl Try.underlying25 info32 rfl (by decide) (by omega) v519 y518 y521 _ _ _ (fun k_ => some k_ ≠ (.slice Ao11 t507.length co11 : Value).ownBlock) (fun _ => False) rfl rfl ?aO ?aR (fun _ _ h => h) (fun _ h => h.elim) ?aF ?aB ?aS ?aL ?_
                       (case aR => repeat (first | exact (by exact uC HR524.out) | (with_reducible refine Kd.C_alloc ?_ _) | (with_reducible refine Kd.C_drewN ?_ _) | (with_reducible refine Kd.C_drew ?_)))
                       (case aB => exact (by exact q2 HB.out GE511.out GE535.out))
                       (case aF => exact (fun k_ hk => Kd.fresh' (Kd.R_lt (by exact uR HO_512000.out)) k_ hk))
                       (case aO => exact (by refine uR ?_; exact Kd.R_mono HO520.out (fun _ hk => hk.2)))
                       (case aS => exact (below_size (by exact q2 HB.out GE511.out GE535.out)))
                       (case aL => have := LMc37.out; omega)
                       intro v526 w88 ho hb hg hat
                       rw [← Ny525.out] at ho
                       have n0_ := Aside0.mk (Kd.R_after (ok := (fun _ => True)) (by exact uR HO_512000.out) hg hat)
                       have n1_ := Aside0.mk (blk_grown (g := gb511) (o := .cells #[.slice Ao11 t507.length co11, .int .i64 t510] 45 (0, 0)) (by exact uB BK511.out) hg (Kd.R_ne HO520.out BK511.out (by decide)))
                       have n2_ := Aside0.mk (blk_grown (g := gb535) (o := .cells #[.slice none 0 0, .int .i64 0] 45 (0, 0)) (by exact uB BK535.out) hg (Kd.R_ne HO520.out BK535.out (by decide)))
                       have n3_ := Aside0.mk (hb)
                       have n4_ := Aside0.mk ((show Kd.C k32 w88 Ao11 y521.length y521 from by rw [Ny521.out]; exact Kd.C_take (m := ((ji34) : Int).toNat) ((Kd.R_reads' (Kd.R_after (ok := (fun _ => True)) (by exact uR HO_512000.out) hg hat)).2.2) KL83.out))
                       have n5_ := Aside0.mk ((show Kd.C k32 w88 A84 y528.length y528 from by rw [Ny528.out, KA84.out]; exact Kd.C_drop (m := ((ji38) : Int).toNat) (c := co11) ((Kd.R_reads' (Kd.R_after (ok := (fun _ => True)) (by exact uR HO_512000.out) hg hat)).2.2) KL84.out ((Kd.R_reads' (Kd.R_after (ok := (fun _ => True)) (by exact uR HO_512000.out) hg hat)).2.1)))
                       have n6_ := Aside0.mk (ho)
                       clear HO_512000; clear BK511; clear BK535; clear HB; clear HR524; clear HR531; clear HO520; have HO_512000 := n0_; have BK511 := n1_; have BK535 := n2_; have HB := n3_; have HR524 := n4_; have HR531 := n5_; have HO527 := n6_; clear n0_ n1_ n2_ n3_ n4_ n5_ n6_; clear ho hb hg hat
                       refine hK.out _ _ ⟨(blk_cell BK511.out 0).trans rfl, (blk_cell BK511.out 1).trans rfl⟩ (fun hHeld => ?_)
                       clear hK K
                       refine norm_ (a' := ?_) ?_ ?_
                       rotate_left; show Act.put _ (some 68) _ = _; exact uP
                       refine one_ (i := 11) (N := some 74) #[y,y,y,y,y,y,y,y,y,y,y,y,y,y,n,y,n] rfl rfl (one_of HT_.out (by kernel_rfl)) (by decide) (fun K hK => ?_)
                       refine Kd.R_append_rows_step k32 (w0 := w) w.heap.size (by rfl) (.tmp 68) (.tmp 73) 25 32 (.agg #[(.string ⟨#[]⟩), (.string ⟨#[]⟩), (.bool false)]) 40 rfl Try.underlying25 info32 rfl (by decide) (by omega) v526 y525 y528 _ _ _ (fun k_ => some k_ ≠ (.slice Ao11 t507.length co11 : Value).ownBlock) (fun _ => False) rfl rfl ?aO ?aR (fun _ _ h => h) (fun _ h => h.elim) ?aF ?aB ?aS ?aL ?_
                       (case aR => repeat (first | exact (by exact uC HR531.out) | (with_reducible refine Kd.C_alloc ?_ _) | (with_reducible refine Kd.C_drewN ?_ _) | (with_reducible refine Kd.C_drew ?_)))
                       (case aB => exact (by exact q2 HB.out GE511.out GE535.out))
                       (case aF => exact (fun k_ hk => Kd.fresh' (Kd.R_lt (by exact uR HO_512000.out)) k_ hk))
                       (case aO => exact (by exact uR HO527.out))
                       (case aS => exact (below_size (by exact q2 HB.out GE511.out GE535.out)))
                       (case aL => have := LMc41.out; omega)
                       intro v533 w89 ho hb hg hat
                       rw [← Ny532.out] at ho
                       have n0_ := Aside0.mk (Kd.R_after (ok := (fun _ => True)) (by exact uR HO_512000.out) hg hat)
                       have n1_ := Aside0.mk (blk_grown (g := gb511) (o := .cells #[.slice Ao11 t507.length co11, .int .i64 t510] 45 (0, 0)) (by exact uB BK511.out) hg (Kd.R_ne HO527.out BK511.out (by decide)))
                       have n2_ := Aside0.mk (blk_grown (g := gb535) (o := .cells #[.slice none 0 0, .int .i64 0] 45 (0, 0)) (by exact uB BK535.out) hg (Kd.R_ne HO527.out BK535.out (by decide)))
                       have n3_ := Aside0.mk (hb)
                       have n4_ := Aside0.mk ((show Kd.C k32 w89 Ao11 y521.length y521 from by rw [Ny521.out]; exact Kd.C_take (m := ((ji34) : Int).toNat) ((Kd.R_reads' (Kd.R_after (ok := (fun _ => True)) (by exact uR HO_512000.out) hg hat)).2.2) KL83.out))
                       have n5_ := Aside0.mk ((show Kd.C k32 w89 A84 y528.length y528 from by rw [Ny528.out, KA84.out]; exact Kd.C_drop (m := ((ji38) : Int).toNat) (c := co11) ((Kd.R_reads' (Kd.R_after (ok := (fun _ => True)) (by exact uR HO_512000.out) hg hat)).2.2) KL84.out ((Kd.R_reads' (Kd.R_after (ok := (fun _ => True)) (by exact uR HO_512000.out) hg hat)).2.1)))
                       have n6_ := Aside0.mk (ho)
                       clear HO_512000; clear BK511; clear BK535; clear HB; clear HR524; clear HR531; clear HO527; have HO_512000 := n0_; have BK511 := n1_; have BK535 := n2_; have HB := n3_; have HR524 := n4_; have HR531 := n5_; have HO534 := n6_; clear n0_ n1_ n2_ n3_ n4_ n5_ n6_; clear ho hb hg hat
                       obtain ⟨Ao90, co90, eo90⟩ := Kd.R_slice HO534.out
                       (first | subst eo90 | (injection eo90 with f1_ f2_ f3_; have f4_ := f1_.symm; have f5_ := f3_.symm; clear f1_ f2_ f3_; subst f4_; subst f5_))
                       refine hK.out _ _ ⟨(blk_cell BK511.out 0).trans rfl, (blk_cell BK511.out 1).trans rfl⟩ (fun hHeld => ?_)
                       clear hK K
                       refine norm_ (a' := ?_) ?_ ?_
                       rotate_left; show Act.put _ (some 74) _ = _; exact uP; refine pure_ (i := 14) (N := some 77) (v := ?_) (a' := ?_) #[y,y,y,y,y,y,y,y,y,y,y,y,y,y,y,y,n] rfl rfl (any_of HT_.out (by kernel_rfl)) (fun _ _ _ h => h) (Or.inl ⟨by rfl, ?_⟩) ?_ ?_; rotate_left; exact uV; rotate_left; exact uP
                       exact norm_ (by simp only [putAll, Act.put, List.setIfInBounds_toArray, List.set_cons_zero, List.set_cons_succ]) (hCont (v519, v526, .slice Ao90 y532.length co90, gb535) _ ⟨hHeld, (by exact uR HO534.out), (by refine uR ?_; exact Kd.R_mono HO_512000.out (fun _ hk => hk.2)), (by exact uB BK511.out), (by exact uB BK535.out), GW535.out, GE535.out, NB511_535.out, NB535_511.out, (by exact q2 HB.out GE511.out GE535.out)⟩)
                     skip
                     refine box_step ?hg (N := 10) ?hd (cs := #[.slice none 0 0, .int .i64 0]) (t := 45) ?hr ?_; (case hd => rfl); (case hg => rfl); (case hr => first | (go_simp; done) | (go_simp; rfl))
                     intro gb535 hg w85 hbox hb
                     have n0_ := Aside0.mk (Kd.R_below (by exact uR HO_512000.out) hb)
                     have n1_ := Aside0.mk (blk_below (g := gb511) (o := .cells #[.slice Ao11 t507.length co11, .int .i64 t510] 45 (0, 0)) (by exact uB BK511.out) hb)
                     have n2_ := Aside0.mk (Kd.C_below (by exact uC HR524.out) hb)
                     have n3_ := Aside0.mk (Kd.C_below (by exact uC HR531.out) hb)
                     have n4_ := Aside0.mk (below_step (by exact q1 HB.out GE511.out) hb)
                     have n5_ := Aside0.mk (hbox)
                     have n6_ := Aside0.mk ((by rw [hg]; exact (below_size (by exact q1 HB.out GE511.out)) : w.heap.size ≤ gb535))
                     have n7_ := Aside0.mk ((by rw [hg]; exact (below_size (by exact q1 HB.out GE511.out)) : w.heap.size ≤ gb535))
                     have n8_ := Aside0.mk ((by rw [hg]; exact Nat.ne_of_lt (blk_lt (g := gb511) (o := .cells #[.slice Ao11 t507.length co11, .int .i64 t510] 45 (0, 0)) (by exact uB BK511.out)) : gb511 ≠ gb535))
                     have n9_ := Aside0.mk ((by rw [hg]; exact Nat.ne_of_gt (blk_lt (g := gb511) (o := .cells #[.slice Ao11 t507.length co11, .int .i64 t510] 45 (0, 0)) (by exact uB BK511.out)) : gb535 ≠ gb511))
                     clear HO_512000; clear BK511; clear HR524; clear HR531; clear HB; have HO_512000 := n0_; have BK511 := n1_; have HR524 := n2_; have HR531 := n3_; have HB := n4_; have BK535 := n5_; have GW535 := n6_; have GE535 := n7_; have NB511_535 := n8_; have NB535_511 := n9_; clear n0_ n1_ n2_ n3_ n4_ n5_ n6_ n7_ n8_ n9_; clear hb hbox hg
                     refine hK.out _ _ ⟨(blk_cell BK511.out 0).trans rfl, (blk_cell BK511.out 1).trans rfl⟩ (fun hHeld => ?_)
                     clear hK K
                     refine norm_ (a' := ?_) ?_ ?_
                     rotate_left; show Act.put _ (some 10) _ = _; exact uP
                     refine one_ (i := 0) (N := some 63) #[y,y,y,y,y,n,y,y,y,y,y,n,y,y,n,y,n] rfl rfl (one_of HT_.out (by kernel_rfl)) (by decide) (fun K hK => ?_)
                     refine Kd.R_lit_step k32 _ 32 ?hg (N := 63) ?hd (xs := ([] : List (S32))) (inner := []) (ok := fun _ => True) (okp := fun _ => True) ?hr ?hp (fun _ hk => hk) trivial (Below.refl _ _) (Nat.le_refl _) (by simp) ?_; (case hd => rfl); (case hg => rfl); (case hr => first | (go_simp; done) | (go_simp; rfl)); (case hp => exact (Reps.none _ _))
                     intro v519 w86 ho87 hb hg_ hnew_
                     clear hg_ hnew_
                     (first | rw [← Ny518.out] at ho87 | (simp only [Int.reduceToNat] at ho87; rw [← Ny518.out] at ho87))
                     have n0_ := Aside0.mk (Kd.R_elder' (by exact uR HO_512000.out) (Kd.R_base ho87) hb)
                     have n1_ := Aside0.mk (Kd.R_lower (Kd.R_new' ho87 (Kd.R_lt (by exact uR HO_512000.out))) (below_size (by exact q2 HB.out GE511.out GE535.out)))
                     have n2_ := Aside0.mk (blk_below (g := gb511) (o := .cells #[.slice Ao11 t507.length co11, .int .i64 t510] 45 (0, 0)) (by exact uB BK511.out) hb)
                     have n3_ := Aside0.mk (Kd.C_below (by exact uC HR524.out) hb)
                     have n4_ := Aside0.mk (Kd.C_below (by exact uC HR531.out) hb)
                     have n5_ := Aside0.mk (blk_below (g := gb535) (o := .cells #[.slice none 0 0, .int .i64 0] 45 (0, 0)) (by exact uB BK535.out) hb)
                     have n6_ := Aside0.mk (below_step (by exact q2 HB.out GE511.out GE535.out) hb)
                     clear HO_512000; clear BK511; clear HR524; clear HR531; clear BK535; clear HB; have HO_512000 := n0_; have HO520 := n1_; have BK511 := n2_; have HR524 := n3_; have HR531 := n4_; have BK535 := n5_; have HB := n6_; clear n0_ n1_ n2_ n3_ n4_ n5_ n6_; clear hb ho87
                     refine hK.out _ _ ⟨(blk_cell BK511.out 0).trans rfl, (blk_cell BK511.out 1).trans rfl⟩ (fun hHeld => ?_)
                     clear hK K
                     refine norm_ (a' := ?_) ?_ ?_
                     rotate_left; show Act.put _ (some 63) _ = _; exact uP
                     refine one_ (i := 5) (N := some 68) #[y,y,y,y,y,y,y,y,y,y,y,n,y,y,n,y,n] rfl rfl (one_of HT_.out (by kernel_rfl)) (by decide) (fun K hK => ?_)
                     refine Kd.R_append_rows_step k32 (w0 := w) w.heap.size (by rfl) (.tmp 63) (.tmp 67) 25 32 (.agg #[(.string ⟨#[]⟩), (.string ⟨#[]⟩), (.bool false)]) 40 rfl Try.underlying25 info32 rfl (by decide) (by omega) v519 y518 y521 _ _ _ (fun k_ => some k_ ≠ (.slice Ao11 t507.length co11 : Value).ownBlock) (fun _ => False) rfl rfl ?aO ?aR (fun _ _ h => h) (fun _ h => h.elim) ?aF ?aB ?aS ?aL ?_
                     (case aR => repeat (first | exact (by exact uC HR524.out) | (with_reducible refine Kd.C_alloc ?_ _) | (with_reducible refine Kd.C_drewN ?_ _) | (with_reducible refine Kd.C_drew ?_)))
                     (case aB => exact (by exact q2 HB.out GE511.out GE535.out))
                     (case aF => exact (fun k_ hk => Kd.fresh' (Kd.R_lt (by exact uR HO_512000.out)) k_ hk))
                     (case aO => exact (by refine uR ?_; exact Kd.R_mono HO520.out (fun _ hk => hk.2)))
                     (case aS => exact (below_size (by exact q2 HB.out GE511.out GE535.out)))
                     (case aL => have := LMc37.out; omega)
                     intro v526 w88 ho hb hg hat
                     rw [← Ny525.out] at ho
                     have n0_ := Aside0.mk (Kd.R_after (ok := (fun _ => True)) (by exact uR HO_512000.out) hg hat)
                     have n1_ := Aside0.mk (blk_grown (g := gb511) (o := .cells #[.slice Ao11 t507.length co11, .int .i64 t510] 45 (0, 0)) (by exact uB BK511.out) hg (Kd.R_ne HO520.out BK511.out (by decide)))
                     have n2_ := Aside0.mk (blk_grown (g := gb535) (o := .cells #[.slice none 0 0, .int .i64 0] 45 (0, 0)) (by exact uB BK535.out) hg (Kd.R_ne HO520.out BK535.out (by decide)))
                     have n3_ := Aside0.mk (hb)
                     have n4_ := Aside0.mk ((show Kd.C k32 w88 Ao11 y521.length y521 from by rw [Ny521.out]; exact Kd.C_take (m := ((ji34) : Int).toNat) ((Kd.R_reads' (Kd.R_after (ok := (fun _ => True)) (by exact uR HO_512000.out) hg hat)).2.2) KL83.out))
                     have n5_ := Aside0.mk ((show Kd.C k32 w88 A84 y528.length y528 from by rw [Ny528.out, KA84.out]; exact Kd.C_drop (m := ((ji38) : Int).toNat) (c := co11) ((Kd.R_reads' (Kd.R_after (ok := (fun _ => True)) (by exact uR HO_512000.out) hg hat)).2.2) KL84.out ((Kd.R_reads' (Kd.R_after (ok := (fun _ => True)) (by exact uR HO_512000.out) hg hat)).2.1)))
                     have n6_ := Aside0.mk (ho)
                     clear HO_512000; clear BK511; clear BK535; clear HB; clear HR524; clear HR531; clear HO520; have HO_512000 := n0_; have BK511 := n1_; have BK535 := n2_; have HB := n3_; have HR524 := n4_; have HR531 := n5_; have HO527 := n6_; clear n0_ n1_ n2_ n3_ n4_ n5_ n6_; clear ho hb hg hat
                     refine hK.out _ _ ⟨(blk_cell BK511.out 0).trans rfl, (blk_cell BK511.out 1).trans rfl⟩ (fun hHeld => ?_)
                     clear hK K
                     refine norm_ (a' := ?_) ?_ ?_
                     rotate_left; show Act.put _ (some 68) _ = _; exact uP
                     refine one_ (i := 11) (N := some 74) #[y,y,y,y,y,y,y,y,y,y,y,y,y,y,n,y,n] rfl rfl (one_of HT_.out (by kernel_rfl)) (by decide) (fun K hK => ?_)
                     refine Kd.R_append_rows_step k32 (w0 := w) w.heap.size (by rfl) (.tmp 68) (.tmp 73) 25 32 (.agg #[(.string ⟨#[]⟩), (.string ⟨#[]⟩), (.bool false)]) 40 rfl Try.underlying25 info32 rfl (by decide) (by omega) v526 y525 y528 _ _ _ (fun k_ => some k_ ≠ (.slice Ao11 t507.length co11 : Value).ownBlock) (fun _ => False) rfl rfl ?aO ?aR (fun _ _ h => h) (fun _ h => h.elim) ?aF ?aB ?aS ?aL ?_
                     (case aR => repeat (first | exact (by exact uC HR531.out) | (with_reducible refine Kd.C_alloc ?_ _) | (with_reducible refine Kd.C_drewN ?_ _) | (with_reducible refine Kd.C_drew ?_)))
                     (case aB => exact (by exact q2 HB.out GE511.out GE535.out))
                     (case aF => exact (fun k_ hk => Kd.fresh' (Kd.R_lt (by exact uR HO_512000.out)) k_ hk))
                     (case aO => exact (by exact uR HO527.out))
                     (case aS => exact (below_size (by exact q2 HB.out GE511.out GE535.out)))
                     (case aL => have := LMc41.out; omega)
                     intro v533 w89 ho hb hg hat
                     rw [← Ny532.out] at ho
                     have n0_ := Aside0.mk (Kd.R_after (ok := (fun _ => True)) (by exact uR HO_512000.out) hg hat)
                     have n1_ := Aside0.mk (blk_grown (g := gb511) (o := .cells #[.slice Ao11 t507.length co11, .int .i64 t510] 45 (0, 0)) (by exact uB BK511.out) hg (Kd.R_ne HO527.out BK511.out (by decide)))
                     have n2_ := Aside0.mk (blk_grown (g := gb535) (o := .cells #[.slice none 0 0, .int .i64 0] 45 (0, 0)) (by exact uB BK535.out) hg (Kd.R_ne HO527.out BK535.out (by decide)))
                     have n3_ := Aside0.mk (hb)
                     have n4_ := Aside0.mk ((show Kd.C k32 w89 Ao11 y521.length y521 from by rw [Ny521.out]; exact Kd.C_take (m := ((ji34) : Int).toNat) ((Kd.R_reads' (Kd.R_after (ok := (fun _ => True)) (by exact uR HO_512000.out) hg hat)).2.2) KL83.out))
                     have n5_ := Aside0.mk ((show Kd.C k32 w89 A84 y528.length y528 from by rw [Ny528.out, KA84.out]; exact Kd.C_drop (m := ((ji38) : Int).toNat) (c := co11) ((Kd.R_reads' (Kd.R_after (ok := (fun _ => True)) (by exact uR HO_512000.out) hg hat)).2.2) KL84.out ((Kd.R_reads' (Kd.R_after (ok := (fun _ => True)) (by exact uR HO_512000.out) hg hat)).2.1)))
                     have n6_ := Aside0.mk (ho)
                     clear HO_512000; clear BK511; clear BK535; clear HB; clear HR524; clear HR531; clear HO527; have HO_512000 := n0_; have BK511 := n1_; have BK535 := n2_; have HB := n3_; have HR524 := n4_; have HR531 := n5_; have HO534 := n6_; clear n0_ n1_ n2_ n3_ n4_ n5_ n6_; clear ho hb hg hat
                     obtain ⟨Ao90, co90, eo90⟩ := Kd.R_slice HO534.out
                     (first | subst eo90 | (injection eo90 with f1_ f2_ f3_; have f4_ := f1_.symm; have f5_ := f3_.symm; clear f1_ f2_ f3_; subst f4_; subst f5_))
                     refine hK.out _ _ ⟨(blk_cell BK511.out 0).trans rfl, (blk_cell BK511.out 1).trans rfl⟩ (fun hHeld => ?_)
                     clear hK K
                     refine norm_ (a' := ?_) ?_ ?_
                     rotate_left; show Act.put _ (some 74) _ = _; exact uP; refine pure_ (i := 14) (N := some 77) (v := ?_) (a' := ?_) #[y,y,y,y,y,y,y,y,y,y,y,y,y,y,y,y,n] rfl rfl (any_of HT_.out (by kernel_rfl)) (fun _ _ _ h => h) (Or.inl ⟨by rfl, ?_⟩) ?_ ?_; rotate_left; exact uV; rotate_left; exact uP
                     exact norm_ (by simp only [putAll, Act.put, List.setIfInBounds_toArray, List.set_cons_zero, List.set_cons_succ]) (hCont (v519, v526, .slice Ao90 y532.length co90, gb535) _ ⟨hHeld, (by exact uR HO534.out), (by refine uR ?_; exact Kd.R_mono HO_512000.out (fun _ hk => hk.2)), (by exact uB BK511.out), (by exact uB BK535.out), GW535.out, GE535.out, NB511_535.out, NB535_511.out, (by exact q2 HB.out GE511.out GE535.out)⟩)
                   rintro ⟨v519, v526, v533, gb535⟩ w91 ⟨hS_, h0_, h1_, h2_, h3_, h4_, h5_, h6_, h7_, h8_⟩
                   have n0_ : Aside0 (Kd.R k32 32 w91 w.heap.size (fun k_ => some k_ ≠ (.slice Ao11 t507.length co11 : Value).ownBlock) v533 y532) := ⟨h0_⟩
                   have n1_ : Aside0 (Kd.R k32 32 w91 w.heap.size (fun k_ => some k_ ≠ (v533 : Value).ownBlock) (.slice Ao11 t507.length co11) t507) := ⟨h1_⟩
                   have n2_ : Aside0 (w91.heap[gb511]? = some (.cells #[.slice Ao11 t507.length co11, .int .i64 t510] 45 (0, 0))) := ⟨h2_⟩
                   have n3_ : Aside0 (w91.heap[gb535]? = some (.cells #[.slice none 0 0, .int .i64 0] 45 (0, 0))) := ⟨h3_⟩
                   have n4_ : Aside0 (w.heap.size ≤ gb535) := ⟨h4_⟩
                   have n5_ : Aside0 (w.heap.size ≤ gb535) := ⟨h5_⟩
                   have n6_ : Aside0 (gb511 ≠ gb535) := ⟨h6_⟩
                   have n7_ : Aside0 (gb535 ≠ gb511) := ⟨h7_⟩
                   have n8_ : Aside0 (Below w.heap.size w w91) := ⟨h8_⟩
                   clear HO_512000; clear BK511; clear HB; clear h0_ h1_ h2_ h3_ h4_ h5_ h6_ h7_ h8_; have HO534 := n0_; have HO_512000 := n1_; have BK511 := n2_; have BK535 := n3_; have GW535 := n4_; have GE535 := n5_; have NB511_535 := n6_; have NB535_511 := n7_; have HB := n8_; clear n0_ n1_ n2_ n3_ n4_ n5_ n6_ n7_ n8_
                   have hHeld : w91.cell? ⟨gb511, 0, none⟩ = some (.slice Ao11 t507.length co11) ∧ w91.cell? ⟨gb511, 1, none⟩ = some (.int .i64 t510) := hS_
                   obtain ⟨Ao92, co92, eo92⟩ := Kd.R_slice HO534.out
                   (first | subst eo92 | (injection eo92 with f1_ f2_ f3_; have f4_ := f1_.symm; have f5_ := f3_.symm; clear f1_ f2_ f3_; subst f4_; subst f5_))
                   refine norm_ (a' := ?_) ?_ ?_
                   rotate_left
                   · simp only [putAll, Act.put, List.setIfInBounds_toArray, List.set_cons_zero, List.set_cons_succ]
                     rfl
                   refine one_ (i := 16) (N := none) #[y,y,y,y,y,y,y,y,y,y,y,y,y,y,y,y,y] rfl rfl (one_of HT_.out (by kernel_rfl)) (by decide) (fun K hK => ?_)
                   have hs93 : w91.cell? ⟨gb535, 0, none⟩ = some (.slice none 0 0) := (blk_cell BK535.out 0).trans rfl
                   have hfs93 := blk_frozen BK535.out 0; have hns93_0 := NB511_535.out; have hms93_0 := NB535_511.out
                   have hs94 : w91.cell? ⟨gb535, 1, none⟩ = some (.int .i64 0) := (blk_cell BK535.out 1).trans rfl
                   have hfs94 := blk_frozen BK535.out 1; have hns94_0 := NB511_535.out; have hms94_0 := NB535_511.out
                   refine skip_ (w1 := ?_) (by rfl) rfl ?_ ?_
                   rotate_left
                   · go_simp
                     rfl
                   refine hK.out _ _ ⟨((cell_far (p := ⟨gb535, _, none⟩) NB511_535.out _).trans (((cell_far (p := ⟨gb535, _, none⟩) NB511_535.out _).trans (hHeld.1)))), ((cell_far (p := ⟨gb535, _, none⟩) NB511_535.out _).trans (((cell_far (p := ⟨gb535, _, none⟩) NB511_535.out _).trans (hHeld.2))))⟩ (fun hHeld => ?_)
                   clear hK K
                   refine done_ (done_of HT_.out (by kernel_rfl)) ?_
                   try go_wp2
                   have n0_ : Aside0 (Kd.R k32 32 ((w91.setCell ⟨gb535, 0, none⟩ (.slice Ao92 y532.length co92)).setCell ⟨gb535, 1, none⟩ (.int .i64 t510)) w.heap.size (fun k_ => some k_ ≠ (.slice Ao92 y532.length co92 : Value).ownBlock) (.slice Ao11 t507.length co11) t507) := ⟨by refine uR ?_; exact Kd.R_mono (Kd.R_far (p := ⟨gb535, 1, none⟩) (Kd.R_far (p := ⟨gb535, 0, none⟩) (Kd.R_types HO_512000.out BK535.out (by decide)) (fun _ hk => hk.2) (.slice Ao92 y532.length co92)) (fun _ hk => hk.2) (.int .i64 t510)) (fun _ hk => hk.1)⟩
                   have n1_ : Aside0 (Kd.R k32 32 ((w91.setCell ⟨gb535, 0, none⟩ (.slice Ao92 y532.length co92)).setCell ⟨gb535, 1, none⟩ (.int .i64 t510)) w.heap.size (fun k_ => some k_ ≠ (.slice Ao11 t507.length co11 : Value).ownBlock) (.slice Ao92 y532.length co92) y532) := ⟨by refine uR ?_; exact Kd.R_mono (Kd.R_far (p := ⟨gb535, 1, none⟩) (Kd.R_far (p := ⟨gb535, 0, none⟩) (Kd.R_types HO534.out BK535.out (by decide)) (fun _ hk => hk.2) (.slice Ao92 y532.length co92)) (fun _ hk => hk.2) (.int .i64 t510)) (fun _ hk => hk.1)⟩
                   have n2_ : Aside0 (((w91.setCell ⟨gb535, 0, none⟩ (.slice Ao92 y532.length co92)).setCell ⟨gb535, 1, none⟩ (.int .i64 t510)).heap[gb511]? = some (.cells #[.slice Ao11 t507.length co11, .int .i64 t510] 45 (0, 0))) := ⟨by refine uB ?_; refine blk_far ?_ NB511_535.out _; refine uB ?_; refine blk_far ?_ NB511_535.out _; refine uB ?_; exact BK511.out⟩
                   have n3_ : Aside0 (((w91.setCell ⟨gb535, 0, none⟩ (.slice Ao92 y532.length co92)).setCell ⟨gb535, 1, none⟩ (.int .i64 t510)).heap[gb535]? = some (.cells #[.slice Ao92 y532.length co92, .int .i64 t510] 45 (0, 0))) := ⟨by refine uB ?_; refine blk_put (cs := #[.slice Ao92 y532.length co92, .int .i64 0]) ?_ 1 _ rfl; refine uB ?_; refine blk_put (cs := #[.slice none 0 0, .int .i64 0]) ?_ 0 _ rfl; refine uB ?_; exact BK535.out⟩
                   have n4_ : Aside0 (Below w.heap.size w ((w91.setCell ⟨gb535, 0, none⟩ (.slice Ao92 y532.length co92)).setCell ⟨gb535, 1, none⟩ (.int .i64 t510))) := ⟨by exact q2 HB.out GE511.out GE535.out⟩
                   (try clear HO_512000); (try clear HO534); (try clear BK511); (try clear BK535); (try clear HB)
                   generalize ((w91.setCell ⟨gb535, 0, none⟩ (.slice Ao92 y532.length co92)).setCell ⟨gb535, 1, none⟩ (.int .i64 t510)) = w95 at n0_ n1_ n2_ n3_ n4_ ⊢
                   have HO_512000 := n0_; have HO534 := n1_; have BK511 := n2_; have BK535 := n3_; have HB := n4_; clear n0_ n1_ n2_ n3_ n4_
                   have n0_ := Aside0.mk (Kd.R_drew HO_512000.out)
                   have n1_ := Aside0.mk (Kd.R_drew HO534.out)
                   have n2_ := Aside0.mk (blk_drew BK511.out)
                   have n3_ := Aside0.mk (blk_drew BK535.out)
                   have n4_ := Aside0.mk (below_drew1 HB.out)
                   clear HO_512000; clear HO534; clear BK511; clear BK535; clear HB; have HO_512000 := n0_; have HO534 := n1_; have BK511 := n2_; have BK535 := n3_; have HB := n4_; clear n0_ n1_ n2_ n3_ n4_
                   refine start_ (n := 23) (S := fun w' => True) (ds := []) #[n,n,n,n,n,n,n,n,n,n,n,n,n,n,n,n,n,n,n,n,n,n,n] (by kernel_rfl) rfl rfl trivial (fun hHeld => ?_); refine with_tabW laws_FnTableSize.tab16 laws_FnTableSize.bits16 (fun HT_ HW_ => ?_)
                   generalize w95.drew = w96 at HO_512000 HO534 BK511 BK535 HB hHeld ⊢
                   refine pure_ (i := 0) (N := some 78) (v := ?_) (a' := ?_) #[y,n,n,n,n,n,n,n,n,n,n,n,n,n,n,n,n,n,n,n,n,n,n] rfl rfl (any_of HT_.out (by kernel_rfl)) (fun _ _ _ h => h) (Or.inl ⟨by rfl, ?_⟩) ?_ ?_; rotate_left; exact uV; rotate_left; exact uP; refine pure_ (i := 1) (N := some 79) (v := ?_) (a' := ?_) #[y,y,n,n,n,n,n,n,n,n,n,n,n,n,n,n,n,n,n,n,n,n,n] rfl rfl (any_of HT_.out (by kernel_rfl)) (fun _ _ _ h => h) (Or.inl ⟨by rfl, ?_⟩) ?_ ?_; rotate_left; exact uV; rotate_left; exact uP; refine pure_ (i := 2) (N := some 80) (v := ?_) (a' := ?_) #[y,y,y,n,n,n,n,n,n,n,n,n,n,n,n,n,n,n,n,n,n,n,n] rfl rfl (any_of HT_.out (by kernel_rfl)) (fun _ _ _ h => h) (Or.inl ⟨by rfl, ?_⟩) ?_ ?_; rotate_left; exact uV; rotate_left; exact uP; refine pure_ (i := 3) (N := some 81) (v := ?_) (a' := ?_) #[y,y,y,y,n,n,n,n,n,n,n,n,n,n,n,n,n,n,n,n,n,n,n] rfl rfl (any_of HT_.out (by kernel_rfl)) (fun _ _ _ h => h) (Or.inl ⟨by rfl, ?_⟩) ?_ ?_; rotate_left; exact uV; rotate_left; exact uP; refine pure_ (i := 4) (N := some 82) (v := undef) (a' := ?_) #[y,y,y,y,y,n,n,n,n,n,n,n,n,n,n,n,n,n,n,n,n,n,n] rfl rfl (any_of HT_.out (by kernel_rfl)) (fun _ _ _ h => h) (Or.inr ⟨by rfl, rfl⟩) ?_ ?_; rotate_left; exact uP; refine pure_ (i := 5) (N := some 83) (v := undef) (a' := ?_) #[y,y,y,y,y,y,n,n,n,n,n,n,n,n,n,n,n,n,n,n,n,n,n] rfl rfl (any_of HT_.out (by kernel_rfl)) (fun _ _ _ h => h) (Or.inr ⟨by rfl, rfl⟩) ?_ ?_; rotate_left; exact uP; refine pure_ (i := 6) (N := some 84) (v := undef) (a' := ?_) #[y,y,y,y,y,y,y,n,n,n,n,n,n,n,n,n,n,n,n,n,n,n,n] rfl rfl (any_of HT_.out (by kernel_rfl)) (fun _ _ _ h => h) (Or.inr ⟨by rfl, rfl⟩) ?_ ?_; rotate_left; exact uP; refine pure_ (i := 7) (N := some 85) (v := undef) (a' := ?_) #[y,y,y,y,y,y,y,y,n,n,n,n,n,n,n,n,n,n,n,n,n,n,n] rfl rfl (any_of HT_.out (by kernel_rfl)) (fun _ _ _ h => h) (Or.inr ⟨by rfl, rfl⟩) ?_ ?_; rotate_left; exact uP; refine pure_ (i := 8) (N := some 86) (v := ?_) (a' := ?_) #[y,y,y,y,y,y,y,y,y,n,n,n,n,n,n,n,n,n,n,n,n,n,n] rfl rfl (any_of HT_.out (by kernel_rfl)) (fun _ _ _ h => h) (Or.inl ⟨by rfl, ?_⟩) ?_ ?_; rotate_left; exact uV; rotate_left; exact uP; refine pure_ (i := 9) (N := some 87) (v := ?_) (a' := ?_) #[y,y,y,y,y,y,y,y,y,y,n,n,n,n,n,n,n,n,n,n,n,n,n] rfl rfl (any_of HT_.out (by kernel_rfl)) (fun _ _ _ h => h) (Or.inl ⟨by rfl, ?_⟩) ?_ ?_; rotate_left; exact uV; rotate_left; exact uP; refine pure_ (i := 10) (N := some 88) (v := undef) (a' := ?_) #[y,y,y,y,y,y,y,y,y,y,y,n,n,n,n,n,n,n,n,n,n,n,n] rfl rfl (any_of HT_.out (by kernel_rfl)) (fun _ _ _ h => h) (Or.inr ⟨by rfl, rfl⟩) ?_ ?_; rotate_left; exact uP; refine pure_ (i := 11) (N := some 89) (v := undef) (a' := ?_) #[y,y,y,y,y,y,y,y,y,y,y,y,n,n,n,n,n,n,n,n,n,n,n] rfl rfl (any_of HT_.out (by kernel_rfl)) (fun _ _ _ h => h) (Or.inr ⟨by rfl, rfl⟩) ?_ ?_; rotate_left; exact uP; refine pure_ (i := 12) (N := some 90) (v := undef) (a' := ?_) #[y,y,y,y,y,y,y,y,y,y,y,y,y,n,n,n,n,n,n,n,n,n,n] rfl rfl (any_of HT_.out (by kernel_rfl)) (fun _ _ _ h => h) (Or.inr ⟨by rfl, rfl⟩) ?_ ?_
                   rotate_left; exact uP; refine pure_ (i := 13) (N := some 91) (v := undef) (a' := ?_) #[y,y,y,y,y,y,y,y,y,y,y,y,y,y,n,n,n,n,n,n,n,n,n] rfl rfl (any_of HT_.out (by kernel_rfl)) (fun _ _ _ h => h) (Or.inr ⟨by rfl, rfl⟩) ?_ ?_; rotate_left; exact uP; refine pure_ (i := 14) (N := some 92) (v := undef) (a' := ?_) #[y,y,y,y,y,y,y,y,y,y,y,y,y,y,y,n,n,n,n,n,n,n,n] rfl rfl (any_of HT_.out (by kernel_rfl)) (fun _ _ _ h => h) (Or.inr ⟨by rfl, rfl⟩) ?_ ?_; rotate_left; exact uP; refine pure_ (i := 15) (N := some 93) (v := undef) (a' := ?_) #[y,y,y,y,y,y,y,y,y,y,y,y,y,y,y,y,n,n,n,n,n,n,n] rfl rfl (any_of HT_.out (by kernel_rfl)) (fun _ _ _ h => h) (Or.inr ⟨by rfl, rfl⟩) ?_ ?_; rotate_left; exact uP; refine pure_ (i := 16) (N := some 94) (v := undef) (a' := ?_) #[y,y,y,y,y,y,y,y,y,y,y,y,y,y,y,y,y,n,n,n,n,n,n] rfl rfl (any_of HT_.out (by kernel_rfl)) (fun _ _ _ h => h) (Or.inr ⟨by rfl, rfl⟩) ?_ ?_; rotate_left; exact uP; refine pure_ (i := 17) (N := some 95) (v := undef) (a' := ?_) #[y,y,y,y,y,y,y,y,y,y,y,y,y,y,y,y,y,y,n,n,n,n,n] rfl rfl (any_of HT_.out (by kernel_rfl)) (fun _ _ _ h => h) (Or.inr ⟨by rfl, rfl⟩) ?_ ?_; rotate_left; exact uP; refine pure_ (i := 18) (N := some 96) (v := undef) (a' := ?_) #[y,y,y,y,y,y,y,y,y,y,y,y,y,y,y,y,y,y,y,n,n,n,n] rfl rfl (any_of HT_.out (by kernel_rfl)) (fun _ _ _ h => h) (Or.inr ⟨by rfl, rfl⟩) ?_ ?_; rotate_left; exact uP; refine pure_ (i := 19) (N := some 97) (v := undef) (a' := ?_) #[y,y,y,y,y,y,y,y,y,y,y,y,y,y,y,y,y,y,y,y,n,n,n] rfl rfl (any_of HT_.out (by kernel_rfl)) (fun _ _ _ h => h) (Or.inr ⟨by rfl, rfl⟩) ?_ ?_; rotate_left; exact uP; refine pure_ (i := 20) (N := some 98) (v := undef) (a' := ?_) #[y,y,y,y,y,y,y,y,y,y,y,y,y,y,y,y,y,y,y,y,y,n,n] rfl rfl (any_of HT_.out (by kernel_rfl)) (fun _ _ _ h => h) (Or.inr ⟨by rfl, rfl⟩) ?_ ?_; rotate_left; exact uP; refine pure_ (i := 21) (N := some 99) (v := ?_) (a' := ?_) #[y,y,y,y,y,y,y,y,y,y,y,y,y,y,y,y,y,y,y,y,y,y,n] rfl rfl (any_of HT_.out (by kernel_rfl)) (fun _ _ _ h => h) (Or.inl ⟨by rfl, ?_⟩) ?_ ?_; rotate_left; exact uV; rotate_left; exact uP; refine pure_ (i := 22) (N := some 4) (v := ?_) (a' := ?_) #[y,y,y,y,y,y,y,y,y,y,y,y,y,y,y,y,y,y,y,y,y,y,y] rfl rfl (any_of HT_.out (by kernel_rfl)) (fun _ _ _ h => h) (Or.inl ⟨by rfl, ?_⟩) ?_ ?_; rotate_left; exact uV; rotate_left; exact uP
                   refine done_ (done_of HT_.out (by kernel_rfl)) ?_
                   try go_wp2
                   go_ret
                   exact ⟨by first | rfl | (simp [errW_none, errW_some] <;> rfl) | (simp only [← hji34, ← hji38]; first | rfl | (simp [errW_none, errW_some] <;> rfl)) | (simp [*, errW_none, errW_some] <;> rfl), by exact q2 HB.out GE511.out GE535.out⟩
                 rw [if_neg c41] at H
                 exact absurd H (by simp)
               rw [if_neg c40] at H
               exact absurd H (by simp)
             rw [if_neg c39] at H
             exact absurd H (by simp)
           rw [if_neg c37] at H
           exact absurd H (by simp)
         rw [if_neg c36] at H
         exact absurd H (by simp)
       rw [if_neg c35] at H
       exact absurd H (by simp)
/-- THE ONE PURE STATEMENT of laws_FnTableSize: yours. -/
def laws_FnTableSize.Pure : Prop := ∀ (l0 : List Int) (l1 : List Int), l0.length ≤ maxLen → l0.length * 1 ≤ 140737488351232 → (∀ x ∈ l0, (Lit.int .u8 x).wf = true) → l1.length ≤ maxLen → l1.length * 1 ≤ 140737488351232 → (∀ x ∈ l1, (Lit.int .u8 x).wf = true) → ∃ k, laws_FnTableSize.f k l0 l1 = some true
theorem laws_FnTableSize.walk (P : laws_FnTableSize.Pure) (a0 : Option Addr) (len0 cap0 : Nat) (z0 : List Int) (a1 : Option Addr) (len1 cap1 : Nat) (z1 : List Int) (w : World) (w0 : (a0 = none ∧ len0 = 0 ∧ cap0 = 0 ∧ z0 = []) ∨ ∃ x, a0 = some x ∧ len0 ≤ cap0 ∧ cap0 ≤ maxLen ∧ z0.length = cap0 ∧ (∀ i, i < z0.length → w.cell? (x.add i) = some (.int .u8 (z0.getD i 0))) ∧ ∀ n ∈ z0, (Lit.int .u8 n).wf = true) (y0 : len0 * 1 ≤ 140737488351232) (w1 : (a1 = none ∧ len1 = 0 ∧ cap1 = 0 ∧ z1 = []) ∨ ∃ x, a1 = some x ∧ len1 ≤ cap1 ∧ cap1 ≤ maxLen ∧ z1.length = cap1 ∧ (∀ i, i < z1.length → w.cell? (x.add i) = some (.int .u8 (z1.getD i 0))) ∧ ∀ n ∈ z1, (Lit.int .u8 n).wf = true) (y1 : len1 * 1 ≤ 140737488351232) :
 Calls Try.prog 10 #[.slice a0 len0 cap0, .slice a1 len1 cap1] w fun e w' => e = .returned (.bool true) ∧ Below w.heap.size w w' := by
 obtain ⟨l0, rfl, hr0, hm0, hw0, hc0⟩ := ReadsInt.ofRowC w0
 obtain ⟨l1, rfl, hr1, hm1, hw1, hc1⟩ := ReadsInt.ofRowC w1
 obtain ⟨k, h⟩ := P l0 l1 hm0 y0 hw0 hm1 y1 hw1
 refine (laws_FnTableSize.calls k _ _ l0 _ _ l1 true w (Kd.C_of_reads (d := (0 : Int)) (h1 := fun _ => rfl) hr0) hc0 (Kd.C_of_reads (d := (0 : Int)) (h1 := fun _ => rfl) hr1) hc1 h).mono ?_
 rintro e w' ⟨rfl, hd⟩
 exact ⟨rfl, hd⟩

end Go.Proofs.Ytgahnhncmjgenaa.X
