-- Written by a program of this session's (wip/tools) out of the translation. Not trusted: Lean checks it.
import Derived.Test.YtgahnhncmjgenaaXx0
import Derived.Test.YtgahnhncmjgenaaXx2
import Derived.Test.YtgahnhncmjgenaaXx65
namespace Go.Proofs.Ytgahnhncmjgenaa.X
open Go.RowKit Go.Proofs.YtgahnhncmjgenaaW.PrintWords Go.Proofs.YtgahnhncmjgenaaW.PrintLast Go.Proofs.YtgahnhncmjgenaaW.PrintMore
open Bool renaming true → y, false → n
attribute [local go_sem] max2_int min2_int max_two min_two max_three min_three max_four min_four   -- for this text's walks alone
set_option linter.unusedVariables false
set_option linter.unusedSimpArgs false

/-! ### laws_FnExactTableFind: function 12 -/
def laws_FnExactTableFind.j0 : Nat → Bool → List (S56) → Int → List (S32) → Int → Option (Bool)
  | 0, _, _, _, _, _ => none
  | k + 1, x45, x650000, x650001, x667000, x667001 => if x45 = true then (some false) else ((laws_toTable.f k x650000 x650001).bind fun bt672 => ((laws_eqTable.f k x667000 x667001 bt672.1 bt672.2).bind fun t676 => (if t676 = true then (some true) else (some false))))
def laws_FnExactTableFind.f (k : Nat) (l0_0 : List (S56)) (a0_1 : Int) (a1_0 : ByteArray) (a1_1 : ByteArray) (a1_2 : Bool) : Option (Bool) := (laws_szTable.f k l0_0 a0_1 1048576).bind fun t651 => (if t651 < 0 then (some true) else ((laws_szField.f a1_0 a1_1 a1_2 t651).bind fun t652 => (if t652 < 0 then (some true) else ((laws_toTable.f k l0_0 a0_1).bind fun bt653 => ((laws_toField.f a1_0 a1_1 a1_2).bind fun bt657 => ((spec_TableFind.f k bt653.1 bt653.2 bt657.1 bt657.2.1 bt657.2.2).bind fun bt660 => ((laws_toTable.f k l0_0 a0_1).bind fun bt662 => ((laws_toField.f a1_0 a1_1 a1_2).bind fun bt667 => ((impl_TableFind.f k bt662.1 bt662.2 bt667.1 bt667.2.1 bt667.2.2).bind fun bt670 => (if bt670.1 = bt660.1 then (laws_FnExactTableFind.j0 k (bt670.2 != bt660.2) l0_0 a0_1 bt662.1 bt662.2) else (laws_FnExactTableFind.j0 k true l0_0 a0_1 bt662.1 bt662.2)))))))))))
theorem laws_FnExactTableFind.mono_l : ∀ k, (∀ y0 y1 y2 y3 y4, LeO (laws_FnExactTableFind.j0 k y0 y1 y2 y3 y4) (laws_FnExactTableFind.j0 (k + 1) y0 y1 y2 y3 y4))
  | 0 => fun _ _ _ _ _ r h => by simp [laws_FnExactTableFind.j0] at h
  | k + 1 => by
    have ih0 := laws_FnExactTableFind.mono_l k
    · intro y0 y1 y2 y3 y4
      unfold laws_FnExactTableFind.j0
      repeat' first
      | (with_reducible exact ih0 _ _ _ _ _)
      | (with_reducible exact impl_TableFind.mono _ _ _ _ _ _)
      | (with_reducible exact laws_eqTable.mono _ _ _ _ _)
      | (with_reducible exact laws_szTable.mono _ _ _ _)
      | (with_reducible exact laws_toTable.mono _ _ _)
      | (with_reducible exact spec_TableFind.mono _ _ _ _ _ _)
      | (with_reducible exact LeO.refl _)
      | (with_reducible exact LeO.none _)
      | (with_reducible refine LeO.ite ?_ ?_)
      | (with_reducible refine LeO.bind ?_ (fun _ => ?_))
theorem laws_FnExactTableFind.mono : ∀ a0 a1 a2 a3 a4 k, LeO (laws_FnExactTableFind.f k a0 a1 a2 a3 a4) (laws_FnExactTableFind.f (k + 1) a0 a1 a2 a3 a4) := by
  intro a0 a1 a2 a3 a4 k
  have ih0 := laws_FnExactTableFind.mono_l k
  unfold laws_FnExactTableFind.f
  repeat' first
      | (with_reducible exact ih0 _ _ _ _ _)
      | (with_reducible exact impl_TableFind.mono _ _ _ _ _ _)
      | (with_reducible exact laws_eqTable.mono _ _ _ _ _)
      | (with_reducible exact laws_szTable.mono _ _ _ _)
      | (with_reducible exact laws_toTable.mono _ _ _)
      | (with_reducible exact spec_TableFind.mono _ _ _ _ _ _)
      | (with_reducible exact LeO.refl _)
      | (with_reducible exact LeO.none _)
      | (with_reducible refine LeO.ite ?_ ?_)
      | (with_reducible refine LeO.bind ?_ (fun _ => ?_))
def laws_FnExactTableFind.T8 : Bool × List (List Nat × List Nat) := (true, [([], []), ([0], [0]), ([], []), ([2, 1], [2]), ([1, 3, 3], [1, 3]), ([4], [4]), ([5], [5]), ([5], [5]), ([6, 4, 0, 1, 2, 3, 4, 5, 6], [6]), ([7, 8, 0, 1, 2, 3, 4, 5, 6, 7, 8], [7])])
def laws_FnExactTableFind.B8 : List Nat := [0, 1, 0, 7, 15, 31, 63, 63, 127, 511]
theorem laws_FnExactTableFind.tab8 : rtab .any (opsOf Try.f12 8) = laws_FnExactTableFind.T8 := by kernel_rfl
theorem laws_FnExactTableFind.bits8 : waitsOk laws_FnExactTableFind.T8.2 laws_FnExactTableFind.B8 = true := by kernel_rfl
def laws_FnExactTableFind.T10 : Bool × List (List Nat × List Nat) := (true, [([], []), ([], []), ([1], [1]), ([0, 2, 2], [0, 2]), ([3], [3]), ([4], [4]), ([4], [4]), ([5, 3, 0, 1, 2, 3, 4, 5], [5]), ([6, 7, 0, 1, 2, 3, 4, 5, 6, 7], [6])])
def laws_FnExactTableFind.B10 : List Nat := [0, 0, 2, 7, 15, 31, 31, 63, 255]
theorem laws_FnExactTableFind.tab10 : rtab .any (opsOf Try.f12 10) = laws_FnExactTableFind.T10 := by kernel_rfl
theorem laws_FnExactTableFind.bits10 : waitsOk laws_FnExactTableFind.T10.2 laws_FnExactTableFind.B10 = true := by kernel_rfl
set_option maxHeartbeats 8000000 in
set_option maxRecDepth 100000 in
theorem laws_FnExactTableFind.calls (k : Nat) (A0_0 : Option Addr) (c0_0 : Nat) (l0_0 : List (S56)) (a0_1 : Int) (a1_0 : ByteArray) (a1_1 : ByteArray) (a1_2 : Bool) (r : Bool) (w : World) (hr0_0 : Kd.C k56 w A0_0 l0_0.length l0_0) (hc0_0 : l0_0.length ≤ c0_0) (h : laws_FnExactTableFind.f k l0_0 a0_1 a1_0 a1_1 a1_2 = some r) :
 Calls Try.prog 12 #[.agg #[.slice A0_0 l0_0.length c0_0, .int .i64 a0_1], .agg #[.string a1_0, .string a1_1, .bool a1_2]] w fun e w' => e = .returned (.bool r) ∧ Below w.heap.size w w' := by
 have hu41 := Try.underlying41; have hu56 := Try.underlying56; have hu45 := Try.underlying45; have HR0_0 := Aside0.mk hr0_0; have HC0_0 := Aside0.mk hc0_0; clear hr0_0 hc0_0
 have HB := Aside0.mk (Below.refl w.heap.size w)
 have H : ((laws_szTable.f k l0_0 a0_1 1048576).bind fun t651 => (if t651 < 0 then (some true) else ((laws_szField.f a1_0 a1_1 a1_2 t651).bind fun t652 => (if t652 < 0 then (some true) else ((laws_toTable.f k l0_0 a0_1).bind fun bt653 => ((laws_toField.f a1_0 a1_1 a1_2).bind fun bt657 => ((spec_TableFind.f k bt653.1 bt653.2 bt657.1 bt657.2.1 bt657.2.2).bind fun bt660 => ((laws_toTable.f k l0_0 a0_1).bind fun bt662 => ((laws_toField.f a1_0 a1_1 a1_2).bind fun bt667 => ((impl_TableFind.f k bt662.1 bt662.2 bt667.1 bt667.2.1 bt667.2.2).bind fun bt670 => (if bt670.1 = bt660.1 then (laws_FnExactTableFind.j0 k (bt670.2 != bt660.2) l0_0 a0_1 bt662.1 bt662.2) else (laws_FnExactTableFind.j0 k true l0_0 a0_1 bt662.1 bt662.2)))))))))))) = some r := h
 clear h; replace H := Option.bind_eq_some_iff.mp H; obtain ⟨t651, A30, H⟩ := H
 replace H : (if t651 < 0 then (some true) else ((laws_szField.f a1_0 a1_1 a1_2 t651).bind fun t652 => (if t652 < 0 then (some true) else ((laws_toTable.f k l0_0 a0_1).bind fun bt653 => ((laws_toField.f a1_0 a1_1 a1_2).bind fun bt657 => ((spec_TableFind.f k bt653.1 bt653.2 bt657.1 bt657.2.1 bt657.2.2).bind fun bt660 => ((laws_toTable.f k l0_0 a0_1).bind fun bt662 => ((laws_toField.f a1_0 a1_1 a1_2).bind fun bt667 => ((impl_TableFind.f k bt662.1 bt662.2 bt667.1 bt667.2.1 bt667.2.2).bind fun bt670 => (if bt670.1 = bt660.1 then (laws_FnExactTableFind.j0 k (bt670.2 != bt660.2) l0_0 a0_1 bt662.1 bt662.2) else (laws_FnExactTableFind.j0 k true l0_0 a0_1 bt662.1 bt662.2))))))))))) = some r := H
 have A3 := Aside0.mk A30; clear A30
 by_cases c4 : t651 < 0
 · rw [if_pos c4] at H
   have c4b0 : decide (t651 < 0) = true := decide_eq_true c4
   clear c4
   obtain rfl := Option.some.inj H
   go_enter Try.func12, Try.ntmps12
   go_wp2_with (first | ((with_reducible refine gate_dst (N := 2) rfl ?_); refine box_event ?hg (N := 2) ?hd (cs := #[.slice A0_0 l0_0.length c0_0, .int .i64 a0_1]) (t := 41) ?hr ?_; (case hd => rfl); (case hg => rfl); (case hr => first | (go_simp; done) | (go_simp; rfl)); intro gb649 hg w5 hbox hb; have n0_ := Aside0.mk (below_step (by exact q0 HB.out) hb); have n1_ := Aside0.mk (hbox); have n2_ := Aside0.mk ((by rw [hg]; exact (below_size (by exact q0 HB.out)) : w.heap.size ≤ gb649)); have n3_ := Aside0.mk ((by rw [hg]; exact (below_size (by exact q0 HB.out)) : w.heap.size ≤ gb649)); clear HB; have HB := n0_; have BK649 := n1_; have GW649 := n2_; have GE649 := n3_; clear n0_ n1_ n2_ n3_; clear hb hbox hg) | ((with_reducible refine gate_dst (N := 3) rfl ?_); refine box_event ?hg (N := 3) ?hd (cs := #[.string a1_0, .string a1_1, .bool a1_2]) (t := 56) ?hr ?_; (case hd => rfl); (case hg => rfl); (case hr => first | (go_simp; done) | (go_simp; rfl)); intro gb650 hg w6 hbox hb; have n0_ := Aside0.mk (blk_below (g := gb649) (o := .cells #[.slice A0_0 l0_0.length c0_0, .int .i64 a0_1] 41 (0, 0)) (by exact uB BK649.out) hb); have n1_ := Aside0.mk (below_step (by exact q1 HB.out GE649.out) hb); have n2_ := Aside0.mk (hbox); have n3_ := Aside0.mk ((by rw [hg]; exact (below_size (by exact q1 HB.out GE649.out)) : w.heap.size ≤ gb650)); have n4_ := Aside0.mk ((by rw [hg]; exact (below_size (by exact q1 HB.out GE649.out)) : w.heap.size ≤ gb650)); have n5_ := Aside0.mk ((by rw [hg]; exact Nat.ne_of_lt (blk_lt (g := gb649) (o := .cells #[.slice A0_0 l0_0.length c0_0, .int .i64 a0_1] 41 (0, 0)) (by exact uB BK649.out)) : gb649 ≠ gb650)); have n6_ := Aside0.mk ((by rw [hg]; exact Nat.ne_of_gt (blk_lt (g := gb649) (o := .cells #[.slice A0_0 l0_0.length c0_0, .int .i64 a0_1] 41 (0, 0)) (by exact uB BK649.out)) : gb650 ≠ gb649)); clear BK649; clear HB; have BK649 := n0_; have HB := n1_; have BK650 := n2_; have GW650 := n3_; have GE650 := n4_; have NB649_650 := n5_; have NB650_649 := n6_; clear n0_ n1_ n2_ n3_ n4_ n5_ n6_; clear hb hbox hg; have hnb7 := NB649_650.out; have hnc7 := NB650_649.out; have hcz8_0 : w6.cell? ⟨gb649, 0, none⟩ = some (.slice A0_0 l0_0.length c0_0) := (blk_cell BK649.out 0).trans rfl; have hcz8_1 : w6.cell? ⟨gb649, 1, none⟩ = some (.int .i64 a0_1) := (blk_cell BK649.out 1).trans rfl; have hfz8_0 := blk_frozen BK649.out 0; have hfz8_1 := blk_frozen BK649.out 1) | ((with_reducible refine gate_callee (f := 25) rfl ?_); refine goesL_ (some 13) rfl rfl Try.func25 (by kernel_rfl) rfl #[.agg #[.slice A0_0 l0_0.length c0_0, .int .i64 a0_1], .int .i64 1048576] rfl (by (try simp only [List.map_toArray, List.map_cons, List.map_nil]); first | done | rfl | (simp only [List.length_drop, List.length_take]; rfl)) ?_; (with_reducible refine (laws_szTable.calls k _ _ l0_0 a0_1 1048576 t651 _ ?side1 ?side2 A3.out).mono ?_); (case side1 => repeat (first | exact (Kd.C_below HR0_0.out HB.out) | (with_reducible refine Kd.C_alloc ?_ _) | (with_reducible refine Kd.C_drewN ?_ _) | (with_reducible refine Kd.C_drew ?_))); (case side2 => exact HC0_0.out); rintro e w9 ⟨rfl, hb⟩; refine ⟨_, rfl, ?_⟩; have n0_ := Aside0.mk (blk_below (g := gb649) (o := .cells #[.slice A0_0 l0_0.length c0_0, .int .i64 a0_1] 41 (0, 0)) (by exact uB BK649.out) hb); have n1_ := Aside0.mk (blk_below (g := gb650) (o := .cells #[.string a1_0, .string a1_1, .bool a1_2] 56 (0, 0)) (by exact uB BK650.out) hb); have n2_ := Aside0.mk (below_step (by exact q2 HB.out GE649.out GE650.out) hb); clear BK649; clear BK650; clear HB; have BK649 := n0_; have BK650 := n1_; have HB := n2_; clear n0_ n1_ n2_; (try clear hb); (try clear hb2); (try clear hk); (try clear hi)))
   go_ret
   exact ⟨by first | rfl | (simp [errW_none, errW_some] <;> rfl) | (simp [*, errW_none, errW_some] <;> rfl), by exact q2 HB.out GE649.out GE650.out⟩
 rw [if_neg c4] at H
 have c4b0 : decide (t651 < 0) = false := decide_eq_false c4
 clear c4; replace H := Option.bind_eq_some_iff.mp H; obtain ⟨t652, A100, H⟩ := H
 replace H : (if t652 < 0 then (some true) else ((laws_toTable.f k l0_0 a0_1).bind fun bt653 => ((laws_toField.f a1_0 a1_1 a1_2).bind fun bt657 => ((spec_TableFind.f k bt653.1 bt653.2 bt657.1 bt657.2.1 bt657.2.2).bind fun bt660 => ((laws_toTable.f k l0_0 a0_1).bind fun bt662 => ((laws_toField.f a1_0 a1_1 a1_2).bind fun bt667 => ((impl_TableFind.f k bt662.1 bt662.2 bt667.1 bt667.2.1 bt667.2.2).bind fun bt670 => (if bt670.1 = bt660.1 then (laws_FnExactTableFind.j0 k (bt670.2 != bt660.2) l0_0 a0_1 bt662.1 bt662.2) else (laws_FnExactTableFind.j0 k true l0_0 a0_1 bt662.1 bt662.2))))))))) = some r := H
 have A10 := Aside0.mk A100; clear A100
 by_cases c11 : t652 < 0
 · rw [if_pos c11] at H
   have c11b0 : decide (t652 < 0) = true := decide_eq_true c11
   clear c11
   obtain rfl := Option.some.inj H
   go_enter Try.func12, Try.ntmps12
   go_wp2_with (first | ((with_reducible refine gate_dst (N := 2) rfl ?_); refine box_event ?hg (N := 2) ?hd (cs := #[.slice A0_0 l0_0.length c0_0, .int .i64 a0_1]) (t := 41) ?hr ?_; (case hd => rfl); (case hg => rfl); (case hr => first | (go_simp; done) | (go_simp; rfl)); intro gb649 hg w12 hbox hb; have n0_ := Aside0.mk (below_step (by exact q0 HB.out) hb); have n1_ := Aside0.mk (hbox); have n2_ := Aside0.mk ((by rw [hg]; exact (below_size (by exact q0 HB.out)) : w.heap.size ≤ gb649)); have n3_ := Aside0.mk ((by rw [hg]; exact (below_size (by exact q0 HB.out)) : w.heap.size ≤ gb649)); clear HB; have HB := n0_; have BK649 := n1_; have GW649 := n2_; have GE649 := n3_; clear n0_ n1_ n2_ n3_; clear hb hbox hg) | ((with_reducible refine gate_dst (N := 3) rfl ?_); refine box_event ?hg (N := 3) ?hd (cs := #[.string a1_0, .string a1_1, .bool a1_2]) (t := 56) ?hr ?_; (case hd => rfl); (case hg => rfl); (case hr => first | (go_simp; done) | (go_simp; rfl)); intro gb650 hg w13 hbox hb; have n0_ := Aside0.mk (blk_below (g := gb649) (o := .cells #[.slice A0_0 l0_0.length c0_0, .int .i64 a0_1] 41 (0, 0)) (by exact uB BK649.out) hb); have n1_ := Aside0.mk (below_step (by exact q1 HB.out GE649.out) hb); have n2_ := Aside0.mk (hbox); have n3_ := Aside0.mk ((by rw [hg]; exact (below_size (by exact q1 HB.out GE649.out)) : w.heap.size ≤ gb650)); have n4_ := Aside0.mk ((by rw [hg]; exact (below_size (by exact q1 HB.out GE649.out)) : w.heap.size ≤ gb650)); have n5_ := Aside0.mk ((by rw [hg]; exact Nat.ne_of_lt (blk_lt (g := gb649) (o := .cells #[.slice A0_0 l0_0.length c0_0, .int .i64 a0_1] 41 (0, 0)) (by exact uB BK649.out)) : gb649 ≠ gb650)); have n6_ := Aside0.mk ((by rw [hg]; exact Nat.ne_of_gt (blk_lt (g := gb649) (o := .cells #[.slice A0_0 l0_0.length c0_0, .int .i64 a0_1] 41 (0, 0)) (by exact uB BK649.out)) : gb650 ≠ gb649)); clear BK649; clear HB; have BK649 := n0_; have HB := n1_; have BK650 := n2_; have GW650 := n3_; have GE650 := n4_; have NB649_650 := n5_; have NB650_649 := n6_; clear n0_ n1_ n2_ n3_ n4_ n5_ n6_; clear hb hbox hg; have hnb14 := NB649_650.out; have hnc14 := NB650_649.out; have hcz15_0 : w13.cell? ⟨gb649, 0, none⟩ = some (.slice A0_0 l0_0.length c0_0) := (blk_cell BK649.out 0).trans rfl; have hcz15_1 : w13.cell? ⟨gb649, 1, none⟩ = some (.int .i64 a0_1) := (blk_cell BK649.out 1).trans rfl; have hfz15_0 := blk_frozen BK649.out 0; have hfz15_1 := blk_frozen BK649.out 1) | ((with_reducible refine gate_callee (f := 25) rfl ?_); refine goesL_ (some 13) rfl rfl Try.func25 (by kernel_rfl) rfl #[.agg #[.slice A0_0 l0_0.length c0_0, .int .i64 a0_1], .int .i64 1048576] rfl (by (try simp only [List.map_toArray, List.map_cons, List.map_nil]); first | done | rfl | (simp only [List.length_drop, List.length_take]; rfl)) ?_; (with_reducible refine (laws_szTable.calls k _ _ l0_0 a0_1 1048576 t651 _ ?side1 ?side2 A3.out).mono ?_); (case side1 => repeat (first | exact (Kd.C_below HR0_0.out HB.out) | (with_reducible refine Kd.C_alloc ?_ _) | (with_reducible refine Kd.C_drewN ?_ _) | (with_reducible refine Kd.C_drew ?_))); (case side2 => exact HC0_0.out); rintro e w16 ⟨rfl, hb⟩; refine ⟨_, rfl, ?_⟩; have n0_ := Aside0.mk (blk_below (g := gb649) (o := .cells #[.slice A0_0 l0_0.length c0_0, .int .i64 a0_1] 41 (0, 0)) (by exact uB BK649.out) hb); have n1_ := Aside0.mk (blk_below (g := gb650) (o := .cells #[.string a1_0, .string a1_1, .bool a1_2] 56 (0, 0)) (by exact uB BK650.out) hb); have n2_ := Aside0.mk (below_step (by exact q2 HB.out GE649.out GE650.out) hb); clear BK649; clear BK650; clear HB; have BK649 := n0_; have BK650 := n1_; have HB := n2_; clear n0_ n1_ n2_; (try clear hb); (try clear hb2); (try clear hk); (try clear hi); have hcz17_0 : w16.cell? ⟨gb650, 0, none⟩ = some (.string a1_0) := (blk_cell BK650.out 0).trans rfl; have hcz17_1 : w16.cell? ⟨gb650, 1, none⟩ = some (.string a1_1) := (blk_cell BK650.out 1).trans rfl; have hcz17_2 : w16.cell? ⟨gb650, 2, none⟩ = some (.bool a1_2) := (blk_cell BK650.out 2).trans rfl; have hfz17_0 := blk_frozen BK650.out 0; have hfz17_1 := blk_frozen BK650.out 1; have hfz17_2 := blk_frozen BK650.out 2) | ((with_reducible refine gate_callee (f := 38) rfl ?_); refine goesL_ (some 18) rfl rfl Try.func38 (by kernel_rfl) rfl #[.agg #[.string a1_0, .string a1_1, .bool a1_2], .int .i64 t651] rfl (by (try simp only [List.map_toArray, List.map_cons, List.map_nil]); first | done | rfl | (simp only [List.length_drop, List.length_take]; rfl)) ?_; (with_reducible refine (laws_szField.calls a1_0 a1_1 a1_2 t651 t652 _ A10.out).mono ?_); rintro e w18 ⟨rfl, hb⟩; refine ⟨_, rfl, ?_⟩; have n0_ := Aside0.mk (blk_below (g := gb649) (o := .cells #[.slice A0_0 l0_0.length c0_0, .int .i64 a0_1] 41 (0, 0)) (by exact uB BK649.out) hb); have n1_ := Aside0.mk (blk_below (g := gb650) (o := .cells #[.string a1_0, .string a1_1, .bool a1_2] 56 (0, 0)) (by exact uB BK650.out) hb); have n2_ := Aside0.mk (below_step (by exact q2 HB.out GE649.out GE650.out) hb); clear BK649; clear BK650; clear HB; have BK649 := n0_; have BK650 := n1_; have HB := n2_; clear n0_ n1_ n2_; (try clear hb); (try clear hb2); (try clear hk); (try clear hi)))
   go_ret
   exact ⟨by first | rfl | (simp [errW_none, errW_some] <;> rfl) | (simp [*, errW_none, errW_some] <;> rfl), by exact q2 HB.out GE649.out GE650.out⟩
 rw [if_neg c11] at H
 have c11b0 : decide (t652 < 0) = false := decide_eq_false c11
 clear c11; replace H := Option.bind_eq_some_iff.mp H; obtain ⟨⟨t653, t656⟩, A190, H⟩ := H
 replace H : ((laws_toField.f a1_0 a1_1 a1_2).bind fun bt657 => ((spec_TableFind.f k t653 t656 bt657.1 bt657.2.1 bt657.2.2).bind fun bt660 => ((laws_toTable.f k l0_0 a0_1).bind fun bt662 => ((laws_toField.f a1_0 a1_1 a1_2).bind fun bt667 => ((impl_TableFind.f k bt662.1 bt662.2 bt667.1 bt667.2.1 bt667.2.2).bind fun bt670 => (if bt670.1 = bt660.1 then (laws_FnExactTableFind.j0 k (bt670.2 != bt660.2) l0_0 a0_1 bt662.1 bt662.2) else (laws_FnExactTableFind.j0 k true l0_0 a0_1 bt662.1 bt662.2))))))) = some r := H
 have A19 := Aside0.mk A190; clear A190; replace H := Option.bind_eq_some_iff.mp H; obtain ⟨⟨t657, t658, t659⟩, A200, H⟩ := H
 replace H : ((spec_TableFind.f k t653 t656 t657 t658 t659).bind fun bt660 => ((laws_toTable.f k l0_0 a0_1).bind fun bt662 => ((laws_toField.f a1_0 a1_1 a1_2).bind fun bt667 => ((impl_TableFind.f k bt662.1 bt662.2 bt667.1 bt667.2.1 bt667.2.2).bind fun bt670 => (if bt670.1 = bt660.1 then (laws_FnExactTableFind.j0 k (bt670.2 != bt660.2) l0_0 a0_1 bt662.1 bt662.2) else (laws_FnExactTableFind.j0 k true l0_0 a0_1 bt662.1 bt662.2)))))) = some r := H
 have A20 := Aside0.mk A200; clear A200; replace H := Option.bind_eq_some_iff.mp H; obtain ⟨⟨t660, t661⟩, A210, H⟩ := H
 replace H : ((laws_toTable.f k l0_0 a0_1).bind fun bt662 => ((laws_toField.f a1_0 a1_1 a1_2).bind fun bt667 => ((impl_TableFind.f k bt662.1 bt662.2 bt667.1 bt667.2.1 bt667.2.2).bind fun bt670 => (if bt670.1 = t660 then (laws_FnExactTableFind.j0 k (bt670.2 != t661) l0_0 a0_1 bt662.1 bt662.2) else (laws_FnExactTableFind.j0 k true l0_0 a0_1 bt662.1 bt662.2))))) = some r := H
 have A21 := Aside0.mk A210; clear A210; replace H := Option.bind_eq_some_iff.mp H; obtain ⟨⟨t662, t665⟩, A220, H⟩ := H
 replace H : ((laws_toField.f a1_0 a1_1 a1_2).bind fun bt667 => ((impl_TableFind.f k t662 t665 bt667.1 bt667.2.1 bt667.2.2).bind fun bt670 => (if bt670.1 = t660 then (laws_FnExactTableFind.j0 k (bt670.2 != t661) l0_0 a0_1 t662 t665) else (laws_FnExactTableFind.j0 k true l0_0 a0_1 t662 t665)))) = some r := H
 have A22 := Aside0.mk A220; clear A220; replace H := Option.bind_eq_some_iff.mp H; obtain ⟨⟨t667, t668, t669⟩, A230, H⟩ := H
 replace H : ((impl_TableFind.f k t662 t665 t667 t668 t669).bind fun bt670 => (if bt670.1 = t660 then (laws_FnExactTableFind.j0 k (bt670.2 != t661) l0_0 a0_1 t662 t665) else (laws_FnExactTableFind.j0 k true l0_0 a0_1 t662 t665))) = some r := H
 have A23 := Aside0.mk A230; clear A230; replace H := Option.bind_eq_some_iff.mp H; obtain ⟨⟨t670, t671⟩, A240, H⟩ := H
 replace H : (if t670 = t660 then (laws_FnExactTableFind.j0 k (t671 != t661) l0_0 a0_1 t662 t665) else (laws_FnExactTableFind.j0 k true l0_0 a0_1 t662 t665)) = some r := H
 have A24 := Aside0.mk A240; clear A240; have HC25 := Aside0.mk H; clear H
 go_enter Try.func12, Try.ntmps12
 try go_wp2_with (first | ((with_reducible refine gate_dst (N := 2) rfl ?_); refine box_event ?hg (N := 2) ?hd (cs := #[.slice A0_0 l0_0.length c0_0, .int .i64 a0_1]) (t := 41) ?hr ?_; (case hd => rfl); (case hg => rfl); (case hr => first | (go_simp; done) | (go_simp; rfl)); intro gb649 hg w26 hbox hb; have n0_ := Aside0.mk (below_step (by exact q0 HB.out) hb); have n1_ := Aside0.mk (hbox); have n2_ := Aside0.mk ((by rw [hg]; exact (below_size (by exact q0 HB.out)) : w.heap.size ≤ gb649)); have n3_ := Aside0.mk ((by rw [hg]; exact (below_size (by exact q0 HB.out)) : w.heap.size ≤ gb649)); clear HB; have HB := n0_; have BK649 := n1_; have GW649 := n2_; have GE649 := n3_; clear n0_ n1_ n2_ n3_; clear hb hbox hg) | ((with_reducible refine gate_dst (N := 3) rfl ?_); refine box_event ?hg (N := 3) ?hd (cs := #[.string a1_0, .string a1_1, .bool a1_2]) (t := 56) ?hr ?_; (case hd => rfl); (case hg => rfl); (case hr => first | (go_simp; done) | (go_simp; rfl)); intro gb650 hg w27 hbox hb; have n0_ := Aside0.mk (blk_below (g := gb649) (o := .cells #[.slice A0_0 l0_0.length c0_0, .int .i64 a0_1] 41 (0, 0)) (by exact uB BK649.out) hb); have n1_ := Aside0.mk (below_step (by exact q1 HB.out GE649.out) hb); have n2_ := Aside0.mk (hbox); have n3_ := Aside0.mk ((by rw [hg]; exact (below_size (by exact q1 HB.out GE649.out)) : w.heap.size ≤ gb650)); have n4_ := Aside0.mk ((by rw [hg]; exact (below_size (by exact q1 HB.out GE649.out)) : w.heap.size ≤ gb650)); have n5_ := Aside0.mk ((by rw [hg]; exact Nat.ne_of_lt (blk_lt (g := gb649) (o := .cells #[.slice A0_0 l0_0.length c0_0, .int .i64 a0_1] 41 (0, 0)) (by exact uB BK649.out)) : gb649 ≠ gb650)); have n6_ := Aside0.mk ((by rw [hg]; exact Nat.ne_of_gt (blk_lt (g := gb649) (o := .cells #[.slice A0_0 l0_0.length c0_0, .int .i64 a0_1] 41 (0, 0)) (by exact uB BK649.out)) : gb650 ≠ gb649)); clear BK649; clear HB; have BK649 := n0_; have HB := n1_; have BK650 := n2_; have GW650 := n3_; have GE650 := n4_; have NB649_650 := n5_; have NB650_649 := n6_; clear n0_ n1_ n2_ n3_ n4_ n5_ n6_; clear hb hbox hg; have hnb28 := NB649_650.out; have hnc28 := NB650_649.out; have hcz29_0 : w27.cell? ⟨gb649, 0, none⟩ = some (.slice A0_0 l0_0.length c0_0) := (blk_cell BK649.out 0).trans rfl; have hcz29_1 : w27.cell? ⟨gb649, 1, none⟩ = some (.int .i64 a0_1) := (blk_cell BK649.out 1).trans rfl; have hfz29_0 := blk_frozen BK649.out 0; have hfz29_1 := blk_frozen BK649.out 1) | ((with_reducible refine gate_callee (f := 25) rfl ?_); refine goesL_ (some 13) rfl rfl Try.func25 (by kernel_rfl) rfl #[.agg #[.slice A0_0 l0_0.length c0_0, .int .i64 a0_1], .int .i64 1048576] rfl (by (try simp only [List.map_toArray, List.map_cons, List.map_nil]); first | done | rfl | (simp only [List.length_drop, List.length_take]; rfl)) ?_; (with_reducible refine (laws_szTable.calls k _ _ l0_0 a0_1 1048576 t651 _ ?side1 ?side2 A3.out).mono ?_); (case side1 => repeat (first | exact (Kd.C_below HR0_0.out HB.out) | (with_reducible refine Kd.C_alloc ?_ _) | (with_reducible refine Kd.C_drewN ?_ _) | (with_reducible refine Kd.C_drew ?_))); (case side2 => exact HC0_0.out); rintro e w30 ⟨rfl, hb⟩; refine ⟨_, rfl, ?_⟩; have n0_ := Aside0.mk (blk_below (g := gb649) (o := .cells #[.slice A0_0 l0_0.length c0_0, .int .i64 a0_1] 41 (0, 0)) (by exact uB BK649.out) hb); have n1_ := Aside0.mk (blk_below (g := gb650) (o := .cells #[.string a1_0, .string a1_1, .bool a1_2] 56 (0, 0)) (by exact uB BK650.out) hb); have n2_ := Aside0.mk (below_step (by exact q2 HB.out GE649.out GE650.out) hb); clear BK649; clear BK650; clear HB; have BK649 := n0_; have BK650 := n1_; have HB := n2_; clear n0_ n1_ n2_; (try clear hb); (try clear hb2); (try clear hk); (try clear hi); have hcz31_0 : w30.cell? ⟨gb650, 0, none⟩ = some (.string a1_0) := (blk_cell BK650.out 0).trans rfl; have hcz31_1 : w30.cell? ⟨gb650, 1, none⟩ = some (.string a1_1) := (blk_cell BK650.out 1).trans rfl; have hcz31_2 : w30.cell? ⟨gb650, 2, none⟩ = some (.bool a1_2) := (blk_cell BK650.out 2).trans rfl; have hfz31_0 := blk_frozen BK650.out 0; have hfz31_1 := blk_frozen BK650.out 1; have hfz31_2 := blk_frozen BK650.out 2) | ((with_reducible refine gate_callee (f := 38) rfl ?_); refine goesL_ (some 18) rfl rfl Try.func38 (by kernel_rfl) rfl #[.agg #[.string a1_0, .string a1_1, .bool a1_2], .int .i64 t651] rfl (by (try simp only [List.map_toArray, List.map_cons, List.map_nil]); first | done | rfl | (simp only [List.length_drop, List.length_take]; rfl)) ?_; (with_reducible refine (laws_szField.calls a1_0 a1_1 a1_2 t651 t652 _ A10.out).mono ?_); rintro e w32 ⟨rfl, hb⟩; refine ⟨_, rfl, ?_⟩; have n0_ := Aside0.mk (blk_below (g := gb649) (o := .cells #[.slice A0_0 l0_0.length c0_0, .int .i64 a0_1] 41 (0, 0)) (by exact uB BK649.out) hb); have n1_ := Aside0.mk (blk_below (g := gb650) (o := .cells #[.string a1_0, .string a1_1, .bool a1_2] 56 (0, 0)) (by exact uB BK650.out) hb); have n2_ := Aside0.mk (below_step (by exact q2 HB.out GE649.out GE650.out) hb); clear BK649; clear BK650; clear HB; have BK649 := n0_; have BK650 := n1_; have HB := n2_; clear n0_ n1_ n2_; (try clear hb); (try clear hb2); (try clear hk); (try clear hi)))
 have n0_ := Aside0.mk (blk_drew BK649.out)
 have n1_ := Aside0.mk (blk_drew BK650.out)
 have n2_ := Aside0.mk (below_drew1 HB.out)
 clear BK649; clear BK650; clear HB; have BK649 := n0_; have BK650 := n1_; have HB := n2_; clear n0_ n1_ n2_
 refine start_ (n := 10) (S := fun w' => w'.cell? ⟨gb649, 0, none⟩ = some (.slice A0_0 l0_0.length c0_0) ∧ w'.cell? ⟨gb649, 1, none⟩ = some (.int .i64 a0_1) ∧ w'.cell? ⟨gb650, 0, none⟩ = some (.string a1_0) ∧ w'.cell? ⟨gb650, 1, none⟩ = some (.string a1_1) ∧ w'.cell? ⟨gb650, 2, none⟩ = some (.bool a1_2)) (ds := []) #[n,n,n,n,n,n,n,n,n,n] (by kernel_rfl) rfl rfl ⟨(blk_cell BK649.out 0).trans rfl, (blk_cell BK649.out 1).trans rfl, (blk_cell BK650.out 0).trans rfl, (blk_cell BK650.out 1).trans rfl, (blk_cell BK650.out 2).trans rfl⟩ (fun hHeld => ?_); refine with_tabW laws_FnExactTableFind.tab8 laws_FnExactTableFind.bits8 (fun HT_ HW_ => ?_)
 generalize w32.drew = w33 at BK649 BK650 HB hHeld ⊢
 refine take_ (i := 0) (N := some 22) (v := ?_) (a' := ?_) #[y,n,n,n,n,n,n,n,n,n] rfl rfl (take_ofW HT_.out HW_.out (by kernel_rfl)) (fun _ _ _ h => h) (Or.inl ⟨by rfl, ?_⟩) hHeld ?_ ?_; rotate_left; exact uV5; rotate_left; exact uP; refine take_ (i := 2) (N := some 24) (v := ?_) (a' := ?_) #[y,n,y,n,n,n,n,n,n,n] rfl rfl (take_ofW HT_.out HW_.out (by kernel_rfl)) (fun _ _ _ h => h) (Or.inl ⟨by rfl, ?_⟩) hHeld ?_ ?_; rotate_left; exact uV5; rotate_left; exact uP
 refine one_ (i := 1) (N := some 23) #[y,y,y,n,n,n,n,n,n,n] rfl rfl (one_of HT_.out (by kernel_rfl)) (by decide) (fun K hK => ?_)
 refine goes_ Try.func27 (by kernel_rfl) rfl #[.agg #[.slice A0_0 l0_0.length c0_0, .int .i64 a0_1]] (by rfl) rfl rfl (by (try simp only [List.map_toArray, List.map_cons, List.map_nil]); first | done | rfl | (simp only [List.length_drop, List.length_take]; rfl)) ?_
 with_reducible refine (laws_toTable.calls k _ _ l0_0 a0_1 t653 t656 _ ?side1 ?side2 A19.out).mono ?_
 (case side1 => repeat (first | exact (Kd.C_below HR0_0.out HB.out) | (with_reducible refine Kd.C_alloc ?_ _) | (with_reducible refine Kd.C_drewN ?_ _) | (with_reducible refine Kd.C_drew ?_)))
 (case side2 => exact HC0_0.out)
 rintro e w34 ⟨v654, rfl, ho0, hb⟩; refine ⟨_, rfl, ?_⟩
 have n0_ := Aside0.mk (Kd.R_lower ho0 (below_size (by exact q2 HB.out GE649.out GE650.out)))
 have n1_ := Aside0.mk (blk_below (g := gb649) (o := .cells #[.slice A0_0 l0_0.length c0_0, .int .i64 a0_1] 41 (0, 0)) (by exact uB BK649.out) hb)
 have n2_ := Aside0.mk (blk_below (g := gb650) (o := .cells #[.string a1_0, .string a1_1, .bool a1_2] 56 (0, 0)) (by exact uB BK650.out) hb)
 have n3_ := Aside0.mk (below_step (by exact q2 HB.out GE649.out GE650.out) hb)
 clear BK649; clear BK650; clear HB; have HO655 := n0_; have BK649 := n1_; have BK650 := n2_; have HB := n3_; clear n0_ n1_ n2_ n3_; (try clear hb); (try clear hb2); (try clear hk); (try clear hi); (try clear ho0)
 refine hK.out _ _ ⟨(blk_cell BK649.out 0).trans rfl, (blk_cell BK649.out 1).trans rfl, (blk_cell BK650.out 0).trans rfl, (blk_cell BK650.out 1).trans rfl, (blk_cell BK650.out 2).trans rfl⟩ (fun hHeld => ?_)
 clear hK K
 refine norm_ (a' := ?_) ?_ ?_
 rotate_left; show Act.put _ (some 23) _ = _; exact uP
 refine one_ (i := 3) (N := some 25) #[y,y,y,y,n,n,n,n,n,n] rfl rfl (one_of HT_.out (by kernel_rfl)) (by decide) (fun K hK => ?_)
 refine goes_ Try.func40 (by kernel_rfl) rfl #[.agg #[.string a1_0, .string a1_1, .bool a1_2]] (by rfl) rfl rfl (by (try simp only [List.map_toArray, List.map_cons, List.map_nil]); first | done | rfl | (simp only [List.length_drop, List.length_take]; rfl)) ?_
 with_reducible refine (laws_toField.calls a1_0 a1_1 a1_2 t657 t658 t659 _ A20.out).mono ?_
 rintro e w35 ⟨rfl, hb⟩; refine ⟨_, rfl, ?_⟩
 have n0_ := Aside0.mk (Kd.R_below (by exact uR HO655.out) hb)
 have n1_ := Aside0.mk (blk_below (g := gb649) (o := .cells #[.slice A0_0 l0_0.length c0_0, .int .i64 a0_1] 41 (0, 0)) (by exact uB BK649.out) hb)
 have n2_ := Aside0.mk (blk_below (g := gb650) (o := .cells #[.string a1_0, .string a1_1, .bool a1_2] 56 (0, 0)) (by exact uB BK650.out) hb)
 have n3_ := Aside0.mk (below_step (by exact q2 HB.out GE649.out GE650.out) hb)
 clear HO655; clear BK649; clear BK650; clear HB; have HO655 := n0_; have BK649 := n1_; have BK650 := n2_; have HB := n3_; clear n0_ n1_ n2_ n3_; (try clear hb); (try clear hb2); (try clear hk); (try clear hi)
 obtain ⟨Ao36, co36, eo36⟩ := Kd.R_slice HO655.out
 (first | subst eo36 | (injection eo36 with f1_ f2_ f3_; have f4_ := f1_.symm; have f5_ := f3_.symm; clear f1_ f2_ f3_; subst f4_; subst f5_))
 refine hK.out _ _ ⟨(blk_cell BK649.out 0).trans rfl, (blk_cell BK649.out 1).trans rfl, (blk_cell BK650.out 0).trans rfl, (blk_cell BK650.out 1).trans rfl, (blk_cell BK650.out 2).trans rfl⟩ (fun hHeld => ?_)
 clear hK K
 refine norm_ (a' := ?_) ?_ ?_
 rotate_left; show Act.put _ (some 25) _ = _; exact uP
 refine one_ (i := 4) (N := some 26) #[y,y,y,y,y,n,n,n,n,n] rfl rfl (one_of HT_.out (by kernel_rfl)) (by decide) (fun K hK => ?_)
 refine goes_ Try.func39 (by kernel_rfl) rfl #[.agg #[.slice Ao36 t653.length co36, .int .i64 t656], .agg #[.string t657, .string t658, .bool t659]] (by rfl) rfl rfl (by (try simp only [List.map_toArray, List.map_cons, List.map_nil]); first | done | rfl | (simp only [List.length_drop, List.length_take]; rfl)) ?_
 with_reducible refine (spec_TableFind.calls k _ _ t653 t656 t657 t658 t659 t660 t661 _ ?side1 ?side2 A21.out).mono ?_
 (case side1 => repeat (first | exact (Kd.R_reads' HO655.out).2.2 | (with_reducible refine Kd.C_alloc ?_ _) | (with_reducible refine Kd.C_drewN ?_ _) | (with_reducible refine Kd.C_drew ?_)))
 (case side2 => exact (Kd.R_reads' HO655.out).2.1)
 rintro e w37 ⟨rfl, hb⟩; refine ⟨_, rfl, ?_⟩
 have n0_ := Aside0.mk (Kd.R_below (by exact uR HO655.out) hb)
 have n1_ := Aside0.mk (blk_below (g := gb649) (o := .cells #[.slice A0_0 l0_0.length c0_0, .int .i64 a0_1] 41 (0, 0)) (by exact uB BK649.out) hb)
 have n2_ := Aside0.mk (blk_below (g := gb650) (o := .cells #[.string a1_0, .string a1_1, .bool a1_2] 56 (0, 0)) (by exact uB BK650.out) hb)
 have n3_ := Aside0.mk (below_step (by exact q2 HB.out GE649.out GE650.out) hb)
 clear HO655; clear BK649; clear BK650; clear HB; have HO655 := n0_; have BK649 := n1_; have BK650 := n2_; have HB := n3_; clear n0_ n1_ n2_ n3_; (try clear hb); (try clear hb2); (try clear hk); (try clear hi)
 refine hK.out _ _ ⟨(blk_cell BK649.out 0).trans rfl, (blk_cell BK649.out 1).trans rfl, (blk_cell BK650.out 0).trans rfl, (blk_cell BK650.out 1).trans rfl, (blk_cell BK650.out 2).trans rfl⟩ (fun hHeld => ?_)
 clear hK K
 refine norm_ (a' := ?_) ?_ ?_
 rotate_left; show Act.put _ (some 26) _ = _; exact uP; refine pure_ (i := 5) (N := some 21) (v := ?_) (a' := ?_) #[y,y,y,y,y,y,n,n,n,n] rfl rfl (any_of HT_.out (by kernel_rfl)) (fun _ _ _ h => h) (Or.inl ⟨by rfl, ?_⟩) ?_ ?_; rotate_left; exact uV; rotate_left; exact uP; refine pure_ (i := 6) (N := some 27) (v := ?_) (a' := ?_) #[y,y,y,y,y,y,y,n,n,n] rfl rfl (any_of HT_.out (by kernel_rfl)) (fun _ _ _ h => h) (Or.inl ⟨by rfl, ?_⟩) ?_ ?_; rotate_left; exact uV; rotate_left; exact uP; refine pure_ (i := 7) (N := some 28) (v := ?_) (a' := ?_) #[y,y,y,y,y,y,y,y,n,n] rfl rfl (any_of HT_.out (by kernel_rfl)) (fun _ _ _ h => h) (Or.inl ⟨by rfl, ?_⟩) ?_ ?_; rotate_left; exact uV; rotate_left; exact uP; refine pure_ (i := 8) (N := some 6) (v := ?_) (a' := ?_) #[y,y,y,y,y,y,y,y,y,n] rfl rfl (any_of HT_.out (by kernel_rfl)) (fun _ _ _ h => h) (Or.inl ⟨by rfl, ?_⟩) ?_ ?_; rotate_left; exact uV; rotate_left; exact uP; refine pure_ (i := 9) (N := some 7) (v := ?_) (a' := ?_) #[y,y,y,y,y,y,y,y,y,y] rfl rfl (any_of HT_.out (by kernel_rfl)) (fun _ _ _ h => h) (Or.inl ⟨by rfl, ?_⟩) ?_ ?_; rotate_left; exact uV; rotate_left; exact uP
 refine done_ (done_of HT_.out (by kernel_rfl)) ?_
 have hcz38_0 : w37.cell? ⟨gb649, 0, none⟩ = some (.slice A0_0 l0_0.length c0_0) := (blk_cell BK649.out 0).trans rfl
 have hcz38_1 : w37.cell? ⟨gb649, 1, none⟩ = some (.int .i64 a0_1) := (blk_cell BK649.out 1).trans rfl
 have hfz38_0 := blk_frozen BK649.out 0; have hfz38_1 := blk_frozen BK649.out 1
 try go_wp2_with (first | ((with_reducible refine gate_callee (f := 27) rfl ?_); refine goesL_ (some 30) rfl rfl Try.func27 (by kernel_rfl) rfl #[.agg #[.slice A0_0 l0_0.length c0_0, .int .i64 a0_1]] rfl (by (try simp only [List.map_toArray, List.map_cons, List.map_nil]); first | done | rfl | (simp only [List.length_drop, List.length_take]; rfl)) ?_; (with_reducible refine (laws_toTable.calls k _ _ l0_0 a0_1 t662 t665 _ ?side1 ?side2 A22.out).mono ?_); (case side1 => repeat (first | exact (Kd.C_below HR0_0.out HB.out) | (with_reducible refine Kd.C_alloc ?_ _) | (with_reducible refine Kd.C_drewN ?_ _) | (with_reducible refine Kd.C_drew ?_))); (case side2 => exact HC0_0.out); rintro e w39 ⟨v663, rfl, ho0, hb⟩; refine ⟨_, rfl, ?_⟩; have n0_ := Aside0.mk (Kd.R_elder' (by exact uR HO655.out) (Kd.R_base ho0) hb); have n1_ := Aside0.mk (Kd.R_lower (Kd.R_new' ho0 (Kd.R_lt (by exact uR HO655.out))) (below_size (by exact q2 HB.out GE649.out GE650.out))); have n2_ := Aside0.mk (blk_below (g := gb649) (o := .cells #[.slice A0_0 l0_0.length c0_0, .int .i64 a0_1] 41 (0, 0)) (by exact uB BK649.out) hb); have n3_ := Aside0.mk (blk_below (g := gb650) (o := .cells #[.string a1_0, .string a1_1, .bool a1_2] 56 (0, 0)) (by exact uB BK650.out) hb); have n4_ := Aside0.mk (below_step (by exact q2 HB.out GE649.out GE650.out) hb); clear HO655; clear BK649; clear BK650; clear HB; have HO655 := n0_; have HO664 := n1_; have BK649 := n2_; have BK650 := n3_; have HB := n4_; clear n0_ n1_ n2_ n3_ n4_; (try clear hb); (try clear hb2); (try clear hk); (try clear hi); (try clear ho0)) | ((with_reducible refine gate_dst (N := 8) rfl ?_); refine box_event ?hg (N := 8) ?hd (cs := #[.slice none 0 0, .int .i64 0]) (t := 45) ?hr ?_; (case hd => rfl); (case hg => rfl); (case hr => first | (go_simp; done) | (go_simp; rfl)); intro gb666 hg w40 hbox hb; have n0_ := Aside0.mk (Kd.R_below (by exact uR HO655.out) hb); have n1_ := Aside0.mk (Kd.R_below (by exact uR HO664.out) hb); have n2_ := Aside0.mk (blk_below (g := gb649) (o := .cells #[.slice A0_0 l0_0.length c0_0, .int .i64 a0_1] 41 (0, 0)) (by exact uB BK649.out) hb); have n3_ := Aside0.mk (blk_below (g := gb650) (o := .cells #[.string a1_0, .string a1_1, .bool a1_2] 56 (0, 0)) (by exact uB BK650.out) hb); have n4_ := Aside0.mk (below_step (by exact q2 HB.out GE649.out GE650.out) hb); have n5_ := Aside0.mk (hbox); have n6_ := Aside0.mk ((by rw [hg]; exact (below_size (by exact q2 HB.out GE649.out GE650.out)) : w.heap.size ≤ gb666)); have n7_ := Aside0.mk ((by rw [hg]; exact (below_size (by exact q2 HB.out GE649.out GE650.out)) : w.heap.size ≤ gb666)); have n8_ := Aside0.mk ((by rw [hg]; exact Nat.ne_of_lt (blk_lt (g := gb649) (o := .cells #[.slice A0_0 l0_0.length c0_0, .int .i64 a0_1] 41 (0, 0)) (by exact uB BK649.out)) : gb649 ≠ gb666)); have n9_ := Aside0.mk ((by rw [hg]; exact Nat.ne_of_gt (blk_lt (g := gb649) (o := .cells #[.slice A0_0 l0_0.length c0_0, .int .i64 a0_1] 41 (0, 0)) (by exact uB BK649.out)) : gb666 ≠ gb649)); have n10_ := Aside0.mk ((by rw [hg]; exact Nat.ne_of_lt (blk_lt (g := gb650) (o := .cells #[.string a1_0, .string a1_1, .bool a1_2] 56 (0, 0)) (by exact uB BK650.out)) : gb650 ≠ gb666)); have n11_ := Aside0.mk ((by rw [hg]; exact Nat.ne_of_gt (blk_lt (g := gb650) (o := .cells #[.string a1_0, .string a1_1, .bool a1_2] 56 (0, 0)) (by exact uB BK650.out)) : gb666 ≠ gb650)); clear HO655; clear HO664; clear BK649; clear BK650; clear HB; have HO655 := n0_; have HO664 := n1_; have BK649 := n2_; have BK650 := n3_; have HB := n4_; have BK666 := n5_; have GW666 := n6_; have GE666 := n7_; have NB649_666 := n8_; have NB666_649 := n9_; have NB650_666 := n10_; have NB666_650 := n11_; clear n0_ n1_ n2_ n3_ n4_ n5_ n6_ n7_ n8_ n9_ n10_ n11_; clear hb hbox hg; obtain ⟨Ao41, co41, eo41⟩ := Kd.R_slice HO664.out; subst eo41; have hnb42 := NB666_649.out; have hnc42 := NB649_666.out; have hnb43 := NB666_650.out; have hnc43 := NB650_666.out; have hcz44_0 : w40.cell? ⟨gb666, 0, none⟩ = some (.slice none 0 0) := (blk_cell BK666.out 0).trans rfl; have hcz44_1 : w40.cell? ⟨gb666, 1, none⟩ = some (.int .i64 0) := (blk_cell BK666.out 1).trans rfl; have hfz44_0 := blk_frozen BK666.out 0; have hfz44_1 := blk_frozen BK666.out 1))
 have n0_ : Aside0 (Kd.R k32 32 ((w40.setCell ⟨gb666, 0, none⟩ (.slice Ao41 t662.length co41)).setCell ⟨gb666, 1, none⟩ (.int .i64 t665)) w.heap.size (fun k_ => some k_ ≠ (.slice Ao41 t662.length co41 : Value).ownBlock) (.slice Ao36 t653.length co36) t653) := ⟨by refine uR ?_; exact Kd.R_mono (Kd.R_far (p := ⟨gb666, 1, none⟩) (Kd.R_far (p := ⟨gb666, 0, none⟩) (Kd.R_types HO655.out BK666.out (by decide)) (fun _ hk => hk.2) (.slice Ao41 t662.length co41)) (fun _ hk => hk.2) (.int .i64 t665)) (fun _ hk => hk.1.2)⟩
 have n1_ : Aside0 (Kd.R k32 32 ((w40.setCell ⟨gb666, 0, none⟩ (.slice Ao41 t662.length co41)).setCell ⟨gb666, 1, none⟩ (.int .i64 t665)) w.heap.size (fun k_ => some k_ ≠ (.slice Ao36 t653.length co36 : Value).ownBlock) (.slice Ao41 t662.length co41) t662) := ⟨by refine uR ?_; exact Kd.R_mono (Kd.R_far (p := ⟨gb666, 1, none⟩) (Kd.R_far (p := ⟨gb666, 0, none⟩) (Kd.R_types HO664.out BK666.out (by decide)) (fun _ hk => hk.2) (.slice Ao41 t662.length co41)) (fun _ hk => hk.2) (.int .i64 t665)) (fun _ hk => hk.1.2)⟩
 have n2_ : Aside0 (((w40.setCell ⟨gb666, 0, none⟩ (.slice Ao41 t662.length co41)).setCell ⟨gb666, 1, none⟩ (.int .i64 t665)).heap[gb649]? = some (.cells #[.slice A0_0 l0_0.length c0_0, .int .i64 a0_1] 41 (0, 0))) := ⟨by refine uB ?_; refine blk_far ?_ NB649_666.out _; refine uB ?_; refine blk_far ?_ NB649_666.out _; refine uB ?_; exact BK649.out⟩
 have n3_ : Aside0 (((w40.setCell ⟨gb666, 0, none⟩ (.slice Ao41 t662.length co41)).setCell ⟨gb666, 1, none⟩ (.int .i64 t665)).heap[gb650]? = some (.cells #[.string a1_0, .string a1_1, .bool a1_2] 56 (0, 0))) := ⟨by refine uB ?_; refine blk_far ?_ NB650_666.out _; refine uB ?_; refine blk_far ?_ NB650_666.out _; refine uB ?_; exact BK650.out⟩
 have n4_ : Aside0 (((w40.setCell ⟨gb666, 0, none⟩ (.slice Ao41 t662.length co41)).setCell ⟨gb666, 1, none⟩ (.int .i64 t665)).heap[gb666]? = some (.cells #[.slice Ao41 t662.length co41, .int .i64 t665] 45 (0, 0))) := ⟨by refine uB ?_; refine blk_put (cs := #[.slice Ao41 t662.length co41, .int .i64 0]) ?_ 1 _ rfl; refine uB ?_; refine blk_put (cs := #[.slice none 0 0, .int .i64 0]) ?_ 0 _ rfl; refine uB ?_; exact BK666.out⟩
 have n5_ : Aside0 (Below w.heap.size w ((w40.setCell ⟨gb666, 0, none⟩ (.slice Ao41 t662.length co41)).setCell ⟨gb666, 1, none⟩ (.int .i64 t665))) := ⟨by exact q3 HB.out GE649.out GE650.out GE666.out⟩
 (try clear HO655); (try clear HO664); (try clear BK649); (try clear BK650); (try clear BK666); (try clear HB)
 generalize ((w40.setCell ⟨gb666, 0, none⟩ (.slice Ao41 t662.length co41)).setCell ⟨gb666, 1, none⟩ (.int .i64 t665)) = w45 at n0_ n1_ n2_ n3_ n4_ n5_ ⊢
 have HO655 := n0_; have HO664 := n1_; have BK649 := n2_; have BK650 := n3_; have BK666 := n4_; have HB := n5_; clear n0_ n1_ n2_ n3_ n4_ n5_
 have n0_ := Aside0.mk (Kd.R_drew HO655.out)
 have n1_ := Aside0.mk (Kd.R_drew HO664.out)
 have n2_ := Aside0.mk (blk_drew BK649.out)
 have n3_ := Aside0.mk (blk_drew BK650.out)
 have n4_ := Aside0.mk (blk_drew BK666.out)
 have n5_ := Aside0.mk (below_drew1 HB.out)
 clear HO655; clear HO664; clear BK649; clear BK650; clear BK666; clear HB; have HO655 := n0_; have HO664 := n1_; have BK649 := n2_; have BK650 := n3_; have BK666 := n4_; have HB := n5_; clear n0_ n1_ n2_ n3_ n4_ n5_
 refine start_ (n := 9) (S := fun w' => w'.cell? ⟨gb666, 0, none⟩ = some (.slice Ao41 t662.length co41) ∧ w'.cell? ⟨gb666, 1, none⟩ = some (.int .i64 t665) ∧ w'.cell? ⟨gb650, 0, none⟩ = some (.string a1_0) ∧ w'.cell? ⟨gb650, 1, none⟩ = some (.string a1_1) ∧ w'.cell? ⟨gb650, 2, none⟩ = some (.bool a1_2)) (ds := []) #[n,n,n,n,n,n,n,n,n] (by kernel_rfl) rfl rfl ⟨(blk_cell BK666.out 0).trans rfl, (blk_cell BK666.out 1).trans rfl, (blk_cell BK650.out 0).trans rfl, (blk_cell BK650.out 1).trans rfl, (blk_cell BK650.out 2).trans rfl⟩ (fun hHeld => ?_); refine with_tabW laws_FnExactTableFind.tab10 laws_FnExactTableFind.bits10 (fun HT_ HW_ => ?_)
 generalize w45.drew = w46 at HO655 HO664 BK649 BK650 BK666 HB hHeld ⊢
 refine take_ (i := 0) (N := some 32) (v := ?_) (a' := ?_) #[y,n,n,n,n,n,n,n,n] rfl rfl (take_ofW HT_.out HW_.out (by kernel_rfl)) (fun _ _ _ h => h) (Or.inl ⟨by rfl, ?_⟩) hHeld ?_ ?_; rotate_left; exact uV5; rotate_left; exact uP; refine take_ (i := 1) (N := some 33) (v := ?_) (a' := ?_) #[y,y,n,n,n,n,n,n,n] rfl rfl (take_ofW HT_.out HW_.out (by kernel_rfl)) (fun _ _ _ h => h) (Or.inl ⟨by rfl, ?_⟩) hHeld ?_ ?_; rotate_left; exact uV5; rotate_left; exact uP
 refine one_ (i := 2) (N := some 34) #[y,y,y,n,n,n,n,n,n] rfl rfl (one_of HT_.out (by kernel_rfl)) (by decide) (fun K hK => ?_)
 refine goes_ Try.func40 (by kernel_rfl) rfl #[.agg #[.string a1_0, .string a1_1, .bool a1_2]] (by rfl) rfl rfl (by (try simp only [List.map_toArray, List.map_cons, List.map_nil]); first | done | rfl | (simp only [List.length_drop, List.length_take]; rfl)) ?_
 with_reducible refine (laws_toField.calls a1_0 a1_1 a1_2 t667 t668 t669 _ A23.out).mono ?_
 rintro e w47 ⟨rfl, hb⟩; refine ⟨_, rfl, ?_⟩
 have n0_ := Aside0.mk (Kd.R_below (by exact uR HO655.out) hb)
 have n1_ := Aside0.mk (Kd.R_below (by exact uR HO664.out) hb)
 have n2_ := Aside0.mk (blk_below (g := gb649) (o := .cells #[.slice A0_0 l0_0.length c0_0, .int .i64 a0_1] 41 (0, 0)) (by exact uB BK649.out) hb)
 have n3_ := Aside0.mk (blk_below (g := gb650) (o := .cells #[.string a1_0, .string a1_1, .bool a1_2] 56 (0, 0)) (by exact uB BK650.out) hb)
 have n4_ := Aside0.mk (blk_below (g := gb666) (o := .cells #[.slice Ao41 t662.length co41, .int .i64 t665] 45 (0, 0)) (by exact uB BK666.out) hb)
 have n5_ := Aside0.mk (below_step (by exact q3 HB.out GE649.out GE650.out GE666.out) hb)
 clear HO655; clear HO664; clear BK649; clear BK650; clear BK666; clear HB; have HO655 := n0_; have HO664 := n1_; have BK649 := n2_; have BK650 := n3_; have BK666 := n4_; have HB := n5_; clear n0_ n1_ n2_ n3_ n4_ n5_; (try clear hb); (try clear hb2); (try clear hk); (try clear hi)
 refine hK.out _ _ ⟨(blk_cell BK666.out 0).trans rfl, (blk_cell BK666.out 1).trans rfl, (blk_cell BK650.out 0).trans rfl, (blk_cell BK650.out 1).trans rfl, (blk_cell BK650.out 2).trans rfl⟩ (fun hHeld => ?_)
 clear hK K
 refine norm_ (a' := ?_) ?_ ?_
 rotate_left; show Act.put _ (some 34) _ = _; exact uP
 refine one_ (i := 3) (N := some 35) #[y,y,y,y,n,n,n,n,n] rfl rfl (one_of HT_.out (by kernel_rfl)) (by decide) (fun K hK => ?_)
 refine goes_ Try.func41 (by kernel_rfl) rfl #[.agg #[.slice Ao41 t662.length co41, .int .i64 t665], .agg #[.string t667, .string t668, .bool t669]] (by rfl) rfl rfl (by (try simp only [List.map_toArray, List.map_cons, List.map_nil]); first | done | rfl | (simp only [List.length_drop, List.length_take]; rfl)) ?_
 with_reducible refine (impl_TableFind.calls k _ _ t662 t665 t667 t668 t669 t670 t671 _ ?side1 ?side2 A24.out).mono ?_
 (case side1 => repeat (first | exact (Kd.R_reads' HO664.out).2.2 | (with_reducible refine Kd.C_alloc ?_ _) | (with_reducible refine Kd.C_drewN ?_ _) | (with_reducible refine Kd.C_drew ?_)))
 (case side2 => exact (Kd.R_reads' HO664.out).2.1)
 rintro e w48 ⟨rfl, hb⟩; refine ⟨_, rfl, ?_⟩
 have n0_ := Aside0.mk (Kd.R_below (by exact uR HO655.out) hb)
 have n1_ := Aside0.mk (Kd.R_below (by exact uR HO664.out) hb)
 have n2_ := Aside0.mk (blk_below (g := gb649) (o := .cells #[.slice A0_0 l0_0.length c0_0, .int .i64 a0_1] 41 (0, 0)) (by exact uB BK649.out) hb)
 have n3_ := Aside0.mk (blk_below (g := gb650) (o := .cells #[.string a1_0, .string a1_1, .bool a1_2] 56 (0, 0)) (by exact uB BK650.out) hb)
 have n4_ := Aside0.mk (blk_below (g := gb666) (o := .cells #[.slice Ao41 t662.length co41, .int .i64 t665] 45 (0, 0)) (by exact uB BK666.out) hb)
 have n5_ := Aside0.mk (below_step (by exact q3 HB.out GE649.out GE650.out GE666.out) hb)
 clear HO655; clear HO664; clear BK649; clear BK650; clear BK666; clear HB; have HO655 := n0_; have HO664 := n1_; have BK649 := n2_; have BK650 := n3_; have BK666 := n4_; have HB := n5_; clear n0_ n1_ n2_ n3_ n4_ n5_; (try clear hb); (try clear hb2); (try clear hk); (try clear hi)
 refine hK.out _ _ ⟨(blk_cell BK666.out 0).trans rfl, (blk_cell BK666.out 1).trans rfl, (blk_cell BK650.out 0).trans rfl, (blk_cell BK650.out 1).trans rfl, (blk_cell BK650.out 2).trans rfl⟩ (fun hHeld => ?_)
 clear hK K
 refine norm_ (a' := ?_) ?_ ?_
 rotate_left; show Act.put _ (some 35) _ = _; exact uP; refine pure_ (i := 4) (N := some 31) (v := ?_) (a' := ?_) #[y,y,y,y,y,n,n,n,n] rfl rfl (any_of HT_.out (by kernel_rfl)) (fun _ _ _ h => h) (Or.inl ⟨by rfl, ?_⟩) ?_ ?_; rotate_left; exact uV; rotate_left; exact uP; refine pure_ (i := 5) (N := some 36) (v := ?_) (a' := ?_) #[y,y,y,y,y,y,n,n,n] rfl rfl (any_of HT_.out (by kernel_rfl)) (fun _ _ _ h => h) (Or.inl ⟨by rfl, ?_⟩) ?_ ?_; rotate_left; exact uV; rotate_left; exact uP; refine pure_ (i := 6) (N := some 37) (v := ?_) (a' := ?_) #[y,y,y,y,y,y,y,n,n] rfl rfl (any_of HT_.out (by kernel_rfl)) (fun _ _ _ h => h) (Or.inl ⟨by rfl, ?_⟩) ?_ ?_; rotate_left; exact uV; rotate_left; exact uP; refine pure_ (i := 7) (N := some 9) (v := ?_) (a' := ?_) #[y,y,y,y,y,y,y,y,n] rfl rfl (any_of HT_.out (by kernel_rfl)) (fun _ _ _ h => h) (Or.inl ⟨by rfl, ?_⟩) ?_ ?_; rotate_left; exact uV; rotate_left; exact uP; refine pure_ (i := 8) (N := some 10) (v := ?_) (a' := ?_) #[y,y,y,y,y,y,y,y,y] rfl rfl (any_of HT_.out (by kernel_rfl)) (fun _ _ _ h => h) (Or.inl ⟨by rfl, ?_⟩) ?_ ?_; rotate_left; exact uV; rotate_left; exact uP
 refine done_ (done_of HT_.out (by kernel_rfl)) ?_
 go_upto_region 11 with (fail)
 go_cut [45] (fun v45 wc => ∃ (kq : Nat) (x45_24 : Bool), v45 = .bool x45_24 ∧ Aside0 (laws_FnExactTableFind.j0 kq x45_24 l0_0 a0_1 t662 t665 = some r) ∧ Aside0 (kq ≤ k) ∧ Aside0 (Kd.R k32 32 wc w.heap.size (fun _ => True) (.slice Ao41 t662.length co41) t662) ∧ Aside0 (wc.heap[gb649]? = some (.cells #[(.slice A0_0 l0_0.length c0_0), .int .i64 a0_1] 41 (0, 0))) ∧ Aside0 (wc.heap[gb650]? = some (.cells #[.string a1_0, .string a1_1, .bool a1_2] 56 (0, 0))) ∧ Aside0 (wc.heap[gb666]? = some (.cells #[(.slice Ao41 t662.length co41), .int .i64 t665] 45 (0, 0))) ∧ Aside0 (Below w.heap.size w wc))
 case first =>
  have H := HC25.out; clear HC25
  by_cases c49 : t670 = t660
  · rw [if_pos c49] at H
    have c49b0 : (t670 == t660) = true := beq_iff_eq.mpr c49
    have c49b1 : (t670 != t660) = false := bne_eq_false_iff_eq.mpr c49
    clear c49
    (first | rw [c49b0] | (simp only [i64_w, i32_w]; rw [c49b0]) | skip)
    have H' := Aside0.mk H; clear H; go_wp2; go_meet
    case rel => exact ⟨_, ((t671 != t661)), (by first | rfl | (simp; done) | (simp [*]; done)), H', ⟨by first | omega | exact Nat.le_refl _⟩, ⟨by refine uR ?_; exact Kd.R_mono HO664.out (fun _ hk => trivial)⟩, ⟨by exact uB BK649.out⟩, ⟨by exact uB BK650.out⟩, ⟨by exact uB BK666.out⟩, ⟨by exact q3 HB.out GE649.out GE650.out GE666.out⟩⟩
  rw [if_neg c49] at H
  have c49b0 : (t670 == t660) = false := beq_eq_false_iff_ne.mpr c49
  have c49b1 : (t670 != t660) = true := bne_iff_ne.mpr c49
  (first | rw [c49b0] | (simp only [i64_w, i32_w]; rw [c49b0]) | skip)
  have H' := Aside0.mk H; clear H; go_wp2; go_meet
  case rel => exact ⟨_, (true), (by first | rfl | (simp; done) | (simp [*]; done)), H', ⟨by first | omega | exact Nat.le_refl _⟩, ⟨by refine uR ?_; exact Kd.R_mono HO664.out (fun _ hk => trivial)⟩, ⟨by exact uB BK649.out⟩, ⟨by exact uB BK650.out⟩, ⟨by exact uB BK666.out⟩, ⟨by exact q3 HB.out GE649.out GE650.out GE666.out⟩⟩
 case rest =>
  clear HC25; (try clear c1); (try clear c2); (try clear p2); (try clear c3); (try clear c4); (try clear c4b0); (try clear c7); (try clear c11); (try clear c11b0); (try clear c12); (try clear c14); (try clear c25); (try clear c27); (try clear c28); (try clear c38); (try clear c39); (try clear c40); (try clear c41); (try clear c42); (try clear c43); (try clear c49); (try clear c49b0); (try clear c49b1); (try clear hcz15_0); (try clear hcz15_1); (try clear hcz17_0); (try clear hcz17_1); (try clear hcz17_2); (try clear hcz29_0); (try clear hcz29_1); (try clear hcz31_0); (try clear hcz31_1); (try clear hcz31_2); (try clear hcz38_0); (try clear hcz38_1); (try clear hcz44_0); (try clear hcz44_1); (try clear hcz8_0); (try clear hcz8_1); (try clear hfz15_0); (try clear hfz15_1); (try clear hfz17_0); (try clear hfz17_1); (try clear hfz17_2); (try clear hfz29_0); (try clear hfz29_1); (try clear hfz31_0); (try clear hfz31_1); (try clear hfz31_2); (try clear hfz38_0); (try clear hfz38_1); (try clear hfz44_0); (try clear hfz44_1); (try clear hfz8_0); (try clear hfz8_1); obtain ⟨kq, x45_24, rfl, HA, HJ24, HO_667000, BK649, BK650, BK666, HB⟩ := hcut
  cases kq with
  | zero => exact absurd HA.out (by simp [laws_FnExactTableFind.j0])
  | succ kj24 =>
   have H := HA.out; clear HA
   simp only [laws_FnExactTableFind.j0] at H
   by_cases c50 : x45_24 = true
   · subst c50
     have H1 : (some false) = some r := by rw [if_pos rfl] at H; exact H
     clear H; have H := H1; clear H1
     obtain rfl := Option.some.inj H
     go_wp2
     go_ret
     exact ⟨by first | rfl | (simp [errW_none, errW_some] <;> rfl) | (simp [*, errW_none, errW_some] <;> rfl), by exact q3 HB.out GE649.out GE650.out GE666.out⟩
   replace c50 := Bool.eq_false_iff.mpr c50
   subst c50
   have H1 : ((laws_toTable.f kj24 l0_0 a0_1).bind fun bt672 => ((laws_eqTable.f kj24 t662 t665 bt672.1 bt672.2).bind fun t676 => (if t676 = true then (some true) else (some false)))) = some r := by rw [if_neg (show ¬ (false = true) by decide)] at H; exact H
   clear H; have H := H1; clear H1; replace H := Option.bind_eq_some_iff.mp H; obtain ⟨⟨t672, t675⟩, A510, H⟩ := H
   replace H : ((laws_eqTable.f kj24 t662 t665 t672 t675).bind fun t676 => (if t676 = true then (some true) else (some false))) = some r := H
   have A51 := Aside0.mk A510; clear A510; replace H := Option.bind_eq_some_iff.mp H; obtain ⟨t676, A520, H⟩ := H
   replace H : (if t676 = true then (some true) else (some false)) = some r := H
   have A52 := Aside0.mk A520; clear A520
   by_cases c53 : t676 = true
   · subst c53
     have H1 : (some true) = some r := by rw [if_pos rfl] at H; exact H
     clear H; have H := H1; clear H1
     obtain rfl := Option.some.inj H
     try go_wp2
     have n0_ := Aside0.mk (Kd.R_drew HO_667000.out)
     have n1_ := Aside0.mk (blk_drew BK649.out)
     have n2_ := Aside0.mk (blk_drew BK650.out)
     have n3_ := Aside0.mk (blk_drew BK666.out)
     have n4_ := Aside0.mk (below_drew1 HB.out)
     clear HO_667000; clear BK649; clear BK650; clear BK666; clear HB; have HO_667000 := n0_; have BK649 := n1_; have BK650 := n2_; have BK666 := n3_; have HB := n4_; clear n0_ n1_ n2_ n3_ n4_
     refine start_ (n := 5) (S := fun w' => w'.cell? ⟨gb666, 0, none⟩ = some (.slice Ao41 t662.length co41) ∧ w'.cell? ⟨gb666, 1, none⟩ = some (.int .i64 t665) ∧ w'.cell? ⟨gb649, 0, none⟩ = some (.slice A0_0 l0_0.length c0_0) ∧ w'.cell? ⟨gb649, 1, none⟩ = some (.int .i64 a0_1)) (ds := []) #[n,n,n,n,n] (by kernel_rfl) rfl rfl ⟨(blk_cell BK666.out 0).trans rfl, (blk_cell BK666.out 1).trans rfl, (blk_cell BK649.out 0).trans rfl, (blk_cell BK649.out 1).trans rfl⟩ (fun hHeld => ?_)
     generalize wc.drew = w54 at HO_667000 BK649 BK650 BK666 HB hHeld ⊢
     refine take_ (i := 0) (N := some 46) (v := ?_) (a' := ?_) #[y,n,n,n,n] rfl rfl (by kernel_rfl) (fun _ _ _ h => h) (Or.inl ⟨by rfl, ?_⟩) hHeld ?_ ?_; rotate_left; exact uV4; rotate_left; exact uP; refine take_ (i := 1) (N := some 47) (v := ?_) (a' := ?_) #[y,y,n,n,n] rfl rfl (by kernel_rfl) (fun _ _ _ h => h) (Or.inl ⟨by rfl, ?_⟩) hHeld ?_ ?_; rotate_left; exact uV4; rotate_left; exact uP
     refine one_ (i := 2) (N := some 48) #[y,y,y,n,n] rfl rfl (by kernel_rfl) (by decide) (fun K hK => ?_)
     refine goes_ Try.func27 (by kernel_rfl) rfl #[.agg #[.slice A0_0 l0_0.length c0_0, .int .i64 a0_1]] (by rfl) rfl rfl (by (try simp only [List.map_toArray, List.map_cons, List.map_nil]); first | done | rfl | (simp only [List.length_drop, List.length_take]; rfl)) ?_
     with_reducible refine (laws_toTable.calls kj24 _ _ l0_0 a0_1 t672 t675 _ ?side1 ?side2 A51.out).mono ?_
     (case side1 => repeat (first | exact (Kd.C_below HR0_0.out HB.out) | (with_reducible refine Kd.C_alloc ?_ _) | (with_reducible refine Kd.C_drewN ?_ _) | (with_reducible refine Kd.C_drew ?_)))
     (case side2 => exact HC0_0.out)
     rintro e w55 ⟨v673, rfl, ho0, hb⟩; refine ⟨_, rfl, ?_⟩
     have n0_ := Aside0.mk (Kd.R_elder' (by exact uR HO_667000.out) (Kd.R_base ho0) hb)
     have n1_ := Aside0.mk (Kd.R_lower (Kd.R_new' ho0 (Kd.R_lt (by exact uR HO_667000.out))) (below_size (by exact q3 HB.out GE649.out GE650.out GE666.out)))
     have n2_ := Aside0.mk (blk_below (g := gb649) (o := .cells #[.slice A0_0 l0_0.length c0_0, .int .i64 a0_1] 41 (0, 0)) (by exact uB BK649.out) hb)
     have n3_ := Aside0.mk (blk_below (g := gb650) (o := .cells #[.string a1_0, .string a1_1, .bool a1_2] 56 (0, 0)) (by exact uB BK650.out) hb)
     have n4_ := Aside0.mk (blk_below (g := gb666) (o := .cells #[.slice Ao41 t662.length co41, .int .i64 t665] 45 (0, 0)) (by exact uB BK666.out) hb)
     have n5_ := Aside0.mk (below_step (by exact q3 HB.out GE649.out GE650.out GE666.out) hb)
     clear HO_667000; clear BK649; clear BK650; clear BK666; clear HB; have HO_667000 := n0_; have HO674 := n1_; have BK649 := n2_; have BK650 := n3_; have BK666 := n4_; have HB := n5_; clear n0_ n1_ n2_ n3_ n4_ n5_; (try clear hb); (try clear hb2); (try clear hk); (try clear hi); (try clear ho0)
     obtain ⟨Ao56, co56, eo56⟩ := Kd.R_slice HO674.out
     (first | subst eo56 | (injection eo56 with f1_ f2_ f3_; have f4_ := f1_.symm; have f5_ := f3_.symm; clear f1_ f2_ f3_; subst f4_; subst f5_))
     refine hK.out _ _ ⟨(blk_cell BK666.out 0).trans rfl, (blk_cell BK666.out 1).trans rfl, (blk_cell BK649.out 0).trans rfl, (blk_cell BK649.out 1).trans rfl⟩ (fun hHeld => ?_)
     clear hK K
     refine norm_ (a' := ?_) ?_ ?_
     rotate_left; show Act.put _ (some 48) _ = _; exact uP
     refine one_ (i := 3) (N := some 49) #[y,y,y,y,n] rfl rfl (by kernel_rfl) (by decide) (fun K hK => ?_)
     refine goes_ Try.func29 (by kernel_rfl) rfl #[.agg #[.slice Ao41 t662.length co41, .int .i64 t665], .agg #[.slice Ao56 t672.length co56, .int .i64 t675]] (by rfl) rfl rfl (by (try simp only [List.map_toArray, List.map_cons, List.map_nil]); first | done | rfl | (simp only [List.length_drop, List.length_take]; rfl)) ?_
     with_reducible refine (laws_eqTable.calls kj24 _ _ t662 t665 _ _ t672 t675 true _ ?side1 ?side2 ?side3 ?side4 A52.out).mono ?_
     (case side1 => repeat (first | exact (Kd.R_reads' HO_667000.out).2.2 | (with_reducible refine Kd.C_alloc ?_ _) | (with_reducible refine Kd.C_drewN ?_ _) | (with_reducible refine Kd.C_drew ?_)))
     (case side2 => exact (Kd.R_reads' HO_667000.out).2.1)
     (case side3 => repeat (first | exact (Kd.R_reads' HO674.out).2.2 | (with_reducible refine Kd.C_alloc ?_ _) | (with_reducible refine Kd.C_drewN ?_ _) | (with_reducible refine Kd.C_drew ?_)))
     (case side4 => exact (Kd.R_reads' HO674.out).2.1)
     rintro e w57 ⟨rfl, hb⟩; refine ⟨_, rfl, ?_⟩
     have n0_ := Aside0.mk (Kd.R_below (by exact uR HO_667000.out) hb)
     have n1_ := Aside0.mk (Kd.R_below (by exact uR HO674.out) hb)
     have n2_ := Aside0.mk (blk_below (g := gb649) (o := .cells #[.slice A0_0 l0_0.length c0_0, .int .i64 a0_1] 41 (0, 0)) (by exact uB BK649.out) hb)
     have n3_ := Aside0.mk (blk_below (g := gb650) (o := .cells #[.string a1_0, .string a1_1, .bool a1_2] 56 (0, 0)) (by exact uB BK650.out) hb)
     have n4_ := Aside0.mk (blk_below (g := gb666) (o := .cells #[.slice Ao41 t662.length co41, .int .i64 t665] 45 (0, 0)) (by exact uB BK666.out) hb)
     have n5_ := Aside0.mk (below_step (by exact q3 HB.out GE649.out GE650.out GE666.out) hb)
     clear HO_667000; clear HO674; clear BK649; clear BK650; clear BK666; clear HB; have HO_667000 := n0_; have HO674 := n1_; have BK649 := n2_; have BK650 := n3_; have BK666 := n4_; have HB := n5_; clear n0_ n1_ n2_ n3_ n4_ n5_; (try clear hb); (try clear hb2); (try clear hk); (try clear hi)
     refine hK.out _ _ ⟨(blk_cell BK666.out 0).trans rfl, (blk_cell BK666.out 1).trans rfl, (blk_cell BK649.out 0).trans rfl, (blk_cell BK649.out 1).trans rfl⟩ (fun hHeld => ?_)
     clear hK K
     refine norm_ (a' := ?_) ?_ ?_
     rotate_left; show Act.put _ (some 49) _ = _; exact uP; refine pure_ (i := 4) (N := some 50) (v := ?_) (a' := ?_) #[y,y,y,y,y] rfl rfl (by kernel_rfl) (fun _ _ _ h => h) (Or.inl ⟨by rfl, ?_⟩) ?_ ?_; rotate_left; exact uV; rotate_left; exact uP
     refine done_ (by kernel_rfl) ?_
     try go_wp2
     go_ret
     exact ⟨by first | rfl | (simp [errW_none, errW_some] <;> rfl) | (simp [*, errW_none, errW_some] <;> rfl), by exact q3 HB.out GE649.out GE650.out GE666.out⟩
   replace c53 := Bool.eq_false_iff.mpr c53
   subst c53
   have H1 : (some false) = some r := by rw [if_neg (show ¬ (false = true) by decide)] at H; exact H
   clear H; have H := H1; clear H1
   obtain rfl := Option.some.inj H
   try go_wp2
   have n0_ := Aside0.mk (Kd.R_drew HO_667000.out)
   have n1_ := Aside0.mk (blk_drew BK649.out)
   have n2_ := Aside0.mk (blk_drew BK650.out)
   have n3_ := Aside0.mk (blk_drew BK666.out)
   have n4_ := Aside0.mk (below_drew1 HB.out)
   clear HO_667000; clear BK649; clear BK650; clear BK666; clear HB; have HO_667000 := n0_; have BK649 := n1_; have BK650 := n2_; have BK666 := n3_; have HB := n4_; clear n0_ n1_ n2_ n3_ n4_
   refine start_ (n := 5) (S := fun w' => w'.cell? ⟨gb666, 0, none⟩ = some (.slice Ao41 t662.length co41) ∧ w'.cell? ⟨gb666, 1, none⟩ = some (.int .i64 t665) ∧ w'.cell? ⟨gb649, 0, none⟩ = some (.slice A0_0 l0_0.length c0_0) ∧ w'.cell? ⟨gb649, 1, none⟩ = some (.int .i64 a0_1)) (ds := []) #[n,n,n,n,n] (by kernel_rfl) rfl rfl ⟨(blk_cell BK666.out 0).trans rfl, (blk_cell BK666.out 1).trans rfl, (blk_cell BK649.out 0).trans rfl, (blk_cell BK649.out 1).trans rfl⟩ (fun hHeld => ?_)
   generalize wc.drew = w58 at HO_667000 BK649 BK650 BK666 HB hHeld ⊢
   refine take_ (i := 0) (N := some 46) (v := ?_) (a' := ?_) #[y,n,n,n,n] rfl rfl (by kernel_rfl) (fun _ _ _ h => h) (Or.inl ⟨by rfl, ?_⟩) hHeld ?_ ?_; rotate_left; exact uV4; rotate_left; exact uP; refine take_ (i := 1) (N := some 47) (v := ?_) (a' := ?_) #[y,y,n,n,n] rfl rfl (by kernel_rfl) (fun _ _ _ h => h) (Or.inl ⟨by rfl, ?_⟩) hHeld ?_ ?_; rotate_left; exact uV4; rotate_left; exact uP
   refine one_ (i := 2) (N := some 48) #[y,y,y,n,n] rfl rfl (by kernel_rfl) (by decide) (fun K hK => ?_)
   refine goes_ Try.func27 (by kernel_rfl) rfl #[.agg #[.slice A0_0 l0_0.length c0_0, .int .i64 a0_1]] (by rfl) rfl rfl (by (try simp only [List.map_toArray, List.map_cons, List.map_nil]); first | done | rfl | (simp only [List.length_drop, List.length_take]; rfl)) ?_
   with_reducible refine (laws_toTable.calls kj24 _ _ l0_0 a0_1 t672 t675 _ ?side1 ?side2 A51.out).mono ?_
   (case side1 => repeat (first | exact (Kd.C_below HR0_0.out HB.out) | (with_reducible refine Kd.C_alloc ?_ _) | (with_reducible refine Kd.C_drewN ?_ _) | (with_reducible refine Kd.C_drew ?_)))
   (case side2 => exact HC0_0.out)
   rintro e w59 ⟨v673, rfl, ho0, hb⟩; refine ⟨_, rfl, ?_⟩
   have n0_ := Aside0.mk (Kd.R_elder' (by exact uR HO_667000.out) (Kd.R_base ho0) hb)
   have n1_ := Aside0.mk (Kd.R_lower (Kd.R_new' ho0 (Kd.R_lt (by exact uR HO_667000.out))) (below_size (by exact q3 HB.out GE649.out GE650.out GE666.out)))
   have n2_ := Aside0.mk (blk_below (g := gb649) (o := .cells #[.slice A0_0 l0_0.length c0_0, .int .i64 a0_1] 41 (0, 0)) (by exact uB BK649.out) hb)
   have n3_ := Aside0.mk (blk_below (g := gb650) (o := .cells #[.string a1_0, .string a1_1, .bool a1_2] 56 (0, 0)) (by exact uB BK650.out) hb)
   have n4_ := Aside0.mk (blk_below (g := gb666) (o := .cells #[.slice Ao41 t662.length co41, .int .i64 t665] 45 (0, 0)) (by exact uB BK666.out) hb)
   have n5_ := Aside0.mk (below_step (by exact q3 HB.out GE649.out GE650.out GE666.out) hb)
   clear HO_667000; clear BK649; clear BK650; clear BK666; clear HB; have HO_667000 := n0_; have HO674 := n1_; have BK649 := n2_; have BK650 := n3_; have BK666 := n4_; have HB := n5_; clear n0_ n1_ n2_ n3_ n4_ n5_; (try clear hb); (try clear hb2); (try clear hk); (try clear hi); (try clear ho0)
   obtain ⟨Ao60, co60, eo60⟩ := Kd.R_slice HO674.out
   (first | subst eo60 | (injection eo60 with f1_ f2_ f3_; have f4_ := f1_.symm; have f5_ := f3_.symm; clear f1_ f2_ f3_; subst f4_; subst f5_))
   refine hK.out _ _ ⟨(blk_cell BK666.out 0).trans rfl, (blk_cell BK666.out 1).trans rfl, (blk_cell BK649.out 0).trans rfl, (blk_cell BK649.out 1).trans rfl⟩ (fun hHeld => ?_)
   clear hK K
   refine norm_ (a' := ?_) ?_ ?_
   rotate_left; show Act.put _ (some 48) _ = _; exact uP
   refine one_ (i := 3) (N := some 49) #[y,y,y,y,n] rfl rfl (by kernel_rfl) (by decide) (fun K hK => ?_)
   refine goes_ Try.func29 (by kernel_rfl) rfl #[.agg #[.slice Ao41 t662.length co41, .int .i64 t665], .agg #[.slice Ao60 t672.length co60, .int .i64 t675]] (by rfl) rfl rfl (by (try simp only [List.map_toArray, List.map_cons, List.map_nil]); first | done | rfl | (simp only [List.length_drop, List.length_take]; rfl)) ?_
   with_reducible refine (laws_eqTable.calls kj24 _ _ t662 t665 _ _ t672 t675 false _ ?side1 ?side2 ?side3 ?side4 A52.out).mono ?_
   (case side1 => repeat (first | exact (Kd.R_reads' HO_667000.out).2.2 | (with_reducible refine Kd.C_alloc ?_ _) | (with_reducible refine Kd.C_drewN ?_ _) | (with_reducible refine Kd.C_drew ?_)))
   (case side2 => exact (Kd.R_reads' HO_667000.out).2.1)
   (case side3 => repeat (first | exact (Kd.R_reads' HO674.out).2.2 | (with_reducible refine Kd.C_alloc ?_ _) | (with_reducible refine Kd.C_drewN ?_ _) | (with_reducible refine Kd.C_drew ?_)))
   (case side4 => exact (Kd.R_reads' HO674.out).2.1)
   rintro e w61 ⟨rfl, hb⟩; refine ⟨_, rfl, ?_⟩
   have n0_ := Aside0.mk (Kd.R_below (by exact uR HO_667000.out) hb)
   have n1_ := Aside0.mk (Kd.R_below (by exact uR HO674.out) hb)
   have n2_ := Aside0.mk (blk_below (g := gb649) (o := .cells #[.slice A0_0 l0_0.length c0_0, .int .i64 a0_1] 41 (0, 0)) (by exact uB BK649.out) hb)
   have n3_ := Aside0.mk (blk_below (g := gb650) (o := .cells #[.string a1_0, .string a1_1, .bool a1_2] 56 (0, 0)) (by exact uB BK650.out) hb)
   have n4_ := Aside0.mk (blk_below (g := gb666) (o := .cells #[.slice Ao41 t662.length co41, .int .i64 t665] 45 (0, 0)) (by exact uB BK666.out) hb)
   have n5_ := Aside0.mk (below_step (by exact q3 HB.out GE649.out GE650.out GE666.out) hb)
   clear HO_667000; clear HO674; clear BK649; clear BK650; clear BK666; clear HB; have HO_667000 := n0_; have HO674 := n1_; have BK649 := n2_; have BK650 := n3_; have BK666 := n4_; have HB := n5_; clear n0_ n1_ n2_ n3_ n4_ n5_; (try clear hb); (try clear hb2); (try clear hk); (try clear hi)
   refine hK.out _ _ ⟨(blk_cell BK666.out 0).trans rfl, (blk_cell BK666.out 1).trans rfl, (blk_cell BK649.out 0).trans rfl, (blk_cell BK649.out 1).trans rfl⟩ (fun hHeld => ?_)
   clear hK K
   refine norm_ (a' := ?_) ?_ ?_
   rotate_left; show Act.put _ (some 49) _ = _; exact uP; refine pure_ (i := 4) (N := some 50) (v := ?_) (a' := ?_) #[y,y,y,y,y] rfl rfl (by kernel_rfl) (fun _ _ _ h => h) (Or.inl ⟨by rfl, ?_⟩) ?_ ?_; rotate_left; exact uV; rotate_left; exact uP
   refine done_ (by kernel_rfl) ?_
   try go_wp2
   go_ret
   exact ⟨by first | rfl | (simp [errW_none, errW_some] <;> rfl) | (simp [*, errW_none, errW_some] <;> rfl), by exact q3 HB.out GE649.out GE650.out GE666.out⟩

end Go.Proofs.Ytgahnhncmjgenaa.X
