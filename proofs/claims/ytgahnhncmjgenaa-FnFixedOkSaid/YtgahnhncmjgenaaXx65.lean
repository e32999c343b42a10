-- Written by a program of this session's (wip/tools) out of the translation. Not trusted: Lean checks it.
import Derived.Test.YtgahnhncmjgenaaXx0
import Derived.Test.YtgahnhncmjgenaaXx54
import Derived.Test.YtgahnhncmjgenaaXx4
namespace Go.Proofs.Ytgahnhncmjgenaa.X
open Go.RowKit Go.Proofs.YtgahnhncmjgenaaW.PrintWords Go.Proofs.YtgahnhncmjgenaaW.PrintLast Go.Proofs.YtgahnhncmjgenaaW.PrintMore
attribute [local go_sem] max2_int min2_int max_two min_two max_three min_three max_four min_four   -- for this text's walks alone
set_option linter.unusedVariables false
set_option linter.unusedSimpArgs false
/-! ### spec_l3Find: function 63 -/
mutual
def spec_l3Find.l0 : Nat → List (S32) → Int → Int → ByteArray → ByteArray → Bool → Option (Int × Bool)
  | 0, _, _, _, _, _, _ => none
  | k + 1, x6, x7, x8, x627000, x627001, x627002 => if x8 ≥ 0 then (if 0 ≤ x8 then (if x8 < (x6.length : Int) then (if ((rd_T32 x6 x8).f0).toList = x627000.toList then (spec_l3Find.l0 k x6 (wrap64 (x8 + 1)) (wrap64 (x8 - 1)) x627000 x627001 x627002) else (spec_l3Find.l0 k x6 x7 (wrap64 (x8 - 1)) x627000 x627001 x627002)) else (none)) else (none)) else (spec_l3Find.l1 k x6 x7 0 x627000 x627001 x627002)
def spec_l3Find.l1 : Nat → List (S32) → Int → Int → ByteArray → ByteArray → Bool → Option (Int × Bool)
  | 0, _, _, _, _, _, _ => none
  | k + 1, x6, x7, x9, x627000, x627001, x627002 => if x9 < (x6.length : Int) then (if 0 ≤ x9 then (if ((rd_T32 x6 x9).f0).toList = x627000.toList then (if ((rd_T32 x6 x9).f1).toList = x627001.toList then (some (wrap64 (x9 + 1), true)) else (spec_l3Find.l1 k x6 x7 (wrap64 (x9 + 1)) x627000 x627001 x627002)) else (spec_l3Find.l1 k x6 x7 (wrap64 (x9 + 1)) x627000 x627001 x627002)) else (none)) else (some (x7, false))
end
def spec_l3Find.f (k : Nat) (l0_0 : List (S32)) (a0_1 : Int) (a1_0 : ByteArray) (a1_1 : ByteArray) (a1_2 : Bool) : Option (Int × Bool) := (spec_l3All.f l0_0 a0_1).bind fun t627 => (spec_l3Find.l0 k t627 0 (wrap64 ((t627.length : Int) - 1)) a1_0 a1_1 a1_2)
theorem spec_l3Find.mono_l : ∀ k, (∀ y0 y1 y2 y3 y4 y5, LeO (spec_l3Find.l0 k y0 y1 y2 y3 y4 y5) (spec_l3Find.l0 (k + 1) y0 y1 y2 y3 y4 y5)) ∧ (∀ y0 y1 y2 y3 y4 y5, LeO (spec_l3Find.l1 k y0 y1 y2 y3 y4 y5) (spec_l3Find.l1 (k + 1) y0 y1 y2 y3 y4 y5))
  | 0 => ⟨fun _ _ _ _ _ _ r h => by simp [spec_l3Find.l0] at h, fun _ _ _ _ _ _ r h => by simp [spec_l3Find.l1] at h⟩
  | k + 1 => by
    obtain ⟨ih0, ih1⟩ := spec_l3Find.mono_l k
    refine ⟨?_, ?_⟩
    · intro y0 y1 y2 y3 y4 y5
      unfold spec_l3Find.l0
      repeat' first
      | (with_reducible exact ih0 _ _ _ _ _ _)
      | (with_reducible exact ih1 _ _ _ _ _ _)
      | (with_reducible exact LeO.refl _)
      | (with_reducible exact LeO.none _)
      | (with_reducible refine LeO.ite ?_ ?_)
      | (with_reducible refine LeO.bind ?_ (fun _ => ?_))
    · intro y0 y1 y2 y3 y4 y5
      unfold spec_l3Find.l1
      repeat' first
      | (with_reducible exact ih0 _ _ _ _ _ _)
      | (with_reducible exact ih1 _ _ _ _ _ _)
      | (with_reducible exact LeO.refl _)
      | (with_reducible exact LeO.none _)
      | (with_reducible refine LeO.ite ?_ ?_)
      | (with_reducible refine LeO.bind ?_ (fun _ => ?_))
theorem spec_l3Find.mono : ∀ a0 a1 a2 a3 a4 k, LeO (spec_l3Find.f k a0 a1 a2 a3 a4) (spec_l3Find.f (k + 1) a0 a1 a2 a3 a4) := by
  intro a0 a1 a2 a3 a4 k
  obtain ⟨ih0, ih1⟩ := spec_l3Find.mono_l k
  unfold spec_l3Find.f
  repeat' first
      | (with_reducible exact ih0 _ _ _ _ _ _)
      | (with_reducible exact ih1 _ _ _ _ _ _)
      | (with_reducible exact LeO.refl _)
      | (with_reducible exact LeO.none _)
      | (with_reducible refine LeO.ite ?_ ?_)
      | (with_reducible refine LeO.bind ?_ (fun _ => ?_))
set_option maxHeartbeats 8000000 in
set_option maxRecDepth 100000 in
theorem spec_l3Find.calls (k : Nat) (A0_0 : Option Addr) (c0_0 : Nat) (l0_0 : List (S32)) (a0_1 : Int) (a1_0 : ByteArray) (a1_1 : ByteArray) (a1_2 : Bool) (r1 : Int) (r2 : Bool) (w : World) (hr0_0 : Kd.C k32 w A0_0 l0_0.length l0_0) (hc0_0 : l0_0.length ≤ c0_0) (h : spec_l3Find.f k l0_0 a0_1 a1_0 a1_1 a1_2 = some (r1, r2)) :
 Calls Try.prog 63 #[.agg #[.slice A0_0 l0_0.length c0_0, .int .i64 a0_1], .agg #[.string a1_0, .string a1_1, .bool a1_2]] w fun e w' => e = .returned (.tuple #[.int .i64 r1, .bool r2]) ∧ Below w.heap.size w w' := by
 have hu45 := Try.underlying45; have hu32 := Try.underlying32; have HR0_0 := Aside0.mk hr0_0; have HC0_0 := Aside0.mk hc0_0; clear hr0_0 hc0_0
 have HB := Aside0.mk (Below.refl w.heap.size w)
 have H : ((spec_l3All.f l0_0 a0_1).bind fun t627 => (spec_l3Find.l0 k t627 0 (wrap64 ((t627.length : Int) - 1)) a1_0 a1_1 a1_2)) = some (r1, r2) := h
 clear h; replace H := Option.bind_eq_some_iff.mp H; obtain ⟨t627, A30, H⟩ := H
 replace H : (spec_l3Find.l0 k t627 0 (wrap64 ((t627.length : Int) - 1)) a1_0 a1_1 a1_2) = some (r1, r2) := H
 have A3 := Aside0.mk A30; clear A30; have H' := Aside0.mk H; clear H
 go_enter Try.func63, Try.ntmps63
 go_wp2_with (first | ((with_reducible refine gate_dst (N := 2) rfl ?_); refine box_event ?hg (N := 2) ?hd (cs := #[.slice A0_0 l0_0.length c0_0, .int .i64 a0_1]) (t := 45) ?hr ?_; (case hd => rfl); (case hg => rfl); (case hr => first | (go_simp; done) | (go_simp; rfl)); intro gb625 hg w4 hbox hb; have n0_ := Aside0.mk (below_step (by exact q0 HB.out) hb); have n1_ := Aside0.mk (hbox); have n2_ := Aside0.mk ((by rw [hg]; exact (below_size (by exact q0 HB.out)) : w.heap.size ≤ gb625)); have n3_ := Aside0.mk ((by rw [hg]; exact (below_size (by exact q0 HB.out)) : w.heap.size ≤ gb625)); clear HB; have HB := n0_; have BK625 := n1_; have GW625 := n2_; have GE625 := n3_; clear n0_ n1_ n2_ n3_; clear hb hbox hg) | ((with_reducible refine gate_dst (N := 3) rfl ?_); refine box_event ?hg (N := 3) ?hd (cs := #[.string a1_0, .string a1_1, .bool a1_2]) (t := 32) ?hr ?_; (case hd => rfl); (case hg => rfl); (case hr => first | (go_simp; done) | (go_simp; rfl)); intro gb626 hg w5 hbox hb; have n0_ := Aside0.mk (bB BK625.out hb); have n1_ := Aside0.mk (below_step (by exact q1 HB.out GE625.out) hb); have n2_ := Aside0.mk (hbox); have n3_ := Aside0.mk ((by rw [hg]; exact (below_size (by exact q1 HB.out GE625.out)) : w.heap.size ≤ gb626)); have n4_ := Aside0.mk ((by rw [hg]; exact (below_size (by exact q1 HB.out GE625.out)) : w.heap.size ≤ gb626)); have n5_ := Aside0.mk ((by rw [hg]; exact Nat.ne_of_lt (blk_lt (g := gb625) (o := .cells #[.slice A0_0 l0_0.length c0_0, .int .i64 a0_1] 45 (0, 0)) (by exact uB BK625.out)) : gb625 ≠ gb626)); have n6_ := Aside0.mk ((by rw [hg]; exact Nat.ne_of_gt (blk_lt (g := gb625) (o := .cells #[.slice A0_0 l0_0.length c0_0, .int .i64 a0_1] 45 (0, 0)) (by exact uB BK625.out)) : gb626 ≠ gb625)); clear BK625; clear HB; have BK625 := n0_; have HB := n1_; have BK626 := n2_; have GW626 := n3_; have GE626 := n4_; have NB625_626 := n5_; have NB626_625 := n6_; clear n0_ n1_ n2_ n3_ n4_ n5_ n6_; clear hb hbox hg; have hnb6 := NB625_626.out; have hnc6 := NB626_625.out; have hcz7_0 : w5.cell? ⟨gb625, 0, none⟩ = some (.slice A0_0 l0_0.length c0_0) := (blk_cell BK625.out 0).trans rfl; have hcz7_1 : w5.cell? ⟨gb625, 1, none⟩ = some (.int .i64 a0_1) := (blk_cell BK625.out 1).trans rfl; have hfz7_0 := blk_frozen BK625.out 0; have hfz7_1 := blk_frozen BK625.out 1) | (go_at_call 71; (with_reducible refine (spec_l3All.calls _ _ l0_0 a0_1 t627 _ ?side1 ?side2 A3.out).mono ?_); (case side1 => repeat (first | exact (Kd.C_below HR0_0.out HB.out) | (with_reducible refine Kd.C_alloc ?_ _) | (with_reducible refine Kd.C_drewN ?_ _) | (with_reducible refine Kd.C_drew ?_))); (case side2 => exact HC0_0.out); rintro e w8 ⟨v628, rfl, ho0, hb⟩; have n0_ := Aside0.mk (Kd.R_lower (Kd.R_newB ho0 (g := gb626) (o := .cells #[.string a1_0, .string a1_1, .bool a1_2] 32 (0, 0)) (by exact uB BK626.out)) (below_size (by exact q2 HB.out GE625.out GE626.out))); have n1_ := Aside0.mk (bB BK625.out hb); have n2_ := Aside0.mk (bB BK626.out hb); have n3_ := Aside0.mk (below_step (by exact q2 HB.out GE625.out GE626.out) hb); clear BK625; clear BK626; clear HB; have HO629 := n0_; have BK625 := n1_; have BK626 := n2_; have HB := n3_; clear n0_ n1_ n2_ n3_; (try clear hb); (try clear hb2); (try clear hk); (try clear hi); (try clear ho0); obtain ⟨Ao9, co9, eo9⟩ := Kd.R_slice HO629.out; subst eo9))
 repeat (go_quiet (first | ((with_reducible refine gate_dst (N := 2) rfl ?_); refine box_event ?hg (N := 2) ?hd (cs := #[.slice A0_0 l0_0.length c0_0, .int .i64 a0_1]) (t := 45) ?hr ?_; (case hd => rfl); (case hg => rfl); (case hr => first | (go_simp; done) | (go_simp; rfl)); intro gb625 hg w4 hbox hb; have n0_ := Aside0.mk (below_step (by exact q0 HB.out) hb); have n1_ := Aside0.mk (hbox); have n2_ := Aside0.mk ((by rw [hg]; exact (below_size (by exact q0 HB.out)) : w.heap.size ≤ gb625)); have n3_ := Aside0.mk ((by rw [hg]; exact (below_size (by exact q0 HB.out)) : w.heap.size ≤ gb625)); clear HB; have HB := n0_; have BK625 := n1_; have GW625 := n2_; have GE625 := n3_; clear n0_ n1_ n2_ n3_; clear hb hbox hg) | ((with_reducible refine gate_dst (N := 3) rfl ?_); refine box_event ?hg (N := 3) ?hd (cs := #[.string a1_0, .string a1_1, .bool a1_2]) (t := 32) ?hr ?_; (case hd => rfl); (case hg => rfl); (case hr => first | (go_simp; done) | (go_simp; rfl)); intro gb626 hg w5 hbox hb; have n0_ := Aside0.mk (bB BK625.out hb); have n1_ := Aside0.mk (below_step (by exact q1 HB.out GE625.out) hb); have n2_ := Aside0.mk (hbox); have n3_ := Aside0.mk ((by rw [hg]; exact (below_size (by exact q1 HB.out GE625.out)) : w.heap.size ≤ gb626)); have n4_ := Aside0.mk ((by rw [hg]; exact (below_size (by exact q1 HB.out GE625.out)) : w.heap.size ≤ gb626)); have n5_ := Aside0.mk ((by rw [hg]; exact Nat.ne_of_lt (blk_lt (g := gb625) (o := .cells #[.slice A0_0 l0_0.length c0_0, .int .i64 a0_1] 45 (0, 0)) (by exact uB BK625.out)) : gb625 ≠ gb626)); have n6_ := Aside0.mk ((by rw [hg]; exact Nat.ne_of_gt (blk_lt (g := gb625) (o := .cells #[.slice A0_0 l0_0.length c0_0, .int .i64 a0_1] 45 (0, 0)) (by exact uB BK625.out)) : gb626 ≠ gb625)); clear BK625; clear HB; have BK625 := n0_; have HB := n1_; have BK626 := n2_; have GW626 := n3_; have GE626 := n4_; have NB625_626 := n5_; have NB626_625 := n6_; clear n0_ n1_ n2_ n3_ n4_ n5_ n6_; clear hb hbox hg; have hnb6 := NB625_626.out; have hnc6 := NB626_625.out; have hcz7_0 : w5.cell? ⟨gb625, 0, none⟩ = some (.slice A0_0 l0_0.length c0_0) := (blk_cell BK625.out 0).trans rfl; have hcz7_1 : w5.cell? ⟨gb625, 1, none⟩ = some (.int .i64 a0_1) := (blk_cell BK625.out 1).trans rfl; have hfz7_0 := blk_frozen BK625.out 0; have hfz7_1 := blk_frozen BK625.out 1) | (go_at_call 71; (with_reducible refine (spec_l3All.calls _ _ l0_0 a0_1 t627 _ ?side1 ?side2 A3.out).mono ?_); (case side1 => repeat (first | exact (Kd.C_below HR0_0.out HB.out) | (with_reducible refine Kd.C_alloc ?_ _) | (with_reducible refine Kd.C_drewN ?_ _) | (with_reducible refine Kd.C_drew ?_))); (case side2 => exact HC0_0.out); rintro e w8 ⟨v628, rfl, ho0, hb⟩; have n0_ := Aside0.mk (Kd.R_lower (Kd.R_newB ho0 (g := gb626) (o := .cells #[.string a1_0, .string a1_1, .bool a1_2] 32 (0, 0)) (by exact uB BK626.out)) (below_size (by exact q2 HB.out GE625.out GE626.out))); have n1_ := Aside0.mk (bB BK625.out hb); have n2_ := Aside0.mk (bB BK626.out hb); have n3_ := Aside0.mk (below_step (by exact q2 HB.out GE625.out GE626.out) hb); clear BK625; clear BK626; clear HB; have HO629 := n0_; have BK625 := n1_; have BK626 := n2_; have HB := n3_; clear n0_ n1_ n2_ n3_; (try clear hb); (try clear hb2); (try clear hk); (try clear hi); (try clear ho0); obtain ⟨Ao9, co9, eo9⟩ := Kd.R_slice HO629.out; subst eo9)); try go_wp2_with (first | ((with_reducible refine gate_dst (N := 2) rfl ?_); refine box_event ?hg (N := 2) ?hd (cs := #[.slice A0_0 l0_0.length c0_0, .int .i64 a0_1]) (t := 45) ?hr ?_; (case hd => rfl); (case hg => rfl); (case hr => first | (go_simp; done) | (go_simp; rfl)); intro gb625 hg w4 hbox hb; have n0_ := Aside0.mk (below_step (by exact q0 HB.out) hb); have n1_ := Aside0.mk (hbox); have n2_ := Aside0.mk ((by rw [hg]; exact (below_size (by exact q0 HB.out)) : w.heap.size ≤ gb625)); have n3_ := Aside0.mk ((by rw [hg]; exact (below_size (by exact q0 HB.out)) : w.heap.size ≤ gb625)); clear HB; have HB := n0_; have BK625 := n1_; have GW625 := n2_; have GE625 := n3_; clear n0_ n1_ n2_ n3_; clear hb hbox hg) | ((with_reducible refine gate_dst (N := 3) rfl ?_); refine box_event ?hg (N := 3) ?hd (cs := #[.string a1_0, .string a1_1, .bool a1_2]) (t := 32) ?hr ?_; (case hd => rfl); (case hg => rfl); (case hr => first | (go_simp; done) | (go_simp; rfl)); intro gb626 hg w5 hbox hb; have n0_ := Aside0.mk (bB BK625.out hb); have n1_ := Aside0.mk (below_step (by exact q1 HB.out GE625.out) hb); have n2_ := Aside0.mk (hbox); have n3_ := Aside0.mk ((by rw [hg]; exact (below_size (by exact q1 HB.out GE625.out)) : w.heap.size ≤ gb626)); have n4_ := Aside0.mk ((by rw [hg]; exact (below_size (by exact q1 HB.out GE625.out)) : w.heap.size ≤ gb626)); have n5_ := Aside0.mk ((by rw [hg]; exact Nat.ne_of_lt (blk_lt (g := gb625) (o := .cells #[.slice A0_0 l0_0.length c0_0, .int .i64 a0_1] 45 (0, 0)) (by exact uB BK625.out)) : gb625 ≠ gb626)); have n6_ := Aside0.mk ((by rw [hg]; exact Nat.ne_of_gt (blk_lt (g := gb625) (o := .cells #[.slice A0_0 l0_0.length c0_0, .int .i64 a0_1] 45 (0, 0)) (by exact uB BK625.out)) : gb626 ≠ gb625)); clear BK625; clear HB; have BK625 := n0_; have HB := n1_; have BK626 := n2_; have GW626 := n3_; have GE626 := n4_; have NB625_626 := n5_; have NB626_625 := n6_; clear n0_ n1_ n2_ n3_ n4_ n5_ n6_; clear hb hbox hg; have hnb6 := NB625_626.out; have hnc6 := NB626_625.out; have hcz7_0 : w5.cell? ⟨gb625, 0, none⟩ = some (.slice A0_0 l0_0.length c0_0) := (blk_cell BK625.out 0).trans rfl; have hcz7_1 : w5.cell? ⟨gb625, 1, none⟩ = some (.int .i64 a0_1) := (blk_cell BK625.out 1).trans rfl; have hfz7_0 := blk_frozen BK625.out 0; have hfz7_1 := blk_frozen BK625.out 1) | (go_at_call 71; (with_reducible refine (spec_l3All.calls _ _ l0_0 a0_1 t627 _ ?side1 ?side2 A3.out).mono ?_); (case side1 => repeat (first | exact (Kd.C_below HR0_0.out HB.out) | (with_reducible refine Kd.C_alloc ?_ _) | (with_reducible refine Kd.C_drewN ?_ _) | (with_reducible refine Kd.C_drew ?_))); (case side2 => exact HC0_0.out); rintro e w8 ⟨v628, rfl, ho0, hb⟩; have n0_ := Aside0.mk (Kd.R_lower (Kd.R_newB ho0 (g := gb626) (o := .cells #[.string a1_0, .string a1_1, .bool a1_2] 32 (0, 0)) (by exact uB BK626.out)) (below_size (by exact q2 HB.out GE625.out GE626.out))); have n1_ := Aside0.mk (bB BK625.out hb); have n2_ := Aside0.mk (bB BK626.out hb); have n3_ := Aside0.mk (below_step (by exact q2 HB.out GE625.out GE626.out) hb); clear BK625; clear BK626; clear HB; have HO629 := n0_; have BK625 := n1_; have BK626 := n2_; have HB := n3_; clear n0_ n1_ n2_ n3_; (try clear hb); (try clear hb2); (try clear hk); (try clear hi); (try clear ho0); obtain ⟨Ao9, co9, eo9⟩ := Kd.R_slice HO629.out; subst eo9)))
 go_loopg [7, 8] k (fun kq v7 v8 w' => ∃ (x7_1 : Int) (x8_1 : Int), v7 = .int .i64 x7_1 ∧ v8 = .int .i64 x8_1 ∧ Aside0 (spec_l3Find.l0 kq t627 x7_1 x8_1 a1_0 a1_1 a1_2 = some (r1, r2)) ∧ Aside0 (kq ≤ k) ∧ Aside0 (Kd.R k32 32 w' w.heap.size (fun k_ => k_ ≠ gb626) (.slice Ao9 t627.length co9) t627) ∧ Aside0 (w'.heap[gb625]? = some (.cells #[(.slice A0_0 l0_0.length c0_0), .int .i64 a0_1] 45 (0, 0))) ∧ Aside0 (w'.heap[gb626]? = some (.cells #[.string a1_0, .string a1_1, .bool a1_2] 32 (0, 0))) ∧ Aside0 (Below w.heap.size w w'))
 case atStart => exact ⟨(0), (wrap64 ((t627.length : Int) - 1)), (by first | rfl | (simp; done) | (simp [*]; done)), (by first | rfl | (simp; done) | (simp [*]; done)), H', ⟨Nat.le_refl _⟩, ⟨by refine uR ?_; exact Kd.R_mono HO629.out (fun _ hk => hk.2)⟩, ⟨by exact uB BK625.out⟩, ⟨by exact uB BK626.out⟩, ⟨by exact q2 HB.out GE625.out GE626.out⟩⟩
 case round =>
  clear H'
  (try clear p2); (try clear c6); (try clear p6); (try clear hcz7_0); (try clear hcz7_1); (try clear hfz7_0); (try clear hfz7_1); obtain ⟨x7_1, x8_1, rfl, rfl, HA, HK1, HO_6, BK625, BK626, HB⟩ := hrel
  cases gk with
  | zero => exact absurd HA.out (by simp [spec_l3Find.l0])
  | succ k1 =>
   have H := HA.out; clear HA
   simp only [spec_l3Find.l0] at H
   by_cases c10 : x8_1 ≥ 0
   · rw [if_pos c10] at H
     have c10b0 : decide (0 ≤ x8_1) = true := decide_eq_true c10
     clear c10
     by_cases c11 : 0 ≤ x8_1
     · rw [if_pos c11] at H
       have c11b0 : decide (0 ≤ x8_1) = true := decide_eq_true c11
       clear c11
       by_cases c12 : x8_1 < (t627.length : Int)
       · rw [if_pos c12] at H
         have c12b0 : decide (x8_1 < (t627.length : Int)) = true := decide_eq_true c12
         clear c12
         by_cases c13 : ((rd_T32 t627 x8_1).f0).toList = a1_0.toList
         · rw [if_pos c13] at H
           have c13b0 : (((rd_T32 t627 x8_1).f0).toList == a1_0.toList) = true := beq_iff_eq.mpr c13
           have c13b1 : (((rd_T32 t627 x8_1).f0).toList != a1_0.toList) = false := bne_eq_false_iff_eq.mpr c13
           clear c13; have H' := Aside0.mk H; clear H
           have p630 : 0 ≤ (x8_1 : Int) := of_decide_eq_true (by first | (with_reducible assumption) | assumption)
           have q630 : x8_1 < (t627.length : Int) := of_decide_eq_true (by first | (with_reducible assumption) | assumption)
           obtain ⟨ad630, e630, hx630_0, hx630_1, hx630_2⟩ := at_T32 (Kd.R_reads' HO_6.out).2.2 x8_1 p630 q630
           cases e630
           replace p630 := eq_true p630
           replace q630 := eq_true q630
           have hnb14 := NB626_625.out; have hnc14 := NB625_626.out
           have hcz15_0 : wr.cell? ⟨gb626, 0, none⟩ = some (.string a1_0) := (blk_cell BK626.out 0).trans rfl
           have hcz15_1 : wr.cell? ⟨gb626, 1, none⟩ = some (.string a1_1) := (blk_cell BK626.out 1).trans rfl
           have hcz15_2 : wr.cell? ⟨gb626, 2, none⟩ = some (.bool a1_2) := (blk_cell BK626.out 2).trans rfl
           have hfz15_0 := blk_frozen BK626.out 0; have hfz15_1 := blk_frozen BK626.out 1; have hfz15_2 := blk_frozen BK626.out 2; go_wp2
           repeat (go_quiet (fail); try go_wp2)
           go_roundg k1
           case measure => have := HK1.out; omega
           case rel => exact ⟨(wrap64 (x8_1 + 1)), (wrap64 (x8_1 - 1)), (by first | rfl | (simp; done) | (simp [*]; done)), (by first | rfl | (simp; done) | (simp [*]; done)), H', ⟨by have := HK1.out; omega⟩, ⟨by exact uR HO_6.out⟩, ⟨by exact uB BK625.out⟩, ⟨by exact uB BK626.out⟩, ⟨by exact q2 HB.out GE625.out GE626.out⟩⟩
         rw [if_neg c13] at H
         have c13b0 : (((rd_T32 t627 x8_1).f0).toList == a1_0.toList) = false := beq_eq_false_iff_ne.mpr c13
         have c13b1 : (((rd_T32 t627 x8_1).f0).toList != a1_0.toList) = true := bne_iff_ne.mpr c13
         have H' := Aside0.mk H; clear H
         have p630 : 0 ≤ (x8_1 : Int) := of_decide_eq_true (by first | (with_reducible assumption) | assumption)
         have q630 : x8_1 < (t627.length : Int) := of_decide_eq_true (by first | (with_reducible assumption) | assumption)
         obtain ⟨ad630, e630, hx630_0, hx630_1, hx630_2⟩ := at_T32 (Kd.R_reads' HO_6.out).2.2 x8_1 p630 q630
         cases e630
         replace p630 := eq_true p630
         replace q630 := eq_true q630
         have hnb16 := NB626_625.out; have hnc16 := NB625_626.out
         have hcz17_0 : wr.cell? ⟨gb626, 0, none⟩ = some (.string a1_0) := (blk_cell BK626.out 0).trans rfl
         have hcz17_1 : wr.cell? ⟨gb626, 1, none⟩ = some (.string a1_1) := (blk_cell BK626.out 1).trans rfl
         have hcz17_2 : wr.cell? ⟨gb626, 2, none⟩ = some (.bool a1_2) := (blk_cell BK626.out 2).trans rfl
         have hfz17_0 := blk_frozen BK626.out 0; have hfz17_1 := blk_frozen BK626.out 1; have hfz17_2 := blk_frozen BK626.out 2; go_wp2
         repeat (go_quiet (fail); try go_wp2)
         go_roundg k1
         case measure => have := HK1.out; omega
         case rel => exact ⟨(x7_1), (wrap64 (x8_1 - 1)), (by first | rfl | (simp; done) | (simp [*]; done)), (by first | rfl | (simp; done) | (simp [*]; done)), H', ⟨by have := HK1.out; omega⟩, ⟨by exact uR HO_6.out⟩, ⟨by exact uB BK625.out⟩, ⟨by exact uB BK626.out⟩, ⟨by exact q2 HB.out GE625.out GE626.out⟩⟩
       rw [if_neg c12] at H
       exact absurd H (by simp)
     rw [if_neg c11] at H
     exact absurd H (by simp)
   rw [if_neg c10] at H
   have c10b0 : decide (0 ≤ x8_1) = false := decide_eq_false c10
   clear c10; have H' := Aside0.mk H; clear H; go_wp2
   repeat (go_quiet (fail); try go_wp2)
   go_loopg [9] k1 (fun kq v9 w' => ∃ (x9_2 : Int), v9 = .int .i64 x9_2 ∧ Aside0 (spec_l3Find.l1 kq t627 x7_1 x9_2 a1_0 a1_1 a1_2 = some (r1, r2)) ∧ Aside0 (kq ≤ k1) ∧ Aside0 (Kd.R k32 32 w' w.heap.size (fun k_ => k_ ≠ gb626) (.slice Ao9 t627.length co9) t627) ∧ Aside0 (w'.heap[gb625]? = some (.cells #[(.slice A0_0 l0_0.length c0_0), .int .i64 a0_1] 45 (0, 0))) ∧ Aside0 (w'.heap[gb626]? = some (.cells #[.string a1_0, .string a1_1, .bool a1_2] 32 (0, 0))) ∧ Aside0 (Below w.heap.size w w'))
   case atStart => exact ⟨(0), (by first | rfl | (simp; done) | (simp [*]; done)), H', ⟨Nat.le_refl _⟩, ⟨by exact uR HO_6.out⟩, ⟨by exact uB BK625.out⟩, ⟨by exact uB BK626.out⟩, ⟨by exact q2 HB.out GE625.out GE626.out⟩⟩
   case round =>
    clear H'
    (try clear c1); (try clear p2); (try clear c6); (try clear p6); (try clear q6); (try clear hx6); (try clear c10); (try clear c10b0); (try clear c11); (try clear c11b0); (try clear c12); (try clear c12b0); (try clear c13); (try clear c13b0); (try clear c13b1); (try clear c14); (try clear c16); (try clear hcz15_0); (try clear hcz15_1); (try clear hcz15_2); (try clear hcz17_0); (try clear hcz17_1); (try clear hcz17_2); (try clear hcz7_0); (try clear hcz7_1); (try clear hfz15_0); (try clear hfz15_1); (try clear hfz15_2); (try clear hfz17_0); (try clear hfz17_1); (try clear hfz17_2); (try clear hfz7_0); (try clear hfz7_1); (try clear hx630_0); (try clear hx630_1); (try clear hx630_2); (try clear p2); (try clear p6); (try clear p630); (try clear q630); obtain ⟨x9_2, rfl, HA, HK2, HO_6, BK625, BK626, HB⟩ := hrel
    cases gk with
    | zero => exact absurd HA.out (by simp [spec_l3Find.l1])
    | succ k2 =>
     have H := HA.out; clear HA
     simp only [spec_l3Find.l1] at H
     by_cases c18 : x9_2 < (t627.length : Int)
     · rw [if_pos c18] at H
       have c18b0 : decide (x9_2 < (t627.length : Int)) = true := decide_eq_true c18
       clear c18
       by_cases c19 : 0 ≤ x9_2
       · rw [if_pos c19] at H
         have c19b0 : decide (0 ≤ x9_2) = true := decide_eq_true c19
         clear c19
         by_cases c20 : ((rd_T32 t627 x9_2).f0).toList = a1_0.toList
         · rw [if_pos c20] at H
           have c20b0 : (((rd_T32 t627 x9_2).f0).toList == a1_0.toList) = true := beq_iff_eq.mpr c20
           have c20b1 : (((rd_T32 t627 x9_2).f0).toList != a1_0.toList) = false := bne_eq_false_iff_eq.mpr c20
           clear c20
           by_cases c21 : ((rd_T32 t627 x9_2).f1).toList = a1_1.toList
           · rw [if_pos c21] at H
             have c21b0 : (((rd_T32 t627 x9_2).f1).toList == a1_1.toList) = true := beq_iff_eq.mpr c21
             have c21b1 : (((rd_T32 t627 x9_2).f1).toList != a1_1.toList) = false := bne_eq_false_iff_eq.mpr c21
             clear c21
             simp only [Option.some.injEq, Prod.mk.injEq] at H
             obtain ⟨rfl, rfl⟩ := H
             have p631 : 0 ≤ (x9_2 : Int) := of_decide_eq_true (by first | (with_reducible assumption) | assumption)
             have q631 : x9_2 < (t627.length : Int) := of_decide_eq_true (by first | (with_reducible assumption) | assumption)
             obtain ⟨ad631, e631, hx631_0, hx631_1, hx631_2⟩ := at_T32 (Kd.R_reads' HO_6.out).2.2 x9_2 p631 q631
             cases e631
             replace p631 := eq_true p631
             replace q631 := eq_true q631
             have hnb22 := NB626_625.out; have hnc22 := NB625_626.out
             have hcz23_0 : wr.cell? ⟨gb626, 0, none⟩ = some (.string a1_0) := (blk_cell BK626.out 0).trans rfl
             have hcz23_1 : wr.cell? ⟨gb626, 1, none⟩ = some (.string a1_1) := (blk_cell BK626.out 1).trans rfl
             have hcz23_2 : wr.cell? ⟨gb626, 2, none⟩ = some (.bool a1_2) := (blk_cell BK626.out 2).trans rfl
             have hfz23_0 := blk_frozen BK626.out 0; have hfz23_1 := blk_frozen BK626.out 1; have hfz23_2 := blk_frozen BK626.out 2
             have p632 : 0 ≤ (x9_2 : Int) := of_decide_eq_true (by first | (with_reducible assumption) | assumption)
             have q632 : x9_2 < (t627.length : Int) := of_decide_eq_true (by first | (with_reducible assumption) | assumption)
             obtain ⟨ad632, e632, hx632_0, hx632_1, hx632_2⟩ := at_T32 (Kd.R_reads' HO_6.out).2.2 x9_2 p632 q632
             obtain rfl : ad631 = ad632 := (by injection e632)
             replace p632 := eq_true p632
             replace q632 := eq_true q632
             go_wp2
             repeat (go_quiet (fail); try go_wp2)
             go_ret2
             exact ⟨by first | rfl | (simp [errW_none, errW_some] <;> rfl) | (simp [*, errW_none, errW_some] <;> rfl), by exact q2 HB.out GE625.out GE626.out⟩
           rw [if_neg c21] at H
           have c21b0 : (((rd_T32 t627 x9_2).f1).toList == a1_1.toList) = false := beq_eq_false_iff_ne.mpr c21
           have c21b1 : (((rd_T32 t627 x9_2).f1).toList != a1_1.toList) = true := bne_iff_ne.mpr c21
           have H' := Aside0.mk H; clear H
           have p631 : 0 ≤ (x9_2 : Int) := of_decide_eq_true (by first | (with_reducible assumption) | assumption)
           have q631 : x9_2 < (t627.length : Int) := of_decide_eq_true (by first | (with_reducible assumption) | assumption)
           obtain ⟨ad631, e631, hx631_0, hx631_1, hx631_2⟩ := at_T32 (Kd.R_reads' HO_6.out).2.2 x9_2 p631 q631
           cases e631
           replace p631 := eq_true p631
           replace q631 := eq_true q631
           have hnb24 := NB626_625.out; have hnc24 := NB625_626.out
           have hcz25_0 : wr.cell? ⟨gb626, 0, none⟩ = some (.string a1_0) := (blk_cell BK626.out 0).trans rfl
           have hcz25_1 : wr.cell? ⟨gb626, 1, none⟩ = some (.string a1_1) := (blk_cell BK626.out 1).trans rfl
           have hcz25_2 : wr.cell? ⟨gb626, 2, none⟩ = some (.bool a1_2) := (blk_cell BK626.out 2).trans rfl
           have hfz25_0 := blk_frozen BK626.out 0; have hfz25_1 := blk_frozen BK626.out 1; have hfz25_2 := blk_frozen BK626.out 2
           have p632 : 0 ≤ (x9_2 : Int) := of_decide_eq_true (by first | (with_reducible assumption) | assumption)
           have q632 : x9_2 < (t627.length : Int) := of_decide_eq_true (by first | (with_reducible assumption) | assumption)
           obtain ⟨ad632, e632, hx632_0, hx632_1, hx632_2⟩ := at_T32 (Kd.R_reads' HO_6.out).2.2 x9_2 p632 q632
           obtain rfl : ad631 = ad632 := (by injection e632)
           replace p632 := eq_true p632
           replace q632 := eq_true q632
           go_wp2
           repeat (go_quiet (fail); try go_wp2)
           go_roundg k2
           case measure => have := HK1.out; have := HK2.out; omega
           case rel => exact ⟨(wrap64 (x9_2 + 1)), (by first | rfl | (simp; done) | (simp [*]; done)), H', ⟨by have := HK1.out; have := HK2.out; omega⟩, ⟨by exact uR HO_6.out⟩, ⟨by exact uB BK625.out⟩, ⟨by exact uB BK626.out⟩, ⟨by exact q2 HB.out GE625.out GE626.out⟩⟩
         rw [if_neg c20] at H
         have c20b0 : (((rd_T32 t627 x9_2).f0).toList == a1_0.toList) = false := beq_eq_false_iff_ne.mpr c20
         have c20b1 : (((rd_T32 t627 x9_2).f0).toList != a1_0.toList) = true := bne_iff_ne.mpr c20
         have H' := Aside0.mk H; clear H
         have p631 : 0 ≤ (x9_2 : Int) := of_decide_eq_true (by first | (with_reducible assumption) | assumption)
         have q631 : x9_2 < (t627.length : Int) := of_decide_eq_true (by first | (with_reducible assumption) | assumption)
         obtain ⟨ad631, e631, hx631_0, hx631_1, hx631_2⟩ := at_T32 (Kd.R_reads' HO_6.out).2.2 x9_2 p631 q631
         cases e631
         replace p631 := eq_true p631
         replace q631 := eq_true q631
         have hnb26 := NB626_625.out; have hnc26 := NB625_626.out
         have hcz27_0 : wr.cell? ⟨gb626, 0, none⟩ = some (.string a1_0) := (blk_cell BK626.out 0).trans rfl
         have hcz27_1 : wr.cell? ⟨gb626, 1, none⟩ = some (.string a1_1) := (blk_cell BK626.out 1).trans rfl
         have hcz27_2 : wr.cell? ⟨gb626, 2, none⟩ = some (.bool a1_2) := (blk_cell BK626.out 2).trans rfl
         have hfz27_0 := blk_frozen BK626.out 0; have hfz27_1 := blk_frozen BK626.out 1; have hfz27_2 := blk_frozen BK626.out 2; go_wp2
         repeat (go_quiet (fail); try go_wp2)
         go_roundg k2
         case measure => have := HK1.out; have := HK2.out; omega
         case rel => exact ⟨(wrap64 (x9_2 + 1)), (by first | rfl | (simp; done) | (simp [*]; done)), H', ⟨by have := HK1.out; have := HK2.out; omega⟩, ⟨by exact uR HO_6.out⟩, ⟨by exact uB BK625.out⟩, ⟨by exact uB BK626.out⟩, ⟨by exact q2 HB.out GE625.out GE626.out⟩⟩
       rw [if_neg c19] at H
       exact absurd H (by simp)
     rw [if_neg c18] at H
     have c18b0 : decide (x9_2 < (t627.length : Int)) = false := decide_eq_false c18
     clear c18
     simp only [Option.some.injEq, Prod.mk.injEq] at H
     obtain ⟨rfl, rfl⟩ := H; go_wp2
     repeat (go_quiet (fail); try go_wp2)
     go_ret2
     exact ⟨by first | rfl | (simp [errW_none, errW_some] <;> rfl) | (simp [*, errW_none, errW_some] <;> rfl), by exact q2 HB.out GE625.out GE626.out⟩

/-! ### spec_TableFind: function 39 -/
def spec_TableFind.f (k : Nat) (l0_0 : List (S32)) (a0_1 : Int) (a1_0 : ByteArray) (a1_1 : ByteArray) (a1_2 : Bool) : Option (Int × Bool) := (spec_TableOk.f k l0_0 a0_1).bind fun t635 => (if t635 = true then ((spec_FieldOk.f k a1_0 a1_1 a1_2).bind fun t636 => (if t636 = true then ((spec_l3Find.f k l0_0 a0_1 a1_0 a1_1 a1_2).bind fun bt637 => (some (bt637.1, bt637.2))) else (some (0, false)))) else (some (0, false)))
theorem spec_TableFind.mono : ∀ a0 a1 a2 a3 a4 k, LeO (spec_TableFind.f k a0 a1 a2 a3 a4) (spec_TableFind.f (k + 1) a0 a1 a2 a3 a4) := by
  intro a0 a1 a2 a3 a4 k
  unfold spec_TableFind.f
  repeat' first
      | (with_reducible exact spec_FieldOk.mono _ _ _ _)
      | (with_reducible exact spec_TableOk.mono _ _ _)
      | (with_reducible exact spec_l3Find.mono _ _ _ _ _ _)
      | (with_reducible exact LeO.refl _)
      | (with_reducible exact LeO.none _)
      | (with_reducible refine LeO.ite ?_ ?_)
      | (with_reducible refine LeO.bind ?_ (fun _ => ?_))
set_option maxHeartbeats 8000000 in
set_option maxRecDepth 100000 in
theorem spec_TableFind.calls (k : Nat) (A0_0 : Option Addr) (c0_0 : Nat) (l0_0 : List (S32)) (a0_1 : Int) (a1_0 : ByteArray) (a1_1 : ByteArray) (a1_2 : Bool) (r1 : Int) (r2 : Bool) (w : World) (hr0_0 : Kd.C k32 w A0_0 l0_0.length l0_0) (hc0_0 : l0_0.length ≤ c0_0) (h : spec_TableFind.f k l0_0 a0_1 a1_0 a1_1 a1_2 = some (r1, r2)) :
 Calls Try.prog 39 #[.agg #[.slice A0_0 l0_0.length c0_0, .int .i64 a0_1], .agg #[.string a1_0, .string a1_1, .bool a1_2]] w fun e w' => e = .returned (.tuple #[.int .i64 r1, .bool r2]) ∧ Below w.heap.size w w' := by
 have hu45 := Try.underlying45; have hu32 := Try.underlying32; have HR0_0 := Aside0.mk hr0_0; have HC0_0 := Aside0.mk hc0_0; clear hr0_0 hc0_0
 have HB := Aside0.mk (Below.refl w.heap.size w)
 have H : ((spec_TableOk.f k l0_0 a0_1).bind fun t635 => (if t635 = true then ((spec_FieldOk.f k a1_0 a1_1 a1_2).bind fun t636 => (if t636 = true then ((spec_l3Find.f k l0_0 a0_1 a1_0 a1_1 a1_2).bind fun bt637 => (some (bt637.1, bt637.2))) else (some (0, false)))) else (some (0, false)))) = some (r1, r2) := h
 clear h; replace H := Option.bind_eq_some_iff.mp H; obtain ⟨t635, A30, H⟩ := H
 replace H : (if t635 = true then ((spec_FieldOk.f k a1_0 a1_1 a1_2).bind fun t636 => (if t636 = true then ((spec_l3Find.f k l0_0 a0_1 a1_0 a1_1 a1_2).bind fun bt637 => (some (bt637.1, bt637.2))) else (some (0, false)))) else (some (0, false))) = some (r1, r2) := H
 have A3 := Aside0.mk A30; clear A30
 by_cases c4 : t635 = true
 · subst c4
   have H1 : ((spec_FieldOk.f k a1_0 a1_1 a1_2).bind fun t636 => (if t636 = true then ((spec_l3Find.f k l0_0 a0_1 a1_0 a1_1 a1_2).bind fun bt637 => (some (bt637.1, bt637.2))) else (some (0, false)))) = some (r1, r2) := by rw [if_pos rfl] at H; exact H
   clear H; have H := H1; clear H1; replace H := Option.bind_eq_some_iff.mp H; obtain ⟨t636, A50, H⟩ := H
   replace H : (if t636 = true then ((spec_l3Find.f k l0_0 a0_1 a1_0 a1_1 a1_2).bind fun bt637 => (some (bt637.1, bt637.2))) else (some (0, false))) = some (r1, r2) := H
   have A5 := Aside0.mk A50; clear A50
   by_cases c6 : t636 = true
   · subst c6
     have H1 : ((spec_l3Find.f k l0_0 a0_1 a1_0 a1_1 a1_2).bind fun bt637 => (some (bt637.1, bt637.2))) = some (r1, r2) := by rw [if_pos rfl] at H; exact H
     clear H; have H := H1; clear H1; replace H := Option.bind_eq_some_iff.mp H; obtain ⟨⟨t637, t638⟩, A70, H⟩ := H
     replace H : (some (t637, t638)) = some (r1, r2) := H
     have A7 := Aside0.mk A70; clear A70
     simp only [Option.some.injEq, Prod.mk.injEq] at H
     obtain ⟨rfl, rfl⟩ := H
     go_enter Try.func39, Try.ntmps39
     go_wp2_with (first | ((with_reducible refine gate_dst (N := 2) rfl ?_); refine box_event ?hg (N := 2) ?hd (cs := #[.slice A0_0 l0_0.length c0_0, .int .i64 a0_1]) (t := 45) ?hr ?_; (case hd => rfl); (case hg => rfl); (case hr => first | (go_simp; done) | (go_simp; rfl)); intro gb633 hg w8 hbox hb; have n0_ := Aside0.mk (below_step (by exact q0 HB.out) hb); have n1_ := Aside0.mk (hbox); have n2_ := Aside0.mk ((by rw [hg]; exact (below_size (by exact q0 HB.out)) : w.heap.size ≤ gb633)); have n3_ := Aside0.mk ((by rw [hg]; exact (below_size (by exact q0 HB.out)) : w.heap.size ≤ gb633)); clear HB; have HB := n0_; have BK633 := n1_; have GW633 := n2_; have GE633 := n3_; clear n0_ n1_ n2_ n3_; clear hb hbox hg) | ((with_reducible refine gate_dst (N := 3) rfl ?_); refine box_event ?hg (N := 3) ?hd (cs := #[.string a1_0, .string a1_1, .bool a1_2]) (t := 32) ?hr ?_; (case hd => rfl); (case hg => rfl); (case hr => first | (go_simp; done) | (go_simp; rfl)); intro gb634 hg w9 hbox hb; have n0_ := Aside0.mk (bB BK633.out hb); have n1_ := Aside0.mk (below_step (by exact q1 HB.out GE633.out) hb); have n2_ := Aside0.mk (hbox); have n3_ := Aside0.mk ((by rw [hg]; exact (below_size (by exact q1 HB.out GE633.out)) : w.heap.size ≤ gb634)); have n4_ := Aside0.mk ((by rw [hg]; exact (below_size (by exact q1 HB.out GE633.out)) : w.heap.size ≤ gb634)); have n5_ := Aside0.mk ((by rw [hg]; exact Nat.ne_of_lt (blk_lt (g := gb633) (o := .cells #[.slice A0_0 l0_0.length c0_0, .int .i64 a0_1] 45 (0, 0)) (by exact uB BK633.out)) : gb633 ≠ gb634)); have n6_ := Aside0.mk ((by rw [hg]; exact Nat.ne_of_gt (blk_lt (g := gb633) (o := .cells #[.slice A0_0 l0_0.length c0_0, .int .i64 a0_1] 45 (0, 0)) (by exact uB BK633.out)) : gb634 ≠ gb633)); clear BK633; clear HB; have BK633 := n0_; have HB := n1_; have BK634 := n2_; have GW634 := n3_; have GE634 := n4_; have NB633_634 := n5_; have NB634_633 := n6_; clear n0_ n1_ n2_ n3_ n4_ n5_ n6_; clear hb hbox hg; have hnb10 := NB633_634.out; have hnc10 := NB634_633.out; have hcz11_0 : w9.cell? ⟨gb633, 0, none⟩ = some (.slice A0_0 l0_0.length c0_0) := (blk_cell BK633.out 0).trans rfl; have hcz11_1 : w9.cell? ⟨gb633, 1, none⟩ = some (.int .i64 a0_1) := (blk_cell BK633.out 1).trans rfl; have hfz11_0 := blk_frozen BK633.out 0; have hfz11_1 := blk_frozen BK633.out 1) | ((with_reducible refine gate_callee (f := 26) rfl ?_); refine goesL_ (some 7) rfl rfl Try.func26 (by kernel_rfl) rfl #[.agg #[.slice A0_0 l0_0.length c0_0, .int .i64 a0_1]] rfl (by (try simp only [List.map_toArray, List.map_cons, List.map_nil]); first | done | rfl | (simp only [List.length_drop, List.length_take]; rfl)) ?_; (with_reducible refine (spec_TableOk.calls k _ _ l0_0 a0_1 true _ ?side1 ?side2 A3.out).mono ?_); (case side1 => repeat (first | exact (Kd.C_below HR0_0.out HB.out) | (with_reducible refine Kd.C_alloc ?_ _) | (with_reducible refine Kd.C_drewN ?_ _) | (with_reducible refine Kd.C_drew ?_))); (case side2 => exact HC0_0.out); rintro e w12 ⟨rfl, hb⟩; refine ⟨_, rfl, ?_⟩; have n0_ := Aside0.mk (bB BK633.out hb); have n1_ := Aside0.mk (bB BK634.out hb); have n2_ := Aside0.mk (below_step (by exact q2 HB.out GE633.out GE634.out) hb); clear BK633; clear BK634; clear HB; have BK633 := n0_; have BK634 := n1_; have HB := n2_; clear n0_ n1_ n2_; (try clear hb); (try clear hb2); (try clear hk); (try clear hi); have hcz13_0 : w12.cell? ⟨gb634, 0, none⟩ = some (.string a1_0) := (blk_cell BK634.out 0).trans rfl; have hcz13_1 : w12.cell? ⟨gb634, 1, none⟩ = some (.string a1_1) := (blk_cell BK634.out 1).trans rfl; have hcz13_2 : w12.cell? ⟨gb634, 2, none⟩ = some (.bool a1_2) := (blk_cell BK634.out 2).trans rfl; have hfz13_0 := blk_frozen BK634.out 0; have hfz13_1 := blk_frozen BK634.out 1; have hfz13_2 := blk_frozen BK634.out 2) | (go_at_call 46; (with_reducible refine (spec_FieldOk.calls k a1_0 a1_1 a1_2 true _ A5.out).mono ?_); rintro e w14 ⟨rfl, hb⟩; have n0_ := Aside0.mk (bB BK633.out hb); have n1_ := Aside0.mk (bB BK634.out hb); have n2_ := Aside0.mk (below_step (by exact q2 HB.out GE633.out GE634.out) hb); clear BK633; clear BK634; clear HB; have BK633 := n0_; have BK634 := n1_; have HB := n2_; clear n0_ n1_ n2_; (try clear hb); (try clear hb2); (try clear hk); (try clear hi); have hcz15_0 : w14.cell? ⟨gb633, 0, none⟩ = some (.slice A0_0 l0_0.length c0_0) := (blk_cell BK633.out 0).trans rfl; have hcz15_1 : w14.cell? ⟨gb633, 1, none⟩ = some (.int .i64 a0_1) := (blk_cell BK633.out 1).trans rfl; have hfz15_0 := blk_frozen BK633.out 0; have hfz15_1 := blk_frozen BK633.out 1; have hcz16_0 : w14.cell? ⟨gb634, 0, none⟩ = some (.string a1_0) := (blk_cell BK634.out 0).trans rfl; have hcz16_1 : w14.cell? ⟨gb634, 1, none⟩ = some (.string a1_1) := (blk_cell BK634.out 1).trans rfl; have hcz16_2 : w14.cell? ⟨gb634, 2, none⟩ = some (.bool a1_2) := (blk_cell BK634.out 2).trans rfl; have hfz16_0 := blk_frozen BK634.out 0; have hfz16_1 := blk_frozen BK634.out 1; have hfz16_2 := blk_frozen BK634.out 2) | ((with_reducible refine gate_callee (f := 63) rfl ?_); refine goesL_ (some 16) rfl rfl Try.func63 (by kernel_rfl) rfl #[.agg #[.slice A0_0 l0_0.length c0_0, .int .i64 a0_1], .agg #[.string a1_0, .string a1_1, .bool a1_2]] rfl (by (try simp only [List.map_toArray, List.map_cons, List.map_nil]); first | done | rfl | (simp only [List.length_drop, List.length_take]; rfl)) ?_; (with_reducible refine (spec_l3Find.calls k _ _ l0_0 a0_1 a1_0 a1_1 a1_2 t637 t638 _ ?side1 ?side2 A7.out).mono ?_); (case side1 => repeat (first | exact (Kd.C_below HR0_0.out HB.out) | (with_reducible refine Kd.C_alloc ?_ _) | (with_reducible refine Kd.C_drewN ?_ _) | (with_reducible refine Kd.C_drew ?_))); (case side2 => exact HC0_0.out); rintro e w17 ⟨rfl, hb⟩; refine ⟨_, rfl, ?_⟩; have n0_ := Aside0.mk (bB BK633.out hb); have n1_ := Aside0.mk (bB BK634.out hb); have n2_ := Aside0.mk (below_step (by exact q2 HB.out GE633.out GE634.out) hb); clear BK633; clear BK634; clear HB; have BK633 := n0_; have BK634 := n1_; have HB := n2_; clear n0_ n1_ n2_; (try clear hb); (try clear hb2); (try clear hk); (try clear hi)))
     go_ret2
     exact ⟨by first | rfl | (simp [errW_none, errW_some] <;> rfl) | (simp [*, errW_none, errW_some] <;> rfl), by exact q2 HB.out GE633.out GE634.out⟩
   replace c6 := Bool.eq_false_iff.mpr c6
   subst c6
   have H1 : (some (0, false)) = some (r1, r2) := by rw [if_neg (show ¬ (false = true) by decide)] at H; exact H
   clear H; have H := H1; clear H1
   simp only [Option.some.injEq, Prod.mk.injEq] at H
   obtain ⟨rfl, rfl⟩ := H
   go_enter Try.func39, Try.ntmps39
   go_wp2_with (first | ((with_reducible refine gate_dst (N := 2) rfl ?_); refine box_event ?hg (N := 2) ?hd (cs := #[.slice A0_0 l0_0.length c0_0, .int .i64 a0_1]) (t := 45) ?hr ?_; (case hd => rfl); (case hg => rfl); (case hr => first | (go_simp; done) | (go_simp; rfl)); intro gb633 hg w18 hbox hb; have n0_ := Aside0.mk (below_step (by exact q0 HB.out) hb); have n1_ := Aside0.mk (hbox); have n2_ := Aside0.mk ((by rw [hg]; exact (below_size (by exact q0 HB.out)) : w.heap.size ≤ gb633)); have n3_ := Aside0.mk ((by rw [hg]; exact (below_size (by exact q0 HB.out)) : w.heap.size ≤ gb633)); clear HB; have HB := n0_; have BK633 := n1_; have GW633 := n2_; have GE633 := n3_; clear n0_ n1_ n2_ n3_; clear hb hbox hg) | ((with_reducible refine gate_dst (N := 3) rfl ?_); refine box_event ?hg (N := 3) ?hd (cs := #[.string a1_0, .string a1_1, .bool a1_2]) (t := 32) ?hr ?_; (case hd => rfl); (case hg => rfl); (case hr => first | (go_simp; done) | (go_simp; rfl)); intro gb634 hg w19 hbox hb; have n0_ := Aside0.mk (bB BK633.out hb); have n1_ := Aside0.mk (below_step (by exact q1 HB.out GE633.out) hb); have n2_ := Aside0.mk (hbox); have n3_ := Aside0.mk ((by rw [hg]; exact (below_size (by exact q1 HB.out GE633.out)) : w.heap.size ≤ gb634)); have n4_ := Aside0.mk ((by rw [hg]; exact (below_size (by exact q1 HB.out GE633.out)) : w.heap.size ≤ gb634)); have n5_ := Aside0.mk ((by rw [hg]; exact Nat.ne_of_lt (blk_lt (g := gb633) (o := .cells #[.slice A0_0 l0_0.length c0_0, .int .i64 a0_1] 45 (0, 0)) (by exact uB BK633.out)) : gb633 ≠ gb634)); have n6_ := Aside0.mk ((by rw [hg]; exact Nat.ne_of_gt (blk_lt (g := gb633) (o := .cells #[.slice A0_0 l0_0.length c0_0, .int .i64 a0_1] 45 (0, 0)) (by exact uB BK633.out)) : gb634 ≠ gb633)); clear BK633; clear HB; have BK633 := n0_; have HB := n1_; have BK634 := n2_; have GW634 := n3_; have GE634 := n4_; have NB633_634 := n5_; have NB634_633 := n6_; clear n0_ n1_ n2_ n3_ n4_ n5_ n6_; clear hb hbox hg; have hnb20 := NB633_634.out; have hnc20 := NB634_633.out; have hcz21_0 : w19.cell? ⟨gb633, 0, none⟩ = some (.slice A0_0 l0_0.length c0_0) := (blk_cell BK633.out 0).trans rfl; have hcz21_1 : w19.cell? ⟨gb633, 1, none⟩ = some (.int .i64 a0_1) := (blk_cell BK633.out 1).trans rfl; have hfz21_0 := blk_frozen BK633.out 0; have hfz21_1 := blk_frozen BK633.out 1) | ((with_reducible refine gate_callee (f := 26) rfl ?_); refine goesL_ (some 7) rfl rfl Try.func26 (by kernel_rfl) rfl #[.agg #[.slice A0_0 l0_0.length c0_0, .int .i64 a0_1]] rfl (by (try simp only [List.map_toArray, List.map_cons, List.map_nil]); first | done | rfl | (simp only [List.length_drop, List.length_take]; rfl)) ?_; (with_reducible refine (spec_TableOk.calls k _ _ l0_0 a0_1 true _ ?side1 ?side2 A3.out).mono ?_); (case side1 => repeat (first | exact (Kd.C_below HR0_0.out HB.out) | (with_reducible refine Kd.C_alloc ?_ _) | (with_reducible refine Kd.C_drewN ?_ _) | (with_reducible refine Kd.C_drew ?_))); (case side2 => exact HC0_0.out); rintro e w22 ⟨rfl, hb⟩; refine ⟨_, rfl, ?_⟩; have n0_ := Aside0.mk (bB BK633.out hb); have n1_ := Aside0.mk (bB BK634.out hb); have n2_ := Aside0.mk (below_step (by exact q2 HB.out GE633.out GE634.out) hb); clear BK633; clear BK634; clear HB; have BK633 := n0_; have BK634 := n1_; have HB := n2_; clear n0_ n1_ n2_; (try clear hb); (try clear hb2); (try clear hk); (try clear hi); have hcz23_0 : w22.cell? ⟨gb634, 0, none⟩ = some (.string a1_0) := (blk_cell BK634.out 0).trans rfl; have hcz23_1 : w22.cell? ⟨gb634, 1, none⟩ = some (.string a1_1) := (blk_cell BK634.out 1).trans rfl; have hcz23_2 : w22.cell? ⟨gb634, 2, none⟩ = some (.bool a1_2) := (blk_cell BK634.out 2).trans rfl; have hfz23_0 := blk_frozen BK634.out 0; have hfz23_1 := blk_frozen BK634.out 1; have hfz23_2 := blk_frozen BK634.out 2) | (go_at_call 46; (with_reducible refine (spec_FieldOk.calls k a1_0 a1_1 a1_2 false _ A5.out).mono ?_); rintro e w24 ⟨rfl, hb⟩; have n0_ := Aside0.mk (bB BK633.out hb); have n1_ := Aside0.mk (bB BK634.out hb); have n2_ := Aside0.mk (below_step (by exact q2 HB.out GE633.out GE634.out) hb); clear BK633; clear BK634; clear HB; have BK633 := n0_; have BK634 := n1_; have HB := n2_; clear n0_ n1_ n2_; (try clear hb); (try clear hb2); (try clear hk); (try clear hi)))
   go_ret2
   exact ⟨by first | rfl | (simp [errW_none, errW_some] <;> rfl) | (simp [*, errW_none, errW_some] <;> rfl), by exact q2 HB.out GE633.out GE634.out⟩
 replace c4 := Bool.eq_false_iff.mpr c4
 subst c4
 have H1 : (some (0, false)) = some (r1, r2) := by rw [if_neg (show ¬ (false = true) by decide)] at H; exact H
 clear H; have H := H1; clear H1
 simp only [Option.some.injEq, Prod.mk.injEq] at H
 obtain ⟨rfl, rfl⟩ := H
 go_enter Try.func39, Try.ntmps39
 go_wp2_with (first | ((with_reducible refine gate_dst (N := 2) rfl ?_); refine box_event ?hg (N := 2) ?hd (cs := #[.slice A0_0 l0_0.length c0_0, .int .i64 a0_1]) (t := 45) ?hr ?_; (case hd => rfl); (case hg => rfl); (case hr => first | (go_simp; done) | (go_simp; rfl)); intro gb633 hg w25 hbox hb; have n0_ := Aside0.mk (below_step (by exact q0 HB.out) hb); have n1_ := Aside0.mk (hbox); have n2_ := Aside0.mk ((by rw [hg]; exact (below_size (by exact q0 HB.out)) : w.heap.size ≤ gb633)); have n3_ := Aside0.mk ((by rw [hg]; exact (below_size (by exact q0 HB.out)) : w.heap.size ≤ gb633)); clear HB; have HB := n0_; have BK633 := n1_; have GW633 := n2_; have GE633 := n3_; clear n0_ n1_ n2_ n3_; clear hb hbox hg) | ((with_reducible refine gate_dst (N := 3) rfl ?_); refine box_event ?hg (N := 3) ?hd (cs := #[.string a1_0, .string a1_1, .bool a1_2]) (t := 32) ?hr ?_; (case hd => rfl); (case hg => rfl); (case hr => first | (go_simp; done) | (go_simp; rfl)); intro gb634 hg w26 hbox hb; have n0_ := Aside0.mk (bB BK633.out hb); have n1_ := Aside0.mk (below_step (by exact q1 HB.out GE633.out) hb); have n2_ := Aside0.mk (hbox); have n3_ := Aside0.mk ((by rw [hg]; exact (below_size (by exact q1 HB.out GE633.out)) : w.heap.size ≤ gb634)); have n4_ := Aside0.mk ((by rw [hg]; exact (below_size (by exact q1 HB.out GE633.out)) : w.heap.size ≤ gb634)); have n5_ := Aside0.mk ((by rw [hg]; exact Nat.ne_of_lt (blk_lt (g := gb633) (o := .cells #[.slice A0_0 l0_0.length c0_0, .int .i64 a0_1] 45 (0, 0)) (by exact uB BK633.out)) : gb633 ≠ gb634)); have n6_ := Aside0.mk ((by rw [hg]; exact Nat.ne_of_gt (blk_lt (g := gb633) (o := .cells #[.slice A0_0 l0_0.length c0_0, .int .i64 a0_1] 45 (0, 0)) (by exact uB BK633.out)) : gb634 ≠ gb633)); clear BK633; clear HB; have BK633 := n0_; have HB := n1_; have BK634 := n2_; have GW634 := n3_; have GE634 := n4_; have NB633_634 := n5_; have NB634_633 := n6_; clear n0_ n1_ n2_ n3_ n4_ n5_ n6_; clear hb hbox hg; have hnb27 := NB633_634.out; have hnc27 := NB634_633.out; have hcz28_0 : w26.cell? ⟨gb633, 0, none⟩ = some (.slice A0_0 l0_0.length c0_0) := (blk_cell BK633.out 0).trans rfl; have hcz28_1 : w26.cell? ⟨gb633, 1, none⟩ = some (.int .i64 a0_1) := (blk_cell BK633.out 1).trans rfl; have hfz28_0 := blk_frozen BK633.out 0; have hfz28_1 := blk_frozen BK633.out 1) | ((with_reducible refine gate_callee (f := 26) rfl ?_); refine goesL_ (some 7) rfl rfl Try.func26 (by kernel_rfl) rfl #[.agg #[.slice A0_0 l0_0.length c0_0, .int .i64 a0_1]] rfl (by (try simp only [List.map_toArray, List.map_cons, List.map_nil]); first | done | rfl | (simp only [List.length_drop, List.length_take]; rfl)) ?_; (with_reducible refine (spec_TableOk.calls k _ _ l0_0 a0_1 false _ ?side1 ?side2 A3.out).mono ?_); (case side1 => repeat (first | exact (Kd.C_below HR0_0.out HB.out) | (with_reducible refine Kd.C_alloc ?_ _) | (with_reducible refine Kd.C_drewN ?_ _) | (with_reducible refine Kd.C_drew ?_))); (case side2 => exact HC0_0.out); rintro e w29 ⟨rfl, hb⟩; refine ⟨_, rfl, ?_⟩; have n0_ := Aside0.mk (bB BK633.out hb); have n1_ := Aside0.mk (bB BK634.out hb); have n2_ := Aside0.mk (below_step (by exact q2 HB.out GE633.out GE634.out) hb); clear BK633; clear BK634; clear HB; have BK633 := n0_; have BK634 := n1_; have HB := n2_; clear n0_ n1_ n2_; (try clear hb); (try clear hb2); (try clear hk); (try clear hi)))
 go_ret2
 exact ⟨by first | rfl | (simp [errW_none, errW_some] <;> rfl) | (simp [*, errW_none, errW_some] <;> rfl), by exact q2 HB.out GE633.out GE634.out⟩

/-! ### (loop.example/lamson/impl.Table).find: function 64 -/
def find_1.F (n v : ByteArray) (x : S32) : Option Bool := some ((x.f0.toList == n.toList) && (x.f1.toList == v.toList))
def find_2.F (n : ByteArray) (x : S32) : Option Bool := some (x.f0.toList == n.toList)
set_option maxHeartbeats 8000000 in
set_option maxRecDepth 100000 in
theorem find_1.calls (g : Nat) (n v : ByteArray) (x : S32) (r : Bool) (w : World) (hn0 : w.cell? ⟨g, 0, none⟩ = some (.string n)) (hn1 : w.cell? ⟨g, 1, none⟩ = some (.string v)) (h : find_1.F n v x = some r) :
 Calls Try.prog 73 #[.agg #[.string x.f0, .string x.f1, .bool x.f2], .pointer (some ⟨g, 0, none⟩)] w fun e w' => e = .returned (.bool r) ∧ Below w.heap.size w w' := by
 have hu32 := Try.underlying32
 have HB := Aside0.mk (Below.refl w.heap.size w)
 obtain rfl := Option.some.inj h
 clear h
 by_cases c1 : x.f0.toList = n.toList
 · have c1b0 : (x.f0.toList == n.toList) = true := beq_iff_eq.mpr c1
   have c1b1 : (x.f0.toList != n.toList) = false := bne_eq_false_iff_eq.mpr c1
   clear c1
   by_cases c2 : x.f1.toList = v.toList
   · have c2b0 : (x.f1.toList == v.toList) = true := beq_iff_eq.mpr c2
     have c2b1 : (x.f1.toList != v.toList) = false := bne_eq_false_iff_eq.mpr c2
     clear c2
     rw [c1b0, c2b0]
     go_enter Try.func73, Try.ntmps73
     go_wp2_with (first | ((with_reducible refine gate_dst (N := 2) rfl ?_); refine box_event ?hg (N := 2) ?hd (cs := #[.string x.f0, .string x.f1, .bool x.f2]) (t := 32) ?hr ?_; (case hd => rfl); (case hg => rfl); (case hr => first | (go_simp; done) | (go_simp; rfl)); intro gb1 hg w6 hbox hb; have n0_ := Aside0.mk (below_step (by exact q0 HB.out) hb); have n1_ := Aside0.mk (hbox); have n2_ := Aside0.mk ((by rw [hg]; exact (below_size (by exact q0 HB.out)) : w.heap.size ≤ gb1)); clear HB; have HB := n0_; have BK1 := n1_; have GE1 := n2_; clear n0_ n1_ n2_; clear hb hbox hg; have hcz1_0 : w6.cell? ⟨gb1, 0, none⟩ = some (.string x.f0) := (blk_cell BK1.out 0).trans rfl; have hcz1_1 : w6.cell? ⟨gb1, 1, none⟩ = some (.string x.f1) := (blk_cell BK1.out 1).trans rfl; have hcz1_2 : w6.cell? ⟨gb1, 2, none⟩ = some (.bool x.f2) := (blk_cell BK1.out 2).trans rfl; have hfz1_0 := blk_frozen BK1.out 0; have hfz1_1 := blk_frozen BK1.out 1; have hfz1_2 := blk_frozen BK1.out 2; have hcy0 := (HB.out.cell (World.block_lt_of_cell? w _ hn0)).trans hn0; have hcy1 := (HB.out.cell (World.block_lt_of_cell? w _ hn1)).trans hn1))
     go_ret
     exact ⟨by first | rfl | simp [*], by exact q0 HB.out⟩
   have c2b0 : (x.f1.toList == v.toList) = false := beq_eq_false_iff_ne.mpr c2
   have c2b1 : (x.f1.toList != v.toList) = true := bne_iff_ne.mpr c2
   clear c2
   rw [c1b0, c2b0]
   go_enter Try.func73, Try.ntmps73
   go_wp2_with (first | ((with_reducible refine gate_dst (N := 2) rfl ?_); refine box_event ?hg (N := 2) ?hd (cs := #[.string x.f0, .string x.f1, .bool x.f2]) (t := 32) ?hr ?_; (case hd => rfl); (case hg => rfl); (case hr => first | (go_simp; done) | (go_simp; rfl)); intro gb1 hg w6 hbox hb; have n0_ := Aside0.mk (below_step (by exact q0 HB.out) hb); have n1_ := Aside0.mk (hbox); have n2_ := Aside0.mk ((by rw [hg]; exact (below_size (by exact q0 HB.out)) : w.heap.size ≤ gb1)); clear HB; have HB := n0_; have BK1 := n1_; have GE1 := n2_; clear n0_ n1_ n2_; clear hb hbox hg; have hcz1_0 : w6.cell? ⟨gb1, 0, none⟩ = some (.string x.f0) := (blk_cell BK1.out 0).trans rfl; have hcz1_1 : w6.cell? ⟨gb1, 1, none⟩ = some (.string x.f1) := (blk_cell BK1.out 1).trans rfl; have hcz1_2 : w6.cell? ⟨gb1, 2, none⟩ = some (.bool x.f2) := (blk_cell BK1.out 2).trans rfl; have hfz1_0 := blk_frozen BK1.out 0; have hfz1_1 := blk_frozen BK1.out 1; have hfz1_2 := blk_frozen BK1.out 2; have hcy0 := (HB.out.cell (World.block_lt_of_cell? w _ hn0)).trans hn0; have hcy1 := (HB.out.cell (World.block_lt_of_cell? w _ hn1)).trans hn1))
   go_ret
   exact ⟨by first | rfl | simp [*], by exact q0 HB.out⟩
 have c1b0 : (x.f0.toList == n.toList) = false := beq_eq_false_iff_ne.mpr c1
 have c1b1 : (x.f0.toList != n.toList) = true := bne_iff_ne.mpr c1
 clear c1
 rw [c1b0, Bool.false_and]
 go_enter Try.func73, Try.ntmps73
 go_wp2_with (first | ((with_reducible refine gate_dst (N := 2) rfl ?_); refine box_event ?hg (N := 2) ?hd (cs := #[.string x.f0, .string x.f1, .bool x.f2]) (t := 32) ?hr ?_; (case hd => rfl); (case hg => rfl); (case hr => first | (go_simp; done) | (go_simp; rfl)); intro gb1 hg w6 hbox hb; have n0_ := Aside0.mk (below_step (by exact q0 HB.out) hb); have n1_ := Aside0.mk (hbox); have n2_ := Aside0.mk ((by rw [hg]; exact (below_size (by exact q0 HB.out)) : w.heap.size ≤ gb1)); clear HB; have HB := n0_; have BK1 := n1_; have GE1 := n2_; clear n0_ n1_ n2_; clear hb hbox hg; have hcz1_0 : w6.cell? ⟨gb1, 0, none⟩ = some (.string x.f0) := (blk_cell BK1.out 0).trans rfl; have hcz1_1 : w6.cell? ⟨gb1, 1, none⟩ = some (.string x.f1) := (blk_cell BK1.out 1).trans rfl; have hcz1_2 : w6.cell? ⟨gb1, 2, none⟩ = some (.bool x.f2) := (blk_cell BK1.out 2).trans rfl; have hfz1_0 := blk_frozen BK1.out 0; have hfz1_1 := blk_frozen BK1.out 1; have hfz1_2 := blk_frozen BK1.out 2; have hcy0 := (HB.out.cell (World.block_lt_of_cell? w _ hn0)).trans hn0; have hcy1 := (HB.out.cell (World.block_lt_of_cell? w _ hn1)).trans hn1))
 go_ret
 exact ⟨by first | rfl | simp [*], by exact q0 HB.out⟩
set_option maxHeartbeats 8000000 in
set_option maxRecDepth 100000 in
theorem find_2.calls (g : Nat) (n v : ByteArray) (x : S32) (r : Bool) (w : World) (hn0 : w.cell? ⟨g, 0, none⟩ = some (.string n)) (hn1 : w.cell? ⟨g, 1, none⟩ = some (.string v)) (h : find_2.F n x = some r) :
 Calls Try.prog 74 #[.agg #[.string x.f0, .string x.f1, .bool x.f2], .pointer (some ⟨g, 0, none⟩)] w fun e w' => e = .returned (.bool r) ∧ Below w.heap.size w w' := by
 have hu32 := Try.underlying32
 have HB := Aside0.mk (Below.refl w.heap.size w)
 obtain rfl := Option.some.inj h
 clear h
 by_cases c1 : x.f0.toList = n.toList
 · have c1b0 : (x.f0.toList == n.toList) = true := beq_iff_eq.mpr c1
   have c1b1 : (x.f0.toList != n.toList) = false := bne_eq_false_iff_eq.mpr c1
   clear c1
   rw [c1b0]
   go_enter Try.func74, Try.ntmps74
   go_wp2_with (first | ((with_reducible refine gate_dst (N := 2) rfl ?_); refine box_event ?hg (N := 2) ?hd (cs := #[.string x.f0, .string x.f1, .bool x.f2]) (t := 32) ?hr ?_; (case hd => rfl); (case hg => rfl); (case hr => first | (go_simp; done) | (go_simp; rfl)); intro gb1 hg w6 hbox hb; have n0_ := Aside0.mk (below_step (by exact q0 HB.out) hb); have n1_ := Aside0.mk (hbox); have n2_ := Aside0.mk ((by rw [hg]; exact (below_size (by exact q0 HB.out)) : w.heap.size ≤ gb1)); clear HB; have HB := n0_; have BK1 := n1_; have GE1 := n2_; clear n0_ n1_ n2_; clear hb hbox hg; have hcz1_0 : w6.cell? ⟨gb1, 0, none⟩ = some (.string x.f0) := (blk_cell BK1.out 0).trans rfl; have hcz1_1 : w6.cell? ⟨gb1, 1, none⟩ = some (.string x.f1) := (blk_cell BK1.out 1).trans rfl; have hcz1_2 : w6.cell? ⟨gb1, 2, none⟩ = some (.bool x.f2) := (blk_cell BK1.out 2).trans rfl; have hfz1_0 := blk_frozen BK1.out 0; have hfz1_1 := blk_frozen BK1.out 1; have hfz1_2 := blk_frozen BK1.out 2; have hcy0 := (HB.out.cell (World.block_lt_of_cell? w _ hn0)).trans hn0; have hcy1 := (HB.out.cell (World.block_lt_of_cell? w _ hn1)).trans hn1))
   go_ret
   exact ⟨by first | rfl | simp [*], by exact q0 HB.out⟩
 have c1b0 : (x.f0.toList == n.toList) = false := beq_eq_false_iff_ne.mpr c1
 have c1b1 : (x.f0.toList != n.toList) = true := bne_iff_ne.mpr c1
 clear c1
 rw [c1b0]
 go_enter Try.func74, Try.ntmps74
 go_wp2_with (first | ((with_reducible refine gate_dst (N := 2) rfl ?_); refine box_event ?hg (N := 2) ?hd (cs := #[.string x.f0, .string x.f1, .bool x.f2]) (t := 32) ?hr ?_; (case hd => rfl); (case hg => rfl); (case hr => first | (go_simp; done) | (go_simp; rfl)); intro gb1 hg w6 hbox hb; have n0_ := Aside0.mk (below_step (by exact q0 HB.out) hb); have n1_ := Aside0.mk (hbox); have n2_ := Aside0.mk ((by rw [hg]; exact (below_size (by exact q0 HB.out)) : w.heap.size ≤ gb1)); clear HB; have HB := n0_; have BK1 := n1_; have GE1 := n2_; clear n0_ n1_ n2_; clear hb hbox hg; have hcz1_0 : w6.cell? ⟨gb1, 0, none⟩ = some (.string x.f0) := (blk_cell BK1.out 0).trans rfl; have hcz1_1 : w6.cell? ⟨gb1, 1, none⟩ = some (.string x.f1) := (blk_cell BK1.out 1).trans rfl; have hcz1_2 : w6.cell? ⟨gb1, 2, none⟩ = some (.bool x.f2) := (blk_cell BK1.out 2).trans rfl; have hfz1_0 := blk_frozen BK1.out 0; have hfz1_1 := blk_frozen BK1.out 1; have hfz1_2 := blk_frozen BK1.out 2; have hcy0 := (HB.out.cell (World.block_lt_of_cell? w _ hn0)).trans hn0; have hcy1 := (HB.out.cell (World.block_lt_of_cell? w _ hn1)).trans hn1))
 go_ret
 exact ⟨by first | rfl | simp [*], by exact q0 HB.out⟩
def impl_Table_find.f (k : Nat) (l0_0 : List (S32)) (a0_1 : Int) (a1_0 : ByteArray) (a1_1 : ByteArray) (a1_2 : Bool) : Option (Int × Bool) := (impl_Table_all.f k l0_0 a0_1).bind fun t => if t.length ≤ 9223372036854775806 then ((idxO (find_1.F a1_0 a1_1) t 0).bind fun i => if i ≥ 0 then some (wrap64 (i + 1), true) else ((idxO (find_2.F a1_0) t 0).bind fun j => some (wrap64 (j + 1), false))) else none
theorem impl_Table_find.mono : ∀ a0 a1 a2 a3 a4 k, LeO (impl_Table_find.f k a0 a1 a2 a3 a4) (impl_Table_find.f (k + 1) a0 a1 a2 a3 a4) := by
 intro a0 a1 a2 a3 a4 k
 unfold impl_Table_find.f
 exact LeO.bind (impl_Table_all.mono _ _ _) (fun _ => LeO.refl _)
theorem find_1.at (g : Nat) (n v : ByteArray) (At : Option Addr) (ct : Nat) (t : List S32) (r : Int) (w : World) (hr : Kd.C k32 w At t.length t) (hbig : t.length ≤ 9223372036854775806) (hn0 : w.cell? ⟨g, 0, none⟩ = some (.string n)) (hn1 : w.cell? ⟨g, 1, none⟩ = some (.string v)) (h : idxO (find_1.F n v) t 0 = some r) :
 Calls Try.prog 67 #[.slice At t.length ct, .func (.func 73) #[] #[.pointer (some ⟨g, 0, none⟩)]] w fun e w' => e = .returned (.int .i64 r) ∧ Below w.heap.size w w' :=
 slices_IndexFunc.at (find_1.F n v) 73 #[.pointer (some ⟨g, 0, none⟩)] (enters_of Try.func73 (by kernel_rfl) (c := _) (by first | rfl | kernel_rfl)) At ct t r w hr hbig (fun W x tt hb ht => (find_1.calls g n v x tt W ((hb.cell (World.block_lt_of_cell? _ _ hn0)).trans hn0) ((hb.cell (World.block_lt_of_cell? _ _ hn1)).trans hn1) ht).mono (fun e w' ⟨h1, h2⟩ => ⟨h1, below_step hb h2⟩)) h
theorem find_2.at (g : Nat) (n v : ByteArray) (At : Option Addr) (ct : Nat) (t : List S32) (r : Int) (w : World) (hr : Kd.C k32 w At t.length t) (hbig : t.length ≤ 9223372036854775806) (hn0 : w.cell? ⟨g, 0, none⟩ = some (.string n)) (hn1 : w.cell? ⟨g, 1, none⟩ = some (.string v)) (h : idxO (find_2.F n) t 0 = some r) :
 Calls Try.prog 67 #[.slice At t.length ct, .func (.func 74) #[] #[.pointer (some ⟨g, 0, none⟩)]] w fun e w' => e = .returned (.int .i64 r) ∧ Below w.heap.size w w' :=
 slices_IndexFunc.at (find_2.F n) 74 #[.pointer (some ⟨g, 0, none⟩)] (enters_of Try.func74 (by kernel_rfl) (c := _) (by first | rfl | kernel_rfl)) At ct t r w hr hbig (fun W x tt hb ht => (find_2.calls g n v x tt W ((hb.cell (World.block_lt_of_cell? _ _ hn0)).trans hn0) ((hb.cell (World.block_lt_of_cell? _ _ hn1)).trans hn1) ht).mono (fun e w' ⟨h1, h2⟩ => ⟨h1, below_step hb h2⟩)) h
set_option maxHeartbeats 8000000 in
set_option maxRecDepth 100000 in
theorem impl_Table_find.calls (k : Nat) (A0_0 : Option Addr) (c0_0 : Nat) (l0_0 : List (S32)) (a0_1 : Int) (a1_0 : ByteArray) (a1_1 : ByteArray) (a1_2 : Bool) (r1 : Int) (r2 : Bool) (w : World) (hr0_0 : Kd.C k32 w A0_0 l0_0.length l0_0) (hc0_0 : l0_0.length ≤ c0_0) (h : impl_Table_find.f k l0_0 a0_1 a1_0 a1_1 a1_2 = some (r1, r2)) :
 Calls Try.prog 64 #[.agg #[.slice A0_0 l0_0.length c0_0, .int .i64 a0_1], .agg #[.string a1_0, .string a1_1, .bool a1_2]] w fun e w' => e = .returned (.tuple #[.int .i64 r1, .bool r2]) ∧ Below w.heap.size w w' := by
 have hu45 := Try.underlying45; have hu32 := Try.underlying32; have HR0_0 := Aside0.mk hr0_0; have HC0_0 := Aside0.mk hc0_0; clear hr0_0 hc0_0
 have HB := Aside0.mk (Below.refl w.heap.size w)
 unfold impl_Table_find.f at h
 replace h := Option.bind_eq_some_iff.mp h
 obtain ⟨t, A30, h⟩ := h; have A3 := Aside0.mk A30; clear A30
 by_cases hbig : t.length ≤ 9223372036854775806
 · rw [if_pos hbig] at h
   have HG := Aside0.mk hbig; clear hbig
   replace h := Option.bind_eq_some_iff.mp h
   obtain ⟨i, A40, h⟩ := h; have A4 := Aside0.mk A40; clear A40
   by_cases c1 : i ≥ 0
   · rw [if_pos c1] at h
     have c1d : decide (i ≥ 0) = true := decide_eq_true c1
     clear c1
     simp only [Option.some.injEq, Prod.mk.injEq] at h
     obtain ⟨rfl, rfl⟩ := h
     go_enter Try.func64, Try.ntmps64
     go_wp2_with (first | ((with_reducible refine gate_dst (N := 2) rfl ?_); refine box_event ?hg (N := 2) ?hd (cs := #[.slice A0_0 l0_0.length c0_0, .int .i64 a0_1]) (t := 45) ?hr ?_; (case hd => rfl); (case hg => rfl); (case hr => first | (go_simp; done) | (go_simp; rfl)); intro gb1 hg w6 hbox hb; have n0_ := Aside0.mk (below_step (by exact q0 HB.out) hb); have n1_ := Aside0.mk (hbox); have n2_ := Aside0.mk ((by rw [hg]; exact (below_size (by exact q0 HB.out)) : w.heap.size ≤ gb1)); clear HB; have HB := n0_; have BK1 := n1_; have GE1 := n2_; clear n0_ n1_ n2_; clear hb hbox hg; have hcz1_0 : w6.cell? ⟨gb1, 0, none⟩ = some (.slice A0_0 l0_0.length c0_0) := (blk_cell BK1.out 0).trans rfl; have hcz1_1 : w6.cell? ⟨gb1, 1, none⟩ = some (.int .i64 a0_1) := (blk_cell BK1.out 1).trans rfl; have hfz1_0 := blk_frozen BK1.out 0; have hfz1_1 := blk_frozen BK1.out 1) | ((with_reducible refine gate_dst (N := 3) rfl ?_); refine box_event ?hg (N := 3) ?hd (cs := #[.string a1_0, .string a1_1, .bool a1_2]) (t := 32) ?hr ?_; (case hd => rfl); (case hg => rfl); (case hr => first | (go_simp; done) | (go_simp; rfl)); intro gb2 hg w7 hbox hb; have n0_ := Aside0.mk (below_step (by exact q0 HB.out) hb); have n1_ := Aside0.mk (hbox); have n2_ := Aside0.mk ((by rw [hg]; exact (below_size (by exact q0 HB.out)) : w.heap.size ≤ gb2)); clear HB; have HB := n0_; have BK2 := n1_; have GE2 := n2_; clear n0_ n1_ n2_; have n3_ := Aside0.mk (bB BK1.out hb); have BK1 := n3_; clear n3_; clear hb hbox hg; have hcy1_0 : w7.cell? ⟨gb1, 0, none⟩ = some (.slice A0_0 l0_0.length c0_0) := (blk_cell BK1.out 0).trans rfl; have hcy1_1 : w7.cell? ⟨gb1, 1, none⟩ = some (.int .i64 a0_1) := (blk_cell BK1.out 1).trans rfl; have hfy1_0 := blk_frozen BK1.out 0; have hfy1_1 := blk_frozen BK1.out 1; have hcz2_0 : w7.cell? ⟨gb2, 0, none⟩ = some (.string a1_0) := (blk_cell BK2.out 0).trans rfl; have hcz2_1 : w7.cell? ⟨gb2, 1, none⟩ = some (.string a1_1) := (blk_cell BK2.out 1).trans rfl; have hcz2_2 : w7.cell? ⟨gb2, 2, none⟩ = some (.bool a1_2) := (blk_cell BK2.out 2).trans rfl; have hfz2_0 := blk_frozen BK2.out 0; have hfz2_1 := blk_frozen BK2.out 1; have hfz2_2 := blk_frozen BK2.out 2) | (go_at_call 72; refine (impl_Table_all.calls k (fun k_ => k_ < w.heap.size) A0_0 c0_0 l0_0 a0_1 t _ (Kd.V_mk HC0_0.out (Kd.F_below (Kd.C_F k32_heap HR0_0.out) (by exact q0 HB.out))) A3.out).mono ?_; rintro e w8 ⟨v5, rfl, ho0, hb⟩; obtain ⟨At, ct, rfl, hct, hrt⟩ := Kd.R_reads ho0; have n0_ := Aside0.mk (below_step (by exact q0 HB.out) hb); have n1_ := Aside0.mk (bB BK2.out hb); clear HB; have HB := n0_; have HT := Aside0.mk hrt; clear BK2; have BK2 := n1_; clear n0_ n1_ ho0 hb hrt; have hcw0 : w8.cell? ⟨gb2, 0, none⟩ = some (.string a1_0) := (blk_cell BK2.out 0).trans rfl; have hcw1 : w8.cell? ⟨gb2, 1, none⟩ = some (.string a1_1) := (blk_cell BK2.out 1).trans rfl) | (go_at_call 67; (with_reducible refine (find_1.at gb2 a1_0 a1_1 At ct t i _ HT.out HG.out hcw0 hcw1 A4.out).mono ?_); rintro e w9 ⟨rfl, hb⟩; have n0_ := Aside0.mk (below_step (by exact q0 HB.out) hb); clear HB; have HB := n0_; clear n0_; have n1_ := Aside0.mk (Kd.C_below HT.out hb); have n2_ := (hb.cell (World.block_lt_of_cell? _ _ hcw0)).trans hcw0; have n3_ := (hb.cell (World.block_lt_of_cell? _ _ hcw1)).trans hcw1; clear HT; have HT := n1_; clear hcw0 hcw1; have hcw0 := n2_; have hcw1 := n3_; clear n1_ n2_ n3_; clear hb))
     go_ret2
     exact ⟨by first | rfl | (simp; done), by exact q0 HB.out⟩
   rw [if_neg c1] at h
   have c1d : decide (i ≥ 0) = false := decide_eq_false c1
   clear c1
   replace h := Option.bind_eq_some_iff.mp h
   obtain ⟨j, A50, h⟩ := h; have A5 := Aside0.mk A50; clear A50
   simp only [Option.some.injEq, Prod.mk.injEq] at h
   obtain ⟨rfl, rfl⟩ := h
   go_enter Try.func64, Try.ntmps64
   go_wp2_with (first | ((with_reducible refine gate_dst (N := 2) rfl ?_); refine box_event ?hg (N := 2) ?hd (cs := #[.slice A0_0 l0_0.length c0_0, .int .i64 a0_1]) (t := 45) ?hr ?_; (case hd => rfl); (case hg => rfl); (case hr => first | (go_simp; done) | (go_simp; rfl)); intro gb1 hg w6 hbox hb; have n0_ := Aside0.mk (below_step (by exact q0 HB.out) hb); have n1_ := Aside0.mk (hbox); have n2_ := Aside0.mk ((by rw [hg]; exact (below_size (by exact q0 HB.out)) : w.heap.size ≤ gb1)); clear HB; have HB := n0_; have BK1 := n1_; have GE1 := n2_; clear n0_ n1_ n2_; clear hb hbox hg; have hcz1_0 : w6.cell? ⟨gb1, 0, none⟩ = some (.slice A0_0 l0_0.length c0_0) := (blk_cell BK1.out 0).trans rfl; have hcz1_1 : w6.cell? ⟨gb1, 1, none⟩ = some (.int .i64 a0_1) := (blk_cell BK1.out 1).trans rfl; have hfz1_0 := blk_frozen BK1.out 0; have hfz1_1 := blk_frozen BK1.out 1) | ((with_reducible refine gate_dst (N := 3) rfl ?_); refine box_event ?hg (N := 3) ?hd (cs := #[.string a1_0, .string a1_1, .bool a1_2]) (t := 32) ?hr ?_; (case hd => rfl); (case hg => rfl); (case hr => first | (go_simp; done) | (go_simp; rfl)); intro gb2 hg w7 hbox hb; have n0_ := Aside0.mk (below_step (by exact q0 HB.out) hb); have n1_ := Aside0.mk (hbox); have n2_ := Aside0.mk ((by rw [hg]; exact (below_size (by exact q0 HB.out)) : w.heap.size ≤ gb2)); clear HB; have HB := n0_; have BK2 := n1_; have GE2 := n2_; clear n0_ n1_ n2_; have n3_ := Aside0.mk (bB BK1.out hb); have BK1 := n3_; clear n3_; clear hb hbox hg; have hcy1_0 : w7.cell? ⟨gb1, 0, none⟩ = some (.slice A0_0 l0_0.length c0_0) := (blk_cell BK1.out 0).trans rfl; have hcy1_1 : w7.cell? ⟨gb1, 1, none⟩ = some (.int .i64 a0_1) := (blk_cell BK1.out 1).trans rfl; have hfy1_0 := blk_frozen BK1.out 0; have hfy1_1 := blk_frozen BK1.out 1; have hcz2_0 : w7.cell? ⟨gb2, 0, none⟩ = some (.string a1_0) := (blk_cell BK2.out 0).trans rfl; have hcz2_1 : w7.cell? ⟨gb2, 1, none⟩ = some (.string a1_1) := (blk_cell BK2.out 1).trans rfl; have hcz2_2 : w7.cell? ⟨gb2, 2, none⟩ = some (.bool a1_2) := (blk_cell BK2.out 2).trans rfl; have hfz2_0 := blk_frozen BK2.out 0; have hfz2_1 := blk_frozen BK2.out 1; have hfz2_2 := blk_frozen BK2.out 2) | (go_at_call 72; refine (impl_Table_all.calls k (fun k_ => k_ < w.heap.size) A0_0 c0_0 l0_0 a0_1 t _ (Kd.V_mk HC0_0.out (Kd.F_below (Kd.C_F k32_heap HR0_0.out) (by exact q0 HB.out))) A3.out).mono ?_; rintro e w8 ⟨v5, rfl, ho0, hb⟩; obtain ⟨At, ct, rfl, hct, hrt⟩ := Kd.R_reads ho0; have n0_ := Aside0.mk (below_step (by exact q0 HB.out) hb); have n1_ := Aside0.mk (bB BK2.out hb); clear HB; have HB := n0_; have HT := Aside0.mk hrt; clear BK2; have BK2 := n1_; clear n0_ n1_ ho0 hb hrt; have hcw0 : w8.cell? ⟨gb2, 0, none⟩ = some (.string a1_0) := (blk_cell BK2.out 0).trans rfl; have hcw1 : w8.cell? ⟨gb2, 1, none⟩ = some (.string a1_1) := (blk_cell BK2.out 1).trans rfl) | (go_at_call 67; (with_reducible refine (find_1.at gb2 a1_0 a1_1 At ct t i _ HT.out HG.out hcw0 hcw1 A4.out).mono ?_); rintro e w9 ⟨rfl, hb⟩; have n0_ := Aside0.mk (below_step (by exact q0 HB.out) hb); clear HB; have HB := n0_; clear n0_; have n1_ := Aside0.mk (Kd.C_below HT.out hb); have n2_ := (hb.cell (World.block_lt_of_cell? _ _ hcw0)).trans hcw0; have n3_ := (hb.cell (World.block_lt_of_cell? _ _ hcw1)).trans hcw1; clear HT; have HT := n1_; clear hcw0 hcw1; have hcw0 := n2_; have hcw1 := n3_; clear n1_ n2_ n3_; clear hb) | (go_at_call 67; (with_reducible refine (find_2.at gb2 a1_0 a1_1 At ct t j _ HT.out HG.out hcw0 hcw1 A5.out).mono ?_); rintro e w10 ⟨rfl, hb⟩; have n0_ := Aside0.mk (below_step (by exact q0 HB.out) hb); clear HB; have HB := n0_; clear n0_; clear hb))
   go_ret2
   exact ⟨by first | rfl | (simp; done), by exact q0 HB.out⟩
 rw [if_neg hbig] at h
 cases h

/-! ### impl_TableFind: function 41 -/
def impl_TableFind.f (k : Nat) (l0_0 : List (S32)) (a0_1 : Int) (a1_0 : ByteArray) (a1_1 : ByteArray) (a1_2 : Bool) : Option (Int × Bool) := (impl_TableOk.f k l0_0 a0_1).bind fun t645 => (if t645 = true then ((impl_FieldOk.f k a1_0 a1_1 a1_2).bind fun t646 => (if t646 = true then ((impl_Table_find.f k l0_0 a0_1 a1_0 a1_1 a1_2).bind fun bt647 => (some (bt647.1, bt647.2))) else (some (0, false)))) else (some (0, false)))
theorem impl_TableFind.mono : ∀ a0 a1 a2 a3 a4 k, LeO (impl_TableFind.f k a0 a1 a2 a3 a4) (impl_TableFind.f (k + 1) a0 a1 a2 a3 a4) := by
  intro a0 a1 a2 a3 a4 k
  unfold impl_TableFind.f
  repeat' first
      | (with_reducible exact impl_FieldOk.mono _ _ _ _)
      | (with_reducible exact impl_TableOk.mono _ _ _)
      | (with_reducible exact impl_Table_find.mono _ _ _ _ _ _)
      | (with_reducible exact LeO.refl _)
      | (with_reducible exact LeO.none _)
      | (with_reducible refine LeO.ite ?_ ?_)
      | (with_reducible refine LeO.bind ?_ (fun _ => ?_))
set_option maxHeartbeats 8000000 in
set_option maxRecDepth 100000 in
theorem impl_TableFind.calls (k : Nat) (A0_0 : Option Addr) (c0_0 : Nat) (l0_0 : List (S32)) (a0_1 : Int) (a1_0 : ByteArray) (a1_1 : ByteArray) (a1_2 : Bool) (r1 : Int) (r2 : Bool) (w : World) (hr0_0 : Kd.C k32 w A0_0 l0_0.length l0_0) (hc0_0 : l0_0.length ≤ c0_0) (h : impl_TableFind.f k l0_0 a0_1 a1_0 a1_1 a1_2 = some (r1, r2)) :
 Calls Try.prog 41 #[.agg #[.slice A0_0 l0_0.length c0_0, .int .i64 a0_1], .agg #[.string a1_0, .string a1_1, .bool a1_2]] w fun e w' => e = .returned (.tuple #[.int .i64 r1, .bool r2]) ∧ Below w.heap.size w w' := by
 have hu45 := Try.underlying45; have hu32 := Try.underlying32; have HR0_0 := Aside0.mk hr0_0; have HC0_0 := Aside0.mk hc0_0; clear hr0_0 hc0_0
 have HB := Aside0.mk (Below.refl w.heap.size w)
 have H : ((impl_TableOk.f k l0_0 a0_1).bind fun t645 => (if t645 = true then ((impl_FieldOk.f k a1_0 a1_1 a1_2).bind fun t646 => (if t646 = true then ((impl_Table_find.f k l0_0 a0_1 a1_0 a1_1 a1_2).bind fun bt647 => (some (bt647.1, bt647.2))) else (some (0, false)))) else (some (0, false)))) = some (r1, r2) := h
 clear h; replace H := Option.bind_eq_some_iff.mp H; obtain ⟨t645, A30, H⟩ := H
 replace H : (if t645 = true then ((impl_FieldOk.f k a1_0 a1_1 a1_2).bind fun t646 => (if t646 = true then ((impl_Table_find.f k l0_0 a0_1 a1_0 a1_1 a1_2).bind fun bt647 => (some (bt647.1, bt647.2))) else (some (0, false)))) else (some (0, false))) = some (r1, r2) := H
 have A3 := Aside0.mk A30; clear A30
 by_cases c4 : t645 = true
 · subst c4
   have H1 : ((impl_FieldOk.f k a1_0 a1_1 a1_2).bind fun t646 => (if t646 = true then ((impl_Table_find.f k l0_0 a0_1 a1_0 a1_1 a1_2).bind fun bt647 => (some (bt647.1, bt647.2))) else (some (0, false)))) = some (r1, r2) := by rw [if_pos rfl] at H; exact H
   clear H; have H := H1; clear H1; replace H := Option.bind_eq_some_iff.mp H; obtain ⟨t646, A50, H⟩ := H
   replace H : (if t646 = true then ((impl_Table_find.f k l0_0 a0_1 a1_0 a1_1 a1_2).bind fun bt647 => (some (bt647.1, bt647.2))) else (some (0, false))) = some (r1, r2) := H
   have A5 := Aside0.mk A50; clear A50
   by_cases c6 : t646 = true
   · subst c6
     have H1 : ((impl_Table_find.f k l0_0 a0_1 a1_0 a1_1 a1_2).bind fun bt647 => (some (bt647.1, bt647.2))) = some (r1, r2) := by rw [if_pos rfl] at H; exact H
     clear H; have H := H1; clear H1; replace H := Option.bind_eq_some_iff.mp H; obtain ⟨⟨t647, t648⟩, A70, H⟩ := H
     replace H : (some (t647, t648)) = some (r1, r2) := H
     have A7 := Aside0.mk A70; clear A70
     simp only [Option.some.injEq, Prod.mk.injEq] at H
     obtain ⟨rfl, rfl⟩ := H
     go_enter Try.func41, Try.ntmps41
     go_wp2_with (first | ((with_reducible refine gate_dst (N := 2) rfl ?_); refine box_event ?hg (N := 2) ?hd (cs := #[.slice A0_0 l0_0.length c0_0, .int .i64 a0_1]) (t := 45) ?hr ?_; (case hd => rfl); (case hg => rfl); (case hr => first | (go_simp; done) | (go_simp; rfl)); intro gb643 hg w8 hbox hb; have n0_ := Aside0.mk (below_step (by exact q0 HB.out) hb); have n1_ := Aside0.mk (hbox); have n2_ := Aside0.mk ((by rw [hg]; exact (below_size (by exact q0 HB.out)) : w.heap.size ≤ gb643)); have n3_ := Aside0.mk ((by rw [hg]; exact (below_size (by exact q0 HB.out)) : w.heap.size ≤ gb643)); clear HB; have HB := n0_; have BK643 := n1_; have GW643 := n2_; have GE643 := n3_; clear n0_ n1_ n2_ n3_; clear hb hbox hg) | ((with_reducible refine gate_dst (N := 3) rfl ?_); refine box_event ?hg (N := 3) ?hd (cs := #[.string a1_0, .string a1_1, .bool a1_2]) (t := 32) ?hr ?_; (case hd => rfl); (case hg => rfl); (case hr => first | (go_simp; done) | (go_simp; rfl)); intro gb644 hg w9 hbox hb; have n0_ := Aside0.mk (bB BK643.out hb); have n1_ := Aside0.mk (below_step (by exact q1 HB.out GE643.out) hb); have n2_ := Aside0.mk (hbox); have n3_ := Aside0.mk ((by rw [hg]; exact (below_size (by exact q1 HB.out GE643.out)) : w.heap.size ≤ gb644)); have n4_ := Aside0.mk ((by rw [hg]; exact (below_size (by exact q1 HB.out GE643.out)) : w.heap.size ≤ gb644)); have n5_ := Aside0.mk ((by rw [hg]; exact Nat.ne_of_lt (blk_lt (g := gb643) (o := .cells #[.slice A0_0 l0_0.length c0_0, .int .i64 a0_1] 45 (0, 0)) (by exact uB BK643.out)) : gb643 ≠ gb644)); have n6_ := Aside0.mk ((by rw [hg]; exact Nat.ne_of_gt (blk_lt (g := gb643) (o := .cells #[.slice A0_0 l0_0.length c0_0, .int .i64 a0_1] 45 (0, 0)) (by exact uB BK643.out)) : gb644 ≠ gb643)); clear BK643; clear HB; have BK643 := n0_; have HB := n1_; have BK644 := n2_; have GW644 := n3_; have GE644 := n4_; have NB643_644 := n5_; have NB644_643 := n6_; clear n0_ n1_ n2_ n3_ n4_ n5_ n6_; clear hb hbox hg; have hnb10 := NB643_644.out; have hnc10 := NB644_643.out; have hcz11_0 : w9.cell? ⟨gb643, 0, none⟩ = some (.slice A0_0 l0_0.length c0_0) := (blk_cell BK643.out 0).trans rfl; have hcz11_1 : w9.cell? ⟨gb643, 1, none⟩ = some (.int .i64 a0_1) := (blk_cell BK643.out 1).trans rfl; have hfz11_0 := blk_frozen BK643.out 0; have hfz11_1 := blk_frozen BK643.out 1) | ((with_reducible refine gate_callee (f := 28) rfl ?_); refine goesL_ (some 7) rfl rfl Try.func28 (by kernel_rfl) rfl #[.agg #[.slice A0_0 l0_0.length c0_0, .int .i64 a0_1]] rfl (by (try simp only [List.map_toArray, List.map_cons, List.map_nil]); first | done | rfl | (simp only [List.length_drop, List.length_take]; rfl)) ?_; (with_reducible refine (impl_TableOk.calls k _ _ l0_0 a0_1 true _ ?side1 ?side2 A3.out).mono ?_); (case side1 => repeat (first | exact (Kd.C_below HR0_0.out HB.out) | (with_reducible refine Kd.C_alloc ?_ _) | (with_reducible refine Kd.C_drewN ?_ _) | (with_reducible refine Kd.C_drew ?_))); (case side2 => exact HC0_0.out); rintro e w12 ⟨rfl, hb⟩; refine ⟨_, rfl, ?_⟩; have n0_ := Aside0.mk (bB BK643.out hb); have n1_ := Aside0.mk (bB BK644.out hb); have n2_ := Aside0.mk (below_step (by exact q2 HB.out GE643.out GE644.out) hb); clear BK643; clear BK644; clear HB; have BK643 := n0_; have BK644 := n1_; have HB := n2_; clear n0_ n1_ n2_; (try clear hb); (try clear hb2); (try clear hk); (try clear hi); have hcz13_0 : w12.cell? ⟨gb644, 0, none⟩ = some (.string a1_0) := (blk_cell BK644.out 0).trans rfl; have hcz13_1 : w12.cell? ⟨gb644, 1, none⟩ = some (.string a1_1) := (blk_cell BK644.out 1).trans rfl; have hcz13_2 : w12.cell? ⟨gb644, 2, none⟩ = some (.bool a1_2) := (blk_cell BK644.out 2).trans rfl; have hfz13_0 := blk_frozen BK644.out 0; have hfz13_1 := blk_frozen BK644.out 1; have hfz13_2 := blk_frozen BK644.out 2) | (go_at_call 45; (with_reducible refine (impl_FieldOk.calls k a1_0 a1_1 a1_2 true _ A5.out).mono ?_); rintro e w14 ⟨rfl, hb⟩; have n0_ := Aside0.mk (bB BK643.out hb); have n1_ := Aside0.mk (bB BK644.out hb); have n2_ := Aside0.mk (below_step (by exact q2 HB.out GE643.out GE644.out) hb); clear BK643; clear BK644; clear HB; have BK643 := n0_; have BK644 := n1_; have HB := n2_; clear n0_ n1_ n2_; (try clear hb); (try clear hb2); (try clear hk); (try clear hi); have hcz15_0 : w14.cell? ⟨gb643, 0, none⟩ = some (.slice A0_0 l0_0.length c0_0) := (blk_cell BK643.out 0).trans rfl; have hcz15_1 : w14.cell? ⟨gb643, 1, none⟩ = some (.int .i64 a0_1) := (blk_cell BK643.out 1).trans rfl; have hfz15_0 := blk_frozen BK643.out 0; have hfz15_1 := blk_frozen BK643.out 1; have hcz16_0 : w14.cell? ⟨gb644, 0, none⟩ = some (.string a1_0) := (blk_cell BK644.out 0).trans rfl; have hcz16_1 : w14.cell? ⟨gb644, 1, none⟩ = some (.string a1_1) := (blk_cell BK644.out 1).trans rfl; have hcz16_2 : w14.cell? ⟨gb644, 2, none⟩ = some (.bool a1_2) := (blk_cell BK644.out 2).trans rfl; have hfz16_0 := blk_frozen BK644.out 0; have hfz16_1 := blk_frozen BK644.out 1; have hfz16_2 := blk_frozen BK644.out 2) | ((with_reducible refine gate_callee (f := 64) rfl ?_); refine goesL_ (some 16) rfl rfl Try.func64 (by kernel_rfl) rfl #[.agg #[.slice A0_0 l0_0.length c0_0, .int .i64 a0_1], .agg #[.string a1_0, .string a1_1, .bool a1_2]] rfl (by (try simp only [List.map_toArray, List.map_cons, List.map_nil]); first | done | rfl | (simp only [List.length_drop, List.length_take]; rfl)) ?_; (with_reducible refine (impl_Table_find.calls k _ _ l0_0 a0_1 a1_0 a1_1 a1_2 t647 t648 _ ?side1 ?side2 A7.out).mono ?_); (case side1 => repeat (first | exact (Kd.C_below HR0_0.out HB.out) | (with_reducible refine Kd.C_alloc ?_ _) | (with_reducible refine Kd.C_drewN ?_ _) | (with_reducible refine Kd.C_drew ?_))); (case side2 => exact HC0_0.out); rintro e w17 ⟨rfl, hb⟩; refine ⟨_, rfl, ?_⟩; have n0_ := Aside0.mk (bB BK643.out hb); have n1_ := Aside0.mk (bB BK644.out hb); have n2_ := Aside0.mk (below_step (by exact q2 HB.out GE643.out GE644.out) hb); clear BK643; clear BK644; clear HB; have BK643 := n0_; have BK644 := n1_; have HB := n2_; clear n0_ n1_ n2_; (try clear hb); (try clear hb2); (try clear hk); (try clear hi)))
     go_ret2
     exact ⟨by first | rfl | (simp [errW_none, errW_some] <;> rfl) | (simp [*, errW_none, errW_some] <;> rfl), by exact q2 HB.out GE643.out GE644.out⟩
   replace c6 := Bool.eq_false_iff.mpr c6
   subst c6
   have H1 : (some (0, false)) = some (r1, r2) := by rw [if_neg (show ¬ (false = true) by decide)] at H; exact H
   clear H; have H := H1; clear H1
   simp only [Option.some.injEq, Prod.mk.injEq] at H
   obtain ⟨rfl, rfl⟩ := H
   go_enter Try.func41, Try.ntmps41
   go_wp2_with (first | ((with_reducible refine gate_dst (N := 2) rfl ?_); refine box_event ?hg (N := 2) ?hd (cs := #[.slice A0_0 l0_0.length c0_0, .int .i64 a0_1]) (t := 45) ?hr ?_; (case hd => rfl); (case hg => rfl); (case hr => first | (go_simp; done) | (go_simp; rfl)); intro gb643 hg w18 hbox hb; have n0_ := Aside0.mk (below_step (by exact q0 HB.out) hb); have n1_ := Aside0.mk (hbox); have n2_ := Aside0.mk ((by rw [hg]; exact (below_size (by exact q0 HB.out)) : w.heap.size ≤ gb643)); have n3_ := Aside0.mk ((by rw [hg]; exact (below_size (by exact q0 HB.out)) : w.heap.size ≤ gb643)); clear HB; have HB := n0_; have BK643 := n1_; have GW643 := n2_; have GE643 := n3_; clear n0_ n1_ n2_ n3_; clear hb hbox hg) | ((with_reducible refine gate_dst (N := 3) rfl ?_); refine box_event ?hg (N := 3) ?hd (cs := #[.string a1_0, .string a1_1, .bool a1_2]) (t := 32) ?hr ?_; (case hd => rfl); (case hg => rfl); (case hr => first | (go_simp; done) | (go_simp; rfl)); intro gb644 hg w19 hbox hb; have n0_ := Aside0.mk (bB BK643.out hb); have n1_ := Aside0.mk (below_step (by exact q1 HB.out GE643.out) hb); have n2_ := Aside0.mk (hbox); have n3_ := Aside0.mk ((by rw [hg]; exact (below_size (by exact q1 HB.out GE643.out)) : w.heap.size ≤ gb644)); have n4_ := Aside0.mk ((by rw [hg]; exact (below_size (by exact q1 HB.out GE643.out)) : w.heap.size ≤ gb644)); have n5_ := Aside0.mk ((by rw [hg]; exact Nat.ne_of_lt (blk_lt (g := gb643) (o := .cells #[.slice A0_0 l0_0.length c0_0, .int .i64 a0_1] 45 (0, 0)) (by exact uB BK643.out)) : gb643 ≠ gb644)); have n6_ := Aside0.mk ((by rw [hg]; exact Nat.ne_of_gt (blk_lt (g := gb643) (o := .cells #[.slice A0_0 l0_0.length c0_0, .int .i64 a0_1] 45 (0, 0)) (by exact uB BK643.out)) : gb644 ≠ gb643)); clear BK643; clear HB; have BK643 := n0_; have HB := n1_; have BK644 := n2_; have GW644 := n3_; have GE644 := n4_; have NB643_644 := n5_; have NB644_643 := n6_; clear n0_ n1_ n2_ n3_ n4_ n5_ n6_; clear hb hbox hg; have hnb20 := NB643_644.out; have hnc20 := NB644_643.out; have hcz21_0 : w19.cell? ⟨gb643, 0, none⟩ = some (.slice A0_0 l0_0.length c0_0) := (blk_cell BK643.out 0).trans rfl; have hcz21_1 : w19.cell? ⟨gb643, 1, none⟩ = some (.int .i64 a0_1) := (blk_cell BK643.out 1).trans rfl; have hfz21_0 := blk_frozen BK643.out 0; have hfz21_1 := blk_frozen BK643.out 1) | ((with_reducible refine gate_callee (f := 28) rfl ?_); refine goesL_ (some 7) rfl rfl Try.func28 (by kernel_rfl) rfl #[.agg #[.slice A0_0 l0_0.length c0_0, .int .i64 a0_1]] rfl (by (try simp only [List.map_toArray, List.map_cons, List.map_nil]); first | done | rfl | (simp only [List.length_drop, List.length_take]; rfl)) ?_; (with_reducible refine (impl_TableOk.calls k _ _ l0_0 a0_1 true _ ?side1 ?side2 A3.out).mono ?_); (case side1 => repeat (first | exact (Kd.C_below HR0_0.out HB.out) | (with_reducible refine Kd.C_alloc ?_ _) | (with_reducible refine Kd.C_drewN ?_ _) | (with_reducible refine Kd.C_drew ?_))); (case side2 => exact HC0_0.out); rintro e w22 ⟨rfl, hb⟩; refine ⟨_, rfl, ?_⟩; have n0_ := Aside0.mk (bB BK643.out hb); have n1_ := Aside0.mk (bB BK644.out hb); have n2_ := Aside0.mk (below_step (by exact q2 HB.out GE643.out GE644.out) hb); clear BK643; clear BK644; clear HB; have BK643 := n0_; have BK644 := n1_; have HB := n2_; clear n0_ n1_ n2_; (try clear hb); (try clear hb2); (try clear hk); (try clear hi); have hcz23_0 : w22.cell? ⟨gb644, 0, none⟩ = some (.string a1_0) := (blk_cell BK644.out 0).trans rfl; have hcz23_1 : w22.cell? ⟨gb644, 1, none⟩ = some (.string a1_1) := (blk_cell BK644.out 1).trans rfl; have hcz23_2 : w22.cell? ⟨gb644, 2, none⟩ = some (.bool a1_2) := (blk_cell BK644.out 2).trans rfl; have hfz23_0 := blk_frozen BK644.out 0; have hfz23_1 := blk_frozen BK644.out 1; have hfz23_2 := blk_frozen BK644.out 2) | (go_at_call 45; (with_reducible refine (impl_FieldOk.calls k a1_0 a1_1 a1_2 false _ A5.out).mono ?_); rintro e w24 ⟨rfl, hb⟩; have n0_ := Aside0.mk (bB BK643.out hb); have n1_ := Aside0.mk (bB BK644.out hb); have n2_ := Aside0.mk (below_step (by exact q2 HB.out GE643.out GE644.out) hb); clear BK643; clear BK644; clear HB; have BK643 := n0_; have BK644 := n1_; have HB := n2_; clear n0_ n1_ n2_; (try clear hb); (try clear hb2); (try clear hk); (try clear hi)))
   go_ret2
   exact ⟨by first | rfl | (simp [errW_none, errW_some] <;> rfl) | (simp [*, errW_none, errW_some] <;> rfl), by exact q2 HB.out GE643.out GE644.out⟩
 replace c4 := Bool.eq_false_iff.mpr c4
 subst c4
 have H1 : (some (0, false)) = some (r1, r2) := by rw [if_neg (show ¬ (false = true) by decide)] at H; exact H
 clear H; have H := H1; clear H1
 simp only [Option.some.injEq, Prod.mk.injEq] at H
 obtain ⟨rfl, rfl⟩ := H
 go_enter Try.func41, Try.ntmps41
 go_wp2_with (first | ((with_reducible refine gate_dst (N := 2) rfl ?_); refine box_event ?hg (N := 2) ?hd (cs := #[.slice A0_0 l0_0.length c0_0, .int .i64 a0_1]) (t := 45) ?hr ?_; (case hd => rfl); (case hg => rfl); (case hr => first | (go_simp; done) | (go_simp; rfl)); intro gb643 hg w25 hbox hb; have n0_ := Aside0.mk (below_step (by exact q0 HB.out) hb); have n1_ := Aside0.mk (hbox); have n2_ := Aside0.mk ((by rw [hg]; exact (below_size (by exact q0 HB.out)) : w.heap.size ≤ gb643)); have n3_ := Aside0.mk ((by rw [hg]; exact (below_size (by exact q0 HB.out)) : w.heap.size ≤ gb643)); clear HB; have HB := n0_; have BK643 := n1_; have GW643 := n2_; have GE643 := n3_; clear n0_ n1_ n2_ n3_; clear hb hbox hg) | ((with_reducible refine gate_dst (N := 3) rfl ?_); refine box_event ?hg (N := 3) ?hd (cs := #[.string a1_0, .string a1_1, .bool a1_2]) (t := 32) ?hr ?_; (case hd => rfl); (case hg => rfl); (case hr => first | (go_simp; done) | (go_simp; rfl)); intro gb644 hg w26 hbox hb; have n0_ := Aside0.mk (bB BK643.out hb); have n1_ := Aside0.mk (below_step (by exact q1 HB.out GE643.out) hb); have n2_ := Aside0.mk (hbox); have n3_ := Aside0.mk ((by rw [hg]; exact (below_size (by exact q1 HB.out GE643.out)) : w.heap.size ≤ gb644)); have n4_ := Aside0.mk ((by rw [hg]; exact (below_size (by exact q1 HB.out GE643.out)) : w.heap.size ≤ gb644)); have n5_ := Aside0.mk ((by rw [hg]; exact Nat.ne_of_lt (blk_lt (g := gb643) (o := .cells #[.slice A0_0 l0_0.length c0_0, .int .i64 a0_1] 45 (0, 0)) (by exact uB BK643.out)) : gb643 ≠ gb644)); have n6_ := Aside0.mk ((by rw [hg]; exact Nat.ne_of_gt (blk_lt (g := gb643) (o := .cells #[.slice A0_0 l0_0.length c0_0, .int .i64 a0_1] 45 (0, 0)) (by exact uB BK643.out)) : gb644 ≠ gb643)); clear BK643; clear HB; have BK643 := n0_; have HB := n1_; have BK644 := n2_; have GW644 := n3_; have GE644 := n4_; have NB643_644 := n5_; have NB644_643 := n6_; clear n0_ n1_ n2_ n3_ n4_ n5_ n6_; clear hb hbox hg; have hnb27 := NB643_644.out; have hnc27 := NB644_643.out; have hcz28_0 : w26.cell? ⟨gb643, 0, none⟩ = some (.slice A0_0 l0_0.length c0_0) := (blk_cell BK643.out 0).trans rfl; have hcz28_1 : w26.cell? ⟨gb643, 1, none⟩ = some (.int .i64 a0_1) := (blk_cell BK643.out 1).trans rfl; have hfz28_0 := blk_frozen BK643.out 0; have hfz28_1 := blk_frozen BK643.out 1) | ((with_reducible refine gate_callee (f := 28) rfl ?_); refine goesL_ (some 7) rfl rfl Try.func28 (by kernel_rfl) rfl #[.agg #[.slice A0_0 l0_0.length c0_0, .int .i64 a0_1]] rfl (by (try simp only [List.map_toArray, List.map_cons, List.map_nil]); first | done | rfl | (simp only [List.length_drop, List.length_take]; rfl)) ?_; (with_reducible refine (impl_TableOk.calls k _ _ l0_0 a0_1 false _ ?side1 ?side2 A3.out).mono ?_); (case side1 => repeat (first | exact (Kd.C_below HR0_0.out HB.out) | (with_reducible refine Kd.C_alloc ?_ _) | (with_reducible refine Kd.C_drewN ?_ _) | (with_reducible refine Kd.C_drew ?_))); (case side2 => exact HC0_0.out); rintro e w29 ⟨rfl, hb⟩; refine ⟨_, rfl, ?_⟩; have n0_ := Aside0.mk (bB BK643.out hb); have n1_ := Aside0.mk (bB BK644.out hb); have n2_ := Aside0.mk (below_step (by exact q2 HB.out GE643.out GE644.out) hb); clear BK643; clear BK644; clear HB; have BK643 := n0_; have BK644 := n1_; have HB := n2_; clear n0_ n1_ n2_; (try clear hb); (try clear hb2); (try clear hk); (try clear hi)))
 go_ret2
 exact ⟨by first | rfl | (simp [errW_none, errW_some] <;> rfl) | (simp [*, errW_none, errW_some] <;> rfl), by exact q2 HB.out GE643.out GE644.out⟩

end Go.Proofs.Ytgahnhncmjgenaa.X
