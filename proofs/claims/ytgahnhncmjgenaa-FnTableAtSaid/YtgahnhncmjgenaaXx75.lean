-- Written by a program of this session's (wip/tools) out of the translation. Not trusted: Lean checks it.
import Derived.Test.YtgahnhncmjgenaaXx0
import Derived.Test.YtgahnhncmjgenaaXx16
import Derived.Test.YtgahnhncmjgenaaXx48
namespace Go.Proofs.Ytgahnhncmjgenaa.X
open Go.RowKit Go.Proofs.YtgahnhncmjgenaaW.PrintWords Go.Proofs.YtgahnhncmjgenaaW.PrintLast Go.Proofs.YtgahnhncmjgenaaW.PrintMore
open Bool renaming true → y, false → n
attribute [local go_sem] max2_int min2_int max_two min_two max_three min_three max_four min_four   -- for this text's walks alone
set_option linter.unusedVariables false
set_option linter.unusedSimpArgs false

/-! ### spec_DrawTableAt: function 42 -/
def spec_DrawTableAt.f (k : Nat) (l0 : List Int) : Option ((List (S32)) × Int × Int) := (spec_l6Open.f l0).bind fun bt678 => ((spec_l71Table.f k bt678.1 bt678.2).bind fun bt681 => ((spec_l6Rd_pick.f k bt678.1 bt681.2.2 (wrap64 (8 + (bt681.1.length : Int)))).bind fun bt687 => (some (bt681.1, bt681.2.1, bt687.1))))
theorem spec_DrawTableAt.mono : ∀ a0 k, LeO (spec_DrawTableAt.f k a0) (spec_DrawTableAt.f (k + 1) a0) := by
  intro a0 k
  unfold spec_DrawTableAt.f
  repeat' first
      | (with_reducible exact spec_l6Rd_pick.mono _ _ _ _)
      | (with_reducible exact spec_l71Table.mono _ _ _)
      | (with_reducible exact LeO.refl _)
      | (with_reducible exact LeO.none _)
      | (with_reducible refine LeO.ite ?_ ?_)
      | (with_reducible refine LeO.bind ?_ (fun _ => ?_))
def spec_DrawTableAt.T3 : Bool × List (List Nat × List Nat) := (true, [([], []), ([], []), ([], []), ([2], [2]), ([3], [3]), ([4], [4]), ([1, 5], [1, 5]), ([0, 6, 0], [0]), ([6, 7, 0, 1, 2, 3, 4, 5, 6, 7], [6])])
def spec_DrawTableAt.B3 : List Nat := [0, 0, 0, 4, 12, 28, 62, 127, 255]
theorem spec_DrawTableAt.tab3 : rtab .any (opsOf Try.f42 3) = spec_DrawTableAt.T3 := by kernel_rfl
theorem spec_DrawTableAt.bits3 : waitsOk spec_DrawTableAt.T3.2 spec_DrawTableAt.B3 = true := by kernel_rfl
theorem q0x75 {P Q G0 : Prop} (p : P) (q0 : G0) (h : P → G0 → Q := by intro h_ g0_; repeat (first | (with_reducible first | exact h_ | apply IsS85.alloc | apply IsS85.drewN | apply IsS85.drew | apply IsS85.set_1 | refine IsS85.far ?_ g0_ _) | exact h_)) : Q := h p q0
theorem q1x75 {P Q G0 G1 : Prop} (p : P) (q0 : G0) (q1 : G1) (h : P → G0 → G1 → Q := by intro h_ g0_ g1_; repeat (first | (with_reducible first | exact h_ | apply IsS85.alloc | apply IsS85.drewN | apply IsS85.drew | apply IsS85.set_1 | refine IsS85.far ?_ g0_ _ | refine IsS85.far ?_ g1_ _) | exact h_)) : Q := h p q0 q1
set_option maxHeartbeats 8000000 in
set_option maxRecDepth 100000 in
theorem spec_DrawTableAt.calls (k : Nat) (A0 : Option Addr) (c0 : Nat) (l0 : List Int) (r1 : List (S32)) (r2 : Int) (r3 : Int) (w : World) (hr0 : Kd.C (Kd.int .u8) w A0 l0.length l0) (hc0 : l0.length ≤ c0) (h : spec_DrawTableAt.f k l0 = some (r1, r2, r3)) :
 Calls Try.prog 42 #[.slice A0 l0.length c0] w fun e w' => ∃ v0_ : Value, e = .returned (.tuple #[.agg #[v0_, .int .i64 r2], .int .i64 r3]) ∧ Kd.R k32 32 w' w.heap.size (fun _ => True) v0_ r1 ∧ Below w.heap.size w w' := by
 have hu45 := Try.underlying45; have HR0 := Aside0.mk hr0; have HC0 := Aside0.mk hc0; clear hr0 hc0
 have HB := Aside0.mk (Below.refl w.heap.size w)
 have H : ((spec_l6Open.f l0).bind fun bt678 => ((spec_l71Table.f k bt678.1 bt678.2).bind fun bt681 => ((spec_l6Rd_pick.f k bt678.1 bt681.2.2 (wrap64 (8 + (bt681.1.length : Int)))).bind fun bt687 => (some (bt681.1, bt681.2.1, bt687.1))))) = some (r1, r2, r3) := h
 clear h; replace H := Option.bind_eq_some_iff.mp H; obtain ⟨⟨t678, t679⟩, A20, H⟩ := H
 replace H : ((spec_l71Table.f k t678 t679).bind fun bt681 => ((spec_l6Rd_pick.f k t678 bt681.2.2 (wrap64 (8 + (bt681.1.length : Int)))).bind fun bt687 => (some (bt681.1, bt681.2.1, bt687.1)))) = some (r1, r2, r3) := H
 have A2 := Aside0.mk A20; clear A20; replace H := Option.bind_eq_some_iff.mp H; obtain ⟨⟨t681, t684, t685⟩, A30, H⟩ := H
 replace H : ((spec_l6Rd_pick.f k t678 t685 (wrap64 (8 + (t681.length : Int)))).bind fun bt687 => (some (t681, t684, bt687.1))) = some (r1, r2, r3) := H
 have A3 := Aside0.mk A30; clear A30; replace H := Option.bind_eq_some_iff.mp H; obtain ⟨⟨t687, t688⟩, A40, H⟩ := H
 replace H : (some (t681, t684, t687)) = some (r1, r2, r3) := H
 have A4 := Aside0.mk A40; clear A40
 simp only [Option.some.injEq, Prod.mk.injEq] at H
 obtain ⟨rfl, rfl, rfl⟩ := H
 go_enter Try.func42, Try.ntmps42
 try go_wp2_with (first | ((with_reducible refine gate_dst (N := 2) rfl ?_); refine box_event ?hg (N := 2) ?hd (cs := #[.slice none 0 0, .int .i64 0]) (t := 45) ?hr ?_; (case hd => rfl); (case hg => rfl); (case hr => first | (go_simp; done) | (go_simp; rfl)); intro gb677 hg w5 hbox hb; have n0_ := Aside0.mk (below_step (by exact q0 HB.out) hb); have n1_ := Aside0.mk (hbox); have n2_ := Aside0.mk ((by rw [hg]; exact (below_size (by exact q0 HB.out)) : w.heap.size ≤ gb677)); have n3_ := Aside0.mk ((by rw [hg]; exact (below_size (by exact q0 HB.out)) : w.heap.size ≤ gb677)); clear HB; have HB := n0_; have BK677 := n1_; have GW677 := n2_; have GE677 := n3_; clear n0_ n1_ n2_ n3_; clear hb hbox hg) | ((with_reducible refine gate_callee (f := 49) rfl ?_); refine goesL_ (some 7) rfl rfl Try.func49 (by kernel_rfl) rfl #[.slice A0 l0.length c0] rfl (by (try simp only [List.map_toArray, List.map_cons, List.map_nil]); first | done | rfl | (simp only [List.length_drop, List.length_take]; rfl)) ?_; (with_reducible refine (spec_l6Open.calls _ _ l0 t678 t679 w _ ?side1 ?side2 ?side3 A2.out).mono ?_); (case side1 => repeat (first | (with_reducible first | exact HB.out | apply below_alloc | apply pw_below_drewN | apply below_drew1 | refine below_set ?_ GE677.out) | exact HB.out)); (case side2 => exact HR0.out); (case side3 => exact HC0.out); rintro e w6 ⟨g680, rfl, hi, hb, hb2⟩; refine ⟨_, rfl, ?_⟩; have n0_ := Aside0.mk (blk_below (g := gb677) (o := .cells #[.slice none 0 0, .int .i64 0] 45 (0, 0)) (by exact uB BK677.out) hb2); have n1_ := Aside0.mk (hb); have n2_ := Aside0.mk (hi); have n3_ := Aside0.mk (IsS85.ne_blk hi (blk_below (g := gb677) (o := .cells #[.slice none 0 0, .int .i64 0] 45 (0, 0)) (by exact uB BK677.out) hb2) (by decide)); have n4_ := Aside0.mk (Ne.symm (IsS85.ne_blk hi (blk_below (g := gb677) (o := .cells #[.slice none 0 0, .int .i64 0] 45 (0, 0)) (by exact uB BK677.out) hb2) (by decide))); clear BK677; clear HB; have BK677 := n0_; have HB := n1_; have HI680 := n2_; have NB680_677 := n3_; have NB677_680 := n4_; clear n0_ n1_ n2_ n3_ n4_; (try clear hb); (try clear hb2); (try clear hk); (try clear hi)) | ((with_reducible refine gate_callee (f := 59) rfl ?_); refine goesL_ (some 9) rfl rfl Try.func59 (by kernel_rfl) rfl #[.pointer (some ⟨g680, 0, none⟩)] rfl (by (try simp only [List.map_toArray, List.map_cons, List.map_nil]); first | done | rfl | (simp only [List.length_drop, List.length_take]; rfl)) ?_; (with_reducible refine (spec_l71Table.calls k g680 t678 t679 t681 t684 t685 w _ ?side1 ?side2 A3.out).mono ?_); (case side1 => repeat (first | (with_reducible first | exact HI680.out | apply IsS85.alloc | apply IsS85.drewN | apply IsS85.drew | apply IsS85.set_1 | refine IsS85.far ?_ NB680_677.out _) | exact HI680.out)); (case side2 => repeat (first | (with_reducible first | exact HB.out | apply below_alloc | apply pw_below_drewN | apply below_drew1 | refine below_set ?_ (IsS85.ge HI680.out) | refine below_set ?_ GE677.out) | exact HB.out)); rintro e w7 ⟨v682, rfl, ho0, hi, hb, hk⟩; refine ⟨_, rfl, ?_⟩; have n0_ := Aside0.mk (KeepBut.blk hk (g' := gb677) (o := .cells #[.slice none 0 0, .int .i64 0] 45 (0, 0)) (by exact uB BK677.out) NB677_680.out (by simp)); have n1_ := Aside0.mk (Kd.R_lower ho0 (below_size (by exact q2 HB.out (IsS85.ge HI680.out) GE677.out))); have n2_ := Aside0.mk (hb); have n3_ := Aside0.mk (hi); clear BK677; clear HB; clear HI680; have BK677 := n0_; have HO683 := n1_; have HB := n2_; have HI680 := n3_; clear n0_ n1_ n2_ n3_; (try clear hb); (try clear hb2); (try clear hk); (try clear hi); (try clear ho0)) | ((with_reducible refine gate_dst (N := 5) rfl ?_); refine box_event ?hg (N := 5) ?hd (cs := #[.slice none 0 0, .int .i64 0]) (t := 45) ?hr ?_; (case hd => rfl); (case hg => rfl); (case hr => first | (go_simp; done) | (go_simp; rfl)); intro gb686 hg w8 hbox hb; have n0_ := Aside0.mk (Kd.R_below (by exact uR HO683.out) hb); have n1_ := Aside0.mk (blk_below (g := gb677) (o := .cells #[.slice none 0 0, .int .i64 0] 45 (0, 0)) (by exact uB BK677.out) hb); have n2_ := Aside0.mk (IsS85.below (by exact q0x75 HI680.out NB680_677.out) hb); have n3_ := Aside0.mk (below_step (by exact q2 HB.out (IsS85.ge HI680.out) GE677.out) hb); have n4_ := Aside0.mk (hbox); have n5_ := Aside0.mk ((by rw [hg]; exact (below_size (by exact q2 HB.out (IsS85.ge HI680.out) GE677.out)) : w.heap.size ≤ gb686)); have n6_ := Aside0.mk ((by rw [hg]; exact (below_size (by exact q2 HB.out (IsS85.ge HI680.out) GE677.out)) : w.heap.size ≤ gb686)); have n7_ := Aside0.mk ((by rw [hg]; exact Nat.ne_of_lt (blk_lt (g := gb677) (o := .cells #[.slice none 0 0, .int .i64 0] 45 (0, 0)) (by exact uB BK677.out)) : gb677 ≠ gb686)); have n8_ := Aside0.mk ((by rw [hg]; exact Nat.ne_of_gt (blk_lt (g := gb677) (o := .cells #[.slice none 0 0, .int .i64 0] 45 (0, 0)) (by exact uB BK677.out)) : gb686 ≠ gb677)); have n9_ := Aside0.mk ((by rw [hg]; exact Nat.ne_of_lt (IsS85.lt (show IsS85 w _ g680 t678 t685 from by exact q0x75 HI680.out NB680_677.out)) : g680 ≠ gb686)); have n10_ := Aside0.mk ((by rw [hg]; exact Nat.ne_of_gt (IsS85.lt (show IsS85 w _ g680 t678 t685 from by exact q0x75 HI680.out NB680_677.out)) : gb686 ≠ g680)); clear HO683; clear BK677; clear HI680; clear HB; have HO683 := n0_; have BK677 := n1_; have HI680 := n2_; have HB := n3_; have BK686 := n4_; have GW686 := n5_; have GE686 := n6_; have NB677_686 := n7_; have NB686_677 := n8_; have NB680_686 := n9_; have NB686_680 := n10_; clear n0_ n1_ n2_ n3_ n4_ n5_ n6_ n7_ n8_ n9_ n10_; clear hb hbox hg; obtain ⟨Ao9, co9, eo9⟩ := Kd.R_slice HO683.out; subst eo9; have hnb10 := NB686_677.out; have hnc10 := NB677_686.out; have hnb11 := NB686_680.out; have hnc11 := NB680_686.out; have hcz12_0 : w8.cell? ⟨gb686, 0, none⟩ = some (.slice none 0 0) := (blk_cell BK686.out 0).trans rfl; have hcz12_1 : w8.cell? ⟨gb686, 1, none⟩ = some (.int .i64 0) := (blk_cell BK686.out 1).trans rfl; have hfz12_0 := blk_frozen BK686.out 0; have hfz12_1 := blk_frozen BK686.out 1))
 have n0_ : Aside0 (Kd.R k32 32 ((w8.setCell ⟨gb686, 0, none⟩ (.slice Ao9 t681.length co9)).setCell ⟨gb686, 1, none⟩ (.int .i64 t684)) w.heap.size (fun _ => True) (.slice Ao9 t681.length co9) t681) := ⟨by refine uR ?_; exact Kd.R_mono (Kd.R_far (p := ⟨gb686, 1, none⟩) (Kd.R_far (p := ⟨gb686, 0, none⟩) (Kd.R_types HO683.out BK686.out (by decide)) (fun _ hk => hk.2) (.slice Ao9 t681.length co9)) (fun _ hk => hk.2) (.int .i64 t684)) (fun _ hk => trivial)⟩
 have n1_ : Aside0 (((w8.setCell ⟨gb686, 0, none⟩ (.slice Ao9 t681.length co9)).setCell ⟨gb686, 1, none⟩ (.int .i64 t684)).heap[gb677]? = some (.cells #[.slice none 0 0, .int .i64 0] 45 (0, 0))) := ⟨by refine uB ?_; refine blk_far ?_ NB677_686.out _; refine uB ?_; refine blk_far ?_ NB677_686.out _; refine uB ?_; exact BK677.out⟩
 have n2_ : Aside0 (((w8.setCell ⟨gb686, 0, none⟩ (.slice Ao9 t681.length co9)).setCell ⟨gb686, 1, none⟩ (.int .i64 t684)).heap[gb686]? = some (.cells #[.slice Ao9 t681.length co9, .int .i64 t684] 45 (0, 0))) := ⟨by refine uB ?_; refine blk_put (cs := #[.slice Ao9 t681.length co9, .int .i64 0]) ?_ 1 _ rfl; refine uB ?_; refine blk_put (cs := #[.slice none 0 0, .int .i64 0]) ?_ 0 _ rfl; refine uB ?_; exact BK686.out⟩
 have n3_ : Aside0 (IsS85 w ((w8.setCell ⟨gb686, 0, none⟩ (.slice Ao9 t681.length co9)).setCell ⟨gb686, 1, none⟩ (.int .i64 t684)) g680 t678 t685) := ⟨by exact q1x75 HI680.out NB680_677.out NB680_686.out⟩
 have n4_ : Aside0 (Below w.heap.size w ((w8.setCell ⟨gb686, 0, none⟩ (.slice Ao9 t681.length co9)).setCell ⟨gb686, 1, none⟩ (.int .i64 t684))) := ⟨by exact q3 HB.out (IsS85.ge HI680.out) GE677.out GE686.out⟩
 (try clear HO683); (try clear BK677); (try clear BK686); (try clear HI680); (try clear HB)
 generalize ((w8.setCell ⟨gb686, 0, none⟩ (.slice Ao9 t681.length co9)).setCell ⟨gb686, 1, none⟩ (.int .i64 t684)) = w13 at n0_ n1_ n2_ n3_ n4_ ⊢
 have HO683 := n0_; have BK677 := n1_; have BK686 := n2_; have HI680 := n3_; have HB := n4_; clear n0_ n1_ n2_ n3_ n4_
 have n0_ := Aside0.mk (Kd.R_drew HO683.out)
 have n1_ := Aside0.mk (blk_drew BK677.out)
 have n2_ := Aside0.mk (blk_drew BK686.out)
 have n3_ := Aside0.mk (IsS85.drew HI680.out)
 have n4_ := Aside0.mk (below_drew1 HB.out)
 clear HO683; clear BK677; clear BK686; clear HI680; clear HB; have HO683 := n0_; have BK677 := n1_; have BK686 := n2_; have HI680 := n3_; have HB := n4_; clear n0_ n1_ n2_ n3_ n4_
 refine start_ (n := 9) (S := fun w' => w'.cell? ⟨gb686, 0, none⟩ = some (.slice Ao9 t681.length co9) ∧ w'.cell? ⟨gb686, 1, none⟩ = some (.int .i64 t684)) (ds := []) #[n,n,n,n,n,n,n,n,n] (by kernel_rfl) rfl rfl ⟨(blk_cell BK686.out 0).trans rfl, (blk_cell BK686.out 1).trans rfl⟩ (fun hHeld => ?_); refine with_tabW spec_DrawTableAt.tab3 spec_DrawTableAt.bits3 (fun HT_ HW_ => ?_)
 generalize w13.drew = w14 at HO683 BK677 BK686 HI680 HB hHeld ⊢
 refine pure_ (i := 1) (N := some 11) (v := ?_) (a' := ?_) #[n,y,n,n,n,n,n,n,n] rfl rfl (any_of HT_.out (by kernel_rfl)) (fun _ _ _ h => h) (Or.inl ⟨by rfl, ?_⟩) ?_ ?_; rotate_left; exact uV; rotate_left; exact uP; refine pure_ (i := 2) (N := some 12) (v := ?_) (a' := ?_) #[n,y,y,n,n,n,n,n,n] rfl rfl (any_of HT_.out (by kernel_rfl)) (fun _ _ _ h => h) (Or.inl ⟨by rfl, ?_⟩) ?_ ?_; rotate_left; exact uV; rotate_left; exact uP; refine take_ (i := 0) (N := some 10) (v := ?_) (a' := ?_) #[y,y,y,n,n,n,n,n,n] rfl rfl (take_ofW HT_.out HW_.out (by kernel_rfl)) (fun _ _ _ h => h) (Or.inl ⟨by rfl, ?_⟩) hHeld ?_ ?_; rotate_left; exact uV2; rotate_left; exact uP; refine take_ (i := 3) (N := some 13) (v := ?_) (a' := ?_) #[y,y,y,y,n,n,n,n,n] rfl rfl (take_ofW HT_.out HW_.out (by kernel_rfl)) (fun _ _ _ h => h) (Or.inl ⟨by rfl, ?_⟩) hHeld ?_ ?_; rotate_left; exact uV2; rotate_left; exact uP; refine pure_ (i := 4) (N := some 14) (v := ?_) (a' := ?_) #[y,y,y,y,y,n,n,n,n] rfl rfl (any_of HT_.out (by kernel_rfl)) (fun _ _ _ h => h) (Or.inl ⟨by rfl, ?_⟩) ?_ ?_; rotate_left; exact uV; rotate_left; exact uP; refine pure_ (i := 5) (N := some 15) (v := ?_) (a' := ?_) #[y,y,y,y,y,y,n,n,n] rfl rfl (any_of HT_.out (by kernel_rfl)) (fun _ _ _ h => h) (Or.inl ⟨by rfl, ?_⟩) ?_ ?_; rotate_left; exact uV; rotate_left; exact uP
 refine one_ (i := 6) (N := some 16) #[y,y,y,y,y,y,y,n,n] rfl rfl (one_of HT_.out (by kernel_rfl)) (by decide) (fun K hK => ?_)
 refine goes_ Try.func51 (by kernel_rfl) rfl #[.pointer (some ⟨g680, 0, none⟩), .int .i64 (wrap64 (8 + (t681.length : Int)))] (by rfl) rfl rfl (by (try simp only [List.map_toArray, List.map_cons, List.map_nil]); first | done | rfl | (simp only [List.length_drop, List.length_take]; rfl)) ?_
 with_reducible refine (spec_l6Rd_pick.calls k g680 t678 t685 (wrap64 (8 + (t681.length : Int))) t687 t688 w _ ?side1 ?side2 A4.out).mono ?_
 (case side1 => repeat (first | (with_reducible first | exact HI680.out | apply IsS85.alloc | apply IsS85.drewN | apply IsS85.drew | apply IsS85.set_1 | refine IsS85.far ?_ NB680_677.out _ | refine IsS85.far ?_ NB680_686.out _) | exact HI680.out))
 (case side2 => repeat (first | (with_reducible first | exact HB.out | apply below_alloc | apply pw_below_drewN | apply below_drew1 | refine below_set ?_ (IsS85.ge HI680.out) | refine below_set ?_ GE677.out | refine below_set ?_ GE686.out) | exact HB.out))
 rintro e w15 ⟨rfl, hi, hb, hk⟩; refine ⟨_, rfl, ?_⟩
 have n0_ := Aside0.mk (KeepBut.blk hk (g' := gb677) (o := .cells #[.slice none 0 0, .int .i64 0] 45 (0, 0)) (by exact uB BK677.out) NB677_680.out (by simp))
 have n1_ := Aside0.mk (Kd.R_mono (Kd.R_keep (IsS85.apart (show IsS85 w _ g680 t678 t685 from by exact q1x75 HI680.out NB680_677.out NB680_686.out) (by exact uR HO683.out) (by decide)) hk (fun _ h => h.2)) (fun _ h => h.1))
 have n2_ := Aside0.mk (KeepBut.blk hk (g' := gb686) (o := .cells #[.slice Ao9 t681.length co9, .int .i64 t684] 45 (0, 0)) (by exact uB BK686.out) NB686_680.out (by simp))
 have n3_ := Aside0.mk (hb)
 have n4_ := Aside0.mk (hi)
 clear BK677; clear HO683; clear BK686; clear HB; clear HI680; have BK677 := n0_; have HO683 := n1_; have BK686 := n2_; have HB := n3_; have HI680 := n4_; clear n0_ n1_ n2_ n3_ n4_; (try clear hb); (try clear hb2); (try clear hk); (try clear hi)
 refine hK.out _ _ ⟨(blk_cell BK686.out 0).trans rfl, (blk_cell BK686.out 1).trans rfl⟩ (fun hHeld => ?_)
 clear hK K
 refine norm_ (a' := ?_) ?_ ?_
 rotate_left; show Act.put _ (some 16) _ = _; exact uP
 refine one_ (i := 7) (N := none) #[y,y,y,y,y,y,y,y,n] rfl rfl (one_of HT_.out (by kernel_rfl)) (by decide) (fun K hK => ?_)
 have hs16 : w15.cell? ⟨gb677, 0, none⟩ = some (.slice none 0 0) := (blk_cell BK677.out 0).trans rfl
 have hfs16 := blk_frozen BK677.out 0; have hns16_1 := NB686_677.out; have hms16_1 := NB677_686.out
 have hs17 : w15.cell? ⟨gb677, 1, none⟩ = some (.int .i64 0) := (blk_cell BK677.out 1).trans rfl
 have hfs17 := blk_frozen BK677.out 1; have hns17_1 := NB686_677.out; have hms17_1 := NB677_686.out
 refine skip_ (w1 := ?_) (by rfl) rfl ?_ ?_
 rotate_left
 · go_simp
   rfl
 refine hK.out _ _ ⟨((cell_far (p := ⟨gb677, _, none⟩) NB686_677.out _).trans (((cell_far (p := ⟨gb677, _, none⟩) NB686_677.out _).trans (hHeld.1)))), ((cell_far (p := ⟨gb677, _, none⟩) NB686_677.out _).trans (((cell_far (p := ⟨gb677, _, none⟩) NB686_677.out _).trans (hHeld.2))))⟩ (fun hHeld => ?_)
 clear hK K; refine pure_ (i := 8) (N := some 3) (v := ?_) (a' := ?_) #[y,y,y,y,y,y,y,y,y] rfl rfl (any_of HT_.out (by kernel_rfl)) (fun _ _ _ h => h) (Or.inl ⟨by rfl, ?_⟩) ?_ ?_; rotate_left; exact uV; rotate_left; exact uP
 refine done_ (done_of HT_.out (by kernel_rfl)) ?_
 try go_wp2
 refine bodyPost_ret (results_ct rfl _ _ gb677 45 #[.slice Ao9 t681.length co9, .int .i64 t684] (0, 0) _ rfl (by refine uB ?_; refine blk_put (cs := #[.slice Ao9 t681.length co9, .int .i64 0]) ?_ 1 _ rfl; refine uB ?_; refine blk_put (cs := #[.slice none 0 0, .int .i64 0]) ?_ 0 _ rfl; refine uB ?_; exact BK677.out) Try.underlying45 rfl (by kernel_rfl)) rfl ?_
 exact ⟨_, by first | rfl | (simp [errW_none, errW_some] <;> rfl) | (simp [*, errW_none, errW_some] <;> rfl), by refine uR ?_; exact Kd.R_mono (Kd.R_far (p := ⟨gb677, 1, none⟩) (Kd.R_far (p := ⟨gb677, 0, none⟩) (Kd.R_types HO683.out BK677.out (by decide)) (fun _ hk => hk.2) (.slice Ao9 t681.length co9)) (fun _ hk => hk.2) (.int .i64 t684)) (fun _ hk => trivial), by exact q3 HB.out (IsS85.ge HI680.out) GE677.out GE686.out⟩

end Go.Proofs.Ytgahnhncmjgenaa.X
