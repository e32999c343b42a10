-- Written by a program of this session's (wip/tools) out of the translation. Not trusted: Lean checks it.
import Derived.Test.YtdahdgdnpooegaaFx0
import Derived.Test.YtdahdgdnpooegaaFx1
import Derived.Test.YtdahdgdnpooegaaFx7
import Derived.Test.YtdahdgdnpooegaaFx19
import Derived.Test.YtdahdgdnpooegaaFx22
import Derived.Test.YtdahdgdnpooegaaFx27
import Derived.Test.YtdahdgdnpooegaaFx28
namespace Go.Proofs.Ytdahdgdnpooegaa.F
open Go.RowKit Go.Proofs.YtdahdgdnpooegaaW.PrintWords Go.Proofs.YtdahdgdnpooegaaW.PrintLast Go.Proofs.YtdahdgdnpooegaaW.PrintMore
attribute [local go_sem] max2_int min2_int max_two min_two max_three min_three max_four min_four   -- for this text's walks alone
set_option linter.unusedVariables false
set_option linter.unusedSimpArgs false

attribute [local go_sem high] eqA26
/-! ### laws_FnFrameStrict: function 12 -/
def laws_FnFrameStrict.j0 : Nat → ByteArray → Int → Int → Int → Int → Bool → Int → Bool → Int → ByteArray → Int → Bool → Int → ByteArray → Option (Bool)
  | 0, _, _, _, _, _, _, _, _, _, _, _, _, _, _ => none
  | k + 1, x3, x5, x6, x8, x9, x43, x385000, x385001, x385002, x385003, x392000, x392001, x392002, x392003 => if x43 = true then (if x9 = x6 then (if (x392000 == x385000 && (x392001 == x385001 && (x392002 == x385002 && (x392003.toList == x385003.toList)))) = true then (some (x8 == x5)) else (some false)) else (some false)) else ((impl_FrameOk.f x392000 x392001 x392002 x392003).bind fun t392 => (if t392 = true then ((impl_FrameWrite.f x392000 x392001 x392002 x392003).bind fun t393 => (if 0 ≤ x8 then (if x8 ≤ (x3.size : Int) then (some (t393.toList == (x3.extract 0 (x8 : Int).toNat).toList)) else (none)) else (none))) else (some false)))
def laws_FnFrameStrict.f (k : Nat) (l0 : List Int) : Option (Bool) := if (l0.length : Int) > 1048576 then (some true) else ((spec_DrawFrameRead.f k l0).bind fun t377 => ((spec_FrameRead.f k t377).bind fun bt378 => ((impl_FrameRead.f k t377).bind fun bt385 => (if bt385.2.2.2.2.2 = bt378.2.2.2.2.2 then (if (!(bt385.1 == bt378.1) || (!(bt385.2.1 == bt378.2.1) || (!(bt385.2.2.1 == bt378.2.2.1) || (!(bt385.2.2.2.1.toList == bt378.2.2.2.1.toList))))) = true then (laws_FnFrameStrict.j0 k t377 bt378.2.2.2.2.1 bt378.2.2.2.2.2 bt385.2.2.2.2.1 bt385.2.2.2.2.2 true bt378.1 bt378.2.1 bt378.2.2.1 bt378.2.2.2.1 bt385.1 bt385.2.1 bt385.2.2.1 bt385.2.2.2.1) else (if bt385.2.2.2.2.1 = bt378.2.2.2.2.1 then (laws_FnFrameStrict.j0 k t377 bt378.2.2.2.2.1 bt378.2.2.2.2.2 bt385.2.2.2.2.1 bt385.2.2.2.2.2 (bt385.2.2.2.2.2 != 1) bt378.1 bt378.2.1 bt378.2.2.1 bt378.2.2.2.1 bt385.1 bt385.2.1 bt385.2.2.1 bt385.2.2.2.1) else (laws_FnFrameStrict.j0 k t377 bt378.2.2.2.2.1 bt378.2.2.2.2.2 bt385.2.2.2.2.1 bt385.2.2.2.2.2 true bt378.1 bt378.2.1 bt378.2.2.1 bt378.2.2.2.1 bt385.1 bt385.2.1 bt385.2.2.1 bt385.2.2.2.1))) else (laws_FnFrameStrict.j0 k t377 bt378.2.2.2.2.1 bt378.2.2.2.2.2 bt385.2.2.2.2.1 bt385.2.2.2.2.2 true bt378.1 bt378.2.1 bt378.2.2.1 bt378.2.2.2.1 bt385.1 bt385.2.1 bt385.2.2.1 bt385.2.2.2.1)))))
theorem laws_FnFrameStrict.mono_l : ∀ k, (∀ y0 y1 y2 y3 y4 y5 y6 y7 y8 y9 y10 y11 y12 y13, LeO (laws_FnFrameStrict.j0 k y0 y1 y2 y3 y4 y5 y6 y7 y8 y9 y10 y11 y12 y13) (laws_FnFrameStrict.j0 (k + 1) y0 y1 y2 y3 y4 y5 y6 y7 y8 y9 y10 y11 y12 y13))
  | 0 => fun _ _ _ _ _ _ _ _ _ _ _ _ _ _ r h => by simp [laws_FnFrameStrict.j0] at h
  | k + 1 => by
    have ih0 := laws_FnFrameStrict.mono_l k
    · intro y0 y1 y2 y3 y4 y5 y6 y7 y8 y9 y10 y11 y12 y13
      unfold laws_FnFrameStrict.j0
      repeat' first
      | (with_reducible exact ih0 _ _ _ _ _ _ _ _ _ _ _ _ _ _)
      | (with_reducible exact impl_FrameRead.mono _ _)
      | (with_reducible exact spec_DrawFrameRead.mono _ _)
      | (with_reducible exact spec_FrameRead.mono _ _)
      | (with_reducible exact LeO.refl _)
      | (with_reducible exact LeO.none _)
      | (with_reducible refine LeO.ite ?_ ?_)
      | (with_reducible refine LeO.bind ?_ (fun _ => ?_))
      | exact ih0 _ _ _ _ _ _ _ _ _ _ _ _ _ _
      | exact impl_FrameRead.mono _ _
      | exact spec_DrawFrameRead.mono _ _
      | exact spec_FrameRead.mono _ _
      | exact LeO.none _
      | refine LeO.ite ?_ ?_
      | refine LeO.bind ?_ (fun _ => ?_)
theorem laws_FnFrameStrict.mono : ∀ a0 k, LeO (laws_FnFrameStrict.f k a0) (laws_FnFrameStrict.f (k + 1) a0) := by
  intro a0 k
  have ih0 := laws_FnFrameStrict.mono_l k
  unfold laws_FnFrameStrict.f
  repeat' first
      | (with_reducible exact ih0 _ _ _ _ _ _ _ _ _ _ _ _ _ _)
      | (with_reducible exact impl_FrameRead.mono _ _)
      | (with_reducible exact spec_DrawFrameRead.mono _ _)
      | (with_reducible exact spec_FrameRead.mono _ _)
      | (with_reducible exact LeO.refl _)
      | (with_reducible exact LeO.none _)
      | (with_reducible refine LeO.ite ?_ ?_)
      | (with_reducible refine LeO.bind ?_ (fun _ => ?_))
      | exact ih0 _ _ _ _ _ _ _ _ _ _ _ _ _ _
      | exact impl_FrameRead.mono _ _
      | exact spec_DrawFrameRead.mono _ _
      | exact spec_FrameRead.mono _ _
      | exact LeO.none _
      | refine LeO.ite ?_ ?_
      | refine LeO.bind ?_ (fun _ => ?_)
def laws_FnFrameStrict.T8 : Bool × List (List Nat × List Nat) := (true, [([], []), ([0], [0]), ([1, 1], [1]), ([2], [2]), ([3, 2, 2], [2, 3]), ([2], [2]), ([2], [2]), ([5, 6, 2], [2, 5, 6]), ([4, 7, 2], [2, 4, 7]), ([2, 8], [2, 8]), ([9, 4, 0, 1, 2, 3, 4, 5, 6, 7, 8, 9], [9])])
def laws_FnFrameStrict.B8 : List Nat := [0, 1, 3, 7, 15, 7, 7, 103, 255, 511, 1023]
theorem laws_FnFrameStrict.tab8 : rtab .any (opsOf Try.f12 8) = laws_FnFrameStrict.T8 := by kernel_rfl
theorem laws_FnFrameStrict.bits8 : waitsOk laws_FnFrameStrict.T8.2 laws_FnFrameStrict.B8 = true := by kernel_rfl
set_option maxHeartbeats 8000000 in
set_option maxRecDepth 100000 in
theorem laws_FnFrameStrict.calls (k : Nat) (A0 : Option Addr) (c0 : Nat) (l0 : List Int) (r : Bool) (w : World) (hr0 : Kd.C (Kd.int .u8) w A0 l0.length l0) (hc0 : l0.length ≤ c0) (h : laws_FnFrameStrict.f k l0 = some r) :
    Calls Try.prog 12 #[.slice A0 l0.length c0] w fun e w' => e = .returned (.bool r) ∧ Below w.heap.size w w' := by
  have hu26 := Try.underlying26
  have HR0 := Aside0.mk hr0
  have HC0 := Aside0.mk hc0
  clear hr0 hc0
  have HB := Aside0.mk (Below.refl w.heap.size w)
  have H : (if (l0.length : Int) > 1048576 then (some true) else ((spec_DrawFrameRead.f k l0).bind fun t377 => ((spec_FrameRead.f k t377).bind fun bt378 => ((impl_FrameRead.f k t377).bind fun bt385 => (if bt385.2.2.2.2.2 = bt378.2.2.2.2.2 then (if (!(bt385.1 == bt378.1) || (!(bt385.2.1 == bt378.2.1) || (!(bt385.2.2.1 == bt378.2.2.1) || (!(bt385.2.2.2.1.toList == bt378.2.2.2.1.toList))))) = true then (laws_FnFrameStrict.j0 k t377 bt378.2.2.2.2.1 bt378.2.2.2.2.2 bt385.2.2.2.2.1 bt385.2.2.2.2.2 true bt378.1 bt378.2.1 bt378.2.2.1 bt378.2.2.2.1 bt385.1 bt385.2.1 bt385.2.2.1 bt385.2.2.2.1) else (if bt385.2.2.2.2.1 = bt378.2.2.2.2.1 then (laws_FnFrameStrict.j0 k t377 bt378.2.2.2.2.1 bt378.2.2.2.2.2 bt385.2.2.2.2.1 bt385.2.2.2.2.2 (bt385.2.2.2.2.2 != 1) bt378.1 bt378.2.1 bt378.2.2.1 bt378.2.2.2.1 bt385.1 bt385.2.1 bt385.2.2.1 bt385.2.2.2.1) else (laws_FnFrameStrict.j0 k t377 bt378.2.2.2.2.1 bt378.2.2.2.2.2 bt385.2.2.2.2.1 bt385.2.2.2.2.2 true bt378.1 bt378.2.1 bt378.2.2.1 bt378.2.2.2.1 bt385.1 bt385.2.1 bt385.2.2.1 bt385.2.2.2.1))) else (laws_FnFrameStrict.j0 k t377 bt378.2.2.2.2.1 bt378.2.2.2.2.2 bt385.2.2.2.2.1 bt385.2.2.2.2.2 true bt378.1 bt378.2.1 bt378.2.2.1 bt378.2.2.2.1 bt385.1 bt385.2.1 bt385.2.2.1 bt385.2.2.2.1)))))) = some r := h
  clear h
  by_cases c2 : (l0.length : Int) > 1048576
  · rw [if_pos c2] at H
    have c2b0 : decide (1048576 < (l0.length : Int)) = true := decide_eq_true c2
    have c2b1 : decide (1048576 < l0.length) = true := decide_eq_true (by omega)
    clear c2
    obtain rfl := Option.some.inj H
    go_enter Try.func12, Try.ntmps12
    go_wp2
    go_ret
    exact ⟨by first | rfl | (simp [errW_none, errW_some] <;> rfl) | (simp [*, errW_none, errW_some] <;> rfl), by repeat (first | (with_reducible first | exact HB.out | apply below_alloc | apply pw_below_drewN | apply below_drew1) | exact HB.out)⟩
  · rw [if_neg c2] at H
    have c2b0 : decide (1048576 < (l0.length : Int)) = false := decide_eq_false c2
    have c2b1 : decide (1048576 < l0.length) = false := decide_eq_false (by omega)
    clear c2
    replace H := Option.bind_eq_some_iff.mp H
    obtain ⟨t377, A30, H⟩ := H
    replace H : ((spec_FrameRead.f k t377).bind fun bt378 => ((impl_FrameRead.f k t377).bind fun bt385 => (if bt385.2.2.2.2.2 = bt378.2.2.2.2.2 then (if (!(bt385.1 == bt378.1) || (!(bt385.2.1 == bt378.2.1) || (!(bt385.2.2.1 == bt378.2.2.1) || (!(bt385.2.2.2.1.toList == bt378.2.2.2.1.toList))))) = true then (laws_FnFrameStrict.j0 k t377 bt378.2.2.2.2.1 bt378.2.2.2.2.2 bt385.2.2.2.2.1 bt385.2.2.2.2.2 true bt378.1 bt378.2.1 bt378.2.2.1 bt378.2.2.2.1 bt385.1 bt385.2.1 bt385.2.2.1 bt385.2.2.2.1) else (if bt385.2.2.2.2.1 = bt378.2.2.2.2.1 then (laws_FnFrameStrict.j0 k t377 bt378.2.2.2.2.1 bt378.2.2.2.2.2 bt385.2.2.2.2.1 bt385.2.2.2.2.2 (bt385.2.2.2.2.2 != 1) bt378.1 bt378.2.1 bt378.2.2.1 bt378.2.2.2.1 bt385.1 bt385.2.1 bt385.2.2.1 bt385.2.2.2.1) else (laws_FnFrameStrict.j0 k t377 bt378.2.2.2.2.1 bt378.2.2.2.2.2 bt385.2.2.2.2.1 bt385.2.2.2.2.2 true bt378.1 bt378.2.1 bt378.2.2.1 bt378.2.2.2.1 bt385.1 bt385.2.1 bt385.2.2.1 bt385.2.2.2.1))) else (laws_FnFrameStrict.j0 k t377 bt378.2.2.2.2.1 bt378.2.2.2.2.2 bt385.2.2.2.2.1 bt385.2.2.2.2.2 true bt378.1 bt378.2.1 bt378.2.2.1 bt378.2.2.2.1 bt385.1 bt385.2.1 bt385.2.2.1 bt385.2.2.2.1)))) = some r := H
    have A3 := Aside0.mk A30
    clear A30
    replace H := Option.bind_eq_some_iff.mp H
    obtain ⟨⟨t378, t379, t380, t381, t382, t383⟩, A40, H⟩ := H
    replace H : ((impl_FrameRead.f k t377).bind fun bt385 => (if bt385.2.2.2.2.2 = t383 then (if (!(bt385.1 == t378) || (!(bt385.2.1 == t379) || (!(bt385.2.2.1 == t380) || (!(bt385.2.2.2.1.toList == t381.toList))))) = true then (laws_FnFrameStrict.j0 k t377 t382 t383 bt385.2.2.2.2.1 bt385.2.2.2.2.2 true t378 t379 t380 t381 bt385.1 bt385.2.1 bt385.2.2.1 bt385.2.2.2.1) else (if bt385.2.2.2.2.1 = t382 then (laws_FnFrameStrict.j0 k t377 t382 t383 bt385.2.2.2.2.1 bt385.2.2.2.2.2 (bt385.2.2.2.2.2 != 1) t378 t379 t380 t381 bt385.1 bt385.2.1 bt385.2.2.1 bt385.2.2.2.1) else (laws_FnFrameStrict.j0 k t377 t382 t383 bt385.2.2.2.2.1 bt385.2.2.2.2.2 true t378 t379 t380 t381 bt385.1 bt385.2.1 bt385.2.2.1 bt385.2.2.2.1))) else (laws_FnFrameStrict.j0 k t377 t382 t383 bt385.2.2.2.2.1 bt385.2.2.2.2.2 true t378 t379 t380 t381 bt385.1 bt385.2.1 bt385.2.2.1 bt385.2.2.2.1))) = some r := H
    have A4 := Aside0.mk A40
    clear A40
    replace H := Option.bind_eq_some_iff.mp H
    obtain ⟨⟨t385, t386, t387, t388, t389, t390⟩, A50, H⟩ := H
    replace H : (if t390 = t383 then (if (!(t385 == t378) || (!(t386 == t379) || (!(t387 == t380) || (!(t388.toList == t381.toList))))) = true then (laws_FnFrameStrict.j0 k t377 t382 t383 t389 t390 true t378 t379 t380 t381 t385 t386 t387 t388) else (if t389 = t382 then (laws_FnFrameStrict.j0 k t377 t382 t383 t389 t390 (t390 != 1) t378 t379 t380 t381 t385 t386 t387 t388) else (laws_FnFrameStrict.j0 k t377 t382 t383 t389 t390 true t378 t379 t380 t381 t385 t386 t387 t388))) else (laws_FnFrameStrict.j0 k t377 t382 t383 t389 t390 true t378 t379 t380 t381 t385 t386 t387 t388)) = some r := H
    have A5 := Aside0.mk A50
    clear A50
    have HC6 := Aside0.mk H
    clear H
    go_enter Try.func12, Try.ntmps12
    go_upto_region 6 with (first | ((with_reducible refine gate_callee (f := 24) rfl ?_); refine goesL_ (some 14) rfl rfl Try.func24 (by kernel_rfl) rfl #[.slice A0 l0.length c0] rfl (by (try simp only [List.map_toArray, List.map_cons, List.map_nil]); first | done | rfl | (simp only [List.length_drop, List.length_take]; rfl)) ?_; (with_reducible refine (spec_DrawFrameRead.calls k _ _ l0 t377 _ ?side1 ?side2 A3.out).mono ?_); (case side1 => repeat (first | exact HR0.out | (with_reducible refine Kd.C_alloc ?_ _) | (with_reducible refine Kd.C_drewN ?_ _) | (with_reducible refine Kd.C_drew ?_))); (case side2 => exact HC0.out); rintro e w7 ⟨rfl, hb⟩; refine ⟨_, rfl, ?_⟩; have n0_ := Aside0.mk (below_step (by repeat (first | (with_reducible first | exact HB.out | apply below_alloc | apply pw_below_drewN | apply below_drew1) | exact HB.out)) hb); clear HB; have HB := n0_; clear n0_; (try clear hb); (try clear hb2); (try clear hk); (try clear hi)) | ((with_reducible refine gate_callee (f := 19) rfl ?_); refine goesL_ (some 17) rfl rfl Try.func19 (by kernel_rfl) rfl #[.string t377] rfl (by (try simp only [List.map_toArray, List.map_cons, List.map_nil]); first | done | rfl | (simp only [List.length_drop, List.length_take]; rfl)) ?_; (with_reducible refine (spec_FrameRead.calls k t377 t378 t379 t380 t381 t382 t383 _ A4.out).mono ?_); rintro e w8 ⟨rfl, hb⟩; refine ⟨_, rfl, ?_⟩; have n0_ := Aside0.mk (below_step (by repeat (first | (with_reducible first | exact HB.out | apply below_alloc | apply pw_below_drewN | apply below_drew1) | exact HB.out)) hb); clear HB; have HB := n0_; clear n0_; (try clear hb); (try clear hb2); (try clear hk); (try clear hi)) | ((with_reducible refine gate_dst (N := 4) rfl ?_); refine box_event ?hg (N := 4) ?hd (cs := #[.int .i64 0, .bool false, .int .i64 0, .string (⟨#[]⟩ : ByteArray)]) (t := 26) ?hr ?_; (case hd => rfl); (case hg => rfl); (case hr => first | (go_simp; done) | (go_simp; rfl)); intro gb384 hg w9 hbox hb; have n0_ := Aside0.mk (below_step (by repeat (first | (with_reducible first | exact HB.out | apply below_alloc | apply pw_below_drewN | apply below_drew1) | exact HB.out)) hb); have n1_ := Aside0.mk (hbox); have n2_ := Aside0.mk ((by rw [hg]; exact (below_size (by repeat (first | (with_reducible first | exact HB.out | apply below_alloc | apply pw_below_drewN | apply below_drew1) | exact HB.out))) : w.heap.size ≤ gb384)); have n3_ := Aside0.mk ((by rw [hg]; exact (below_size (by repeat (first | (with_reducible first | exact HB.out | apply below_alloc | apply pw_below_drewN | apply below_drew1) | exact HB.out))) : w.heap.size ≤ gb384)); clear HB; have HB := n0_; have BK384 := n1_; have GW384 := n2_; have GE384 := n3_; clear n0_ n1_ n2_ n3_; clear hb hbox hg; have hcz10_0 : w9.cell? ⟨gb384, 0, none⟩ = some (.int .i64 0) := (blk_cell BK384.out 0).trans rfl; have hcz10_1 : w9.cell? ⟨gb384, 1, none⟩ = some (.bool false) := (blk_cell BK384.out 1).trans rfl; have hcz10_2 : w9.cell? ⟨gb384, 2, none⟩ = some (.int .i64 0) := (blk_cell BK384.out 2).trans rfl; have hcz10_3 : w9.cell? ⟨gb384, 3, none⟩ = some (.string (⟨#[]⟩ : ByteArray)) := (blk_cell BK384.out 3).trans rfl; have hfz10_0 := blk_frozen BK384.out 0; have hfz10_1 := blk_frozen BK384.out 1; have hfz10_2 := blk_frozen BK384.out 2; have hfz10_3 := blk_frozen BK384.out 3) | ((with_reducible refine gate_callee (f := 20) rfl ?_); refine goesL_ (some 23) rfl rfl Try.func20 (by kernel_rfl) rfl #[.string t377] rfl (by (try simp only [List.map_toArray, List.map_cons, List.map_nil]); first | done | rfl | (simp only [List.length_drop, List.length_take]; rfl)) ?_; (with_reducible refine (impl_FrameRead.calls k t377 t385 t386 t387 t388 t389 t390 _ A5.out).mono ?_); rintro e w11 ⟨rfl, hb⟩; refine ⟨_, rfl, ?_⟩; have n0_ := Aside0.mk (blk_below (g := gb384) (o := .cells #[.int .i64 t378, .bool t379, .int .i64 t380, .string t381] 26 (0, 0)) (by (with_reducible repeat (first | refine blk_drewN ?_ _ | refine blk_drew ?_ | refine blk_alloc ?_ _)); refine blk_put (cs := #[.int .i64 t378, .bool t379, .int .i64 t380, .string (⟨#[]⟩ : ByteArray)]) ?_ 3 _ rfl; (with_reducible repeat (first | refine blk_drewN ?_ _ | refine blk_drew ?_ | refine blk_alloc ?_ _)); refine blk_put (cs := #[.int .i64 t378, .bool t379, .int .i64 0, .string (⟨#[]⟩ : ByteArray)]) ?_ 2 _ rfl; (with_reducible repeat (first | refine blk_drewN ?_ _ | refine blk_drew ?_ | refine blk_alloc ?_ _)); refine blk_put (cs := #[.int .i64 t378, .bool false, .int .i64 0, .string (⟨#[]⟩ : ByteArray)]) ?_ 1 _ rfl; (with_reducible repeat (first | refine blk_drewN ?_ _ | refine blk_drew ?_ | refine blk_alloc ?_ _)); refine blk_put (cs := #[.int .i64 0, .bool false, .int .i64 0, .string (⟨#[]⟩ : ByteArray)]) ?_ 0 _ rfl; (with_reducible repeat (first | refine blk_drewN ?_ _ | refine blk_drew ?_ | refine blk_alloc ?_ _)); exact BK384.out) hb); have n1_ := Aside0.mk (below_step (by repeat (first | (with_reducible first | exact HB.out | apply below_alloc | apply pw_below_drewN | apply below_drew1 | refine below_set ?_ GE384.out) | exact HB.out)) hb); clear BK384; clear HB; have BK384 := n0_; have HB := n1_; clear n0_ n1_; (try clear hb); (try clear hb2); (try clear hk); (try clear hi)) | ((with_reducible refine gate_dst (N := 7) rfl ?_); refine box_event ?hg (N := 7) ?hd (cs := #[.int .i64 0, .bool false, .int .i64 0, .string (⟨#[]⟩ : ByteArray)]) (t := 26) ?hr ?_; (case hd => rfl); (case hg => rfl); (case hr => first | (go_simp; done) | (go_simp; rfl)); intro gb391 hg w12 hbox hb; have n0_ := Aside0.mk (blk_below (g := gb384) (o := .cells #[.int .i64 t378, .bool t379, .int .i64 t380, .string t381] 26 (0, 0)) (by (with_reducible repeat (first | refine blk_drewN ?_ _ | refine blk_drew ?_ | refine blk_alloc ?_ _)); exact BK384.out) hb); have n1_ := Aside0.mk (below_step (by repeat (first | (with_reducible first | exact HB.out | apply below_alloc | apply pw_below_drewN | apply below_drew1 | refine below_set ?_ GE384.out) | exact HB.out)) hb); have n2_ := Aside0.mk (hbox); have n3_ := Aside0.mk ((by rw [hg]; exact (below_size (by repeat (first | (with_reducible first | exact HB.out | apply below_alloc | apply pw_below_drewN | apply below_drew1 | refine below_set ?_ GE384.out) | exact HB.out))) : w.heap.size ≤ gb391)); have n4_ := Aside0.mk ((by rw [hg]; exact (below_size (by repeat (first | (with_reducible first | exact HB.out | apply below_alloc | apply pw_below_drewN | apply below_drew1 | refine below_set ?_ GE384.out) | exact HB.out))) : w.heap.size ≤ gb391)); have n5_ := Aside0.mk ((by rw [hg]; exact Nat.ne_of_lt (blk_lt (g := gb384) (o := .cells #[.int .i64 t378, .bool t379, .int .i64 t380, .string t381] 26 (0, 0)) (by (with_reducible repeat (first | refine blk_drewN ?_ _ | refine blk_drew ?_ | refine blk_alloc ?_ _)); exact BK384.out)) : gb384 ≠ gb391)); have n6_ := Aside0.mk ((by rw [hg]; exact Nat.ne_of_gt (blk_lt (g := gb384) (o := .cells #[.int .i64 t378, .bool t379, .int .i64 t380, .string t381] 26 (0, 0)) (by (with_reducible repeat (first | refine blk_drewN ?_ _ | refine blk_drew ?_ | refine blk_alloc ?_ _)); exact BK384.out)) : gb391 ≠ gb384)); clear BK384; clear HB; have BK384 := n0_; have HB := n1_; have BK391 := n2_; have GW391 := n3_; have GE391 := n4_; have NB384_391 := n5_; have NB391_384 := n6_; clear n0_ n1_ n2_ n3_ n4_ n5_ n6_; clear hb hbox hg; have hnb13 := NB391_384.out; have hnc13 := NB384_391.out; have hcz14_0 : w12.cell? ⟨gb391, 0, none⟩ = some (.int .i64 0) := (blk_cell BK391.out 0).trans rfl; have hcz14_1 : w12.cell? ⟨gb391, 1, none⟩ = some (.bool false) := (blk_cell BK391.out 1).trans rfl; have hcz14_2 : w12.cell? ⟨gb391, 2, none⟩ = some (.int .i64 0) := (blk_cell BK391.out 2).trans rfl; have hcz14_3 : w12.cell? ⟨gb391, 3, none⟩ = some (.string (⟨#[]⟩ : ByteArray)) := (blk_cell BK391.out 3).trans rfl; have hfz14_0 := blk_frozen BK391.out 0; have hfz14_1 := blk_frozen BK391.out 1; have hfz14_2 := blk_frozen BK391.out 2; have hfz14_3 := blk_frozen BK391.out 3))
    (try simp only [Act.put, List.setIfInBounds_toArray, List.set_cons_zero, List.set_cons_succ])
    go_cut [43] (fun v43 wc => ∃ (kq : Nat) (x43_5 : Bool), v43 = .bool x43_5 ∧ Aside0 (laws_FnFrameStrict.j0 kq t377 t382 t383 t389 t390 x43_5 t378 t379 t380 t381 t385 t386 t387 t388 = some r) ∧ Aside0 (kq ≤ k) ∧ Aside0 (wc.heap[gb384]? = some (.cells #[.int .i64 t378, .bool t379, .int .i64 t380, .string t381] 26 (0, 0))) ∧ Aside0 (wc.heap[gb391]? = some (.cells #[.int .i64 t385, .bool t386, .int .i64 t387, .string t388] 26 (0, 0))) ∧ Aside0 (Below w.heap.size w wc))
    case first =>
      have H := HC6.out
      clear HC6
      by_cases c15 : t390 = t383
      · rw [if_pos c15] at H
        have c15b0 : (t390 == t383) = true := beq_iff_eq.mpr c15
        have c15b1 : (t390 != t383) = false := bne_eq_false_iff_eq.mpr c15
        clear c15
        (first | rw [c15b0] | (simp only [i64_w, i32_w]; rw [c15b0]) | skip)
        by_cases c16 : (!(t385 == t378) || (!(t386 == t379) || (!(t387 == t380) || (!(t388.toList == t381.toList))))) = true
        · rw [if_pos c16] at H
          have c16b0 : (!(t385 == t378) || (!(t386 == t379) || (!(t387 == t380) || (!(t388.toList == t381.toList))))) = true := c16
          clear c16
          have H' := Aside0.mk H
          clear H
          have hnb17 := NB391_384.out
          have hnc17 := NB384_391.out
          have hcz18_0 : w12.cell? ⟨gb391, 0, none⟩ = some (.int .i64 0) := (blk_cell BK391.out 0).trans rfl
          have hcz18_1 : w12.cell? ⟨gb391, 1, none⟩ = some (.bool false) := (blk_cell BK391.out 1).trans rfl
          have hcz18_2 : w12.cell? ⟨gb391, 2, none⟩ = some (.int .i64 0) := (blk_cell BK391.out 2).trans rfl
          have hcz18_3 : w12.cell? ⟨gb391, 3, none⟩ = some (.string (⟨#[]⟩ : ByteArray)) := (blk_cell BK391.out 3).trans rfl
          have hfz18_0 := blk_frozen BK391.out 0
          have hfz18_1 := blk_frozen BK391.out 1
          have hfz18_2 := blk_frozen BK391.out 2
          have hfz18_3 := blk_frozen BK391.out 3
          have hcz19_0 : w12.cell? ⟨gb384, 0, none⟩ = some (.int .i64 t378) := (blk_cell BK384.out 0).trans rfl
          have hcz19_1 : w12.cell? ⟨gb384, 1, none⟩ = some (.bool t379) := (blk_cell BK384.out 1).trans rfl
          have hcz19_2 : w12.cell? ⟨gb384, 2, none⟩ = some (.int .i64 t380) := (blk_cell BK384.out 2).trans rfl
          have hcz19_3 : w12.cell? ⟨gb384, 3, none⟩ = some (.string t381) := (blk_cell BK384.out 3).trans rfl
          have hfz19_0 := blk_frozen BK384.out 0
          have hfz19_1 := blk_frozen BK384.out 1
          have hfz19_2 := blk_frozen BK384.out 2
          have hfz19_3 := blk_frozen BK384.out 3
          go_wp2
          go_meet
          case rel => exact ⟨_, (true), (by first | rfl | (simp; done) | (simp [*]; done)), H', ⟨by first | omega | exact Nat.le_refl _⟩, ⟨by (with_reducible repeat (first | refine blk_drewN ?_ _ | refine blk_drew ?_ | refine blk_alloc ?_ _)); refine blk_far ?_ NB384_391.out _; (with_reducible repeat (first | refine blk_drewN ?_ _ | refine blk_drew ?_ | refine blk_alloc ?_ _)); refine blk_far ?_ NB384_391.out _; (with_reducible repeat (first | refine blk_drewN ?_ _ | refine blk_drew ?_ | refine blk_alloc ?_ _)); refine blk_far ?_ NB384_391.out _; (with_reducible repeat (first | refine blk_drewN ?_ _ | refine blk_drew ?_ | refine blk_alloc ?_ _)); refine blk_far ?_ NB384_391.out _; (with_reducible repeat (first | refine blk_drewN ?_ _ | refine blk_drew ?_ | refine blk_alloc ?_ _)); exact BK384.out⟩, ⟨by (with_reducible repeat (first | refine blk_drewN ?_ _ | refine blk_drew ?_ | refine blk_alloc ?_ _)); refine blk_put (cs := #[.int .i64 t385, .bool t386, .int .i64 t387, .string (⟨#[]⟩ : ByteArray)]) ?_ 3 _ rfl; (with_reducible repeat (first | refine blk_drewN ?_ _ | refine blk_drew ?_ | refine blk_alloc ?_ _)); refine blk_put (cs := #[.int .i64 t385, .bool t386, .int .i64 0, .string (⟨#[]⟩ : ByteArray)]) ?_ 2 _ rfl; (with_reducible repeat (first | refine blk_drewN ?_ _ | refine blk_drew ?_ | refine blk_alloc ?_ _)); refine blk_put (cs := #[.int .i64 t385, .bool false, .int .i64 0, .string (⟨#[]⟩ : ByteArray)]) ?_ 1 _ rfl; (with_reducible repeat (first | refine blk_drewN ?_ _ | refine blk_drew ?_ | refine blk_alloc ?_ _)); refine blk_put (cs := #[.int .i64 0, .bool false, .int .i64 0, .string (⟨#[]⟩ : ByteArray)]) ?_ 0 _ rfl; (with_reducible repeat (first | refine blk_drewN ?_ _ | refine blk_drew ?_ | refine blk_alloc ?_ _)); exact BK391.out⟩, ⟨by repeat (first | (with_reducible first | exact HB.out | apply below_alloc | apply pw_below_drewN | apply below_drew1 | refine below_set ?_ GE384.out | refine below_set ?_ GE391.out) | exact HB.out)⟩⟩
        · rw [if_neg c16] at H
          have c16b0 : (!(t385 == t378) || (!(t386 == t379) || (!(t387 == t380) || (!(t388.toList == t381.toList))))) = false := by simpa using c16
          clear c16
          by_cases c20 : t389 = t382
          · rw [if_pos c20] at H
            have c20b0 : (t389 == t382) = true := beq_iff_eq.mpr c20
            have c20b1 : (t389 != t382) = false := bne_eq_false_iff_eq.mpr c20
            clear c20
            have H' := Aside0.mk H
            clear H
            have hnb21 := NB391_384.out
            have hnc21 := NB384_391.out
            have hcz22_0 : w12.cell? ⟨gb391, 0, none⟩ = some (.int .i64 0) := (blk_cell BK391.out 0).trans rfl
            have hcz22_1 : w12.cell? ⟨gb391, 1, none⟩ = some (.bool false) := (blk_cell BK391.out 1).trans rfl
            have hcz22_2 : w12.cell? ⟨gb391, 2, none⟩ = some (.int .i64 0) := (blk_cell BK391.out 2).trans rfl
            have hcz22_3 : w12.cell? ⟨gb391, 3, none⟩ = some (.string (⟨#[]⟩ : ByteArray)) := (blk_cell BK391.out 3).trans rfl
            have hfz22_0 := blk_frozen BK391.out 0
            have hfz22_1 := blk_frozen BK391.out 1
            have hfz22_2 := blk_frozen BK391.out 2
            have hfz22_3 := blk_frozen BK391.out 3
            have hcz23_0 : w12.cell? ⟨gb384, 0, none⟩ = some (.int .i64 t378) := (blk_cell BK384.out 0).trans rfl
            have hcz23_1 : w12.cell? ⟨gb384, 1, none⟩ = some (.bool t379) := (blk_cell BK384.out 1).trans rfl
            have hcz23_2 : w12.cell? ⟨gb384, 2, none⟩ = some (.int .i64 t380) := (blk_cell BK384.out 2).trans rfl
            have hcz23_3 : w12.cell? ⟨gb384, 3, none⟩ = some (.string t381) := (blk_cell BK384.out 3).trans rfl
            have hfz23_0 := blk_frozen BK384.out 0
            have hfz23_1 := blk_frozen BK384.out 1
            have hfz23_2 := blk_frozen BK384.out 2
            have hfz23_3 := blk_frozen BK384.out 3
            go_wp2
            go_meet
            case rel => exact ⟨_, ((t390 != 1)), (by first | rfl | (simp; done) | (simp [*]; done)), H', ⟨by first | omega | exact Nat.le_refl _⟩, ⟨by (with_reducible repeat (first | refine blk_drewN ?_ _ | refine blk_drew ?_ | refine blk_alloc ?_ _)); refine blk_far ?_ NB384_391.out _; (with_reducible repeat (first | refine blk_drewN ?_ _ | refine blk_drew ?_ | refine blk_alloc ?_ _)); refine blk_far ?_ NB384_391.out _; (with_reducible repeat (first | refine blk_drewN ?_ _ | refine blk_drew ?_ | refine blk_alloc ?_ _)); refine blk_far ?_ NB384_391.out _; (with_reducible repeat (first | refine blk_drewN ?_ _ | refine blk_drew ?_ | refine blk_alloc ?_ _)); refine blk_far ?_ NB384_391.out _; (with_reducible repeat (first | refine blk_drewN ?_ _ | refine blk_drew ?_ | refine blk_alloc ?_ _)); exact BK384.out⟩, ⟨by (with_reducible repeat (first | refine blk_drewN ?_ _ | refine blk_drew ?_ | refine blk_alloc ?_ _)); refine blk_put (cs := #[.int .i64 t385, .bool t386, .int .i64 t387, .string (⟨#[]⟩ : ByteArray)]) ?_ 3 _ rfl; (with_reducible repeat (first | refine blk_drewN ?_ _ | refine blk_drew ?_ | refine blk_alloc ?_ _)); refine blk_put (cs := #[.int .i64 t385, .bool t386, .int .i64 0, .string (⟨#[]⟩ : ByteArray)]) ?_ 2 _ rfl; (with_reducible repeat (first | refine blk_drewN ?_ _ | refine blk_drew ?_ | refine blk_alloc ?_ _)); refine blk_put (cs := #[.int .i64 t385, .bool false, .int .i64 0, .string (⟨#[]⟩ : ByteArray)]) ?_ 1 _ rfl; (with_reducible repeat (first | refine blk_drewN ?_ _ | refine blk_drew ?_ | refine blk_alloc ?_ _)); refine blk_put (cs := #[.int .i64 0, .bool false, .int .i64 0, .string (⟨#[]⟩ : ByteArray)]) ?_ 0 _ rfl; (with_reducible repeat (first | refine blk_drewN ?_ _ | refine blk_drew ?_ | refine blk_alloc ?_ _)); exact BK391.out⟩, ⟨by repeat (first | (with_reducible first | exact HB.out | apply below_alloc | apply pw_below_drewN | apply below_drew1 | refine below_set ?_ GE384.out | refine below_set ?_ GE391.out) | exact HB.out)⟩⟩
          · rw [if_neg c20] at H
            have c20b0 : (t389 == t382) = false := beq_eq_false_iff_ne.mpr c20
            have c20b1 : (t389 != t382) = true := bne_iff_ne.mpr c20
            have H' := Aside0.mk H
            clear H
            have hnb24 := NB391_384.out
            have hnc24 := NB384_391.out
            have hcz25_0 : w12.cell? ⟨gb391, 0, none⟩ = some (.int .i64 0) := (blk_cell BK391.out 0).trans rfl
            have hcz25_1 : w12.cell? ⟨gb391, 1, none⟩ = some (.bool false) := (blk_cell BK391.out 1).trans rfl
            have hcz25_2 : w12.cell? ⟨gb391, 2, none⟩ = some (.int .i64 0) := (blk_cell BK391.out 2).trans rfl
            have hcz25_3 : w12.cell? ⟨gb391, 3, none⟩ = some (.string (⟨#[]⟩ : ByteArray)) := (blk_cell BK391.out 3).trans rfl
            have hfz25_0 := blk_frozen BK391.out 0
            have hfz25_1 := blk_frozen BK391.out 1
            have hfz25_2 := blk_frozen BK391.out 2
            have hfz25_3 := blk_frozen BK391.out 3
            have hcz26_0 : w12.cell? ⟨gb384, 0, none⟩ = some (.int .i64 t378) := (blk_cell BK384.out 0).trans rfl
            have hcz26_1 : w12.cell? ⟨gb384, 1, none⟩ = some (.bool t379) := (blk_cell BK384.out 1).trans rfl
            have hcz26_2 : w12.cell? ⟨gb384, 2, none⟩ = some (.int .i64 t380) := (blk_cell BK384.out 2).trans rfl
            have hcz26_3 : w12.cell? ⟨gb384, 3, none⟩ = some (.string t381) := (blk_cell BK384.out 3).trans rfl
            have hfz26_0 := blk_frozen BK384.out 0
            have hfz26_1 := blk_frozen BK384.out 1
            have hfz26_2 := blk_frozen BK384.out 2
            have hfz26_3 := blk_frozen BK384.out 3
            go_wp2
            go_meet
            case rel => exact ⟨_, (true), (by first | rfl | (simp; done) | (simp [*]; done)), H', ⟨by first | omega | exact Nat.le_refl _⟩, ⟨by (with_reducible repeat (first | refine blk_drewN ?_ _ | refine blk_drew ?_ | refine blk_alloc ?_ _)); refine blk_far ?_ NB384_391.out _; (with_reducible repeat (first | refine blk_drewN ?_ _ | refine blk_drew ?_ | refine blk_alloc ?_ _)); refine blk_far ?_ NB384_391.out _; (with_reducible repeat (first | refine blk_drewN ?_ _ | refine blk_drew ?_ | refine blk_alloc ?_ _)); refine blk_far ?_ NB384_391.out _; (with_reducible repeat (first | refine blk_drewN ?_ _ | refine blk_drew ?_ | refine blk_alloc ?_ _)); refine blk_far ?_ NB384_391.out _; (with_reducible repeat (first | refine blk_drewN ?_ _ | refine blk_drew ?_ | refine blk_alloc ?_ _)); exact BK384.out⟩, ⟨by (with_reducible repeat (first | refine blk_drewN ?_ _ | refine blk_drew ?_ | refine blk_alloc ?_ _)); refine blk_put (cs := #[.int .i64 t385, .bool t386, .int .i64 t387, .string (⟨#[]⟩ : ByteArray)]) ?_ 3 _ rfl; (with_reducible repeat (first | refine blk_drewN ?_ _ | refine blk_drew ?_ | refine blk_alloc ?_ _)); refine blk_put (cs := #[.int .i64 t385, .bool t386, .int .i64 0, .string (⟨#[]⟩ : ByteArray)]) ?_ 2 _ rfl; (with_reducible repeat (first | refine blk_drewN ?_ _ | refine blk_drew ?_ | refine blk_alloc ?_ _)); refine blk_put (cs := #[.int .i64 t385, .bool false, .int .i64 0, .string (⟨#[]⟩ : ByteArray)]) ?_ 1 _ rfl; (with_reducible repeat (first | refine blk_drewN ?_ _ | refine blk_drew ?_ | refine blk_alloc ?_ _)); refine blk_put (cs := #[.int .i64 0, .bool false, .int .i64 0, .string (⟨#[]⟩ : ByteArray)]) ?_ 0 _ rfl; (with_reducible repeat (first | refine blk_drewN ?_ _ | refine blk_drew ?_ | refine blk_alloc ?_ _)); exact BK391.out⟩, ⟨by repeat (first | (with_reducible first | exact HB.out | apply below_alloc | apply pw_below_drewN | apply below_drew1 | refine below_set ?_ GE384.out | refine below_set ?_ GE391.out) | exact HB.out)⟩⟩
      · rw [if_neg c15] at H
        have c15b0 : (t390 == t383) = false := beq_eq_false_iff_ne.mpr c15
        have c15b1 : (t390 != t383) = true := bne_iff_ne.mpr c15
        (first | rw [c15b0] | (simp only [i64_w, i32_w]; rw [c15b0]) | skip)
        have H' := Aside0.mk H
        clear H
        go_wp2
        go_meet
        case rel => exact ⟨_, (true), (by first | rfl | (simp; done) | (simp [*]; done)), H', ⟨by first | omega | exact Nat.le_refl _⟩, ⟨by (with_reducible repeat (first | refine blk_drewN ?_ _ | refine blk_drew ?_ | refine blk_alloc ?_ _)); refine blk_far ?_ NB384_391.out _; (with_reducible repeat (first | refine blk_drewN ?_ _ | refine blk_drew ?_ | refine blk_alloc ?_ _)); refine blk_far ?_ NB384_391.out _; (with_reducible repeat (first | refine blk_drewN ?_ _ | refine blk_drew ?_ | refine blk_alloc ?_ _)); refine blk_far ?_ NB384_391.out _; (with_reducible repeat (first | refine blk_drewN ?_ _ | refine blk_drew ?_ | refine blk_alloc ?_ _)); refine blk_far ?_ NB384_391.out _; (with_reducible repeat (first | refine blk_drewN ?_ _ | refine blk_drew ?_ | refine blk_alloc ?_ _)); exact BK384.out⟩, ⟨by (with_reducible repeat (first | refine blk_drewN ?_ _ | refine blk_drew ?_ | refine blk_alloc ?_ _)); refine blk_put (cs := #[.int .i64 t385, .bool t386, .int .i64 t387, .string (⟨#[]⟩ : ByteArray)]) ?_ 3 _ rfl; (with_reducible repeat (first | refine blk_drewN ?_ _ | refine blk_drew ?_ | refine blk_alloc ?_ _)); refine blk_put (cs := #[.int .i64 t385, .bool t386, .int .i64 0, .string (⟨#[]⟩ : ByteArray)]) ?_ 2 _ rfl; (with_reducible repeat (first | refine blk_drewN ?_ _ | refine blk_drew ?_ | refine blk_alloc ?_ _)); refine blk_put (cs := #[.int .i64 t385, .bool false, .int .i64 0, .string (⟨#[]⟩ : ByteArray)]) ?_ 1 _ rfl; (with_reducible repeat (first | refine blk_drewN ?_ _ | refine blk_drew ?_ | refine blk_alloc ?_ _)); refine blk_put (cs := #[.int .i64 0, .bool false, .int .i64 0, .string (⟨#[]⟩ : ByteArray)]) ?_ 0 _ rfl; (with_reducible repeat (first | refine blk_drewN ?_ _ | refine blk_drew ?_ | refine blk_alloc ?_ _)); exact BK391.out⟩, ⟨by repeat (first | (with_reducible first | exact HB.out | apply below_alloc | apply pw_below_drewN | apply below_drew1 | refine below_set ?_ GE384.out | refine below_set ?_ GE391.out) | exact HB.out)⟩⟩
    case rest =>
      clear HC6
      try clear c1
      try clear c2
      try clear c2b0
      try clear c2b1
      try clear p2
      try clear c12
      try clear c13
      try clear c15
      try clear c15b0
      try clear c15b1
      try clear c16
      try clear c16b0
      try clear c17
      try clear c19
      try clear c20
      try clear c20b0
      try clear c20b1
      try clear c21
      try clear c24
      try clear hcz10_0
      try clear hcz10_1
      try clear hcz10_2
      try clear hcz10_3
      try clear hcz14_0
      try clear hcz14_1
      try clear hcz14_2
      try clear hcz14_3
      try clear hcz18_0
      try clear hcz18_1
      try clear hcz18_2
      try clear hcz18_3
      try clear hcz19_0
      try clear hcz19_1
      try clear hcz19_2
      try clear hcz19_3
      try clear hcz22_0
      try clear hcz22_1
      try clear hcz22_2
      try clear hcz22_3
      try clear hcz23_0
      try clear hcz23_1
      try clear hcz23_2
      try clear hcz23_3
      try clear hcz25_0
      try clear hcz25_1
      try clear hcz25_2
      try clear hcz25_3
      try clear hcz26_0
      try clear hcz26_1
      try clear hcz26_2
      try clear hcz26_3
      try clear hfz10_0
      try clear hfz10_1
      try clear hfz10_2
      try clear hfz10_3
      try clear hfz14_0
      try clear hfz14_1
      try clear hfz14_2
      try clear hfz14_3
      try clear hfz18_0
      try clear hfz18_1
      try clear hfz18_2
      try clear hfz18_3
      try clear hfz19_0
      try clear hfz19_1
      try clear hfz19_2
      try clear hfz19_3
      try clear hfz22_0
      try clear hfz22_1
      try clear hfz22_2
      try clear hfz22_3
      try clear hfz23_0
      try clear hfz23_1
      try clear hfz23_2
      try clear hfz23_3
      try clear hfz25_0
      try clear hfz25_1
      try clear hfz25_2
      try clear hfz25_3
      try clear hfz26_0
      try clear hfz26_1
      try clear hfz26_2
      try clear hfz26_3
      obtain ⟨kq, x43_5, rfl, HA, HJ5, BK384, BK391, HB⟩ := hcut
      cases kq with
      | zero => exact absurd HA.out (by simp [laws_FnFrameStrict.j0])
      | succ kj5 =>
        have H := HA.out
        clear HA
        simp only [laws_FnFrameStrict.j0] at H
        by_cases c27 : x43_5 = true
        · subst c27
          have H1 : (if t390 = t383 then (if (t385 == t378 && (t386 == t379 && (t387 == t380 && (t388.toList == t381.toList)))) = true then (some (t389 == t382)) else (some false)) else (some false)) = some r := by rw [if_pos rfl] at H; exact H
          clear H
          have H := H1
          clear H1
          by_cases c28 : t390 = t383
          · rw [if_pos c28] at H
            have c28b0 : (t390 == t383) = true := beq_iff_eq.mpr c28
            have c28b1 : (t390 != t383) = false := bne_eq_false_iff_eq.mpr c28
            clear c28
            by_cases c29 : (t385 == t378 && (t386 == t379 && (t387 == t380 && (t388.toList == t381.toList)))) = true
            · rw [if_pos c29] at H
              have c29b0 : (t385 == t378 && (t386 == t379 && (t387 == t380 && (t388.toList == t381.toList)))) = true := c29
              (try (have c29b1 : decide (t385 = t378 && (t386 == t379 && (t387 == t380 && (t388.toList == t381.toList)))) = true := by simpa using c29))
              (try (have c29b2 : (t385 == t378 && (t386 == t379 && (t387 == t380 && (t388.toList == t381.toList)))) = true := by simpa using c29))
              clear c29
              obtain rfl := Option.some.inj H
              have hnb30 := NB391_384.out
              have hnc30 := NB384_391.out
              have hcz31_0 : wc.cell? ⟨gb391, 0, none⟩ = some (.int .i64 t385) := (blk_cell BK391.out 0).trans rfl
              have hcz31_1 : wc.cell? ⟨gb391, 1, none⟩ = some (.bool t386) := (blk_cell BK391.out 1).trans rfl
              have hcz31_2 : wc.cell? ⟨gb391, 2, none⟩ = some (.int .i64 t387) := (blk_cell BK391.out 2).trans rfl
              have hcz31_3 : wc.cell? ⟨gb391, 3, none⟩ = some (.string t388) := (blk_cell BK391.out 3).trans rfl
              have hfz31_0 := blk_frozen BK391.out 0
              have hfz31_1 := blk_frozen BK391.out 1
              have hfz31_2 := blk_frozen BK391.out 2
              have hfz31_3 := blk_frozen BK391.out 3
              have hcz32_0 : wc.cell? ⟨gb384, 0, none⟩ = some (.int .i64 t378) := (blk_cell BK384.out 0).trans rfl
              have hcz32_1 : wc.cell? ⟨gb384, 1, none⟩ = some (.bool t379) := (blk_cell BK384.out 1).trans rfl
              have hcz32_2 : wc.cell? ⟨gb384, 2, none⟩ = some (.int .i64 t380) := (blk_cell BK384.out 2).trans rfl
              have hcz32_3 : wc.cell? ⟨gb384, 3, none⟩ = some (.string t381) := (blk_cell BK384.out 3).trans rfl
              have hfz32_0 := blk_frozen BK384.out 0
              have hfz32_1 := blk_frozen BK384.out 1
              have hfz32_2 := blk_frozen BK384.out 2
              have hfz32_3 := blk_frozen BK384.out 3
              go_wp2
              go_ret
              exact ⟨by first | rfl | (simp [errW_none, errW_some] <;> rfl) | (simp [*, errW_none, errW_some] <;> rfl), by repeat (first | (with_reducible first | exact HB.out | apply below_alloc | apply pw_below_drewN | apply below_drew1 | refine below_set ?_ GE384.out | refine below_set ?_ GE391.out) | exact HB.out)⟩
            · rw [if_neg c29] at H
              have c29b0 : (t385 == t378 && (t386 == t379 && (t387 == t380 && (t388.toList == t381.toList)))) = false := by simpa using c29
              (try (have c29b1 : decide (t385 = t378 && (t386 == t379 && (t387 == t380 && (t388.toList == t381.toList)))) = false := by simpa using c29))
              (try (have c29b2 : (t385 == t378 && (t386 == t379 && (t387 == t380 && (t388.toList == t381.toList)))) = false := by simpa using c29))
              (try (have c29b3 : ¬ (t385 = t378 && (t386 == t379 && (t387 == t380 && (t388.toList == t381.toList)))) := by simpa using c29))
              clear c29
              obtain rfl := Option.some.inj H
              have hnb33 := NB391_384.out
              have hnc33 := NB384_391.out
              have hcz34_0 : wc.cell? ⟨gb391, 0, none⟩ = some (.int .i64 t385) := (blk_cell BK391.out 0).trans rfl
              have hcz34_1 : wc.cell? ⟨gb391, 1, none⟩ = some (.bool t386) := (blk_cell BK391.out 1).trans rfl
              have hcz34_2 : wc.cell? ⟨gb391, 2, none⟩ = some (.int .i64 t387) := (blk_cell BK391.out 2).trans rfl
              have hcz34_3 : wc.cell? ⟨gb391, 3, none⟩ = some (.string t388) := (blk_cell BK391.out 3).trans rfl
              have hfz34_0 := blk_frozen BK391.out 0
              have hfz34_1 := blk_frozen BK391.out 1
              have hfz34_2 := blk_frozen BK391.out 2
              have hfz34_3 := blk_frozen BK391.out 3
              have hcz35_0 : wc.cell? ⟨gb384, 0, none⟩ = some (.int .i64 t378) := (blk_cell BK384.out 0).trans rfl
              have hcz35_1 : wc.cell? ⟨gb384, 1, none⟩ = some (.bool t379) := (blk_cell BK384.out 1).trans rfl
              have hcz35_2 : wc.cell? ⟨gb384, 2, none⟩ = some (.int .i64 t380) := (blk_cell BK384.out 2).trans rfl
              have hcz35_3 : wc.cell? ⟨gb384, 3, none⟩ = some (.string t381) := (blk_cell BK384.out 3).trans rfl
              have hfz35_0 := blk_frozen BK384.out 0
              have hfz35_1 := blk_frozen BK384.out 1
              have hfz35_2 := blk_frozen BK384.out 2
              have hfz35_3 := blk_frozen BK384.out 3
              go_wp2
              go_ret
              exact ⟨by first | rfl | (simp [errW_none, errW_some] <;> rfl) | (simp [*, errW_none, errW_some] <;> rfl), by repeat (first | (with_reducible first | exact HB.out | apply below_alloc | apply pw_below_drewN | apply below_drew1 | refine below_set ?_ GE384.out | refine below_set ?_ GE391.out) | exact HB.out)⟩
          · rw [if_neg c28] at H
            have c28b0 : (t390 == t383) = false := beq_eq_false_iff_ne.mpr c28
            have c28b1 : (t390 != t383) = true := bne_iff_ne.mpr c28
            obtain rfl := Option.some.inj H
            go_wp2
            go_ret
            exact ⟨by first | rfl | (simp [errW_none, errW_some] <;> rfl) | (simp [*, errW_none, errW_some] <;> rfl), by repeat (first | (with_reducible first | exact HB.out | apply below_alloc | apply pw_below_drewN | apply below_drew1 | refine below_set ?_ GE384.out | refine below_set ?_ GE391.out) | exact HB.out)⟩
        · replace c27 := Bool.eq_false_iff.mpr c27
          subst c27
          have H1 : ((impl_FrameOk.f t385 t386 t387 t388).bind fun t392 => (if t392 = true then ((impl_FrameWrite.f t385 t386 t387 t388).bind fun t393 => (if 0 ≤ t389 then (if t389 ≤ (t377.size : Int) then (some (t393.toList == (t377.extract 0 (t389 : Int).toNat).toList)) else (none)) else (none))) else (some false))) = some r := by rw [if_neg (show ¬ (false = true) by decide)] at H; exact H
          clear H
          have H := H1
          clear H1
          replace H := Option.bind_eq_some_iff.mp H
          obtain ⟨t392, A360, H⟩ := H
          replace H : (if t392 = true then ((impl_FrameWrite.f t385 t386 t387 t388).bind fun t393 => (if 0 ≤ t389 then (if t389 ≤ (t377.size : Int) then (some (t393.toList == (t377.extract 0 (t389 : Int).toNat).toList)) else (none)) else (none))) else (some false)) = some r := H
          have A36 := Aside0.mk A360
          clear A360
          by_cases c37 : t392 = true
          · subst c37
            have H1 : ((impl_FrameWrite.f t385 t386 t387 t388).bind fun t393 => (if 0 ≤ t389 then (if t389 ≤ (t377.size : Int) then (some (t393.toList == (t377.extract 0 (t389 : Int).toNat).toList)) else (none)) else (none))) = some r := by rw [if_pos rfl] at H; exact H
            clear H
            have H := H1
            clear H1
            replace H := Option.bind_eq_some_iff.mp H
            obtain ⟨t393, A380, H⟩ := H
            replace H : (if 0 ≤ t389 then (if t389 ≤ (t377.size : Int) then (some (t393.toList == (t377.extract 0 (t389 : Int).toNat).toList)) else (none)) else (none)) = some r := H
            have A38 := Aside0.mk A380
            clear A380
            by_cases c39 : 0 ≤ t389
            · rw [if_pos c39] at H
              have c39b0 := eq_true c39
              have c39b1 : decide (0 ≤ t389) = true := decide_eq_true c39
              clear c39
              by_cases c40 : t389 ≤ (t377.size : Int)
              · rw [if_pos c40] at H
                have c40b0 := eq_true c40
                have c40b1 : decide (t389 ≤ (t377.size : Int)) = true := decide_eq_true c40
                clear c40
                obtain rfl := Option.some.inj H
                try go_wp2
                have n0_ := Aside0.mk (blk_drew BK384.out)
                have n1_ := Aside0.mk (blk_drew BK391.out)
                have n2_ := Aside0.mk (below_drew1 HB.out)
                clear BK384
                clear BK391
                clear HB
                have BK384 := n0_
                have BK391 := n1_
                have HB := n2_
                clear n0_ n1_ n2_
                refine start_ (n := 11) (S := fun w' => w'.cell? ⟨gb391, 0, none⟩ = some (.int .i64 t385) ∧ w'.cell? ⟨gb391, 1, none⟩ = some (.bool t386) ∧ w'.cell? ⟨gb391, 2, none⟩ = some (.int .i64 t387) ∧ w'.cell? ⟨gb391, 3, none⟩ = some (.string t388)) (ds := []) #[false, false, false, false, false, false, false, false, false, false, false] (by kernel_rfl) rfl rfl ⟨(blk_cell BK391.out 0).trans rfl, (blk_cell BK391.out 1).trans rfl, (blk_cell BK391.out 2).trans rfl, (blk_cell BK391.out 3).trans rfl⟩ (fun hHeld => ?_); refine with_tabW laws_FnFrameStrict.tab8 laws_FnFrameStrict.bits8 (fun HT_ HW_ => ?_)
                generalize wc.drew = w41 at BK384 BK391 HB hHeld ⊢
                refine take_ (i := 0) (N := some 57) (v := ?_) (a' := ?_) #[true, false, false, false, false, false, false, false, false, false, false] rfl rfl (take_ofW HT_.out HW_.out (by kernel_rfl)) (fun _ _ _ h => h) (Or.inl ⟨by rfl, ?_⟩) hHeld ?_ ?_
                rotate_left
                · rintro w' ⟨s0, s1, s2, s3⟩
                  go_simp
                  with_reducible rfl
                rotate_left
                · simp only [Act.put, List.setIfInBounds_toArray, List.set_cons_zero, List.set_cons_succ, i64_w, i32_w]
                  rfl
                refine one_ (i := 1) (N := some 58) #[true, true, false, false, false, false, false, false, false, false, false] rfl rfl (one_of HT_.out (by kernel_rfl)) (by decide) (fun K hK => ?_)
                refine goes_ Try.func16 (by kernel_rfl) rfl #[.agg #[.int .i64 t385, .bool t386, .int .i64 t387, .string t388]] (by rfl) rfl rfl (by (try simp only [List.map_toArray, List.map_cons, List.map_nil]); first | done | rfl | (simp only [List.length_drop, List.length_take]; rfl)) ?_
                with_reducible refine (impl_FrameOk.calls t385 t386 t387 t388 true _ A36.out).mono ?_
                rintro e w42 ⟨rfl, hb⟩
                refine ⟨_, rfl, ?_⟩
                have n0_ := Aside0.mk (blk_below (g := gb384) (o := .cells #[.int .i64 t378, .bool t379, .int .i64 t380, .string t381] 26 (0, 0)) (by (with_reducible repeat (first | refine blk_drewN ?_ _ | refine blk_drew ?_ | refine blk_alloc ?_ _)); exact BK384.out) hb)
                have n1_ := Aside0.mk (blk_below (g := gb391) (o := .cells #[.int .i64 t385, .bool t386, .int .i64 t387, .string t388] 26 (0, 0)) (by (with_reducible repeat (first | refine blk_drewN ?_ _ | refine blk_drew ?_ | refine blk_alloc ?_ _)); exact BK391.out) hb)
                have n2_ := Aside0.mk (below_step (by repeat (first | (with_reducible first | exact HB.out | apply below_alloc | apply pw_below_drewN | apply below_drew1 | refine below_set ?_ GE384.out | refine below_set ?_ GE391.out) | exact HB.out)) hb)
                clear BK384
                clear BK391
                clear HB
                have BK384 := n0_
                have BK391 := n1_
                have HB := n2_
                clear n0_ n1_ n2_
                (try clear hb)
                (try clear hb2)
                (try clear hk)
                (try clear hi)
                refine hK.out _ _ ⟨(blk_cell BK391.out 0).trans rfl, (blk_cell BK391.out 1).trans rfl, (blk_cell BK391.out 2).trans rfl, (blk_cell BK391.out 3).trans rfl⟩ (fun hHeld => ?_)
                clear hK K
                refine norm_ (a' := ?_) ?_ ?_
                rotate_left
                · show Act.put _ (some 58) _ = _
                  simp only [Act.put, List.setIfInBounds_toArray, List.set_cons_zero, List.set_cons_succ, i64_w, i32_w]
                  rfl
                refine pure_ (i := 2) (N := some 59) (v := ?_) (a' := ?_) #[true, true, true, false, false, false, false, false, false, false, false] rfl rfl (any_of HT_.out (by kernel_rfl)) (fun _ _ _ h => h) (Or.inl ⟨by rfl, ?_⟩) ?_ ?_
                rotate_left
                · intro w'
                  go_simp
                  with_reducible rfl
                rotate_left
                · simp only [Act.put, List.setIfInBounds_toArray, List.set_cons_zero, List.set_cons_succ, i64_w, i32_w]
                  rfl
                refine pure_ (i := 5) (N := some 62) (v := ?_) (a' := ?_) #[true, true, true, false, false, true, false, false, false, false, false] rfl rfl (any_of HT_.out (by kernel_rfl)) (fun _ _ _ h => h) (Or.inl ⟨by rfl, ?_⟩) ?_ ?_
                rotate_left
                · intro w'
                  go_simp
                  with_reducible rfl
                rotate_left
                · simp only [Act.put, List.setIfInBounds_toArray, List.set_cons_zero, List.set_cons_succ, i64_w, i32_w]
                  rfl
                refine pure_ (i := 6) (N := some 63) (v := ?_) (a' := ?_) #[true, true, true, false, false, true, true, false, false, false, false] rfl rfl (any_of HT_.out (by kernel_rfl)) (fun _ _ _ h => h) (Or.inl ⟨by rfl, ?_⟩) ?_ ?_
                rotate_left
                · intro w'
                  go_simp
                  with_reducible rfl
                rotate_left
                · simp only [Act.put, List.setIfInBounds_toArray, List.set_cons_zero, List.set_cons_succ, i64_w, i32_w]
                  rfl
                refine pure_ (i := 7) (N := some 64) (v := ?_) (a' := ?_) #[true, true, true, false, false, true, true, true, false, false, false] rfl rfl (any_of HT_.out (by kernel_rfl)) (fun _ _ _ h => h) (Or.inl ⟨by rfl, ?_⟩) ?_ ?_
                rotate_left
                · intro w'
                  go_simp
                  with_reducible rfl
                rotate_left
                · simp only [Act.put, List.setIfInBounds_toArray, List.set_cons_zero, List.set_cons_succ, i64_w, i32_w]
                  rfl
                refine take_ (i := 3) (N := some 60) (v := ?_) (a' := ?_) #[true, true, true, true, false, true, true, true, false, false, false] rfl rfl (take_ofW HT_.out HW_.out (by kernel_rfl)) (fun _ _ _ h => h) (Or.inl ⟨by rfl, ?_⟩) hHeld ?_ ?_
                rotate_left
                · rintro w' ⟨s0, s1, s2, s3⟩
                  go_simp
                  with_reducible rfl
                rotate_left
                · simp only [Act.put, List.setIfInBounds_toArray, List.set_cons_zero, List.set_cons_succ, i64_w, i32_w]
                  rfl
                refine one_ (i := 4) (N := some 61) #[true, true, true, true, true, true, true, true, false, false, false] rfl rfl (one_of HT_.out (by kernel_rfl)) (by decide) (fun K hK => ?_)
                refine goes_ Try.func18 (by kernel_rfl) rfl #[.agg #[.int .i64 t385, .bool t386, .int .i64 t387, .string t388]] (by rfl) rfl rfl (by (try simp only [List.map_toArray, List.map_cons, List.map_nil]); first | done | rfl | (simp only [List.length_drop, List.length_take]; rfl)) ?_
                with_reducible refine (impl_FrameWrite.calls t385 t386 t387 t388 t393 _ A38.out).mono ?_
                rintro e w43 ⟨rfl, hb⟩
                refine ⟨_, rfl, ?_⟩
                have n0_ := Aside0.mk (blk_below (g := gb384) (o := .cells #[.int .i64 t378, .bool t379, .int .i64 t380, .string t381] 26 (0, 0)) (by (with_reducible repeat (first | refine blk_drewN ?_ _ | refine blk_drew ?_ | refine blk_alloc ?_ _)); exact BK384.out) hb)
                have n1_ := Aside0.mk (blk_below (g := gb391) (o := .cells #[.int .i64 t385, .bool t386, .int .i64 t387, .string t388] 26 (0, 0)) (by (with_reducible repeat (first | refine blk_drewN ?_ _ | refine blk_drew ?_ | refine blk_alloc ?_ _)); exact BK391.out) hb)
                have n2_ := Aside0.mk (below_step (by repeat (first | (with_reducible first | exact HB.out | apply below_alloc | apply pw_below_drewN | apply below_drew1 | refine below_set ?_ GE384.out | refine below_set ?_ GE391.out) | exact HB.out)) hb)
                clear BK384
                clear BK391
                clear HB
                have BK384 := n0_
                have BK391 := n1_
                have HB := n2_
                clear n0_ n1_ n2_
                (try clear hb)
                (try clear hb2)
                (try clear hk)
                (try clear hi)
                refine hK.out _ _ ⟨(blk_cell BK391.out 0).trans rfl, (blk_cell BK391.out 1).trans rfl, (blk_cell BK391.out 2).trans rfl, (blk_cell BK391.out 3).trans rfl⟩ (fun hHeld => ?_)
                clear hK K
                refine norm_ (a' := ?_) ?_ ?_
                rotate_left
                · show Act.put _ (some 61) _ = _
                  simp only [Act.put, List.setIfInBounds_toArray, List.set_cons_zero, List.set_cons_succ, i64_w, i32_w]
                  rfl
                refine pure_ (i := 8) (N := some 65) (v := ?_) (a' := ?_) #[true, true, true, true, true, true, true, true, true, false, false] rfl rfl (any_of HT_.out (by kernel_rfl)) (fun _ _ _ h => h) (Or.inl ⟨by rfl, ?_⟩) ?_ ?_
                rotate_left
                · intro w'
                  go_simp
                  with_reducible rfl
                rotate_left
                · simp only [Act.put, List.setIfInBounds_toArray, List.set_cons_zero, List.set_cons_succ, i64_w, i32_w]
                  rfl
                refine pure_ (i := 9) (N := some 66) (v := ?_) (a' := ?_) #[true, true, true, true, true, true, true, true, true, true, false] rfl rfl (any_of HT_.out (by kernel_rfl)) (fun _ _ _ h => h) (Or.inl ⟨by rfl, ?_⟩) ?_ ?_
                rotate_left
                · intro w'
                  go_simp
                  with_reducible rfl
                rotate_left
                · simp only [Act.put, List.setIfInBounds_toArray, List.set_cons_zero, List.set_cons_succ, i64_w, i32_w]
                  rfl
                refine pure_ (i := 10) (N := some 2) (v := ?_) (a' := ?_) #[true, true, true, true, true, true, true, true, true, true, true] rfl rfl (any_of HT_.out (by kernel_rfl)) (fun _ _ _ h => h) (Or.inl ⟨by rfl, ?_⟩) ?_ ?_
                rotate_left
                · intro w'
                  go_simp
                  with_reducible rfl
                rotate_left
                · simp only [Act.put, List.setIfInBounds_toArray, List.set_cons_zero, List.set_cons_succ, i64_w, i32_w]
                  rfl
                refine done_ (done_of HT_.out (by kernel_rfl)) ?_
                try go_wp2
                go_ret
                exact ⟨by first | rfl | (simp [errW_none, errW_some] <;> rfl) | (simp [*, errW_none, errW_some] <;> rfl), by repeat (first | (with_reducible first | exact HB.out | apply below_alloc | apply pw_below_drewN | apply below_drew1 | refine below_set ?_ GE384.out | refine below_set ?_ GE391.out) | exact HB.out)⟩
              · rw [if_neg c40] at H
                exact absurd H (by simp)
            · rw [if_neg c39] at H
              exact absurd H (by simp)
          · replace c37 := Bool.eq_false_iff.mpr c37
            subst c37
            have H1 : (some false) = some r := by rw [if_neg (show ¬ (false = true) by decide)] at H; exact H
            clear H
            have H := H1
            clear H1
            obtain rfl := Option.some.inj H
            try go_wp2
            have n0_ := Aside0.mk (blk_drew BK384.out)
            have n1_ := Aside0.mk (blk_drew BK391.out)
            have n2_ := Aside0.mk (below_drew1 HB.out)
            clear BK384
            clear BK391
            clear HB
            have BK384 := n0_
            have BK391 := n1_
            have HB := n2_
            clear n0_ n1_ n2_
            refine start_ (n := 11) (S := fun w' => w'.cell? ⟨gb391, 0, none⟩ = some (.int .i64 t385) ∧ w'.cell? ⟨gb391, 1, none⟩ = some (.bool t386) ∧ w'.cell? ⟨gb391, 2, none⟩ = some (.int .i64 t387) ∧ w'.cell? ⟨gb391, 3, none⟩ = some (.string t388)) (ds := []) #[false, false, false, false, false, false, false, false, false, false, false] (by kernel_rfl) rfl rfl ⟨(blk_cell BK391.out 0).trans rfl, (blk_cell BK391.out 1).trans rfl, (blk_cell BK391.out 2).trans rfl, (blk_cell BK391.out 3).trans rfl⟩ (fun hHeld => ?_); refine with_tabW laws_FnFrameStrict.tab8 laws_FnFrameStrict.bits8 (fun HT_ HW_ => ?_)
            generalize wc.drew = w44 at BK384 BK391 HB hHeld ⊢
            refine take_ (i := 0) (N := some 57) (v := ?_) (a' := ?_) #[true, false, false, false, false, false, false, false, false, false, false] rfl rfl (take_ofW HT_.out HW_.out (by kernel_rfl)) (fun _ _ _ h => h) (Or.inl ⟨by rfl, ?_⟩) hHeld ?_ ?_
            rotate_left
            · rintro w' ⟨s0, s1, s2, s3⟩
              go_simp
              with_reducible rfl
            rotate_left
            · simp only [Act.put, List.setIfInBounds_toArray, List.set_cons_zero, List.set_cons_succ, i64_w, i32_w]
              rfl
            refine one_ (i := 1) (N := some 58) #[true, true, false, false, false, false, false, false, false, false, false] rfl rfl (one_of HT_.out (by kernel_rfl)) (by decide) (fun K hK => ?_)
            refine goes_ Try.func16 (by kernel_rfl) rfl #[.agg #[.int .i64 t385, .bool t386, .int .i64 t387, .string t388]] (by rfl) rfl rfl (by (try simp only [List.map_toArray, List.map_cons, List.map_nil]); first | done | rfl | (simp only [List.length_drop, List.length_take]; rfl)) ?_
            with_reducible refine (impl_FrameOk.calls t385 t386 t387 t388 false _ A36.out).mono ?_
            rintro e w45 ⟨rfl, hb⟩
            refine ⟨_, rfl, ?_⟩
            have n0_ := Aside0.mk (blk_below (g := gb384) (o := .cells #[.int .i64 t378, .bool t379, .int .i64 t380, .string t381] 26 (0, 0)) (by (with_reducible repeat (first | refine blk_drewN ?_ _ | refine blk_drew ?_ | refine blk_alloc ?_ _)); exact BK384.out) hb)
            have n1_ := Aside0.mk (blk_below (g := gb391) (o := .cells #[.int .i64 t385, .bool t386, .int .i64 t387, .string t388] 26 (0, 0)) (by (with_reducible repeat (first | refine blk_drewN ?_ _ | refine blk_drew ?_ | refine blk_alloc ?_ _)); exact BK391.out) hb)
            have n2_ := Aside0.mk (below_step (by repeat (first | (with_reducible first | exact HB.out | apply below_alloc | apply pw_below_drewN | apply below_drew1 | refine below_set ?_ GE384.out | refine below_set ?_ GE391.out) | exact HB.out)) hb)
            clear BK384
            clear BK391
            clear HB
            have BK384 := n0_
            have BK391 := n1_
            have HB := n2_
            clear n0_ n1_ n2_
            (try clear hb)
            (try clear hb2)
            (try clear hk)
            (try clear hi)
            refine hK.out _ _ ⟨(blk_cell BK391.out 0).trans rfl, (blk_cell BK391.out 1).trans rfl, (blk_cell BK391.out 2).trans rfl, (blk_cell BK391.out 3).trans rfl⟩ (fun hHeld => ?_)
            clear hK K
            refine norm_ (a' := ?_) ?_ ?_
            rotate_left
            · show Act.put _ (some 58) _ = _
              simp only [Act.put, List.setIfInBounds_toArray, List.set_cons_zero, List.set_cons_succ, i64_w, i32_w]
              rfl
            refine pure_ (i := 2) (N := some 59) (v := ?_) (a' := ?_) #[true, true, true, false, false, false, false, false, false, false, false] rfl rfl (any_of HT_.out (by kernel_rfl)) (fun _ _ _ h => h) (Or.inl ⟨by rfl, ?_⟩) ?_ ?_
            rotate_left
            · intro w'
              go_simp
              with_reducible rfl
            rotate_left
            · simp only [Act.put, List.setIfInBounds_toArray, List.set_cons_zero, List.set_cons_succ, i64_w, i32_w]
              rfl
            refine pure_ (i := 3) (N := some 60) (v := undef) (a' := ?_) #[true, true, true, true, false, false, false, false, false, false, false] rfl rfl (any_of HT_.out (by kernel_rfl)) (fun _ _ _ h => h) (Or.inr ⟨by rfl, rfl⟩) ?_ ?_
            rotate_left
            · simp only [Act.put, List.setIfInBounds_toArray, List.set_cons_zero, List.set_cons_succ, i64_w, i32_w]
              rfl
            refine pure_ (i := 4) (N := some 61) (v := undef) (a' := ?_) #[true, true, true, true, true, false, false, false, false, false, false] rfl rfl (any_of HT_.out (by kernel_rfl)) (fun _ _ _ h => h) (Or.inr ⟨by rfl, rfl⟩) ?_ ?_
            rotate_left
            · simp only [Act.put, List.setIfInBounds_toArray, List.set_cons_zero, List.set_cons_succ, i64_w, i32_w]
              rfl
            refine pure_ (i := 5) (N := some 62) (v := undef) (a' := ?_) #[true, true, true, true, true, true, false, false, false, false, false] rfl rfl (any_of HT_.out (by kernel_rfl)) (fun _ _ _ h => h) (Or.inr ⟨by rfl, rfl⟩) ?_ ?_
            rotate_left
            · simp only [Act.put, List.setIfInBounds_toArray, List.set_cons_zero, List.set_cons_succ, i64_w, i32_w]
              rfl
            refine pure_ (i := 6) (N := some 63) (v := undef) (a' := ?_) #[true, true, true, true, true, true, true, false, false, false, false] rfl rfl (any_of HT_.out (by kernel_rfl)) (fun _ _ _ h => h) (Or.inr ⟨by rfl, rfl⟩) ?_ ?_
            rotate_left
            · simp only [Act.put, List.setIfInBounds_toArray, List.set_cons_zero, List.set_cons_succ, i64_w, i32_w]
              rfl
            refine pure_ (i := 7) (N := some 64) (v := undef) (a' := ?_) #[true, true, true, true, true, true, true, true, false, false, false] rfl rfl (any_of HT_.out (by kernel_rfl)) (fun _ _ _ h => h) (Or.inr ⟨by rfl, rfl⟩) ?_ ?_
            rotate_left
            · simp only [Act.put, List.setIfInBounds_toArray, List.set_cons_zero, List.set_cons_succ, i64_w, i32_w]
              rfl
            refine pure_ (i := 8) (N := some 65) (v := undef) (a' := ?_) #[true, true, true, true, true, true, true, true, true, false, false] rfl rfl (any_of HT_.out (by kernel_rfl)) (fun _ _ _ h => h) (Or.inr ⟨by rfl, rfl⟩) ?_ ?_
            rotate_left
            · simp only [Act.put, List.setIfInBounds_toArray, List.set_cons_zero, List.set_cons_succ, i64_w, i32_w]
              rfl
            refine pure_ (i := 9) (N := some 66) (v := ?_) (a' := ?_) #[true, true, true, true, true, true, true, true, true, true, false] rfl rfl (any_of HT_.out (by kernel_rfl)) (fun _ _ _ h => h) (Or.inl ⟨by rfl, ?_⟩) ?_ ?_
            rotate_left
            · intro w'
              go_simp
              with_reducible rfl
            rotate_left
            · simp only [Act.put, List.setIfInBounds_toArray, List.set_cons_zero, List.set_cons_succ, i64_w, i32_w]
              rfl
            refine pure_ (i := 10) (N := some 2) (v := ?_) (a' := ?_) #[true, true, true, true, true, true, true, true, true, true, true] rfl rfl (any_of HT_.out (by kernel_rfl)) (fun _ _ _ h => h) (Or.inl ⟨by rfl, ?_⟩) ?_ ?_
            rotate_left
            · intro w'
              go_simp
              with_reducible rfl
            rotate_left
            · simp only [Act.put, List.setIfInBounds_toArray, List.set_cons_zero, List.set_cons_succ, i64_w, i32_w]
              rfl
            refine done_ (done_of HT_.out (by kernel_rfl)) ?_
            try go_wp2
            go_ret
            exact ⟨by first | rfl | (simp [errW_none, errW_some] <;> rfl) | (simp [*, errW_none, errW_some] <;> rfl), by repeat (first | (with_reducible first | exact HB.out | apply below_alloc | apply pw_below_drewN | apply below_drew1 | refine below_set ?_ GE384.out | refine below_set ?_ GE391.out) | exact HB.out)⟩

/-- THE ONE PURE STATEMENT of laws_FnFrameStrict: yours. -/
def laws_FnFrameStrict.Pure : Prop := ∀ (l0 : List Int), l0.length ≤ maxLen → l0.length * 1 ≤ 140737488351232 → (∀ x ∈ l0, (Lit.int .u8 x).wf = true) → ∃ k, laws_FnFrameStrict.f k l0 = some true
theorem laws_FnFrameStrict.walk (P : laws_FnFrameStrict.Pure) (a0 : Option Addr) (len0 cap0 : Nat) (z0 : List Int) (w : World) (w0 : (a0 = none ∧ len0 = 0 ∧ cap0 = 0 ∧ z0 = []) ∨ ∃ x, a0 = some x ∧ len0 ≤ cap0 ∧ cap0 ≤ maxLen ∧ z0.length = cap0 ∧ (∀ i, i < z0.length → w.cell? (x.add i) = some (.int .u8 (z0.getD i 0))) ∧ ∀ n ∈ z0, (Lit.int .u8 n).wf = true) (y0 : len0 * 1 ≤ 140737488351232) :
    Calls Try.prog 12 #[.slice a0 len0 cap0] w fun e w' => e = .returned (.bool true) ∧ Below w.heap.size w w' := by
  obtain ⟨l0, rfl, hr0, hm0, hw0, hc0⟩ := ReadsInt.ofRowC w0
  obtain ⟨k, h⟩ := P l0 hm0 y0 hw0
  refine (laws_FnFrameStrict.calls k _ _ l0 true w (Kd.C_of_reads (d := (0 : Int)) (h1 := fun _ => rfl) hr0) hc0 h).mono ?_
  rintro e w' ⟨rfl, hd⟩
  exact ⟨rfl, hd⟩

end Go.Proofs.Ytdahdgdnpooegaa.F
