-- Written by a program of this session's (wip/tools) out of the translation. Not trusted: Lean checks it.
import Derived.Test.YtdahdgdnpooegaaFx0
import Derived.Test.YtdahdgdnpooegaaFx8
import Derived.Test.YtdahdgdnpooegaaFx9
import Derived.Test.YtdahdgdnpooegaaFx10
import Derived.Test.YtdahdgdnpooegaaFx13
import Derived.Test.YtdahdgdnpooegaaFx17
namespace Go.Proofs.Ytdahdgdnpooegaa.F
open Go.RowKit Go.Proofs.YtdahdgdnpooegaaW.PrintWords Go.Proofs.YtdahdgdnpooegaaW.PrintLast Go.Proofs.YtdahdgdnpooegaaW.PrintMore
attribute [local go_sem] max2_int min2_int max_two min_two max_three min_three max_four min_four   -- for this text's walks alone
set_option linter.unusedVariables false
set_option linter.unusedSimpArgs false

/-! ### spec_DrawFrameRead: function 24 -/
def spec_DrawFrameRead.f (k : Nat) (l0 : List Int) : Option (ByteArray) := (spec_l6Open.f l0).bind fun bt323 => ((spec_l71Frame.f k bt323.1 bt323.2).bind fun bt326 => ((spec_FrameWrite.f k bt326.1 bt326.2.1 bt326.2.2.1 bt326.2.2.2.1).bind fun t331 => ((spec_l6Rd_pick.f k bt323.1 bt326.2.2.2.2 (wrap64 ((t331.size : Int) + 1))).bind fun bt332 => ((spec_l6Rd_pick.f k bt323.1 bt332.2 8).bind fun bt334 => (if bt334.1 = 0 then (if 0 ≤ bt332.1 then (if bt332.1 ≤ (t331.size : Int) then (some (t331.extract 0 (bt332.1 : Int).toNat)) else (none)) else (none)) else (if bt334.1 = 1 then ((spec_l71Frame.f k bt323.1 bt334.2).bind fun bt336 => ((spec_FrameWrite.f k bt336.1 bt336.2.1 bt336.2.2.1 bt336.2.2.2.1).bind fun t341 => (if t331.size + t341.size ≤ 9223372036854775807 then (some (t331 ++ t341)) else (none)))) else (if bt334.1 = 2 then (if 0 ≤ bt332.1 then (if bt332.1 ≤ (t331.size : Int) then ((spec_l6Rd_pick.f k bt323.1 bt334.2 256).bind fun bt342 => ((spec_l1Byte.f bt342.1).bind fun t344 => (if (t331.extract 0 (bt332.1 : Int).toNat).size + t344.size ≤ 9223372036854775807 then (if ((t331.extract 0 (bt332.1 : Int).toNat) ++ t344).size + (t331.extract (bt332.1 : Int).toNat t331.size).size ≤ 9223372036854775807 then (some (((t331.extract 0 (bt332.1 : Int).toNat) ++ t344) ++ (t331.extract (bt332.1 : Int).toNat t331.size))) else (none)) else (none)))) else (none)) else (none)) else (some t331))))))))
theorem spec_DrawFrameRead.mono : ∀ a0 k, LeO (spec_DrawFrameRead.f k a0) (spec_DrawFrameRead.f (k + 1) a0) := by
  intro a0 k
  unfold spec_DrawFrameRead.f
  repeat' first
      | (with_reducible exact spec_FrameWrite.mono _ _ _ _ _)
      | (with_reducible exact spec_l6Rd_pick.mono _ _ _ _)
      | (with_reducible exact spec_l71Frame.mono _ _ _)
      | (with_reducible exact LeO.refl _)
      | (with_reducible exact LeO.none _)
      | (with_reducible refine LeO.ite ?_ ?_)
      | (with_reducible refine LeO.bind ?_ (fun _ => ?_))
      | exact spec_FrameWrite.mono _ _ _ _ _
      | exact spec_l6Rd_pick.mono _ _ _ _
      | exact spec_l71Frame.mono _ _ _
      | exact LeO.none _
      | refine LeO.ite ?_ ?_
      | refine LeO.bind ?_ (fun _ => ?_)
def spec_DrawFrameRead.T10 : Bool × List (List Nat × List Nat) := (true, [([], []), ([], []), ([0, 1], [0, 1]), ([], []), ([3], [3]), ([4, 4], [4]), ([2, 5], [2, 5]), ([], []), ([], []), ([7, 8], [7, 8]), ([6, 9], [6, 9]), ([10, 5, 0, 1, 2, 3, 4, 5, 6, 7, 8, 9, 10], [10])])
def spec_DrawFrameRead.B10 : List Nat := [0, 0, 3, 0, 8, 24, 63, 0, 0, 384, 1023, 2047]
theorem spec_DrawFrameRead.tab10 : rtab .any (opsOf Try.f24 10) = spec_DrawFrameRead.T10 := by kernel_rfl
theorem spec_DrawFrameRead.bits10 : waitsOk spec_DrawFrameRead.T10.2 spec_DrawFrameRead.B10 = true := by kernel_rfl
set_option maxHeartbeats 8000000 in
set_option maxRecDepth 100000 in
theorem spec_DrawFrameRead.calls (k : Nat) (A0 : Option Addr) (c0 : Nat) (l0 : List Int) (r : ByteArray) (w : World) (hr0 : Kd.C (Kd.int .u8) w A0 l0.length l0) (hc0 : l0.length ≤ c0) (h : spec_DrawFrameRead.f k l0 = some r) :
    Calls Try.prog 24 #[.slice A0 l0.length c0] w fun e w' => e = .returned (.string r) ∧ Below w.heap.size w w' := by
  have HR0 := Aside0.mk hr0
  have HC0 := Aside0.mk hc0
  clear hr0 hc0
  have HB := Aside0.mk (Below.refl w.heap.size w)
  have H : ((spec_l6Open.f l0).bind fun bt323 => ((spec_l71Frame.f k bt323.1 bt323.2).bind fun bt326 => ((spec_FrameWrite.f k bt326.1 bt326.2.1 bt326.2.2.1 bt326.2.2.2.1).bind fun t331 => ((spec_l6Rd_pick.f k bt323.1 bt326.2.2.2.2 (wrap64 ((t331.size : Int) + 1))).bind fun bt332 => ((spec_l6Rd_pick.f k bt323.1 bt332.2 8).bind fun bt334 => (if bt334.1 = 0 then (if 0 ≤ bt332.1 then (if bt332.1 ≤ (t331.size : Int) then (some (t331.extract 0 (bt332.1 : Int).toNat)) else (none)) else (none)) else (if bt334.1 = 1 then ((spec_l71Frame.f k bt323.1 bt334.2).bind fun bt336 => ((spec_FrameWrite.f k bt336.1 bt336.2.1 bt336.2.2.1 bt336.2.2.2.1).bind fun t341 => (if t331.size + t341.size ≤ 9223372036854775807 then (some (t331 ++ t341)) else (none)))) else (if bt334.1 = 2 then (if 0 ≤ bt332.1 then (if bt332.1 ≤ (t331.size : Int) then ((spec_l6Rd_pick.f k bt323.1 bt334.2 256).bind fun bt342 => ((spec_l1Byte.f bt342.1).bind fun t344 => (if (t331.extract 0 (bt332.1 : Int).toNat).size + t344.size ≤ 9223372036854775807 then (if ((t331.extract 0 (bt332.1 : Int).toNat) ++ t344).size + (t331.extract (bt332.1 : Int).toNat t331.size).size ≤ 9223372036854775807 then (some (((t331.extract 0 (bt332.1 : Int).toNat) ++ t344) ++ (t331.extract (bt332.1 : Int).toNat t331.size))) else (none)) else (none)))) else (none)) else (none)) else (some t331))))))))) = some r := h
  clear h
  replace H := Option.bind_eq_some_iff.mp H
  obtain ⟨⟨t323, t324⟩, A20, H⟩ := H
  replace H : ((spec_l71Frame.f k t323 t324).bind fun bt326 => ((spec_FrameWrite.f k bt326.1 bt326.2.1 bt326.2.2.1 bt326.2.2.2.1).bind fun t331 => ((spec_l6Rd_pick.f k t323 bt326.2.2.2.2 (wrap64 ((t331.size : Int) + 1))).bind fun bt332 => ((spec_l6Rd_pick.f k t323 bt332.2 8).bind fun bt334 => (if bt334.1 = 0 then (if 0 ≤ bt332.1 then (if bt332.1 ≤ (t331.size : Int) then (some (t331.extract 0 (bt332.1 : Int).toNat)) else (none)) else (none)) else (if bt334.1 = 1 then ((spec_l71Frame.f k t323 bt334.2).bind fun bt336 => ((spec_FrameWrite.f k bt336.1 bt336.2.1 bt336.2.2.1 bt336.2.2.2.1).bind fun t341 => (if t331.size + t341.size ≤ 9223372036854775807 then (some (t331 ++ t341)) else (none)))) else (if bt334.1 = 2 then (if 0 ≤ bt332.1 then (if bt332.1 ≤ (t331.size : Int) then ((spec_l6Rd_pick.f k t323 bt334.2 256).bind fun bt342 => ((spec_l1Byte.f bt342.1).bind fun t344 => (if (t331.extract 0 (bt332.1 : Int).toNat).size + t344.size ≤ 9223372036854775807 then (if ((t331.extract 0 (bt332.1 : Int).toNat) ++ t344).size + (t331.extract (bt332.1 : Int).toNat t331.size).size ≤ 9223372036854775807 then (some (((t331.extract 0 (bt332.1 : Int).toNat) ++ t344) ++ (t331.extract (bt332.1 : Int).toNat t331.size))) else (none)) else (none)))) else (none)) else (none)) else (some t331)))))))) = some r := H
  have A2 := Aside0.mk A20
  clear A20
  replace H := Option.bind_eq_some_iff.mp H
  obtain ⟨⟨t326, t327, t328, t329, t330⟩, A30, H⟩ := H
  replace H : ((spec_FrameWrite.f k t326 t327 t328 t329).bind fun t331 => ((spec_l6Rd_pick.f k t323 t330 (wrap64 ((t331.size : Int) + 1))).bind fun bt332 => ((spec_l6Rd_pick.f k t323 bt332.2 8).bind fun bt334 => (if bt334.1 = 0 then (if 0 ≤ bt332.1 then (if bt332.1 ≤ (t331.size : Int) then (some (t331.extract 0 (bt332.1 : Int).toNat)) else (none)) else (none)) else (if bt334.1 = 1 then ((spec_l71Frame.f k t323 bt334.2).bind fun bt336 => ((spec_FrameWrite.f k bt336.1 bt336.2.1 bt336.2.2.1 bt336.2.2.2.1).bind fun t341 => (if t331.size + t341.size ≤ 9223372036854775807 then (some (t331 ++ t341)) else (none)))) else (if bt334.1 = 2 then (if 0 ≤ bt332.1 then (if bt332.1 ≤ (t331.size : Int) then ((spec_l6Rd_pick.f k t323 bt334.2 256).bind fun bt342 => ((spec_l1Byte.f bt342.1).bind fun t344 => (if (t331.extract 0 (bt332.1 : Int).toNat).size + t344.size ≤ 9223372036854775807 then (if ((t331.extract 0 (bt332.1 : Int).toNat) ++ t344).size + (t331.extract (bt332.1 : Int).toNat t331.size).size ≤ 9223372036854775807 then (some (((t331.extract 0 (bt332.1 : Int).toNat) ++ t344) ++ (t331.extract (bt332.1 : Int).toNat t331.size))) else (none)) else (none)))) else (none)) else (none)) else (some t331))))))) = some r := H
  have A3 := Aside0.mk A30
  clear A30
  replace H := Option.bind_eq_some_iff.mp H
  obtain ⟨t331, A40, H⟩ := H
  replace H : ((spec_l6Rd_pick.f k t323 t330 (wrap64 ((t331.size : Int) + 1))).bind fun bt332 => ((spec_l6Rd_pick.f k t323 bt332.2 8).bind fun bt334 => (if bt334.1 = 0 then (if 0 ≤ bt332.1 then (if bt332.1 ≤ (t331.size : Int) then (some (t331.extract 0 (bt332.1 : Int).toNat)) else (none)) else (none)) else (if bt334.1 = 1 then ((spec_l71Frame.f k t323 bt334.2).bind fun bt336 => ((spec_FrameWrite.f k bt336.1 bt336.2.1 bt336.2.2.1 bt336.2.2.2.1).bind fun t341 => (if t331.size + t341.size ≤ 9223372036854775807 then (some (t331 ++ t341)) else (none)))) else (if bt334.1 = 2 then (if 0 ≤ bt332.1 then (if bt332.1 ≤ (t331.size : Int) then ((spec_l6Rd_pick.f k t323 bt334.2 256).bind fun bt342 => ((spec_l1Byte.f bt342.1).bind fun t344 => (if (t331.extract 0 (bt332.1 : Int).toNat).size + t344.size ≤ 9223372036854775807 then (if ((t331.extract 0 (bt332.1 : Int).toNat) ++ t344).size + (t331.extract (bt332.1 : Int).toNat t331.size).size ≤ 9223372036854775807 then (some (((t331.extract 0 (bt332.1 : Int).toNat) ++ t344) ++ (t331.extract (bt332.1 : Int).toNat t331.size))) else (none)) else (none)))) else (none)) else (none)) else (some t331)))))) = some r := H
  have A4 := Aside0.mk A40
  clear A40
  replace H := Option.bind_eq_some_iff.mp H
  obtain ⟨⟨t332, t333⟩, A50, H⟩ := H
  replace H : ((spec_l6Rd_pick.f k t323 t333 8).bind fun bt334 => (if bt334.1 = 0 then (if 0 ≤ t332 then (if t332 ≤ (t331.size : Int) then (some (t331.extract 0 (t332 : Int).toNat)) else (none)) else (none)) else (if bt334.1 = 1 then ((spec_l71Frame.f k t323 bt334.2).bind fun bt336 => ((spec_FrameWrite.f k bt336.1 bt336.2.1 bt336.2.2.1 bt336.2.2.2.1).bind fun t341 => (if t331.size + t341.size ≤ 9223372036854775807 then (some (t331 ++ t341)) else (none)))) else (if bt334.1 = 2 then (if 0 ≤ t332 then (if t332 ≤ (t331.size : Int) then ((spec_l6Rd_pick.f k t323 bt334.2 256).bind fun bt342 => ((spec_l1Byte.f bt342.1).bind fun t344 => (if (t331.extract 0 (t332 : Int).toNat).size + t344.size ≤ 9223372036854775807 then (if ((t331.extract 0 (t332 : Int).toNat) ++ t344).size + (t331.extract (t332 : Int).toNat t331.size).size ≤ 9223372036854775807 then (some (((t331.extract 0 (t332 : Int).toNat) ++ t344) ++ (t331.extract (t332 : Int).toNat t331.size))) else (none)) else (none)))) else (none)) else (none)) else (some t331))))) = some r := H
  have A5 := Aside0.mk A50
  clear A50
  replace H := Option.bind_eq_some_iff.mp H
  obtain ⟨⟨t334, t335⟩, A60, H⟩ := H
  replace H : (if t334 = 0 then (if 0 ≤ t332 then (if t332 ≤ (t331.size : Int) then (some (t331.extract 0 (t332 : Int).toNat)) else (none)) else (none)) else (if t334 = 1 then ((spec_l71Frame.f k t323 t335).bind fun bt336 => ((spec_FrameWrite.f k bt336.1 bt336.2.1 bt336.2.2.1 bt336.2.2.2.1).bind fun t341 => (if t331.size + t341.size ≤ 9223372036854775807 then (some (t331 ++ t341)) else (none)))) else (if t334 = 2 then (if 0 ≤ t332 then (if t332 ≤ (t331.size : Int) then ((spec_l6Rd_pick.f k t323 t335 256).bind fun bt342 => ((spec_l1Byte.f bt342.1).bind fun t344 => (if (t331.extract 0 (t332 : Int).toNat).size + t344.size ≤ 9223372036854775807 then (if ((t331.extract 0 (t332 : Int).toNat) ++ t344).size + (t331.extract (t332 : Int).toNat t331.size).size ≤ 9223372036854775807 then (some (((t331.extract 0 (t332 : Int).toNat) ++ t344) ++ (t331.extract (t332 : Int).toNat t331.size))) else (none)) else (none)))) else (none)) else (none)) else (some t331)))) = some r := H
  have A6 := Aside0.mk A60
  clear A60
  by_cases c7 : t334 = 0
  · rw [if_pos c7] at H
    have c7b0 : (t334 == 0) = true := beq_iff_eq.mpr c7
    have c7b1 : (t334 != 0) = false := bne_eq_false_iff_eq.mpr c7
    clear c7
    by_cases c8 : 0 ≤ t332
    · rw [if_pos c8] at H
      have c8b0 := eq_true c8
      have c8b1 : decide (0 ≤ t332) = true := decide_eq_true c8
      clear c8
      by_cases c9 : t332 ≤ (t331.size : Int)
      · rw [if_pos c9] at H
        have c9b0 := eq_true c9
        have c9b1 : decide (t332 ≤ (t331.size : Int)) = true := decide_eq_true c9
        clear c9
        obtain rfl := Option.some.inj H
        go_enter Try.func24, Try.ntmps24
        go_wp2_with (first | ((with_reducible refine gate_callee (f := 32) rfl ?_); refine goesL_ (some 7) rfl rfl Try.func32 (by kernel_rfl) rfl #[.slice A0 l0.length c0] rfl (by (try simp only [List.map_toArray, List.map_cons, List.map_nil]); first | done | rfl | (simp only [List.length_drop, List.length_take]; rfl)) ?_; (with_reducible refine (spec_l6Open.calls _ _ l0 t323 t324 w _ ?side1 ?side2 ?side3 A2.out).mono ?_); (case side1 => repeat (first | (with_reducible first | exact HB.out | apply below_alloc | apply pw_below_drewN | apply below_drew1) | exact HB.out)); (case side2 => exact HR0.out); (case side3 => exact HC0.out); rintro e w10 ⟨g325, rfl, hi, hb, hb2⟩; refine ⟨_, rfl, ?_⟩; have n0_ := Aside0.mk (hb); have n1_ := Aside0.mk (hi); clear HB; have HB := n0_; have HI325 := n1_; clear n0_ n1_; (try clear hb); (try clear hb2); (try clear hk); (try clear hi)) | ((with_reducible refine gate_callee (f := 33) rfl ?_); refine goesL_ (some 9) rfl rfl Try.func33 (by kernel_rfl) rfl #[.pointer (some ⟨g325, 0, none⟩)] rfl (by (try simp only [List.map_toArray, List.map_cons, List.map_nil]); first | done | rfl | (simp only [List.length_drop, List.length_take]; rfl)) ?_; (with_reducible refine (spec_l71Frame.calls k g325 t323 t324 t326 t327 t328 t329 t330 w _ ?side1 ?side2 A3.out).mono ?_); (case side1 => repeat (first | (with_reducible first | exact HI325.out | apply IsS48.alloc | apply IsS48.drewN | apply IsS48.drew | apply IsS48.set_1) | exact HI325.out)); (case side2 => repeat (first | (with_reducible first | exact HB.out | apply below_alloc | apply pw_below_drewN | apply below_drew1 | refine below_set ?_ (IsS48.ge HI325.out)) | exact HB.out)); rintro e w11 ⟨rfl, hi, hb, hk⟩; refine ⟨_, rfl, ?_⟩; have n0_ := Aside0.mk (hb); have n1_ := Aside0.mk (hi); clear HB; clear HI325; have HB := n0_; have HI325 := n1_; clear n0_ n1_; (try clear hb); (try clear hb2); (try clear hk); (try clear hi)) | ((with_reducible refine gate_callee (f := 17) rfl ?_); refine goesL_ (some 10) rfl rfl Try.func17 (by kernel_rfl) rfl #[.agg #[.int .i64 t326, .bool t327, .int .i64 t328, .string t329]] rfl (by (try simp only [List.map_toArray, List.map_cons, List.map_nil]); first | done | rfl | (simp only [List.length_drop, List.length_take]; rfl)) ?_; (with_reducible refine (spec_FrameWrite.calls k t326 t327 t328 t329 t331 _ A4.out).mono ?_); rintro e w12 ⟨rfl, hb⟩; refine ⟨_, rfl, ?_⟩; have n0_ := Aside0.mk (IsS48.below (by repeat (first | (with_reducible first | exact HI325.out | apply IsS48.alloc | apply IsS48.drewN | apply IsS48.drew | apply IsS48.set_1) | exact HI325.out)) hb); have n1_ := Aside0.mk (below_step (by repeat (first | (with_reducible first | exact HB.out | apply below_alloc | apply pw_below_drewN | apply below_drew1 | refine below_set ?_ (IsS48.ge HI325.out)) | exact HB.out)) hb); clear HI325; clear HB; have HI325 := n0_; have HB := n1_; clear n0_ n1_; (try clear hb); (try clear hb2); (try clear hk); (try clear hi)) | ((with_reducible refine gate_callee (f := 34) rfl ?_); refine goesL_ (some 15) rfl rfl Try.func34 (by kernel_rfl) rfl #[.pointer (some ⟨g325, 0, none⟩), .int .i64 (wrap64 ((t331.size : Int) + 1))] rfl (by (try simp only [List.map_toArray, List.map_cons, List.map_nil]); first | done | rfl | (simp only [List.length_drop, List.length_take]; rfl)) ?_; (with_reducible refine (spec_l6Rd_pick.calls k g325 t323 t330 (wrap64 ((t331.size : Int) + 1)) t332 t333 w _ ?side1 ?side2 A5.out).mono ?_); (case side1 => repeat (first | (with_reducible first | exact HI325.out | apply IsS48.alloc | apply IsS48.drewN | apply IsS48.drew | apply IsS48.set_1) | exact HI325.out)); (case side2 => repeat (first | (with_reducible first | exact HB.out | apply below_alloc | apply pw_below_drewN | apply below_drew1 | refine below_set ?_ (IsS48.ge HI325.out)) | exact HB.out)); rintro e w13 ⟨rfl, hi, hb, hk⟩; refine ⟨_, rfl, ?_⟩; have n0_ := Aside0.mk (hb); have n1_ := Aside0.mk (hi); clear HB; clear HI325; have HB := n0_; have HI325 := n1_; clear n0_ n1_; (try clear hb); (try clear hb2); (try clear hk); (try clear hi)) | ((with_reducible refine gate_callee (f := 34) rfl ?_); refine goesL_ (some 17) rfl rfl Try.func34 (by kernel_rfl) rfl #[.pointer (some ⟨g325, 0, none⟩), .int .i64 8] rfl (by (try simp only [List.map_toArray, List.map_cons, List.map_nil]); first | done | rfl | (simp only [List.length_drop, List.length_take]; rfl)) ?_; (with_reducible refine (spec_l6Rd_pick.calls k g325 t323 t333 8 t334 t335 w _ ?side1 ?side2 A6.out).mono ?_); (case side1 => repeat (first | (with_reducible first | exact HI325.out | apply IsS48.alloc | apply IsS48.drewN | apply IsS48.drew | apply IsS48.set_1) | exact HI325.out)); (case side2 => repeat (first | (with_reducible first | exact HB.out | apply below_alloc | apply pw_below_drewN | apply below_drew1 | refine below_set ?_ (IsS48.ge HI325.out)) | exact HB.out)); rintro e w14 ⟨rfl, hi, hb, hk⟩; refine ⟨_, rfl, ?_⟩; have n0_ := Aside0.mk (hb); have n1_ := Aside0.mk (hi); clear HB; clear HI325; have HB := n0_; have HI325 := n1_; clear n0_ n1_; (try clear hb); (try clear hb2); (try clear hk); (try clear hi)))
        go_ret
        exact ⟨by first | rfl | (simp [errW_none, errW_some] <;> rfl) | (simp [*, errW_none, errW_some] <;> rfl), by repeat (first | (with_reducible first | exact HB.out | apply below_alloc | apply pw_below_drewN | apply below_drew1 | refine below_set ?_ (IsS48.ge HI325.out)) | exact HB.out)⟩
      · rw [if_neg c9] at H
        exact absurd H (by simp)
    · rw [if_neg c8] at H
      exact absurd H (by simp)
  · rw [if_neg c7] at H
    have c7b0 : (t334 == 0) = false := beq_eq_false_iff_ne.mpr c7
    have c7b1 : (t334 != 0) = true := bne_iff_ne.mpr c7
    by_cases c15 : t334 = 1
    · rw [if_pos c15] at H
      have c15b0 : (t334 == 1) = true := beq_iff_eq.mpr c15
      have c15b1 : (t334 != 1) = false := bne_eq_false_iff_eq.mpr c15
      clear c15
      replace H := Option.bind_eq_some_iff.mp H
      obtain ⟨⟨t336, t337, t338, t339, t340⟩, A160, H⟩ := H
      replace H : ((spec_FrameWrite.f k t336 t337 t338 t339).bind fun t341 => (if t331.size + t341.size ≤ 9223372036854775807 then (some (t331 ++ t341)) else (none))) = some r := H
      have A16 := Aside0.mk A160
      clear A160
      replace H := Option.bind_eq_some_iff.mp H
      obtain ⟨t341, A170, H⟩ := H
      replace H : (if t331.size + t341.size ≤ 9223372036854775807 then (some (t331 ++ t341)) else (none)) = some r := H
      have A17 := Aside0.mk A170
      clear A170
      by_cases c18 : t331.size + t341.size ≤ 9223372036854775807
      · rw [if_pos c18] at H
        have c18b0 := eq_true c18
        have c18b1 : decide (t331.size + t341.size ≤ 9223372036854775807) = true := decide_eq_true c18
        try have c18b2 : (9223372036854775807 < t331.size + t341.size) = False := eq_false (Nat.not_lt.2 c18)
        (try (have c18b3 := c18b2; simp only [ByteArray.size_append] at c18b3))
        obtain rfl := Option.some.inj H
        go_enter Try.func24, Try.ntmps24
        go_wp2_with (first | ((with_reducible refine gate_callee (f := 32) rfl ?_); refine goesL_ (some 7) rfl rfl Try.func32 (by kernel_rfl) rfl #[.slice A0 l0.length c0] rfl (by (try simp only [List.map_toArray, List.map_cons, List.map_nil]); first | done | rfl | (simp only [List.length_drop, List.length_take]; rfl)) ?_; (with_reducible refine (spec_l6Open.calls _ _ l0 t323 t324 w _ ?side1 ?side2 ?side3 A2.out).mono ?_); (case side1 => repeat (first | (with_reducible first | exact HB.out | apply below_alloc | apply pw_below_drewN | apply below_drew1) | exact HB.out)); (case side2 => exact HR0.out); (case side3 => exact HC0.out); rintro e w19 ⟨g325, rfl, hi, hb, hb2⟩; refine ⟨_, rfl, ?_⟩; have n0_ := Aside0.mk (hb); have n1_ := Aside0.mk (hi); clear HB; have HB := n0_; have HI325 := n1_; clear n0_ n1_; (try clear hb); (try clear hb2); (try clear hk); (try clear hi)) | ((with_reducible refine gate_callee (f := 33) rfl ?_); refine goesL_ (some 9) rfl rfl Try.func33 (by kernel_rfl) rfl #[.pointer (some ⟨g325, 0, none⟩)] rfl (by (try simp only [List.map_toArray, List.map_cons, List.map_nil]); first | done | rfl | (simp only [List.length_drop, List.length_take]; rfl)) ?_; (with_reducible refine (spec_l71Frame.calls k g325 t323 t324 t326 t327 t328 t329 t330 w _ ?side1 ?side2 A3.out).mono ?_); (case side1 => repeat (first | (with_reducible first | exact HI325.out | apply IsS48.alloc | apply IsS48.drewN | apply IsS48.drew | apply IsS48.set_1) | exact HI325.out)); (case side2 => repeat (first | (with_reducible first | exact HB.out | apply below_alloc | apply pw_below_drewN | apply below_drew1 | refine below_set ?_ (IsS48.ge HI325.out)) | exact HB.out)); rintro e w20 ⟨rfl, hi, hb, hk⟩; refine ⟨_, rfl, ?_⟩; have n0_ := Aside0.mk (hb); have n1_ := Aside0.mk (hi); clear HB; clear HI325; have HB := n0_; have HI325 := n1_; clear n0_ n1_; (try clear hb); (try clear hb2); (try clear hk); (try clear hi)) | ((with_reducible refine gate_callee (f := 17) rfl ?_); refine goesL_ (some 10) rfl rfl Try.func17 (by kernel_rfl) rfl #[.agg #[.int .i64 t326, .bool t327, .int .i64 t328, .string t329]] rfl (by (try simp only [List.map_toArray, List.map_cons, List.map_nil]); first | done | rfl | (simp only [List.length_drop, List.length_take]; rfl)) ?_; (with_reducible refine (spec_FrameWrite.calls k t326 t327 t328 t329 t331 _ A4.out).mono ?_); rintro e w21 ⟨rfl, hb⟩; refine ⟨_, rfl, ?_⟩; have n0_ := Aside0.mk (IsS48.below (by repeat (first | (with_reducible first | exact HI325.out | apply IsS48.alloc | apply IsS48.drewN | apply IsS48.drew | apply IsS48.set_1) | exact HI325.out)) hb); have n1_ := Aside0.mk (below_step (by repeat (first | (with_reducible first | exact HB.out | apply below_alloc | apply pw_below_drewN | apply below_drew1 | refine below_set ?_ (IsS48.ge HI325.out)) | exact HB.out)) hb); clear HI325; clear HB; have HI325 := n0_; have HB := n1_; clear n0_ n1_; (try clear hb); (try clear hb2); (try clear hk); (try clear hi)) | ((with_reducible refine gate_callee (f := 34) rfl ?_); refine goesL_ (some 15) rfl rfl Try.func34 (by kernel_rfl) rfl #[.pointer (some ⟨g325, 0, none⟩), .int .i64 (wrap64 ((t331.size : Int) + 1))] rfl (by (try simp only [List.map_toArray, List.map_cons, List.map_nil]); first | done | rfl | (simp only [List.length_drop, List.length_take]; rfl)) ?_; (with_reducible refine (spec_l6Rd_pick.calls k g325 t323 t330 (wrap64 ((t331.size : Int) + 1)) t332 t333 w _ ?side1 ?side2 A5.out).mono ?_); (case side1 => repeat (first | (with_reducible first | exact HI325.out | apply IsS48.alloc | apply IsS48.drewN | apply IsS48.drew | apply IsS48.set_1) | exact HI325.out)); (case side2 => repeat (first | (with_reducible first | exact HB.out | apply below_alloc | apply pw_below_drewN | apply below_drew1 | refine below_set ?_ (IsS48.ge HI325.out)) | exact HB.out)); rintro e w22 ⟨rfl, hi, hb, hk⟩; refine ⟨_, rfl, ?_⟩; have n0_ := Aside0.mk (hb); have n1_ := Aside0.mk (hi); clear HB; clear HI325; have HB := n0_; have HI325 := n1_; clear n0_ n1_; (try clear hb); (try clear hb2); (try clear hk); (try clear hi)) | ((with_reducible refine gate_callee (f := 34) rfl ?_); refine goesL_ (some 17) rfl rfl Try.func34 (by kernel_rfl) rfl #[.pointer (some ⟨g325, 0, none⟩), .int .i64 8] rfl (by (try simp only [List.map_toArray, List.map_cons, List.map_nil]); first | done | rfl | (simp only [List.length_drop, List.length_take]; rfl)) ?_; (with_reducible refine (spec_l6Rd_pick.calls k g325 t323 t333 8 t334 t335 w _ ?side1 ?side2 A6.out).mono ?_); (case side1 => repeat (first | (with_reducible first | exact HI325.out | apply IsS48.alloc | apply IsS48.drewN | apply IsS48.drew | apply IsS48.set_1) | exact HI325.out)); (case side2 => repeat (first | (with_reducible first | exact HB.out | apply below_alloc | apply pw_below_drewN | apply below_drew1 | refine below_set ?_ (IsS48.ge HI325.out)) | exact HB.out)); rintro e w23 ⟨rfl, hi, hb, hk⟩; refine ⟨_, rfl, ?_⟩; have n0_ := Aside0.mk (hb); have n1_ := Aside0.mk (hi); clear HB; clear HI325; have HB := n0_; have HI325 := n1_; clear n0_ n1_; (try clear hb); (try clear hb2); (try clear hk); (try clear hi)) | ((with_reducible refine gate_callee (f := 33) rfl ?_); refine goesL_ (some 27) rfl rfl Try.func33 (by kernel_rfl) rfl #[.pointer (some ⟨g325, 0, none⟩)] rfl (by (try simp only [List.map_toArray, List.map_cons, List.map_nil]); first | done | rfl | (simp only [List.length_drop, List.length_take]; rfl)) ?_; (with_reducible refine (spec_l71Frame.calls k g325 t323 t335 t336 t337 t338 t339 t340 w _ ?side1 ?side2 A16.out).mono ?_); (case side1 => repeat (first | (with_reducible first | exact HI325.out | apply IsS48.alloc | apply IsS48.drewN | apply IsS48.drew | apply IsS48.set_1) | exact HI325.out)); (case side2 => repeat (first | (with_reducible first | exact HB.out | apply below_alloc | apply pw_below_drewN | apply below_drew1 | refine below_set ?_ (IsS48.ge HI325.out)) | exact HB.out)); rintro e w24 ⟨rfl, hi, hb, hk⟩; refine ⟨_, rfl, ?_⟩; have n0_ := Aside0.mk (hb); have n1_ := Aside0.mk (hi); clear HB; clear HI325; have HB := n0_; have HI325 := n1_; clear n0_ n1_; (try clear hb); (try clear hb2); (try clear hk); (try clear hi)) | ((with_reducible refine gate_callee (f := 17) rfl ?_); refine goesL_ (some 28) rfl rfl Try.func17 (by kernel_rfl) rfl #[.agg #[.int .i64 t336, .bool t337, .int .i64 t338, .string t339]] rfl (by (try simp only [List.map_toArray, List.map_cons, List.map_nil]); first | done | rfl | (simp only [List.length_drop, List.length_take]; rfl)) ?_; (with_reducible refine (spec_FrameWrite.calls k t336 t337 t338 t339 t341 _ A17.out).mono ?_); rintro e w25 ⟨rfl, hb⟩; refine ⟨_, rfl, ?_⟩; have n0_ := Aside0.mk (IsS48.below (by repeat (first | (with_reducible first | exact HI325.out | apply IsS48.alloc | apply IsS48.drewN | apply IsS48.drew | apply IsS48.set_1) | exact HI325.out)) hb); have n1_ := Aside0.mk (below_step (by repeat (first | (with_reducible first | exact HB.out | apply below_alloc | apply pw_below_drewN | apply below_drew1 | refine below_set ?_ (IsS48.ge HI325.out)) | exact HB.out)) hb); clear HI325; clear HB; have HI325 := n0_; have HB := n1_; clear n0_ n1_; (try clear hb); (try clear hb2); (try clear hk); (try clear hi)))
        go_ret
        exact ⟨by first | rfl | (simp [errW_none, errW_some] <;> rfl) | (simp [*, errW_none, errW_some] <;> rfl), by repeat (first | (with_reducible first | exact HB.out | apply below_alloc | apply pw_below_drewN | apply below_drew1 | refine below_set ?_ (IsS48.ge HI325.out)) | exact HB.out)⟩
      · rw [if_neg c18] at H
        exact absurd H (by simp)
    · rw [if_neg c15] at H
      have c15b0 : (t334 == 1) = false := beq_eq_false_iff_ne.mpr c15
      have c15b1 : (t334 != 1) = true := bne_iff_ne.mpr c15
      by_cases c26 : t334 = 2
      · rw [if_pos c26] at H
        have c26b0 : (t334 == 2) = true := beq_iff_eq.mpr c26
        have c26b1 : (t334 != 2) = false := bne_eq_false_iff_eq.mpr c26
        clear c26
        by_cases c27 : 0 ≤ t332
        · rw [if_pos c27] at H
          have c27b0 := eq_true c27
          have c27b1 : decide (0 ≤ t332) = true := decide_eq_true c27
          clear c27
          by_cases c28 : t332 ≤ (t331.size : Int)
          · rw [if_pos c28] at H
            have c28b0 := eq_true c28
            have c28b1 : decide (t332 ≤ (t331.size : Int)) = true := decide_eq_true c28
            clear c28
            replace H := Option.bind_eq_some_iff.mp H
            obtain ⟨⟨t342, t343⟩, A290, H⟩ := H
            replace H : ((spec_l1Byte.f t342).bind fun t344 => (if (t331.extract 0 (t332 : Int).toNat).size + t344.size ≤ 9223372036854775807 then (if ((t331.extract 0 (t332 : Int).toNat) ++ t344).size + (t331.extract (t332 : Int).toNat t331.size).size ≤ 9223372036854775807 then (some (((t331.extract 0 (t332 : Int).toNat) ++ t344) ++ (t331.extract (t332 : Int).toNat t331.size))) else (none)) else (none))) = some r := H
            have A29 := Aside0.mk A290
            clear A290
            replace H := Option.bind_eq_some_iff.mp H
            obtain ⟨t344, A300, H⟩ := H
            replace H : (if (t331.extract 0 (t332 : Int).toNat).size + t344.size ≤ 9223372036854775807 then (if ((t331.extract 0 (t332 : Int).toNat) ++ t344).size + (t331.extract (t332 : Int).toNat t331.size).size ≤ 9223372036854775807 then (some (((t331.extract 0 (t332 : Int).toNat) ++ t344) ++ (t331.extract (t332 : Int).toNat t331.size))) else (none)) else (none)) = some r := H
            have A30 := Aside0.mk A300
            clear A300
            by_cases c31 : (t331.extract 0 (t332 : Int).toNat).size + t344.size ≤ 9223372036854775807
            · rw [if_pos c31] at H
              have c31b0 := eq_true c31
              have c31b1 : decide ((t331.extract 0 (t332 : Int).toNat).size + t344.size ≤ 9223372036854775807) = true := decide_eq_true c31
              try have c31b2 : (9223372036854775807 < (t331.extract 0 (t332 : Int).toNat).size + t344.size) = False := eq_false (Nat.not_lt.2 c31)
              (try (have c31b3 := c31b2; simp only [ByteArray.size_append] at c31b3))
              (try (have c31b4 : (9223372036854775807 < t332.toNat + t344.size) = False := eq_false (by have h_ := c31; have h0_ := of_eq_true (show (t332 ≤ (t331.size : Int)) = True from (by first | (with_reducible assumption) | assumption)); simp only [ByteArray.size_append, ByteArray.size_extract] at h_; omega)))
              have c32b0 := eq_true (of_decide_eq_true (by first | (with_reducible assumption) | assumption) : 0 ≤ t332)
              have c33b0 := eq_true (of_decide_eq_true (by first | (with_reducible assumption) | assumption) : t332 ≤ (t331.size : Int))
              by_cases c34 : ((t331.extract 0 (t332 : Int).toNat) ++ t344).size + (t331.extract (t332 : Int).toNat t331.size).size ≤ 9223372036854775807
              · rw [if_pos c34] at H
                have c34b0 := eq_true c34
                have c34b1 : decide (((t331.extract 0 (t332 : Int).toNat) ++ t344).size + (t331.extract (t332 : Int).toNat t331.size).size ≤ 9223372036854775807) = true := decide_eq_true c34
                try have c34b2 : (9223372036854775807 < ((t331.extract 0 (t332 : Int).toNat) ++ t344).size + (t331.extract (t332 : Int).toNat t331.size).size) = False := eq_false (Nat.not_lt.2 c34)
                (try (have c34b3 := c34b2; simp only [ByteArray.size_append] at c34b3))
                (try (have c34b4 : (9223372036854775807 < t332.toNat + t344.size + (t331.size - t332.toNat)) = False := eq_false (by have h_ := c34; have h0_ := of_eq_true (show (t332 ≤ (t331.size : Int)) = True from (by first | (with_reducible assumption) | assumption)); simp only [ByteArray.size_append, ByteArray.size_extract] at h_; omega)))
                obtain rfl := Option.some.inj H
                go_enter Try.func24, Try.ntmps24
                try go_wp2_with (first | ((with_reducible refine gate_callee (f := 32) rfl ?_); refine goesL_ (some 7) rfl rfl Try.func32 (by kernel_rfl) rfl #[.slice A0 l0.length c0] rfl (by (try simp only [List.map_toArray, List.map_cons, List.map_nil]); first | done | rfl | (simp only [List.length_drop, List.length_take]; rfl)) ?_; (with_reducible refine (spec_l6Open.calls _ _ l0 t323 t324 w _ ?side1 ?side2 ?side3 A2.out).mono ?_); (case side1 => repeat (first | (with_reducible first | exact HB.out | apply below_alloc | apply pw_below_drewN | apply below_drew1) | exact HB.out)); (case side2 => exact HR0.out); (case side3 => exact HC0.out); rintro e w35 ⟨g325, rfl, hi, hb, hb2⟩; refine ⟨_, rfl, ?_⟩; have n0_ := Aside0.mk (hb); have n1_ := Aside0.mk (hi); clear HB; have HB := n0_; have HI325 := n1_; clear n0_ n1_; (try clear hb); (try clear hb2); (try clear hk); (try clear hi)) | ((with_reducible refine gate_callee (f := 33) rfl ?_); refine goesL_ (some 9) rfl rfl Try.func33 (by kernel_rfl) rfl #[.pointer (some ⟨g325, 0, none⟩)] rfl (by (try simp only [List.map_toArray, List.map_cons, List.map_nil]); first | done | rfl | (simp only [List.length_drop, List.length_take]; rfl)) ?_; (with_reducible refine (spec_l71Frame.calls k g325 t323 t324 t326 t327 t328 t329 t330 w _ ?side1 ?side2 A3.out).mono ?_); (case side1 => repeat (first | (with_reducible first | exact HI325.out | apply IsS48.alloc | apply IsS48.drewN | apply IsS48.drew | apply IsS48.set_1) | exact HI325.out)); (case side2 => repeat (first | (with_reducible first | exact HB.out | apply below_alloc | apply pw_below_drewN | apply below_drew1 | refine below_set ?_ (IsS48.ge HI325.out)) | exact HB.out)); rintro e w36 ⟨rfl, hi, hb, hk⟩; refine ⟨_, rfl, ?_⟩; have n0_ := Aside0.mk (hb); have n1_ := Aside0.mk (hi); clear HB; clear HI325; have HB := n0_; have HI325 := n1_; clear n0_ n1_; (try clear hb); (try clear hb2); (try clear hk); (try clear hi)) | ((with_reducible refine gate_callee (f := 17) rfl ?_); refine goesL_ (some 10) rfl rfl Try.func17 (by kernel_rfl) rfl #[.agg #[.int .i64 t326, .bool t327, .int .i64 t328, .string t329]] rfl (by (try simp only [List.map_toArray, List.map_cons, List.map_nil]); first | done | rfl | (simp only [List.length_drop, List.length_take]; rfl)) ?_; (with_reducible refine (spec_FrameWrite.calls k t326 t327 t328 t329 t331 _ A4.out).mono ?_); rintro e w37 ⟨rfl, hb⟩; refine ⟨_, rfl, ?_⟩; have n0_ := Aside0.mk (IsS48.below (by repeat (first | (with_reducible first | exact HI325.out | apply IsS48.alloc | apply IsS48.drewN | apply IsS48.drew | apply IsS48.set_1) | exact HI325.out)) hb); have n1_ := Aside0.mk (below_step (by repeat (first | (with_reducible first | exact HB.out | apply below_alloc | apply pw_below_drewN | apply below_drew1 | refine below_set ?_ (IsS48.ge HI325.out)) | exact HB.out)) hb); clear HI325; clear HB; have HI325 := n0_; have HB := n1_; clear n0_ n1_; (try clear hb); (try clear hb2); (try clear hk); (try clear hi)) | ((with_reducible refine gate_callee (f := 34) rfl ?_); refine goesL_ (some 15) rfl rfl Try.func34 (by kernel_rfl) rfl #[.pointer (some ⟨g325, 0, none⟩), .int .i64 (wrap64 ((t331.size : Int) + 1))] rfl (by (try simp only [List.map_toArray, List.map_cons, List.map_nil]); first | done | rfl | (simp only [List.length_drop, List.length_take]; rfl)) ?_; (with_reducible refine (spec_l6Rd_pick.calls k g325 t323 t330 (wrap64 ((t331.size : Int) + 1)) t332 t333 w _ ?side1 ?side2 A5.out).mono ?_); (case side1 => repeat (first | (with_reducible first | exact HI325.out | apply IsS48.alloc | apply IsS48.drewN | apply IsS48.drew | apply IsS48.set_1) | exact HI325.out)); (case side2 => repeat (first | (with_reducible first | exact HB.out | apply below_alloc | apply pw_below_drewN | apply below_drew1 | refine below_set ?_ (IsS48.ge HI325.out)) | exact HB.out)); rintro e w38 ⟨rfl, hi, hb, hk⟩; refine ⟨_, rfl, ?_⟩; have n0_ := Aside0.mk (hb); have n1_ := Aside0.mk (hi); clear HB; clear HI325; have HB := n0_; have HI325 := n1_; clear n0_ n1_; (try clear hb); (try clear hb2); (try clear hk); (try clear hi)) | ((with_reducible refine gate_callee (f := 34) rfl ?_); refine goesL_ (some 17) rfl rfl Try.func34 (by kernel_rfl) rfl #[.pointer (some ⟨g325, 0, none⟩), .int .i64 8] rfl (by (try simp only [List.map_toArray, List.map_cons, List.map_nil]); first | done | rfl | (simp only [List.length_drop, List.length_take]; rfl)) ?_; (with_reducible refine (spec_l6Rd_pick.calls k g325 t323 t333 8 t334 t335 w _ ?side1 ?side2 A6.out).mono ?_); (case side1 => repeat (first | (with_reducible first | exact HI325.out | apply IsS48.alloc | apply IsS48.drewN | apply IsS48.drew | apply IsS48.set_1) | exact HI325.out)); (case side2 => repeat (first | (with_reducible first | exact HB.out | apply below_alloc | apply pw_below_drewN | apply below_drew1 | refine below_set ?_ (IsS48.ge HI325.out)) | exact HB.out)); rintro e w39 ⟨rfl, hi, hb, hk⟩; refine ⟨_, rfl, ?_⟩; have n0_ := Aside0.mk (hb); have n1_ := Aside0.mk (hi); clear HB; clear HI325; have HB := n0_; have HI325 := n1_; clear n0_ n1_; (try clear hb); (try clear hb2); (try clear hk); (try clear hi)))
                have n0_ := Aside0.mk (IsS48.drew HI325.out)
                have n1_ := Aside0.mk (below_drew1 HB.out)
                clear HI325
                clear HB
                have HI325 := n0_
                have HB := n1_
                clear n0_ n1_
                refine start_ (n := 12) (S := fun w' => True) (ds := []) #[false, false, false, false, false, false, false, false, false, false, false, false] (by kernel_rfl) rfl rfl trivial (fun hHeld => ?_); refine with_tabW spec_DrawFrameRead.tab10 spec_DrawFrameRead.bits10 (fun HT_ HW_ => ?_)
                generalize w39.drew = w40 at HI325 HB hHeld ⊢
                refine pure_ (i := 0) (N := some 32) (v := ?_) (a' := ?_) #[true, false, false, false, false, false, false, false, false, false, false, false] rfl rfl (any_of HT_.out (by kernel_rfl)) (fun _ _ _ h => h) (Or.inl ⟨by rfl, ?_⟩) ?_ ?_
                rotate_left
                · intro w'
                  go_simp
                  with_reducible rfl
                rotate_left
                · simp only [Act.put, List.setIfInBounds_toArray, List.set_cons_zero, List.set_cons_succ, i64_w, i32_w]
                  rfl
                refine pure_ (i := 1) (N := some 33) (v := ?_) (a' := ?_) #[true, true, false, false, false, false, false, false, false, false, false, false] rfl rfl (any_of HT_.out (by kernel_rfl)) (fun _ _ _ h => h) (Or.inl ⟨by rfl, ?_⟩) ?_ ?_
                rotate_left
                · intro w'
                  go_simp
                  with_reducible rfl
                rotate_left
                · simp only [Act.put, List.setIfInBounds_toArray, List.set_cons_zero, List.set_cons_succ, i64_w, i32_w]
                  rfl
                refine pure_ (i := 2) (N := some 34) (v := ?_) (a' := ?_) #[true, true, true, false, false, false, false, false, false, false, false, false] rfl rfl (any_of HT_.out (by kernel_rfl)) (fun _ _ _ h => h) (Or.inl ⟨by rfl, ?_⟩) ?_ ?_
                rotate_left
                · intro w'
                  go_simp
                  with_reducible rfl
                rotate_left
                · simp only [Act.put, List.setIfInBounds_toArray, List.set_cons_zero, List.set_cons_succ, i64_w, i32_w]
                  rfl
                refine pure_ (i := 3) (N := some 35) (v := ?_) (a' := ?_) #[true, true, true, true, false, false, false, false, false, false, false, false] rfl rfl (any_of HT_.out (by kernel_rfl)) (fun _ _ _ h => h) (Or.inl ⟨by rfl, ?_⟩) ?_ ?_
                rotate_left
                · intro w'
                  go_simp
                  with_reducible rfl
                rotate_left
                · simp only [Act.put, List.setIfInBounds_toArray, List.set_cons_zero, List.set_cons_succ, i64_w, i32_w]
                  rfl
                refine pure_ (i := 7) (N := some 39) (v := ?_) (a' := ?_) #[true, true, true, true, false, false, false, true, false, false, false, false] rfl rfl (any_of HT_.out (by kernel_rfl)) (fun _ _ _ h => h) (Or.inl ⟨by rfl, ?_⟩) ?_ ?_
                rotate_left
                · intro w'
                  go_simp
                  with_reducible rfl
                rotate_left
                · simp only [Act.put, List.setIfInBounds_toArray, List.set_cons_zero, List.set_cons_succ, i64_w, i32_w]
                  rfl
                refine pure_ (i := 8) (N := some 40) (v := ?_) (a' := ?_) #[true, true, true, true, false, false, false, true, true, false, false, false] rfl rfl (any_of HT_.out (by kernel_rfl)) (fun _ _ _ h => h) (Or.inl ⟨by rfl, ?_⟩) ?_ ?_
                rotate_left
                · intro w'
                  go_simp
                  with_reducible rfl
                rotate_left
                · simp only [Act.put, List.setIfInBounds_toArray, List.set_cons_zero, List.set_cons_succ, i64_w, i32_w]
                  rfl
                refine pure_ (i := 9) (N := some 41) (v := ?_) (a' := ?_) #[true, true, true, true, false, false, false, true, true, true, false, false] rfl rfl (any_of HT_.out (by kernel_rfl)) (fun _ _ _ h => h) (Or.inl ⟨by rfl, ?_⟩) ?_ ?_
                rotate_left
                · intro w'
                  go_simp
                  with_reducible rfl
                rotate_left
                · simp only [Act.put, List.setIfInBounds_toArray, List.set_cons_zero, List.set_cons_succ, i64_w, i32_w]
                  rfl
                refine one_ (i := 4) (N := some 36) #[true, true, true, true, true, false, false, true, true, true, false, false] rfl rfl (one_of HT_.out (by kernel_rfl)) (by decide) (fun K hK => ?_)
                refine goes_ Try.func34 (by kernel_rfl) rfl #[.pointer (some ⟨g325, 0, none⟩), .int .i64 256] (by rfl) rfl rfl (by (try simp only [List.map_toArray, List.map_cons, List.map_nil]); first | done | rfl | (simp only [List.length_drop, List.length_take]; rfl)) ?_
                with_reducible refine (spec_l6Rd_pick.calls k g325 t323 t335 256 t342 t343 w _ ?side1 ?side2 A29.out).mono ?_
                (case side1 => repeat (first | (with_reducible first | exact HI325.out | apply IsS48.alloc | apply IsS48.drewN | apply IsS48.drew | apply IsS48.set_1) | exact HI325.out))
                (case side2 => repeat (first | (with_reducible first | exact HB.out | apply below_alloc | apply pw_below_drewN | apply below_drew1 | refine below_set ?_ (IsS48.ge HI325.out)) | exact HB.out))
                rintro e w41 ⟨rfl, hi, hb, hk⟩
                refine ⟨_, rfl, ?_⟩
                have n0_ := Aside0.mk (hb)
                have n1_ := Aside0.mk (hi)
                clear HB
                clear HI325
                have HB := n0_
                have HI325 := n1_
                clear n0_ n1_
                (try clear hb)
                (try clear hb2)
                (try clear hk)
                (try clear hi)
                refine hK.out _ _ trivial (fun hHeld => ?_)
                clear hK K
                refine norm_ (a' := ?_) ?_ ?_
                rotate_left
                · show Act.put _ (some 36) _ = _
                  simp only [Act.put, List.setIfInBounds_toArray, List.set_cons_zero, List.set_cons_succ, i64_w, i32_w]
                  rfl
                refine one_ (i := 5) (N := some 37) #[true, true, true, true, true, true, false, true, true, true, false, false] rfl rfl (one_of HT_.out (by kernel_rfl)) (by decide) (fun K hK => ?_)
                refine goes_ Try.func35 (by kernel_rfl) rfl #[.int .i64 t342] (by rfl) rfl rfl (by (try simp only [List.map_toArray, List.map_cons, List.map_nil]); first | done | rfl | (simp only [List.length_drop, List.length_take]; rfl)) ?_
                with_reducible refine (spec_l1Byte.calls t342 t344 _ A30.out).mono ?_
                rintro e w42 ⟨rfl, hb⟩
                refine ⟨_, rfl, ?_⟩
                have n0_ := Aside0.mk (IsS48.below (by repeat (first | (with_reducible first | exact HI325.out | apply IsS48.alloc | apply IsS48.drewN | apply IsS48.drew | apply IsS48.set_1) | exact HI325.out)) hb)
                have n1_ := Aside0.mk (below_step (by repeat (first | (with_reducible first | exact HB.out | apply below_alloc | apply pw_below_drewN | apply below_drew1 | refine below_set ?_ (IsS48.ge HI325.out)) | exact HB.out)) hb)
                clear HI325
                clear HB
                have HI325 := n0_
                have HB := n1_
                clear n0_ n1_
                (try clear hb)
                (try clear hb2)
                (try clear hk)
                (try clear hi)
                refine hK.out _ _ trivial (fun hHeld => ?_)
                clear hK K
                refine norm_ (a' := ?_) ?_ ?_
                rotate_left
                · show Act.put _ (some 37) _ = _
                  simp only [Act.put, List.setIfInBounds_toArray, List.set_cons_zero, List.set_cons_succ, i64_w, i32_w]
                  rfl
                refine pure_ (i := 6) (N := some 38) (v := ?_) (a' := ?_) #[true, true, true, true, true, true, true, true, true, true, false, false] rfl rfl (any_of HT_.out (by kernel_rfl)) (fun _ _ _ h => h) (Or.inl ⟨by rfl, ?_⟩) ?_ ?_
                rotate_left
                · intro w'
                  go_simp
                  with_reducible rfl
                rotate_left
                · simp only [Act.put, List.setIfInBounds_toArray, List.set_cons_zero, List.set_cons_succ, i64_w, i32_w]
                  rfl
                refine pure_ (i := 10) (N := some 42) (v := ?_) (a' := ?_) #[true, true, true, true, true, true, true, true, true, true, true, false] rfl rfl (any_of HT_.out (by kernel_rfl)) (fun _ _ _ h => h) (Or.inl ⟨by rfl, ?_⟩) ?_ ?_
                rotate_left
                · intro w'
                  go_simp
                  with_reducible rfl
                rotate_left
                · simp only [Act.put, List.setIfInBounds_toArray, List.set_cons_zero, List.set_cons_succ, i64_w, i32_w]
                  rfl
                refine pure_ (i := 11) (N := some 2) (v := ?_) (a' := ?_) #[true, true, true, true, true, true, true, true, true, true, true, true] rfl rfl (any_of HT_.out (by kernel_rfl)) (fun _ _ _ h => h) (Or.inl ⟨by rfl, ?_⟩) ?_ ?_
                rotate_left
                · intro w'
                  go_simp
                  with_reducible rfl
                rotate_left
                · simp only [Act.put, List.setIfInBounds_toArray, List.set_cons_zero, List.set_cons_succ, i64_w, i32_w]
                  rfl
                refine done_ (done_of HT_.out (by kernel_rfl)) ?_
                try go_wp2
                go_ret
                exact ⟨by first | rfl | (simp [errW_none, errW_some] <;> rfl) | (simp [*, errW_none, errW_some] <;> rfl), by repeat (first | (with_reducible first | exact HB.out | apply below_alloc | apply pw_below_drewN | apply below_drew1 | refine below_set ?_ (IsS48.ge HI325.out)) | exact HB.out)⟩
              · rw [if_neg c34] at H
                exact absurd H (by simp)
            · rw [if_neg c31] at H
              exact absurd H (by simp)
          · rw [if_neg c28] at H
            exact absurd H (by simp)
        · rw [if_neg c27] at H
          exact absurd H (by simp)
      · rw [if_neg c26] at H
        have c26b0 : (t334 == 2) = false := beq_eq_false_iff_ne.mpr c26
        have c26b1 : (t334 != 2) = true := bne_iff_ne.mpr c26
        obtain rfl := Option.some.inj H
        go_enter Try.func24, Try.ntmps24
        go_wp2_with (first | ((with_reducible refine gate_callee (f := 32) rfl ?_); refine goesL_ (some 7) rfl rfl Try.func32 (by kernel_rfl) rfl #[.slice A0 l0.length c0] rfl (by (try simp only [List.map_toArray, List.map_cons, List.map_nil]); first | done | rfl | (simp only [List.length_drop, List.length_take]; rfl)) ?_; (with_reducible refine (spec_l6Open.calls _ _ l0 t323 t324 w _ ?side1 ?side2 ?side3 A2.out).mono ?_); (case side1 => repeat (first | (with_reducible first | exact HB.out | apply below_alloc | apply pw_below_drewN | apply below_drew1) | exact HB.out)); (case side2 => exact HR0.out); (case side3 => exact HC0.out); rintro e w43 ⟨g325, rfl, hi, hb, hb2⟩; refine ⟨_, rfl, ?_⟩; have n0_ := Aside0.mk (hb); have n1_ := Aside0.mk (hi); clear HB; have HB := n0_; have HI325 := n1_; clear n0_ n1_; (try clear hb); (try clear hb2); (try clear hk); (try clear hi)) | ((with_reducible refine gate_callee (f := 33) rfl ?_); refine goesL_ (some 9) rfl rfl Try.func33 (by kernel_rfl) rfl #[.pointer (some ⟨g325, 0, none⟩)] rfl (by (try simp only [List.map_toArray, List.map_cons, List.map_nil]); first | done | rfl | (simp only [List.length_drop, List.length_take]; rfl)) ?_; (with_reducible refine (spec_l71Frame.calls k g325 t323 t324 t326 t327 t328 t329 t330 w _ ?side1 ?side2 A3.out).mono ?_); (case side1 => repeat (first | (with_reducible first | exact HI325.out | apply IsS48.alloc | apply IsS48.drewN | apply IsS48.drew | apply IsS48.set_1) | exact HI325.out)); (case side2 => repeat (first | (with_reducible first | exact HB.out | apply below_alloc | apply pw_below_drewN | apply below_drew1 | refine below_set ?_ (IsS48.ge HI325.out)) | exact HB.out)); rintro e w44 ⟨rfl, hi, hb, hk⟩; refine ⟨_, rfl, ?_⟩; have n0_ := Aside0.mk (hb); have n1_ := Aside0.mk (hi); clear HB; clear HI325; have HB := n0_; have HI325 := n1_; clear n0_ n1_; (try clear hb); (try clear hb2); (try clear hk); (try clear hi)) | ((with_reducible refine gate_callee (f := 17) rfl ?_); refine goesL_ (some 10) rfl rfl Try.func17 (by kernel_rfl) rfl #[.agg #[.int .i64 t326, .bool t327, .int .i64 t328, .string t329]] rfl (by (try simp only [List.map_toArray, List.map_cons, List.map_nil]); first | done | rfl | (simp only [List.length_drop, List.length_take]; rfl)) ?_; (with_reducible refine (spec_FrameWrite.calls k t326 t327 t328 t329 t331 _ A4.out).mono ?_); rintro e w45 ⟨rfl, hb⟩; refine ⟨_, rfl, ?_⟩; have n0_ := Aside0.mk (IsS48.below (by repeat (first | (with_reducible first | exact HI325.out | apply IsS48.alloc | apply IsS48.drewN | apply IsS48.drew | apply IsS48.set_1) | exact HI325.out)) hb); have n1_ := Aside0.mk (below_step (by repeat (first | (with_reducible first | exact HB.out | apply below_alloc | apply pw_below_drewN | apply below_drew1 | refine below_set ?_ (IsS48.ge HI325.out)) | exact HB.out)) hb); clear HI325; clear HB; have HI325 := n0_; have HB := n1_; clear n0_ n1_; (try clear hb); (try clear hb2); (try clear hk); (try clear hi)) | ((with_reducible refine gate_callee (f := 34) rfl ?_); refine goesL_ (some 15) rfl rfl Try.func34 (by kernel_rfl) rfl #[.pointer (some ⟨g325, 0, none⟩), .int .i64 (wrap64 ((t331.size : Int) + 1))] rfl (by (try simp only [List.map_toArray, List.map_cons, List.map_nil]); first | done | rfl | (simp only [List.length_drop, List.length_take]; rfl)) ?_; (with_reducible refine (spec_l6Rd_pick.calls k g325 t323 t330 (wrap64 ((t331.size : Int) + 1)) t332 t333 w _ ?side1 ?side2 A5.out).mono ?_); (case side1 => repeat (first | (with_reducible first | exact HI325.out | apply IsS48.alloc | apply IsS48.drewN | apply IsS48.drew | apply IsS48.set_1) | exact HI325.out)); (case side2 => repeat (first | (with_reducible first | exact HB.out | apply below_alloc | apply pw_below_drewN | apply below_drew1 | refine below_set ?_ (IsS48.ge HI325.out)) | exact HB.out)); rintro e w46 ⟨rfl, hi, hb, hk⟩; refine ⟨_, rfl, ?_⟩; have n0_ := Aside0.mk (hb); have n1_ := Aside0.mk (hi); clear HB; clear HI325; have HB := n0_; have HI325 := n1_; clear n0_ n1_; (try clear hb); (try clear hb2); (try clear hk); (try clear hi)) | ((with_reducible refine gate_callee (f := 34) rfl ?_); refine goesL_ (some 17) rfl rfl Try.func34 (by kernel_rfl) rfl #[.pointer (some ⟨g325, 0, none⟩), .int .i64 8] rfl (by (try simp only [List.map_toArray, List.map_cons, List.map_nil]); first | done | rfl | (simp only [List.length_drop, List.length_take]; rfl)) ?_; (with_reducible refine (spec_l6Rd_pick.calls k g325 t323 t333 8 t334 t335 w _ ?side1 ?side2 A6.out).mono ?_); (case side1 => repeat (first | (with_reducible first | exact HI325.out | apply IsS48.alloc | apply IsS48.drewN | apply IsS48.drew | apply IsS48.set_1) | exact HI325.out)); (case side2 => repeat (first | (with_reducible first | exact HB.out | apply below_alloc | apply pw_below_drewN | apply below_drew1 | refine below_set ?_ (IsS48.ge HI325.out)) | exact HB.out)); rintro e w47 ⟨rfl, hi, hb, hk⟩; refine ⟨_, rfl, ?_⟩; have n0_ := Aside0.mk (hb); have n1_ := Aside0.mk (hi); clear HB; clear HI325; have HB := n0_; have HI325 := n1_; clear n0_ n1_; (try clear hb); (try clear hb2); (try clear hk); (try clear hi)))
        go_ret
        exact ⟨by first | rfl | (simp [errW_none, errW_some] <;> rfl) | (simp [*, errW_none, errW_some] <;> rfl), by repeat (first | (with_reducible first | exact HB.out | apply below_alloc | apply pw_below_drewN | apply below_drew1 | refine below_set ?_ (IsS48.ge HI325.out)) | exact HB.out)⟩

end Go.Proofs.Ytdahdgdnpooegaa.F
