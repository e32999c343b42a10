-- Written by a program of this session's (wip/tools) out of the translation. Not trusted: Lean checks it.
import Derived.Test.YtgahnhncmjgenaaXx0
import Derived.Test.YtgahnhncmjgenaaXx10
import Derived.Test.YtgahnhncmjgenaaXx71
namespace Go.Proofs.Ytgahnhncmjgenaa.X
open Go.RowKit Go.Proofs.YtgahnhncmjgenaaW.PrintWords Go.Proofs.YtgahnhncmjgenaaW.PrintLast Go.Proofs.YtgahnhncmjgenaaW.PrintMore
attribute [local go_sem] max2_int min2_int max_two min_two max_three min_three max_four min_four   -- for this text's walks alone
set_option linter.unusedVariables false
set_option linter.unusedSimpArgs false


/-! ### slices.ContainsFunc[[]loop.example/lamson/impl.Field,loop.example/lamson/impl.Field]: function 47 -/
set_option maxHeartbeats 8000000 in
set_option maxRecDepth 100000 in
theorem slices_ContainsFunc.at (F : S32 → Option Bool) (g : Nat) (lb : Array Value) (eg : ∀ args w, (callFunc g args).run Try.prog w = .ok (.enter g args) w) (A0 : Option Addr) (c0 : Nat) (l0 : List S32) (r : Int) (w : World)
    (hr0 : Kd.C k32 w A0 l0.length l0) (hbig : l0.length ≤ 9223372036854775806)
    (hp : ∀ W (x : S32) t, Below w.heap.size w W → F x = some t → Calls Try.prog g (#[.agg #[.string x.f0, .string x.f1, .bool x.f2]] ++ lb) W fun e w' => e = .returned (.bool t) ∧ Below w.heap.size w w')
    (h : idxO F l0 0 = some r) :
    Calls Try.prog 47 #[.slice A0 l0.length c0, .func (.func g) #[] lb] w fun e w' => e = .returned (.bool (decide (r ≥ 0))) ∧ Below w.heap.size w w' := by
  have HC := Aside0.mk (slices_IndexFunc.at F g lb eg A0 c0 l0 r w hr0 hbig hp h)
  clear hr0 hp h eg
  go_enter Try.func47, Try.ntmps47
  go_wp2_with (go_at_call 67; refine HC.out.mono ?_; rintro e w' ⟨rfl, hb'⟩)
  go_ret
  exact ⟨rfl, hb'⟩
def impl_HeadOk_1.F (k : Nat) (x : S32) : Option Bool := (impl_FieldOk.f k x.f0 x.f1 x.f2).bind fun t => some (!t)
theorem impl_HeadOk_1.mono (k : Nat) (x : S32) : LeO (impl_HeadOk_1.F k x) (impl_HeadOk_1.F (k + 1) x) := LeO.bind (impl_FieldOk.mono _ _ _ _) (fun _ => LeO.refl _)
set_option maxHeartbeats 8000000 in
set_option maxRecDepth 100000 in
theorem impl_HeadOk_1.calls (k : Nat) (x : S32) (r : Bool) (w : World) (h : impl_HeadOk_1.F k x = some r) :
    Calls Try.prog 48 #[.agg #[.string x.f0, .string x.f1, .bool x.f2]] w fun e w' => e = .returned (.bool r) ∧ Below w.heap.size w w' := by
  have hu32 := Try.underlying32
  have HB := Aside0.mk (Below.refl w.heap.size w)
  unfold impl_HeadOk_1.F at h
  replace h := Option.bind_eq_some_iff.mp h
  obtain ⟨t, A40, h⟩ := h
  have A4 := Aside0.mk A40
  clear A40
  obtain rfl := Option.some.inj h
  clear h
  go_enter Try.func48, Try.ntmps48
  go_wp2_with (first | ((with_reducible refine gate_dst (N := 1) rfl ?_); refine box_event ?hg (N := 1) ?hd (cs := #[.string x.f0, .string x.f1, .bool x.f2]) (t := 32) ?hr ?_; (case hd => rfl); (case hg => rfl); (case hr => first | (go_simp; done) | (go_simp; rfl)); intro gb1 hg w6 hbox hb; have n0_ := Aside0.mk (below_step (by repeat (first | (with_reducible first | exact HB.out | apply below_alloc | apply pw_below_drewN | apply below_drew1) | exact HB.out)) hb); have n1_ := Aside0.mk (hbox); have n2_ := Aside0.mk ((by rw [hg]; exact (below_size (by repeat (first | (with_reducible first | exact HB.out | apply below_alloc | apply pw_below_drewN | apply below_drew1) | exact HB.out))) : w.heap.size ≤ gb1)); clear HB; have HB := n0_; have BK1 := n1_; have GE1 := n2_; clear n0_ n1_ n2_; clear hb hbox hg; have hcz1_0 : w6.cell? ⟨gb1, 0, none⟩ = some (.string x.f0) := (blk_cell BK1.out 0).trans rfl; have hcz1_1 : w6.cell? ⟨gb1, 1, none⟩ = some (.string x.f1) := (blk_cell BK1.out 1).trans rfl; have hcz1_2 : w6.cell? ⟨gb1, 2, none⟩ = some (.bool x.f2) := (blk_cell BK1.out 2).trans rfl; have hfz1_0 := blk_frozen BK1.out 0; have hfz1_1 := blk_frozen BK1.out 1; have hfz1_2 := blk_frozen BK1.out 2) | (go_at_call 45; (with_reducible refine (impl_FieldOk.calls k x.f0 x.f1 x.f2 t _ A4.out).mono ?_); rintro e w7 ⟨rfl, hb⟩; have n0_ := Aside0.mk (below_step (by repeat (first | (with_reducible first | exact HB.out | apply below_alloc | apply pw_below_drewN | apply below_drew1) | exact HB.out)) hb); clear HB; have HB := n0_; clear n0_ hb))
  go_ret
  exact ⟨rfl, by repeat (first | (with_reducible first | exact HB.out | apply below_alloc | apply pw_below_drewN | apply below_drew1) | exact HB.out)⟩
def impl_TableOk_1.F (k : Nat) (x : S32) : Option Bool := (impl_FieldOk.f k x.f0 x.f1 x.f2).bind fun t => if t = true then some x.f2 else some true
theorem impl_TableOk_1.mono (k : Nat) (x : S32) : LeO (impl_TableOk_1.F k x) (impl_TableOk_1.F (k + 1) x) := LeO.bind (impl_FieldOk.mono _ _ _ _) (fun _ => LeO.refl _)
set_option maxHeartbeats 8000000 in
set_option maxRecDepth 100000 in
theorem impl_TableOk_1.calls (k : Nat) (x : S32) (r : Bool) (w : World) (h : impl_TableOk_1.F k x = some r) :
    Calls Try.prog 57 #[.agg #[.string x.f0, .string x.f1, .bool x.f2]] w fun e w' => e = .returned (.bool r) ∧ Below w.heap.size w w' := by
  have hu32 := Try.underlying32
  have HB := Aside0.mk (Below.refl w.heap.size w)
  unfold impl_TableOk_1.F at h
  replace h := Option.bind_eq_some_iff.mp h
  obtain ⟨t, A40, h⟩ := h
  have A4 := Aside0.mk A40
  clear A40
  cases t with
  | true =>
    rw [if_pos rfl] at h
    obtain rfl := Option.some.inj h
    clear h
    go_enter Try.func57, Try.ntmps57
    go_wp2_with (first | ((with_reducible refine gate_dst (N := 1) rfl ?_); refine box_event ?hg (N := 1) ?hd (cs := #[.string x.f0, .string x.f1, .bool x.f2]) (t := 32) ?hr ?_; (case hd => rfl); (case hg => rfl); (case hr => first | (go_simp; done) | (go_simp; rfl)); intro gb1 hg w6 hbox hb; have n0_ := Aside0.mk (below_step (by repeat (first | (with_reducible first | exact HB.out | apply below_alloc | apply pw_below_drewN | apply below_drew1) | exact HB.out)) hb); have n1_ := Aside0.mk (hbox); have n2_ := Aside0.mk ((by rw [hg]; exact (below_size (by repeat (first | (with_reducible first | exact HB.out | apply below_alloc | apply pw_below_drewN | apply below_drew1) | exact HB.out))) : w.heap.size ≤ gb1)); clear HB; have HB := n0_; have BK1 := n1_; have GE1 := n2_; clear n0_ n1_ n2_; clear hb hbox hg; have hcz1_0 : w6.cell? ⟨gb1, 0, none⟩ = some (.string x.f0) := (blk_cell BK1.out 0).trans rfl; have hcz1_1 : w6.cell? ⟨gb1, 1, none⟩ = some (.string x.f1) := (blk_cell BK1.out 1).trans rfl; have hcz1_2 : w6.cell? ⟨gb1, 2, none⟩ = some (.bool x.f2) := (blk_cell BK1.out 2).trans rfl; have hfz1_0 := blk_frozen BK1.out 0; have hfz1_1 := blk_frozen BK1.out 1; have hfz1_2 := blk_frozen BK1.out 2) | (go_at_call 45; (with_reducible refine (impl_FieldOk.calls k x.f0 x.f1 x.f2 true _ A4.out).mono ?_); rintro e w7 ⟨rfl, hb⟩; have hcy1_0 := (hb.cell (World.block_lt_of_cell? w6 _ hcz1_2)).trans hcz1_2; have n0_ := Aside0.mk (below_step (by repeat (first | (with_reducible first | exact HB.out | apply below_alloc | apply pw_below_drewN | apply below_drew1) | exact HB.out)) hb); clear HB; have HB := n0_; clear n0_ hb))
    go_ret
    exact ⟨rfl, by repeat (first | (with_reducible first | exact HB.out | apply below_alloc | apply pw_below_drewN | apply below_drew1) | exact HB.out)⟩
  | false =>
    rw [if_neg (by decide)] at h
    obtain rfl := Option.some.inj h
    clear h
    go_enter Try.func57, Try.ntmps57
    go_wp2_with (first | ((with_reducible refine gate_dst (N := 1) rfl ?_); refine box_event ?hg (N := 1) ?hd (cs := #[.string x.f0, .string x.f1, .bool x.f2]) (t := 32) ?hr ?_; (case hd => rfl); (case hg => rfl); (case hr => first | (go_simp; done) | (go_simp; rfl)); intro gb1 hg w6 hbox hb; have n0_ := Aside0.mk (below_step (by repeat (first | (with_reducible first | exact HB.out | apply below_alloc | apply pw_below_drewN | apply below_drew1) | exact HB.out)) hb); have n1_ := Aside0.mk (hbox); have n2_ := Aside0.mk ((by rw [hg]; exact (below_size (by repeat (first | (with_reducible first | exact HB.out | apply below_alloc | apply pw_below_drewN | apply below_drew1) | exact HB.out))) : w.heap.size ≤ gb1)); clear HB; have HB := n0_; have BK1 := n1_; have GE1 := n2_; clear n0_ n1_ n2_; clear hb hbox hg; have hcz1_0 : w6.cell? ⟨gb1, 0, none⟩ = some (.string x.f0) := (blk_cell BK1.out 0).trans rfl; have hcz1_1 : w6.cell? ⟨gb1, 1, none⟩ = some (.string x.f1) := (blk_cell BK1.out 1).trans rfl; have hcz1_2 : w6.cell? ⟨gb1, 2, none⟩ = some (.bool x.f2) := (blk_cell BK1.out 2).trans rfl; have hfz1_0 := blk_frozen BK1.out 0; have hfz1_1 := blk_frozen BK1.out 1; have hfz1_2 := blk_frozen BK1.out 2) | (go_at_call 45; (with_reducible refine (impl_FieldOk.calls k x.f0 x.f1 x.f2 false _ A4.out).mono ?_); rintro e w7 ⟨rfl, hb⟩; have n0_ := Aside0.mk (below_step (by repeat (first | (with_reducible first | exact HB.out | apply below_alloc | apply pw_below_drewN | apply below_drew1) | exact HB.out)) hb); clear HB; have HB := n0_; clear n0_ hb))
    go_ret
    exact ⟨rfl, by repeat (first | (with_reducible first | exact HB.out | apply below_alloc | apply pw_below_drewN | apply below_drew1) | exact HB.out)⟩
def impl_HeadOk_1c.f (k : Nat) (l0 : List S32) : Option Bool := if l0.length ≤ 9223372036854775806 then ((idxO (impl_HeadOk_1.F k) l0 0).bind fun t => some (decide (t ≥ 0))) else none
theorem impl_HeadOk_1c.mono : ∀ a0 k, LeO (impl_HeadOk_1c.f k a0) (impl_HeadOk_1c.f (k + 1) a0) := by
  intro a0 k
  unfold impl_HeadOk_1c.f
  exact LeO.ite (LeO.bind (idxO_mono (impl_HeadOk_1.mono k) _ _) (fun _ => LeO.refl _)) (LeO.refl _)
theorem impl_HeadOk_1c.calls (k : Nat) (A0 : Option Addr) (c0 : Nat) (l0 : List (S32)) (r : Bool) (w : World) (hr0 : Kd.C k32 w A0 l0.length l0) (hc0 : l0.length ≤ c0) (h : impl_HeadOk_1c.f k l0 = some r) :
    Calls Try.prog 47 #[.slice A0 l0.length c0, .func (.func 48) #[] #[]] w fun e w' => e = .returned (.bool r) ∧ Below w.heap.size w w' := by
  unfold impl_HeadOk_1c.f at h
  by_cases c1 : l0.length ≤ 9223372036854775806
  · rw [if_pos c1] at h
    replace h := Option.bind_eq_some_iff.mp h
    obtain ⟨t, A4, h⟩ := h
    obtain rfl := Option.some.inj h
    exact slices_ContainsFunc.at (impl_HeadOk_1.F k) 48 #[] (enters_of Try.func48 (by kernel_rfl) (c := _) (by first | rfl | kernel_rfl)) A0 c0 l0 t _ hr0 c1 (fun W x t hb ht => (impl_HeadOk_1.calls k x t W ht).mono (fun e w' ⟨h1, h2⟩ => ⟨h1, below_step hb h2⟩)) A4
  · rw [if_neg c1] at h
    cases h
def impl_TableOk_1c.f (k : Nat) (l0 : List S32) : Option Bool := if l0.length ≤ 9223372036854775806 then ((idxO (impl_TableOk_1.F k) l0 0).bind fun t => some (decide (t ≥ 0))) else none
theorem impl_TableOk_1c.mono : ∀ a0 k, LeO (impl_TableOk_1c.f k a0) (impl_TableOk_1c.f (k + 1) a0) := by
  intro a0 k
  unfold impl_TableOk_1c.f
  exact LeO.ite (LeO.bind (idxO_mono (impl_TableOk_1.mono k) _ _) (fun _ => LeO.refl _)) (LeO.refl _)
theorem impl_TableOk_1c.calls (k : Nat) (A0 : Option Addr) (c0 : Nat) (l0 : List (S32)) (r : Bool) (w : World) (hr0 : Kd.C k32 w A0 l0.length l0) (hc0 : l0.length ≤ c0) (h : impl_TableOk_1c.f k l0 = some r) :
    Calls Try.prog 47 #[.slice A0 l0.length c0, .func (.func 57) #[] #[]] w fun e w' => e = .returned (.bool r) ∧ Below w.heap.size w w' := by
  unfold impl_TableOk_1c.f at h
  by_cases c1 : l0.length ≤ 9223372036854775806
  · rw [if_pos c1] at h
    replace h := Option.bind_eq_some_iff.mp h
    obtain ⟨t, A4, h⟩ := h
    obtain rfl := Option.some.inj h
    exact slices_ContainsFunc.at (impl_TableOk_1.F k) 57 #[] (enters_of Try.func57 (by kernel_rfl) (c := _) (by first | rfl | kernel_rfl)) A0 c0 l0 t _ hr0 c1 (fun W x t hb ht => (impl_TableOk_1.calls k x t W ht).mono (fun e w' ⟨h1, h2⟩ => ⟨h1, below_step hb h2⟩)) A4
  · rw [if_neg c1] at h
    cases h

end Go.Proofs.Ytgahnhncmjgenaa.X
