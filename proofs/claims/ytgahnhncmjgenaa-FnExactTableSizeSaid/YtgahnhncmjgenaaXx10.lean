-- Written by a program of this session's (wip/tools) out of the translation. Not trusted: Lean checks it.
import Derived.Test.YtgahnhncmjgenaaXx0
namespace Go.Proofs.Ytgahnhncmjgenaa.X
open Go.RowKit Go.Proofs.YtgahnhncmjgenaaW.PrintWords Go.Proofs.YtgahnhncmjgenaaW.PrintLast Go.Proofs.YtgahnhncmjgenaaW.PrintMore
attribute [local go_sem] max2_int min2_int max_two min_two max_three min_three max_four min_four   -- for this text's walks alone
set_option linter.unusedVariables false
set_option linter.unusedSimpArgs false


/-! ### slices.IndexFunc[[]loop.example/lamson/impl.Field,loop.example/lamson/impl.Field]: function 67 -/
/-- slices.IndexFunc by a test that may not tell. -/
def idxO (F : S32 → Option Bool) : List S32 → Int → Option Int
  | [], _ => some (-1)
  | x :: l, i => (F x).bind fun t => if t = true then some i else idxO F l (i + 1)
theorem idxO_mono {F G : S32 → Option Bool} (h : ∀ x, LeO (F x) (G x)) : ∀ l i, LeO (idxO F l i) (idxO G l i)
  | [], _ => LeO.refl _
  | x :: l, i => by
    unfold idxO
    refine LeO.bind (h x) (fun t => ?_)
    exact LeO.ite (LeO.refl _) (idxO_mono h l (i + 1))
theorem rd_drop (l : List S32) (i : Nat) (h : i < l.length) : l.drop i = rd_T32 l (i : Int) :: l.drop (i + 1) := by
  rw [List.drop_eq_getElem_cons h]
  congr 1
  unfold rd_T32
  rw [List.getD_eq_getElem?_getD, Int.toNat_natCast, List.getElem?_eq_getElem h]
  rfl
set_option maxHeartbeats 8000000 in
set_option maxRecDepth 100000 in
theorem slices_IndexFunc.at (F : S32 → Option Bool) (g : Nat) (lb : Array Value) (eg : ∀ args w, (callFunc g args).run Try.prog w = .ok (.enter g args) w) (A0 : Option Addr) (c0 : Nat) (l0 : List S32) (r : Int) (w : World)
    (hr0 : Kd.C k32 w A0 l0.length l0) (hbig : l0.length ≤ 9223372036854775806)
    (hp : ∀ W (x : S32) t, Below w.heap.size w W → F x = some t → Calls Try.prog g (#[.agg #[.string x.f0, .string x.f1, .bool x.f2]] ++ lb) W fun e w' => e = .returned (.bool t) ∧ Below w.heap.size w w')
    (h : idxO F l0 0 = some r) :
    Calls Try.prog 67 #[.slice A0 l0.length c0, .func (.func g) #[] lb] w fun e w' => e = .returned (.int .i64 r) ∧ Below w.heap.size w w' := by
  have hu32 := Try.underlying32
  have HR0 := Aside0.mk hr0
  have HP := Aside0.mk hp
  have HG := Aside0.mk hbig
  have H' := Aside0.mk h
  clear hr0 hp h hbig
  go_enter Try.func67, Try.ntmps67
  go_wp2
  go_loopg [5, 8] l0.length (fun kq _ v8 w' => ∃ (x : Int) (i : Nat), v8 = .int .i64 x ∧ Aside0 (x = (i : Int)) ∧ i ≤ l0.length ∧ l0.length - i ≤ kq ∧ Aside0 (idxO F (l0.drop i) i = some r) ∧ Aside0 (Below w.heap.size w w'))
  case atStart => exact ⟨0, 0, rfl, ⟨rfl⟩, Nat.zero_le _, by omega, H', ⟨Below.refl _ w⟩⟩
  case round =>
    clear H'
    obtain ⟨x, i, rfl, HX, hi, hm, HA, HB⟩ := hrel
    have BG := HG.out
    by_cases hlt : i < l0.length
    · have p108 : 0 ≤ x := by have := HX.out; omega
      have q108 : x < (l0.length : Int) := by have := HX.out; omega
      have H := HA.out
      clear HA
      rw [rd_drop l0 i hlt] at H
      rw [← HX.out] at H
      unfold idxO at H
      replace H := Option.bind_eq_some_iff.mp H
      obtain ⟨t, A40, H⟩ := H
      have A4 := Aside0.mk A40
      clear A40
      obtain ⟨ad108, e108, hx108_0, hx108_1, hx108_2⟩ := at_T32 HR0.out x p108 q108
      cases e108
      replace hx108_0 := (HB.out.cell (World.block_lt_of_cell? w _ hx108_0)).trans hx108_0
      replace hx108_1 := (HB.out.cell (World.block_lt_of_cell? w _ hx108_1)).trans hx108_1
      replace hx108_2 := (HB.out.cell (World.block_lt_of_cell? w _ hx108_2)).trans hx108_2
      have q108d : decide (x < (l0.length : Int)) = true := decide_eq_true q108
      have p108d : decide (0 ≤ x) = true := decide_eq_true p108
      replace p108 := eq_true p108
      replace q108 := eq_true q108
      cases t with
      | true =>
        have H1 : some x = some r := by rw [if_pos rfl] at H; exact H
        obtain rfl := Option.some.inj H1
        clear H H1
        have hcall := HP.out _ (rd_T32 l0 x) true HB.out A4.out
        go_wp2
        refine hcall.mono ?_
        rintro e w' ⟨rfl, hb'⟩
        go_wp2
        go_ret
        exact ⟨rfl, hb'⟩
      | false =>
        have H1 : idxO F (l0.drop (i + 1)) (x + 1) = some r := by rw [if_neg (by decide)] at H; exact H
        clear H
        have e1 : x + 1 = ((i + 1 : Nat) : Int) := by have := HX.out; omega
        have e2 : wrap64 (x + 1) = x + 1 := by have := HX.out; unfold wrap64; omega
        have E2 := Aside0.mk e2
        have E1 := Aside0.mk e1
        rw [e1] at H1
        have H' := Aside0.mk H1
        clear e1 e2
        clear H1
        have hcall := HP.out _ (rd_T32 l0 x) false HB.out A4.out
        go_wp2
        refine hcall.mono ?_
        rintro e w' ⟨rfl, hb'⟩
        go_wp2
        go_roundg (l0.length - (i + 1))
        case measure => omega
        case rel => exact ⟨x + 1, i + 1, by rw [E2.out], E1, by omega, by omega, H', ⟨hb'⟩⟩
    · have q108 : ¬ (x < (l0.length : Int)) := by have := HX.out; omega
      have q108d : decide (x < (l0.length : Int)) = false := decide_eq_false q108
      have H := HA.out
      clear HA
      rw [List.drop_eq_nil_of_le (by omega)] at H
      have H1 : some (-1 : Int) = some r := H
      obtain rfl := Option.some.inj H1
      clear H H1
      go_wp2
      go_ret
      exact ⟨rfl, HB.out⟩

end Go.Proofs.Ytgahnhncmjgenaa.X
