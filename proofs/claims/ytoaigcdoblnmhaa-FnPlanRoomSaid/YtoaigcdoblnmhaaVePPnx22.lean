import Derived.Test.YtoaigcdoblnmhaaVePPnx0
import Derived.Test.YtoaigcdoblnmhaaVePPnx8
import Derived.Test.YtoaigcdoblnmhaaVePPnx10
namespace Go.Proofs.Ytoaigcdoblnmhaa.PPn
open Go.RowKit Go.Proofs.YtoaigcdoblnmhaaW.PrintWords Go.Proofs.YtoaigcdoblnmhaaW.PrintLast Go.Proofs.YtoaigcdoblnmhaaW.PrintMore
attribute [local go_sem] max2_int min2_int max_two min_two max_three min_three max_four min_four
set_option linter.unusedVariables false
set_option linter.unusedSimpArgs false

-- HAND rounds=0 making=1
theorem clo95 (x : Int) (W : World) : Calls Try.prog 65 #[.int .i64 x] W fun e w' => e = .returned (.bool (!decide (0 ≤ x ∧ x ≤ 3))) ∧ Drawn0 W w' := by
 have hcon := impl_within.calls x 0 3 _ W (within_f x 0 3)
 generalize decide (0 ≤ x ∧ x ≤ 3) = b at hcon ⊢
 go_enter Try.func65, Try.ntmps65
 go_wp2_with (go_at_call 64; refine hcon.mono ?_; rintro e w' ⟨rfl, ⟨nd, rfl⟩⟩)
 go_ret
 exact ⟨rfl, ⟨_, rfl⟩⟩
def impl_KitchenValid.f (a0_0 : Int) (l0_1 : List Int) : Option Bool := some (decide (0 ≤ a0_0 ∧ a0_0 ≤ 9) && (decide (l0_1.length = 4) && !(l0_1.any fun x => !decide (0 ≤ x ∧ x ≤ 3))))
set_option maxHeartbeats 8000000 in
set_option maxRecDepth 100000 in
theorem impl_KitchenValid.calls (a0_0 : Int) (A0_1 : Option Addr) (c0_1 : Nat) (l0_1 : List Int) (r : Bool) (w : World) (hr0_1 : Kd.C kI_q w A0_1 l0_1.length l0_1) (hc0_1 : l0_1.length ≤ c0_1) (h : impl_KitchenValid.f a0_0 l0_1 = some r) :
    Calls Try.prog 44 #[.agg #[.int .i64 a0_0, .slice A0_1 l0_1.length c0_1]] w fun e w' => e = .returned (.bool r) ∧ Below w.heap.size w w' := by
 unfold impl_KitchenValid.f at h
 have eg : ∀ args w, (callFunc 65 args).run Try.prog w = .ok (.enter 65 args) w := enters_of Try.func65 (by kernel_rfl) rfl
 have hf := fun (W : World) (hb : Below w.heap.size w W) => cof_calls (fun x => !decide (0 ≤ x ∧ x ≤ 3)) 65 eg A0_1 c0_1 l0_1 W clo95 (cB_q hr0_1 hb)
 have hs := fun (W : World) => impl_within.calls a0_0 0 9 _ W (within_f a0_0 0 9)
 have hl0 : (l0_1.length : Int) ≤ 9223372036854775807 := by have := hr0_1.2.1; omega
 obtain rfl := oI_q h
 clear h hr0_1
 generalize (l0_1.any fun x => !decide (0 ≤ x ∧ x ≤ 3)) = b at hf ⊢
 generalize decide (0 ≤ a0_0 ∧ a0_0 ≤ 9) = t at hs ⊢
 have hb0 : ∀ (o : Obj) (q : Nat), Below w.heap.size w ((w.alloc o).drewN q) := fun o q => pB_q (bA_q (bR_q _ _) o) q
 cases t with
 | false =>
  go_enter Try.func44, Try.ntmps44
  go_wp2_with (go_at_call 64; refine (hs _).mono ?_; rintro e w' ⟨rfl, ⟨nd, rfl⟩⟩)
  go_ret
  exact ⟨rfl, hb0 _ _⟩
 | true =>
  by_cases hl : l0_1.length = 4
  ·have e0 : decide (l0_1.length = 4) = true := dT_q hl
   rw [e0]
   simp only [hl] at hf ⊢
   clear hl e0 hl0
   cases b with
   | false =>
    go_enter Try.func44, Try.ntmps44
    go_wp2_with (first | (go_at_call 64; refine (hs _).mono ?_; rintro e w' ⟨rfl, ⟨nd, rfl⟩⟩) | (go_at_call 59; refine (hf _ (hb0 _ _)).mono ?_; rintro e w' ⟨rfl, q, rfl⟩))
    go_ret
    exact ⟨rfl, hb0 _ _⟩
   | true =>
    go_enter Try.func44, Try.ntmps44
    go_wp2_with (first | (go_at_call 64; refine (hs _).mono ?_; rintro e w' ⟨rfl, ⟨nd, rfl⟩⟩) | (go_at_call 59; refine (hf _ (hb0 _ _)).mono ?_; rintro e w' ⟨rfl, q, rfl⟩))
    go_ret
    exact ⟨rfl, hb0 _ _⟩
  have hlz : ¬ (l0_1.length : Int) = 4 := by omega
  have e0 : decide (l0_1.length = 4) = false := dF_q hl
  rw [e0]
  go_enter Try.func44, Try.ntmps44
  go_wp2_with (go_at_call 64; refine (hs _).mono ?_; rintro e w' ⟨rfl, ⟨nd, rfl⟩⟩)
  go_ret
  exact ⟨rfl, hb0 _ _⟩

end Go.Proofs.Ytoaigcdoblnmhaa.PPn
