import Derived.Test.YtfnpiacmlahegaaVSPRpx0
import Derived.Test.YtfnpiacmlahegaaVSPRpx3
import Derived.Test.YtfnpiacmlahegaaVSPRpx15
import Derived.Deep.LoopGhost
import Derived.Deep.Draws
import Derived.Lib.SlBy
import Derived.Lib.Walk
import Derived.WalkKit
import Derived.IntWalk
import Derived.Shelf.Abstract
namespace Go.Proofs.Ytfnpiacmlahegaa.PRp
open Go.RowKit Go.Proofs.YtfnpiacmlahegaaW.PrintWords Go.Proofs.YtfnpiacmlahegaaW.PrintLast Go.Proofs.YtfnpiacmlahegaaW.PrintMore
attribute [local go_sem] max2_int min2_int max_two min_two max_three min_three max_four min_four
set_option linter.unusedVariables false
set_option linter.unusedSimpArgs false

-- HANDIMPORT Derived.Deep.LoopGhost
-- HANDIMPORT Derived.Deep.Draws
-- HANDIMPORT Derived.Lib.SlBy
-- HANDIMPORT Derived.Lib.Walk
-- HANDIMPORT Derived.WalkKit
-- HANDIMPORT Derived.IntWalk
-- HANDIMPORT Derived.Shelf.Abstract
-- HAND rounds=1 making=1
theorem st88 (x : Int) (W : World) : Calls Try.prog 58 #[.int .i64 x] W fun e w' => e = .returned (.bool (decide (0 ≤ x ∧ x ≤ 999))) ∧ Drawn0 W w' := by
 have hcon := impl_within.calls x 0 999 _ W (within_f x 0 999)
 generalize decide (0 ≤ x ∧ x ≤ 999) = b at hcon ⊢
 go_enter Try.func58, Try.ntmps58
 go_wp2_with (go_at_call 63; refine hcon.mono ?_; rintro e w' ⟨rfl, ⟨nd, rfl⟩⟩)
 go_ret
 exact ⟨rfl, ⟨_, rfl⟩⟩
theorem clo90 (x : Int) (W : World) : Calls Try.prog 61 #[.int .i64 x] W fun e w' => e = .returned (.bool (!decide (0 ≤ x ∧ x ≤ 999))) ∧ Drawn0 W w' := by
 have hcon := st88 x W
 generalize decide (0 ≤ x ∧ x ≤ 999) = b at hcon ⊢
 go_enter Try.func61, Try.ntmps61
 go_wp2_with (go_at_call 58; refine hcon.mono ?_; rintro e w' ⟨rfl, ⟨nd, rfl⟩⟩)
 go_ret
 exact ⟨rfl, ⟨_, rfl⟩⟩
def impl_startsValid.f (k : Nat) (l0 : List S63) (l1 : List Int) : Option Bool := (impl_StepsValid.f k l0).bind fun t => some (t && (decide (l1.length = l0.length) && !(l1.any fun x => !decide (0 ≤ x ∧ x ≤ 999))))
set_option maxHeartbeats 8000000 in
set_option maxRecDepth 100000 in
theorem impl_startsValid.calls (k : Nat) (A0 : Option Addr) (c0 : Nat) (l0 : List (S63)) (A1 : Option Addr) (c1 : Nat) (l1 : List Int) (r : Bool) (w : World) (hr0 : Kd.C k63 w A0 l0.length l0) (hc0 : l0.length ≤ c0) (hr1 : Kd.C kI_q w A1 l1.length l1) (hc1 : l1.length ≤ c1) (h : impl_startsValid.f k l0 l1 = some r) :
    Calls Try.prog 38 #[.slice A0 l0.length c0, .slice A1 l1.length c1] w fun e w' => e = .returned (.bool r) ∧ Below w.heap.size w w' := by
 unfold impl_startsValid.f at h
 obtain ⟨t, h1, h2⟩ := oB_q.mp h
 have hs := impl_StepsValid.calls k A0 c0 l0 t w hr0 hc0 h1
 have eg : ∀ args w, (callFunc 61 args).run Try.prog w = .ok (.enter 61 args) w := enters_of Try.func61 m7_q rfl
 have hf := fun (W : World) (hb : Below w.heap.size w W) => cof_calls (fun x => !decide (0 ≤ x ∧ x ≤ 999)) 61 eg A1 c1 l1 W clo90 (cB_q hr1 hb)
 have hl0 : (l0.length : Int) ≤ 9223372036854775807 := by have := hr0.2.1; omega
 have hl1 : (l1.length : Int) ≤ 9223372036854775807 := by have := hr1.2.1; omega
 obtain rfl := oI_q h2
 clear h h1 h2 hr0 hr1
 generalize (l1.any fun x => !decide (0 ≤ x ∧ x ≤ 999)) = b at hf ⊢
 cases t with
 | false =>
  go_enter Try.func38, Try.ntmps38
  go_wp2_with (go_at_call 48; refine hs.mono ?_; rintro e w' ⟨rfl, hb⟩)
  go_ret
  exact ⟨rfl, hb⟩
 | true =>
  by_cases hl : l1.length = l0.length
  rotate_left
  ·have hlz : ¬ (l1.length : Int) = (l0.length : Int) := by omega
   have e0 : decide (l1.length = l0.length) = false := dF_q hl
   rw [e0]
   go_enter Try.func38, Try.ntmps38
   go_wp2_with (go_at_call 48; refine hs.mono ?_; rintro e w' ⟨rfl, hb⟩)
   go_ret
   exact ⟨rfl, hb⟩
  have e0 : decide (l1.length = l0.length) = true := dT_q hl
  rw [e0]
  simp only [hl] at hf ⊢
  clear hl e0 hl1
  cases b with
  | false =>
   go_enter Try.func38, Try.ntmps38
   go_wp2_with (first | (go_at_call 48; refine hs.mono ?_; rintro e w' ⟨rfl, hb⟩) | (go_at_call 60; refine (hf _ (by assumption)).mono ?_; rintro e w' ⟨rfl, q, rfl⟩))
   go_ret
   exact ⟨rfl, pB_q hb _⟩
  | true =>
   go_enter Try.func38, Try.ntmps38
   go_wp2_with (first | (go_at_call 48; refine hs.mono ?_; rintro e w' ⟨rfl, hb⟩) | (go_at_call 60; refine (hf _ (by assumption)).mono ?_; rintro e w' ⟨rfl, q, rfl⟩))
   go_ret
   exact ⟨rfl, pB_q hb _⟩

end Go.Proofs.Ytfnpiacmlahegaa.PRp
