import Derived.Test.YtbclhpibilbdbaaDoorVJPScx0
import Derived.Test.YtbclhpibilbdbaaDoorVJWGw
namespace Go.Proofs.YtbclhpibilbdbaaDoor.PSc
open Go.RowKit Go.Proofs.YtbclhpibilbdbaaDoorW.PrintWords Go.Proofs.YtbclhpibilbdbaaDoorW.PrintLast Go.Proofs.YtbclhpibilbdbaaDoorW.PrintMore
attribute [local go_sem] max2_int min2_int max_two min_two max_three min_three max_four min_four
set_option linter.unusedVariables false
set_option linter.unusedSimpArgs false

-- HAND rounds=0 making=1
-- HANDIMPORT Derived.Test.YtbclhpibilbdbaaDoorWGw
def strings_Split.f (a0 : ByteArray) (a1 : ByteArray) : Option (List ByteArray) := if 1 ≤ a1.size ∧ a0.size < 4294967281 then some (Lib.splitB a1 0 (Lib.countB a0 a1) a0) else none
theorem strings_Split.calls (a0 : ByteArray) (a1 : ByteArray) (r : List ByteArray) (w : World) (h : strings_Split.f a0 a1 = some r) (hG : Sh.GW w) :
    Calls Tryd.prog 21 #[.string a0, .string a1] w fun e w' => ∃ v0_ : Value, e = .returned (v0_) ∧ Kd.R Kd.string 9 w' w.heap.size (fun _ => True) v0_ r ∧ Below w.heap.size w w' := by
 unfold strings_Split.f at h
 by_cases hc : 1 ≤ a1.size ∧ a0.size < 4294967281
 rotate_left
 ·rw [if_neg hc] at h; cases h
 rw [if_pos hc] at h
 obtain ⟨⟨m, hm⟩, _⟩ := hG.here
 have hlen := Lib.splitB_all a1 hc.1 0 _ a0 rfl
 have hle := Lib.countB_le a1 hc.1 a0.size a0 (nR_q _)
 obtain rfl := oI_q h
 refine (Sh.strings_Split a0 a1 m w hc.2 hm hc.1).mono ?_
 rintro e w' ⟨rfl, rfl⟩
 rw [← hlen]
 exact ⟨_, rfl, Sh.row_strings w _ (by unfold maxLen; rw [hlen]; omega), bA_q (bR_q _ _) _⟩

end Go.Proofs.YtbclhpibilbdbaaDoor.PSc
