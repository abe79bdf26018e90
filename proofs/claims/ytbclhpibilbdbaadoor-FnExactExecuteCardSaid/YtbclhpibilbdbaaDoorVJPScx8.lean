import Derived.Test.YtbclhpibilbdbaaDoorVJPScx0
import Derived.Test.YtbclhpibilbdbaaDoorVJPScx4
import Derived.Test.YtbclhpibilbdbaaDoorVJWGw
namespace Go.Proofs.YtbclhpibilbdbaaDoor.PSc
open Go.RowKit Go.Proofs.YtbclhpibilbdbaaDoorW.PrintWords Go.Proofs.YtbclhpibilbdbaaDoorW.PrintLast Go.Proofs.YtbclhpibilbdbaaDoorW.PrintMore
attribute [local go_sem] max2_int min2_int max_two min_two max_three min_three max_four min_four
set_option linter.unusedVariables false
set_option linter.unusedSimpArgs false

-- HAND rounds=0 making=1
-- HANDIMPORT Derived.Test.YtbclhpibilbdbaaDoorWGw
def impl_commandNumber.b (a0 : ByteArray) (v : Int) : Bool := decide (0 ≤ v) && (decide (a0.size ≤ 4) && ((Lib.itoa v) == a0.toList))
def impl_commandNumber.f (a0 : ByteArray) : Option (Int × Bool) := if a0.size ≤ 140737488355328 then (match Lib.atoiAll a0.data.toList with
 | .ok v => some (v, impl_commandNumber.b a0 v)
 | Lib.NumEnd.syntax => some (0, false)
 | .range => some (Lib.atoiSat a0.data.toList, false)) else none
theorem atoi_any (s : ByteArray) (w : World) (hs : s.size ≤ 140737488355328) (hG : Sh.GW w) : Calls Tryd.prog 44 #[.string s] w fun e w' => (match Lib.atoiAll s.data.toList with
    | .ok v => e = .returned (.tuple #[.int .i64 v, .nilIface])
    | Lib.NumEnd.syntax => ∃ p, e = .returned (.tuple #[.int .i64 0, .iface 86 p])
    | .range => ∃ p, e = .returned (.tuple #[.int .i64 (Lib.atoiSat s.data.toList), .iface 86 p])) ∧ Below w.heap.size w w' := by
 obtain ⟨_, _, ⟨tp, p, h1⟩, ⟨tq, q, h2⟩⟩ := hG.here
 cases hc : Lib.atoiAll s.data.toList with
 | ok v =>
  refine (Sh.strconv_Atoi_ok s (by omega) v hc w).mono ?_
  rintro e w' ⟨rfl, h⟩
  refine ⟨rfl, ?_⟩
  rcases h with rfl | ⟨t, rfl⟩
  ·exact bR_q _ _
  exact Lib.bytesWorld_below _ _ _
 | range =>
  refine (Sh.strconv_Atoi_range_var s (by omega) hc tq q w h2).mono ?_
  rintro e w' ⟨N, rfl, _, _, hb⟩
  exact ⟨⟨_, rfl⟩, hb⟩
 | _ =>
  refine (Sh.strconv_Atoi_syntax_var s (by omega) hc tp p w h1).mono ?_
  rintro e w' ⟨N, rfl, _, _, hb⟩
  exact ⟨⟨_, rfl⟩, hb⟩
set_option maxHeartbeats 4000000 in
set_option maxRecDepth 100000 in
theorem impl_commandNumber.calls (a0 : ByteArray) (r1 : Int) (r2 : Bool) (w : World) (h : impl_commandNumber.f a0 = some (r1, r2)) (hG : Sh.GW w) :
    Calls Tryd.prog 29 #[.string a0] w fun e w' => e = .returned (.tuple #[.int .i64 r1, .bool r2]) ∧ Below w.heap.size w w' := by
 unfold impl_commandNumber.f at h
 by_cases hs : a0.size ≤ 140737488355328
 rotate_left
 ·rw [if_neg hs] at h; cases h
 rw [if_pos hs] at h
 have hA := atoi_any a0 w hs hG
 have hI : ∀ v w1, -9223372036854775808 ≤ v ∧ v ≤ 9223372036854775807 → Below w.heap.size w w1 → Calls Tryd.prog 33 #[.int .i64 v] w1 fun e w' => e = .returned (.string ⟨(Lib.itoa v).toArray⟩) ∧ Below w1.heap.size w1 w' := fun v w1 hv hb => strconv_Itoa_33.calls v _ w1 (by unfold strconv_Itoa_33.f; rw [if_pos hv]) (hG.on hb)
 cases hc : Lib.atoiAll a0.data.toList with
 | ok v =>
  rw [hc] at h hA
  obtain ⟨rfl, rfl⟩ := Prod.mk.inj (oI_q h)
  simp only at hA
  have hv := Lib.atoiAll_bounds hc
  replace hI := fun w1 => hI v w1 (by omega)
  clear h hc hv
  by_cases h0 : 0 ≤ v
  rotate_left
  ·have h0b : decide (0 ≤ v) = false := dF_q h0
   have hB : impl_commandNumber.b a0 v = false := by unfold impl_commandNumber.b; rw [h0b]; rfl
   rw [hB]
   clear hB
   go_enter Tryd.func29, Tryd.ntmps29
   go_wp2_with (first | (go_at_call 44; refine hA.mono ?_; rintro e w1 ⟨rfl, hb1⟩) | (go_at_call 33; refine (hI _ hb1).mono ?_; rintro e w' ⟨rfl, hb2⟩))
   go_ret2
   exact ⟨rfl, hb1⟩
  have h0b : decide (0 ≤ v) = true := dT_q h0
  by_cases h4 : a0.size ≤ 4
  rotate_left
  ·have h4b : decide ((a0.size : Int) ≤ 4) = false := dF_q (by omega)
   have hB : impl_commandNumber.b a0 v = false := by unfold impl_commandNumber.b; rw [h0b, dF_q h4]; rfl
   rw [hB]
   clear hB
   go_enter Tryd.func29, Tryd.ntmps29
   go_wp2_with (first | (go_at_call 44; refine hA.mono ?_; rintro e w1 ⟨rfl, hb1⟩) | (go_at_call 33; refine (hI _ hb1).mono ?_; rintro e w' ⟨rfl, hb2⟩))
   go_ret2
   exact ⟨rfl, hb1⟩
  have h4b : decide ((a0.size : Int) ≤ 4) = true := dT_q (by omega)
  have hB : impl_commandNumber.b a0 v = (Lib.itoa v == a0.toList) := by unfold impl_commandNumber.b; rw [h0b, dT_q h4]; rfl
  rw [hB]
  clear hB
  go_enter Tryd.func29, Tryd.ntmps29
  go_wp2_with (first | (go_at_call 44; refine hA.mono ?_; rintro e w1 ⟨rfl, hb1⟩) | (go_at_call 33; refine (hI _ hb1).mono ?_; rintro e w' ⟨rfl, hb2⟩))
  go_ret2
  exact ⟨rfl, hb1.trans (hb2.mono hb1.size)⟩
 | range =>
  rw [hc] at h hA
  obtain ⟨rfl, rfl⟩ := Prod.mk.inj (oI_q h)
  simp only at hA
  clear h hc hI
  generalize Lib.atoiSat a0.data.toList = q at hA ⊢
  go_enter Tryd.func29, Tryd.ntmps29
  go_wp2_with (go_at_call 44; refine hA.mono ?_; rintro e w1 ⟨⟨p, rfl⟩, hb1⟩)
  go_ret2
  exact ⟨rfl, hb1⟩
 | _ =>
  rw [hc] at h hA
  obtain ⟨rfl, rfl⟩ := Prod.mk.inj (oI_q h)
  simp only at hA
  clear h hc hI
  go_enter Tryd.func29, Tryd.ntmps29
  go_wp2_with (go_at_call 44; refine hA.mono ?_; rintro e w1 ⟨⟨p, rfl⟩, hb1⟩)
  go_ret2
  exact ⟨rfl, hb1⟩

end Go.Proofs.YtbclhpibilbdbaaDoor.PSc
