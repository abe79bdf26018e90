import Derived.Test.YtoaigcdoblnmhaaVdPPnx0
import Derived.Test.YtoaigcdoblnmhaaVdPPnx3
import Derived.Test.YtoaigcdoblnmhaaVdPPnx11
import Derived.Test.YtoaigcdoblnmhaaVdPPnx14
import Derived.Test.YtoaigcdoblnmhaaVdPPnx20
import Derived.Test.YtoaigcdoblnmhaaVdPPnx23
import Derived.Test.YtoaigcdoblnmhaaVdPPnx26
namespace Go.Proofs.Ytoaigcdoblnmhaa.PPn
open Go.RowKit Go.Proofs.YtoaigcdoblnmhaaW.PrintWords Go.Proofs.YtoaigcdoblnmhaaW.PrintLast Go.Proofs.YtoaigcdoblnmhaaW.PrintMore
attribute [local go_sem] max2_int min2_int max_two min_two max_three min_three max_four min_four
set_option linter.unusedVariables false
set_option linter.unusedSimpArgs false

mutual
def laws_FnPlanOnly.j0 : Nat → List (S31) → List Int → Bool → Bool → Bool → Int → List Int → Option (Bool)
 | 0, _, _, _, _, _, _, _ => none
 | k + 1, x3, x5, x6, x7, x45, x664000, x664001 => if x45 = true then (some (x6 == x7)) else (laws_FnPlanOnly.l0 k x3 x5 x6 true 0 x664000 x664001)
def laws_FnPlanOnly.l0 : Nat → List (S31) → List Int → Bool → Bool → Int → Int → List Int → Option (Bool)
 | 0, _, _, _, _, _, _, _ => none
 | k + 1, x3, x5, x6, x8, x9, x664000, x664001 => if x9 < (x3.length : Int) then (laws_FnPlanOnly.l1 k x3 x5 x6 x8 x9 0 x664000 x664001) else (some (x6 == x8))
def laws_FnPlanOnly.l1 : Nat → List (S31) → List Int → Bool → Bool → Int → Int → Int → List Int → Option (Bool)
 | 0, _, _, _, _, _, _, _, _ => none
 | k + 1, x3, x5, x6, x8, x9, x10, x664000, x664001 => if 0 ≤ x9 then (if x9 < (x3.length : Int) then (if x10 < (((rd_T31 x3 x9).f3).length : Int) then (if 0 ≤ x10 then (if x8 = true then (if 0 ≤ (rd ((rd_T31 x3 x9).f3) x10) then (if (rd ((rd_T31 x3 x9).f3) x10) < (x5.length : Int) then (if (rd ((rd_T31 x3 x9).f3) x10) < (x3.length : Int) then (if x9 < (x5.length : Int) then (laws_FnPlanOnly.l1 k x3 x5 x6 (decide ((wrap64 ((rd x5 (rd ((rd_T31 x3 x9).f3) x10)) + ((rd_T31 x3 (rd ((rd_T31 x3 x9).f3) x10)).f0))) ≤ (rd x5 x9))) x9 (wrap64 (x10 + 1)) x664000 x664001) else (none)) else (none)) else (none)) else (none)) else (laws_FnPlanOnly.l1 k x3 x5 x6 false x9 (wrap64 (x10 + 1)) x664000 x664001)) else (none)) else (if x9 < (x5.length : Int) then ((impl_PlanUse.f k x3 x5 (rd x5 x9)).bind fun bt675 => (if x8 = true then (laws_FnPlanOnly.j3 k x3 x5 x6 (decide (bt675.1 ≤ x664000)) x9 bt675.2 x664000 x664001) else (laws_FnPlanOnly.j3 k x3 x5 x6 false x9 bt675.2 x664000 x664001))) else (none))) else (none)) else (none)
def laws_FnPlanOnly.j3 : Nat → List (S31) → List Int → Bool → Bool → Int → List Int → Int → List Int → Option (Bool)
 | 0, _, _, _, _, _, _, _, _ => none
 | k + 1, x3, x5, x6, x8, x9, x13, x664000, x664001 => laws_FnPlanOnly.l2 k x3 x5 x6 x8 x9 x13 0 x664000 x664001
def laws_FnPlanOnly.l2 : Nat → List (S31) → List Int → Bool → Bool → Int → List Int → Int → Int → List Int → Option (Bool)
 | 0, _, _, _, _, _, _, _, _, _ => none
 | k + 1, x3, x5, x6, x8, x9, x13, x14, x664000, x664001 => if x14 < (x13.length : Int) then (if x8 = true then (if 0 ≤ x14 then (if x14 < (x664001.length : Int) then (laws_FnPlanOnly.l2 k x3 x5 x6 (decide ((rd x13 x14) ≤ (rd x664001 x14))) x9 x13 (wrap64 (x14 + 1)) x664000 x664001) else (none)) else (none)) else (laws_FnPlanOnly.l2 k x3 x5 x6 false x9 x13 (wrap64 (x14 + 1)) x664000 x664001)) else (laws_FnPlanOnly.l0 k x3 x5 x6 x8 (wrap64 (x9 + 1)) x664000 x664001)
end
def laws_FnPlanOnly.f (k : Nat) (l0 : List Int) : Option (Bool) := if (l0.length : Int) > 1048576 then (some true) else ((spec_DrawPlanValid.f k l0).bind fun bt653 => ((impl_PlanValid.f k bt653.1 bt653.2.1 bt653.2.2.1 bt653.2.2.2).bind fun t664 => ((spec_PlanValid.f k bt653.1 bt653.2.1 bt653.2.2.1 bt653.2.2.2).bind fun t665 => (if (t664 != t665) = true then (laws_FnPlanOnly.j0 k bt653.1 bt653.2.2.2 t664 t665 true bt653.2.1 bt653.2.2.1) else ((spec_KitchenValid.f k bt653.2.1 bt653.2.2.1).bind fun t666 => (if t666 = true then ((spec_PlanEnd.f k bt653.1 bt653.2.2.2).bind fun t667 => (laws_FnPlanOnly.j0 k bt653.1 bt653.2.2.2 t664 t665 (decide (t667 < 0)) bt653.2.1 bt653.2.2.1)) else (laws_FnPlanOnly.j0 k bt653.1 bt653.2.2.2 t664 t665 true bt653.2.1 bt653.2.2.1)))))))
theorem laws_FnPlanOnly.mono_l : ∀ k, (∀ y0 y1 y2 y3 y4 y5 y6, LeO (laws_FnPlanOnly.j0 k y0 y1 y2 y3 y4 y5 y6) (laws_FnPlanOnly.j0 (k + 1) y0 y1 y2 y3 y4 y5 y6)) ∧ (∀ y0 y1 y2 y3 y4 y5 y6, LeO (laws_FnPlanOnly.l0 k y0 y1 y2 y3 y4 y5 y6) (laws_FnPlanOnly.l0 (k + 1) y0 y1 y2 y3 y4 y5 y6)) ∧ (∀ y0 y1 y2 y3 y4 y5 y6 y7, LeO (laws_FnPlanOnly.l1 k y0 y1 y2 y3 y4 y5 y6 y7) (laws_FnPlanOnly.l1 (k + 1) y0 y1 y2 y3 y4 y5 y6 y7)) ∧ (∀ y0 y1 y2 y3 y4 y5 y6 y7, LeO (laws_FnPlanOnly.j3 k y0 y1 y2 y3 y4 y5 y6 y7) (laws_FnPlanOnly.j3 (k + 1) y0 y1 y2 y3 y4 y5 y6 y7)) ∧ (∀ y0 y1 y2 y3 y4 y5 y6 y7 y8, LeO (laws_FnPlanOnly.l2 k y0 y1 y2 y3 y4 y5 y6 y7 y8) (laws_FnPlanOnly.l2 (k + 1) y0 y1 y2 y3 y4 y5 y6 y7 y8))
 | 0 => ⟨fun _ _ _ _ _ _ _ r h => by simp [laws_FnPlanOnly.j0] at h, fun _ _ _ _ _ _ _ r h => by simp [laws_FnPlanOnly.l0] at h, fun _ _ _ _ _ _ _ _ r h => by simp [laws_FnPlanOnly.l1] at h, fun _ _ _ _ _ _ _ _ r h => by simp [laws_FnPlanOnly.j3] at h, fun _ _ _ _ _ _ _ _ _ r h => by simp [laws_FnPlanOnly.l2] at h⟩
 | k + 1 => by
  obtain ⟨ih0, ih1, ih2, ih3, ih4⟩ := laws_FnPlanOnly.mono_l k
  refine ⟨?_, ?_, ?_, ?_, ?_⟩
  ·intro y0 y1 y2 y3 y4 y5 y6
   unfold laws_FnPlanOnly.j0
   repeat' first
   | (with_reducible exact ih0 _ _ _ _ _ _ _)
   | (with_reducible exact ih1 _ _ _ _ _ _ _)
   | (with_reducible exact ih2 _ _ _ _ _ _ _ _)
   | (with_reducible exact ih3 _ _ _ _ _ _ _ _)
   | (with_reducible exact ih4 _ _ _ _ _ _ _ _ _)
   | (with_reducible exact impl_PlanUse.mono _ _ _ _)
   | (with_reducible exact impl_PlanValid.mono _ _ _ _ _)
   | (with_reducible exact spec_DrawPlanValid.mono _ _)
   | (with_reducible exact spec_KitchenValid.mono _ _ _)
   | (with_reducible exact spec_PlanEnd.mono _ _ _)
   | (with_reducible exact spec_PlanValid.mono _ _ _ _ _)
   | (with_reducible exact lR_q _)
   | (with_reducible exact lO_q _)
   | (with_reducible refine lI_q ?_ ?_)
   | (with_reducible refine lB_q ?_ (fun _ => ?_))
   | exact ih0 _ _ _ _ _ _ _
   | exact ih1 _ _ _ _ _ _ _
   | exact ih2 _ _ _ _ _ _ _ _
   | exact ih3 _ _ _ _ _ _ _ _
   | exact ih4 _ _ _ _ _ _ _ _ _
   | exact impl_PlanUse.mono _ _ _ _
   | exact impl_PlanValid.mono _ _ _ _ _
   | exact spec_DrawPlanValid.mono _ _
   | exact spec_KitchenValid.mono _ _ _
   | exact spec_PlanEnd.mono _ _ _
   | exact spec_PlanValid.mono _ _ _ _ _
   | exact lO_q _
   | refine lI_q ?_ ?_
   | refine lB_q ?_ (fun _ => ?_)
  ·intro y0 y1 y2 y3 y4 y5 y6
   unfold laws_FnPlanOnly.l0
   repeat' first
   | (with_reducible exact ih0 _ _ _ _ _ _ _)
   | (with_reducible exact ih1 _ _ _ _ _ _ _)
   | (with_reducible exact ih2 _ _ _ _ _ _ _ _)
   | (with_reducible exact ih3 _ _ _ _ _ _ _ _)
   | (with_reducible exact ih4 _ _ _ _ _ _ _ _ _)
   | (with_reducible exact impl_PlanUse.mono _ _ _ _)
   | (with_reducible exact impl_PlanValid.mono _ _ _ _ _)
   | (with_reducible exact spec_DrawPlanValid.mono _ _)
   | (with_reducible exact spec_KitchenValid.mono _ _ _)
   | (with_reducible exact spec_PlanEnd.mono _ _ _)
   | (with_reducible exact spec_PlanValid.mono _ _ _ _ _)
   | (with_reducible exact lR_q _)
   | (with_reducible exact lO_q _)
   | (with_reducible refine lI_q ?_ ?_)
   | (with_reducible refine lB_q ?_ (fun _ => ?_))
   | exact ih0 _ _ _ _ _ _ _
   | exact ih1 _ _ _ _ _ _ _
   | exact ih2 _ _ _ _ _ _ _ _
   | exact ih3 _ _ _ _ _ _ _ _
   | exact ih4 _ _ _ _ _ _ _ _ _
   | exact impl_PlanUse.mono _ _ _ _
   | exact impl_PlanValid.mono _ _ _ _ _
   | exact spec_DrawPlanValid.mono _ _
   | exact spec_KitchenValid.mono _ _ _
   | exact spec_PlanEnd.mono _ _ _
   | exact spec_PlanValid.mono _ _ _ _ _
   | exact lO_q _
   | refine lI_q ?_ ?_
   | refine lB_q ?_ (fun _ => ?_)
  ·intro y0 y1 y2 y3 y4 y5 y6 y7
   unfold laws_FnPlanOnly.l1
   repeat' first
   | (with_reducible exact ih0 _ _ _ _ _ _ _)
   | (with_reducible exact ih1 _ _ _ _ _ _ _)
   | (with_reducible exact ih2 _ _ _ _ _ _ _ _)
   | (with_reducible exact ih3 _ _ _ _ _ _ _ _)
   | (with_reducible exact ih4 _ _ _ _ _ _ _ _ _)
   | (with_reducible exact impl_PlanUse.mono _ _ _ _)
   | (with_reducible exact impl_PlanValid.mono _ _ _ _ _)
   | (with_reducible exact spec_DrawPlanValid.mono _ _)
   | (with_reducible exact spec_KitchenValid.mono _ _ _)
   | (with_reducible exact spec_PlanEnd.mono _ _ _)
   | (with_reducible exact spec_PlanValid.mono _ _ _ _ _)
   | (with_reducible exact lR_q _)
   | (with_reducible exact lO_q _)
   | (with_reducible refine lI_q ?_ ?_)
   | (with_reducible refine lB_q ?_ (fun _ => ?_))
   | exact ih0 _ _ _ _ _ _ _
   | exact ih1 _ _ _ _ _ _ _
   | exact ih2 _ _ _ _ _ _ _ _
   | exact ih3 _ _ _ _ _ _ _ _
   | exact ih4 _ _ _ _ _ _ _ _ _
   | exact impl_PlanUse.mono _ _ _ _
   | exact impl_PlanValid.mono _ _ _ _ _
   | exact spec_DrawPlanValid.mono _ _
   | exact spec_KitchenValid.mono _ _ _
   | exact spec_PlanEnd.mono _ _ _
   | exact spec_PlanValid.mono _ _ _ _ _
   | exact lO_q _
   | refine lI_q ?_ ?_
   | refine lB_q ?_ (fun _ => ?_)
  ·intro y0 y1 y2 y3 y4 y5 y6 y7
   unfold laws_FnPlanOnly.j3
   repeat' first
   | (with_reducible exact ih0 _ _ _ _ _ _ _)
   | (with_reducible exact ih1 _ _ _ _ _ _ _)
   | (with_reducible exact ih2 _ _ _ _ _ _ _ _)
   | (with_reducible exact ih3 _ _ _ _ _ _ _ _)
   | (with_reducible exact ih4 _ _ _ _ _ _ _ _ _)
   | (with_reducible exact impl_PlanUse.mono _ _ _ _)
   | (with_reducible exact impl_PlanValid.mono _ _ _ _ _)
   | (with_reducible exact spec_DrawPlanValid.mono _ _)
   | (with_reducible exact spec_KitchenValid.mono _ _ _)
   | (with_reducible exact spec_PlanEnd.mono _ _ _)
   | (with_reducible exact spec_PlanValid.mono _ _ _ _ _)
   | (with_reducible exact lR_q _)
   | (with_reducible exact lO_q _)
   | (with_reducible refine lI_q ?_ ?_)
   | (with_reducible refine lB_q ?_ (fun _ => ?_))
   | exact ih0 _ _ _ _ _ _ _
   | exact ih1 _ _ _ _ _ _ _
   | exact ih2 _ _ _ _ _ _ _ _
   | exact ih3 _ _ _ _ _ _ _ _
   | exact ih4 _ _ _ _ _ _ _ _ _
   | exact impl_PlanUse.mono _ _ _ _
   | exact impl_PlanValid.mono _ _ _ _ _
   | exact spec_DrawPlanValid.mono _ _
   | exact spec_KitchenValid.mono _ _ _
   | exact spec_PlanEnd.mono _ _ _
   | exact spec_PlanValid.mono _ _ _ _ _
   | exact lO_q _
   | refine lI_q ?_ ?_
   | refine lB_q ?_ (fun _ => ?_)
  intro y0 y1 y2 y3 y4 y5 y6 y7 y8
  unfold laws_FnPlanOnly.l2
  repeat' first
  | (with_reducible exact ih0 _ _ _ _ _ _ _)
  | (with_reducible exact ih1 _ _ _ _ _ _ _)
  | (with_reducible exact ih2 _ _ _ _ _ _ _ _)
  | (with_reducible exact ih3 _ _ _ _ _ _ _ _)
  | (with_reducible exact ih4 _ _ _ _ _ _ _ _ _)
  | (with_reducible exact impl_PlanUse.mono _ _ _ _)
  | (with_reducible exact impl_PlanValid.mono _ _ _ _ _)
  | (with_reducible exact spec_DrawPlanValid.mono _ _)
  | (with_reducible exact spec_KitchenValid.mono _ _ _)
  | (with_reducible exact spec_PlanEnd.mono _ _ _)
  | (with_reducible exact spec_PlanValid.mono _ _ _ _ _)
  | (with_reducible exact lR_q _)
  | (with_reducible exact lO_q _)
  | (with_reducible refine lI_q ?_ ?_)
  | (with_reducible refine lB_q ?_ (fun _ => ?_))
  | exact ih0 _ _ _ _ _ _ _
  | exact ih1 _ _ _ _ _ _ _
  | exact ih2 _ _ _ _ _ _ _ _
  | exact ih3 _ _ _ _ _ _ _ _
  | exact ih4 _ _ _ _ _ _ _ _ _
  | exact impl_PlanUse.mono _ _ _ _
  | exact impl_PlanValid.mono _ _ _ _ _
  | exact spec_DrawPlanValid.mono _ _
  | exact spec_KitchenValid.mono _ _ _
  | exact spec_PlanEnd.mono _ _ _
  | exact spec_PlanValid.mono _ _ _ _ _
  | exact lO_q _
  | refine lI_q ?_ ?_
  | refine lB_q ?_ (fun _ => ?_)
theorem laws_FnPlanOnly.mono : ∀ a0 k, LeO (laws_FnPlanOnly.f k a0) (laws_FnPlanOnly.f (k + 1) a0) := by
 intro a0 k
 obtain ⟨ih0, ih1, ih2, ih3, ih4⟩ := laws_FnPlanOnly.mono_l k
 unfold laws_FnPlanOnly.f
 repeat' first
  | (with_reducible exact ih0 _ _ _ _ _ _ _)
  | (with_reducible exact ih1 _ _ _ _ _ _ _)
  | (with_reducible exact ih2 _ _ _ _ _ _ _ _)
  | (with_reducible exact ih3 _ _ _ _ _ _ _ _)
  | (with_reducible exact ih4 _ _ _ _ _ _ _ _ _)
  | (with_reducible exact impl_PlanUse.mono _ _ _ _)
  | (with_reducible exact impl_PlanValid.mono _ _ _ _ _)
  | (with_reducible exact spec_DrawPlanValid.mono _ _)
  | (with_reducible exact spec_KitchenValid.mono _ _ _)
  | (with_reducible exact spec_PlanEnd.mono _ _ _)
  | (with_reducible exact spec_PlanValid.mono _ _ _ _ _)
  | (with_reducible exact lR_q _)
  | (with_reducible exact lO_q _)
  | (with_reducible refine lI_q ?_ ?_)
  | (with_reducible refine lB_q ?_ (fun _ => ?_))
  | exact ih0 _ _ _ _ _ _ _
  | exact ih1 _ _ _ _ _ _ _
  | exact ih2 _ _ _ _ _ _ _ _
  | exact ih3 _ _ _ _ _ _ _ _
  | exact ih4 _ _ _ _ _ _ _ _ _
  | exact impl_PlanUse.mono _ _ _ _
  | exact impl_PlanValid.mono _ _ _ _ _
  | exact spec_DrawPlanValid.mono _ _
  | exact spec_KitchenValid.mono _ _ _
  | exact spec_PlanEnd.mono _ _ _
  | exact spec_PlanValid.mono _ _ _ _ _
  | exact lO_q _
  | refine lI_q ?_ ?_
  | refine lB_q ?_ (fun _ => ?_)
set_option maxHeartbeats 8000000 in
set_option maxRecDepth 100000 in
theorem laws_FnPlanOnly.calls (k : Nat) (A0 : Option Addr) (c0 : Nat) (l0 : List Int) (r : Bool) (w : World) (hr0 : Kd.C (Kd.int .u8) w A0 l0.length l0) (hc0 : l0.length ≤ c0) (h : laws_FnPlanOnly.f k l0 = some r) :
    Calls Try.prog 6 #[.slice A0 l0.length c0] w fun e w' => e = .returned (.bool r) ∧ Below w.heap.size w w' := by
 have hu41 := Try.underlying41
 have HR0 := Ae_q hr0
 have HC0 := Ae_q hc0
 clear hr0 hc0
 have HB := Ae_q (bR_q w.heap.size w)
 have H : (if (l0.length : Int) > 1048576 then (some true) else ((spec_DrawPlanValid.f k l0).bind fun bt653 => ((impl_PlanValid.f k bt653.1 bt653.2.1 bt653.2.2.1 bt653.2.2.2).bind fun t664 => ((spec_PlanValid.f k bt653.1 bt653.2.1 bt653.2.2.1 bt653.2.2.2).bind fun t665 => (if (t664 != t665) = true then (laws_FnPlanOnly.j0 k bt653.1 bt653.2.2.2 t664 t665 true bt653.2.1 bt653.2.2.1) else ((spec_KitchenValid.f k bt653.2.1 bt653.2.2.1).bind fun t666 => (if t666 = true then ((spec_PlanEnd.f k bt653.1 bt653.2.2.2).bind fun t667 => (laws_FnPlanOnly.j0 k bt653.1 bt653.2.2.2 t664 t665 (decide (t667 < 0)) bt653.2.1 bt653.2.2.1)) else (laws_FnPlanOnly.j0 k bt653.1 bt653.2.2.2 t664 t665 true bt653.2.1 bt653.2.2.1)))))))) = some r := h
 clear h
 by_cases c2 : (l0.length : Int) > 1048576
 ·rw [if_pos c2] at H
  have c2b0 : decide (1048576 < (l0.length : Int)) = true := dT_q c2
  have c2b1 : decide (1048576 < l0.length) = true := dT_q (by omega)
  clear c2
  obtain rfl := oI_q H
  go_enter Try.func6, Try.ntmps6
  go_wp2
  repeat (go_quiet (fail); try go_wp2)
  go_ret
  exact ⟨by first | rfl | (simp [eN_q, eS_q] <;> rfl) | (simp [*, eN_q, eS_q] <;> rfl), bel HB.out⟩
 rw [if_neg c2] at H
 have c2b0 : decide (1048576 < (l0.length : Int)) = false := dF_q c2
 have c2b1 : decide (1048576 < l0.length) = false := dF_q (by omega)
 clear c2
 replace H := oB_q.mp H
 obtain ⟨⟨t653, t656, t657, t660⟩, A30, H⟩ := H
 replace H : ((impl_PlanValid.f k t653 t656 t657 t660).bind fun t664 => ((spec_PlanValid.f k t653 t656 t657 t660).bind fun t665 => (if (t664 != t665) = true then (laws_FnPlanOnly.j0 k t653 t660 t664 t665 true t656 t657) else ((spec_KitchenValid.f k t656 t657).bind fun t666 => (if t666 = true then ((spec_PlanEnd.f k t653 t660).bind fun t667 => (laws_FnPlanOnly.j0 k t653 t660 t664 t665 (decide (t667 < 0)) t656 t657)) else (laws_FnPlanOnly.j0 k t653 t660 t664 t665 true t656 t657)))))) = some r := H
 have A3 := Ae_q A30
 clear A30
 replace H := oB_q.mp H
 obtain ⟨t664, A40, H⟩ := H
 replace H : ((spec_PlanValid.f k t653 t656 t657 t660).bind fun t665 => (if (t664 != t665) = true then (laws_FnPlanOnly.j0 k t653 t660 t664 t665 true t656 t657) else ((spec_KitchenValid.f k t656 t657).bind fun t666 => (if t666 = true then ((spec_PlanEnd.f k t653 t660).bind fun t667 => (laws_FnPlanOnly.j0 k t653 t660 t664 t665 (decide (t667 < 0)) t656 t657)) else (laws_FnPlanOnly.j0 k t653 t660 t664 t665 true t656 t657))))) = some r := H
 have A4 := Ae_q A40
 clear A40
 replace H := oB_q.mp H
 obtain ⟨t665, A50, H⟩ := H
 replace H : (if (t664 != t665) = true then (laws_FnPlanOnly.j0 k t653 t660 t664 t665 true t656 t657) else ((spec_KitchenValid.f k t656 t657).bind fun t666 => (if t666 = true then ((spec_PlanEnd.f k t653 t660).bind fun t667 => (laws_FnPlanOnly.j0 k t653 t660 t664 t665 (decide (t667 < 0)) t656 t657)) else (laws_FnPlanOnly.j0 k t653 t660 t664 t665 true t656 t657)))) = some r := H
 have A5 := Ae_q A50
 clear A50
 have HC6 := Ae_q H
 clear H
 go_enter Try.func6, Try.ntmps6
 go_upto_region 6 with (first | (go_at_call 24; (with_reducible refine (spec_DrawPlanValid.calls k _ _ l0 t653 t656 t657 t660 _ ?side1 ?side2 A3.out).mono ?_); (case side1 => repeat (first | exact HR0.out | (with_reducible refine cA_q ?_ _) | (with_reducible refine cN_q ?_ _) | (with_reducible refine cD_q ?_))); (case side2 => exact HC0.out); rintro e w7 ⟨v654, v658, v661, rfl, ho0, ho1, ho2, hb⟩; have n0_ := Ae_q (Kd.S_lower ho0 (bZ_q (bel HB.out))); have n1_ := Ae_q (rL_q ho1 (bZ_q (bel HB.out))); have n2_ := Ae_q (Kd.Q_lower ho2 (bZ_q (bel HB.out))); have n3_ := Ae_q (bT_q (bel HB.out) hb); clear HB; have HO655 := n0_; have HO659 := n1_; have HO662 := n2_; have HB := n3_; clear n0_ n1_ n2_ n3_; (try clear hb); (try clear hb2); (try clear hk); (try clear hi); (try clear ho0); (try clear ho1); (try clear ho2)) | ((with_reducible refine gD_q (N := 4) rfl ?_); refine bE_q ?hg (N := 4) ?hd (cs := #[.int .i64 0, .slice none 0 0]) (t := 41) ?hr ?_; (case hd => rfl); (case hg => rfl); (case hr => first | (go_simp; done) | (go_simp; rfl)); intro gb663 hg w8 hbox hb; have n0_ := Ae_q (Kd.S_below (by (with_reducible repeat (first | apply tA_q | apply tN_q | apply tD_q)); exact HO655.out) hb); have n1_ := Ae_q (rO_q (rup HO659.out) hb); have n2_ := Ae_q (Kd.Q_below (by (with_reducible repeat (first | apply Kd.Q_alloc | apply Kd.Q_drewN | apply Kd.Q_drew)); exact HO662.out) hb); have n3_ := Ae_q (bT_q (bel HB.out) hb); have n4_ := Ae_q (hbox); have n5_ := Ae_q ((by rw [hg]; exact (bZ_q (bel HB.out)) : w.heap.size ≤ gb663)); have n6_ := Ae_q ((by rw [hg]; exact (bZ_q (bel HB.out)) : w.heap.size ≤ gb663)); clear HO655; clear HO659; clear HO662; clear HB; have HO655 := n0_; have HO659 := n1_; have HO662 := n2_; have HB := n3_; have BK663 := n4_; have GW663 := n5_; have GE663 := n6_; clear n0_ n1_ n2_ n3_ n4_ n5_ n6_; clear hb hbox hg; have hcz9_0 : w8.cell? ⟨gb663, 0, none⟩ = some (.int .i64 0) := (bC_q BK663.out 0).trans rfl; have hcz9_1 : w8.cell? ⟨gb663, 1, none⟩ = some (.slice none 0 0) := (bC_q BK663.out 1).trans rfl; have hfz9_0 := bF_q BK663.out 0; have hfz9_1 := bF_q BK663.out 1; obtain ⟨Ao10, co10, eo10⟩ := rS_q HO659.out; subst eo10; obtain ⟨Ao11, co11, eo11⟩ := Kd.S_slice HO655.out; subst eo11; obtain ⟨Ao12, co12, eo12, _⟩ := Kd.Q_slice HO662.out; subst eo12) | (go_at_call 20; (with_reducible refine (impl_PlanValid.calls k _ _ t653 t656 _ _ t657 _ _ t660 t664 _ ?side1 ?side2 ?side3 ?side4 ?side5 ?side6 A4.out).mono ?_); (case side1 => refine (Kd.S_reads' (e := 31) (base := w.heap.size) (ok := fun k_ => (some k_ ≠ (.slice Ao10 t657.length co10 : Value).ownBlock ∧ some k_ ≠ (.slice Ao12 t660.length co12 : Value).ownBlock)) (n := t653.length) (c := co11) ?_).2.2; exact (by (with_reducible repeat (first | apply tA_q | apply tN_q | apply tD_q)); exact (Kd.S_mono (Kd.S_far (p := ⟨gb663, 1, none⟩) (Kd.S_far (p := ⟨gb663, 0, none⟩) (Kd.S_types HO655.out BK663.out (by decide)) (fun _ hk => hk.2) (.int .i64 t656)) (fun _ hk => hk.2) (.slice Ao10 t657.length co10)) (fun _ h_ => h_.1)))); (case side2 => exact (Kd.S_reads' HO655.out).2.1); (case side3 => refine (rR_q (e := 3) (base := w.heap.size) (ok := fun k_ => some k_ ≠ (.slice Ao12 t660.length co12 : Value).ownBlock) (n := t657.length) (c := co10) ?_).2.2; exact (by (with_reducible repeat (first | apply rA_q | apply rN_q | apply rD_q)); exact (rM_q (Kd.R_far (p := ⟨gb663, 1, none⟩) (Kd.R_far (p := ⟨gb663, 0, none⟩) (Kd.R_types HO659.out BK663.out (by decide)) (fun _ hk => hk.2) (.int .i64 t656)) (fun _ hk => hk.2) (.slice Ao10 t657.length co10)) (fun _ h_ => h_.1)))); (case side4 => exact (rR_q HO659.out).2.1); (case side5 => refine (Kd.Q_reads' (e := 3) (base := w.heap.size) (ok := fun k_ => some k_ ≠ (.slice Ao10 t657.length co10 : Value).ownBlock) (n := t660.length) (c := co12) ?_).2.2; exact (by (with_reducible repeat (first | apply Kd.Q_alloc | apply Kd.Q_drewN | apply Kd.Q_drew)); exact (Kd.Q_mono (Kd.Q_far (p := ⟨gb663, 1, none⟩) (Kd.Q_far (p := ⟨gb663, 0, none⟩) (Kd.Q_types HO662.out BK663.out (by decide)) (fun _ hk => hk.2) (.int .i64 t656)) (fun _ hk => hk.2) (.slice Ao10 t657.length co10)) (fun _ h_ => h_.1)))); (case side6 => exact (Kd.Q_reads' HO662.out).2.1); rintro e w13 ⟨rfl, hb⟩; have n0_ := Ae_q (Kd.S_below (by (with_reducible repeat (first | apply tA_q | apply tN_q | apply tD_q)); exact (Kd.S_mono (Kd.S_far (p := ⟨gb663, 1, none⟩) (Kd.S_far (p := ⟨gb663, 0, none⟩) (Kd.S_types HO655.out BK663.out (by decide)) (fun _ hk => hk.2) (.int .i64 t656)) (fun _ hk => hk.2) (.slice Ao10 t657.length co10)) (fun _ h_ => h_.1))) hb); have n1_ := Ae_q (rO_q (by (with_reducible repeat (first | apply rA_q | apply rN_q | apply rD_q)); exact (rM_q (Kd.R_far (p := ⟨gb663, 1, none⟩) (Kd.R_far (p := ⟨gb663, 0, none⟩) (Kd.R_types HO659.out BK663.out (by decide)) (fun _ hk => hk.2) (.int .i64 t656)) (fun _ hk => hk.2) (.slice Ao10 t657.length co10)) (fun _ h_ => h_.1))) hb); have n2_ := Ae_q (Kd.Q_below (by (with_reducible repeat (first | apply Kd.Q_alloc | apply Kd.Q_drewN | apply Kd.Q_drew)); exact (Kd.Q_mono (Kd.Q_far (p := ⟨gb663, 1, none⟩) (Kd.Q_far (p := ⟨gb663, 0, none⟩) (Kd.Q_types HO662.out BK663.out (by decide)) (fun _ hk => hk.2) (.int .i64 t656)) (fun _ hk => hk.2) (.slice Ao10 t657.length co10)) (fun _ h_ => h_.1))) hb); have n3_ := Ae_q (bB_q (g := gb663) (o := .cells #[.int .i64 t656, .slice Ao10 t657.length co10] 41 (0, 0)) (by (with_reducible repeat (first | refine bN_q ?_ _ | refine bW_q ?_ | refine bL_q ?_ _)); refine blk_put (cs := #[.int .i64 t656, .slice none 0 0]) ?_ 1 _ rfl; (with_reducible repeat (first | refine bN_q ?_ _ | refine bW_q ?_ | refine bL_q ?_ _)); refine blk_put (cs := #[.int .i64 0, .slice none 0 0]) ?_ 0 _ rfl; (with_reducible repeat (first | refine bN_q ?_ _ | refine bW_q ?_ | refine bL_q ?_ _)); exact BK663.out) hb); have n4_ := Ae_q (bT_q (by repeat (first | (with_reducible first | exact HB.out | apply bA_q | apply pB_q | apply bD_q | refine bS_q ?_ GE663.out) | exact HB.out)) hb); clear HO655; clear HO659; clear HO662; clear BK663; clear HB; have HO655 := n0_; have HO659 := n1_; have HO662 := n2_; have BK663 := n3_; have HB := n4_; clear n0_ n1_ n2_ n3_ n4_; (try clear hb); (try clear hb2); (try clear hk); (try clear hi); have hcz14_0 : w13.cell? ⟨gb663, 0, none⟩ = some (.int .i64 t656) := (bC_q BK663.out 0).trans rfl; have hcz14_1 : w13.cell? ⟨gb663, 1, none⟩ = some (.slice Ao10 t657.length co10) := (bC_q BK663.out 1).trans rfl; have hfz14_0 := bF_q BK663.out 0; have hfz14_1 := bF_q BK663.out 1) | (go_at_call 16; (with_reducible refine (spec_PlanValid.calls k _ _ t653 t656 _ _ t657 _ _ t660 t665 _ ?side1 ?side2 ?side3 ?side4 ?side5 ?side6 A5.out).mono ?_); (case side1 => repeat (first | exact (Kd.S_reads' HO655.out).2.2 | (with_reducible refine cA_q ?_ _) | (with_reducible refine cN_q ?_ _) | (with_reducible refine cD_q ?_))); (case side2 => exact (Kd.S_reads' HO655.out).2.1); (case side3 => repeat (first | exact (rR_q HO659.out).2.2 | (with_reducible refine cA_q ?_ _) | (with_reducible refine cN_q ?_ _) | (with_reducible refine cD_q ?_))); (case side4 => exact (rR_q HO659.out).2.1); (case side5 => repeat (first | exact (Kd.Q_reads' HO662.out).2.2 | (with_reducible refine cA_q ?_ _) | (with_reducible refine cN_q ?_ _) | (with_reducible refine cD_q ?_))); (case side6 => exact (Kd.Q_reads' HO662.out).2.1); rintro e w15 ⟨rfl, hb⟩; have n0_ := Ae_q (Kd.S_below (by (with_reducible repeat (first | apply tA_q | apply tN_q | apply tD_q)); exact HO655.out) hb); have n1_ := Ae_q (rO_q (rup HO659.out) hb); have n2_ := Ae_q (Kd.Q_below (by (with_reducible repeat (first | apply Kd.Q_alloc | apply Kd.Q_drewN | apply Kd.Q_drew)); exact HO662.out) hb); have n3_ := Ae_q (bB_q (g := gb663) (o := .cells #[.int .i64 t656, .slice Ao10 t657.length co10] 41 (0, 0)) (bup BK663.out) hb); have n4_ := Ae_q (bT_q (by repeat (first | (with_reducible first | exact HB.out | apply bA_q | apply pB_q | apply bD_q | refine bS_q ?_ GE663.out) | exact HB.out)) hb); clear HO655; clear HO659; clear HO662; clear BK663; clear HB; have HO655 := n0_; have HO659 := n1_; have HO662 := n2_; have BK663 := n3_; have HB := n4_; clear n0_ n1_ n2_ n3_ n4_; (try clear hb); (try clear hb2); (try clear hk); (try clear hi)))
 repeat (go_quiet (first | (go_at_call 24; (with_reducible refine (spec_DrawPlanValid.calls k _ _ l0 t653 t656 t657 t660 _ ?side1 ?side2 A3.out).mono ?_); (case side1 => repeat (first | exact HR0.out | (with_reducible refine cA_q ?_ _) | (with_reducible refine cN_q ?_ _) | (with_reducible refine cD_q ?_))); (case side2 => exact HC0.out); rintro e w7 ⟨v654, v658, v661, rfl, ho0, ho1, ho2, hb⟩; have n0_ := Ae_q (Kd.S_lower ho0 (bZ_q (bel HB.out))); have n1_ := Ae_q (rL_q ho1 (bZ_q (bel HB.out))); have n2_ := Ae_q (Kd.Q_lower ho2 (bZ_q (bel HB.out))); have n3_ := Ae_q (bT_q (bel HB.out) hb); clear HB; have HO655 := n0_; have HO659 := n1_; have HO662 := n2_; have HB := n3_; clear n0_ n1_ n2_ n3_; (try clear hb); (try clear hb2); (try clear hk); (try clear hi); (try clear ho0); (try clear ho1); (try clear ho2)) | ((with_reducible refine gD_q (N := 4) rfl ?_); refine bE_q ?hg (N := 4) ?hd (cs := #[.int .i64 0, .slice none 0 0]) (t := 41) ?hr ?_; (case hd => rfl); (case hg => rfl); (case hr => first | (go_simp; done) | (go_simp; rfl)); intro gb663 hg w8 hbox hb; have n0_ := Ae_q (Kd.S_below (by (with_reducible repeat (first | apply tA_q | apply tN_q | apply tD_q)); exact HO655.out) hb); have n1_ := Ae_q (rO_q (rup HO659.out) hb); have n2_ := Ae_q (Kd.Q_below (by (with_reducible repeat (first | apply Kd.Q_alloc | apply Kd.Q_drewN | apply Kd.Q_drew)); exact HO662.out) hb); have n3_ := Ae_q (bT_q (bel HB.out) hb); have n4_ := Ae_q (hbox); have n5_ := Ae_q ((by rw [hg]; exact (bZ_q (bel HB.out)) : w.heap.size ≤ gb663)); have n6_ := Ae_q ((by rw [hg]; exact (bZ_q (bel HB.out)) : w.heap.size ≤ gb663)); clear HO655; clear HO659; clear HO662; clear HB; have HO655 := n0_; have HO659 := n1_; have HO662 := n2_; have HB := n3_; have BK663 := n4_; have GW663 := n5_; have GE663 := n6_; clear n0_ n1_ n2_ n3_ n4_ n5_ n6_; clear hb hbox hg; have hcz9_0 : w8.cell? ⟨gb663, 0, none⟩ = some (.int .i64 0) := (bC_q BK663.out 0).trans rfl; have hcz9_1 : w8.cell? ⟨gb663, 1, none⟩ = some (.slice none 0 0) := (bC_q BK663.out 1).trans rfl; have hfz9_0 := bF_q BK663.out 0; have hfz9_1 := bF_q BK663.out 1; obtain ⟨Ao10, co10, eo10⟩ := rS_q HO659.out; subst eo10; obtain ⟨Ao11, co11, eo11⟩ := Kd.S_slice HO655.out; subst eo11; obtain ⟨Ao12, co12, eo12, _⟩ := Kd.Q_slice HO662.out; subst eo12) | (go_at_call 20; (with_reducible refine (impl_PlanValid.calls k _ _ t653 t656 _ _ t657 _ _ t660 t664 _ ?side1 ?side2 ?side3 ?side4 ?side5 ?side6 A4.out).mono ?_); (case side1 => refine (Kd.S_reads' (e := 31) (base := w.heap.size) (ok := fun k_ => (some k_ ≠ (.slice Ao10 t657.length co10 : Value).ownBlock ∧ some k_ ≠ (.slice Ao12 t660.length co12 : Value).ownBlock)) (n := t653.length) (c := co11) ?_).2.2; exact (by (with_reducible repeat (first | apply tA_q | apply tN_q | apply tD_q)); exact (Kd.S_mono (Kd.S_far (p := ⟨gb663, 1, none⟩) (Kd.S_far (p := ⟨gb663, 0, none⟩) (Kd.S_types HO655.out BK663.out (by decide)) (fun _ hk => hk.2) (.int .i64 t656)) (fun _ hk => hk.2) (.slice Ao10 t657.length co10)) (fun _ h_ => h_.1)))); (case side2 => exact (Kd.S_reads' HO655.out).2.1); (case side3 => refine (rR_q (e := 3) (base := w.heap.size) (ok := fun k_ => some k_ ≠ (.slice Ao12 t660.length co12 : Value).ownBlock) (n := t657.length) (c := co10) ?_).2.2; exact (by (with_reducible repeat (first | apply rA_q | apply rN_q | apply rD_q)); exact (rM_q (Kd.R_far (p := ⟨gb663, 1, none⟩) (Kd.R_far (p := ⟨gb663, 0, none⟩) (Kd.R_types HO659.out BK663.out (by decide)) (fun _ hk => hk.2) (.int .i64 t656)) (fun _ hk => hk.2) (.slice Ao10 t657.length co10)) (fun _ h_ => h_.1)))); (case side4 => exact (rR_q HO659.out).2.1); (case side5 => refine (Kd.Q_reads' (e := 3) (base := w.heap.size) (ok := fun k_ => some k_ ≠ (.slice Ao10 t657.length co10 : Value).ownBlock) (n := t660.length) (c := co12) ?_).2.2; exact (by (with_reducible repeat (first | apply Kd.Q_alloc | apply Kd.Q_drewN | apply Kd.Q_drew)); exact (Kd.Q_mono (Kd.Q_far (p := ⟨gb663, 1, none⟩) (Kd.Q_far (p := ⟨gb663, 0, none⟩) (Kd.Q_types HO662.out BK663.out (by decide)) (fun _ hk => hk.2) (.int .i64 t656)) (fun _ hk => hk.2) (.slice Ao10 t657.length co10)) (fun _ h_ => h_.1)))); (case side6 => exact (Kd.Q_reads' HO662.out).2.1); rintro e w13 ⟨rfl, hb⟩; have n0_ := Ae_q (Kd.S_below (by (with_reducible repeat (first | apply tA_q | apply tN_q | apply tD_q)); exact (Kd.S_mono (Kd.S_far (p := ⟨gb663, 1, none⟩) (Kd.S_far (p := ⟨gb663, 0, none⟩) (Kd.S_types HO655.out BK663.out (by decide)) (fun _ hk => hk.2) (.int .i64 t656)) (fun _ hk => hk.2) (.slice Ao10 t657.length co10)) (fun _ h_ => h_.1))) hb); have n1_ := Ae_q (rO_q (by (with_reducible repeat (first | apply rA_q | apply rN_q | apply rD_q)); exact (rM_q (Kd.R_far (p := ⟨gb663, 1, none⟩) (Kd.R_far (p := ⟨gb663, 0, none⟩) (Kd.R_types HO659.out BK663.out (by decide)) (fun _ hk => hk.2) (.int .i64 t656)) (fun _ hk => hk.2) (.slice Ao10 t657.length co10)) (fun _ h_ => h_.1))) hb); have n2_ := Ae_q (Kd.Q_below (by (with_reducible repeat (first | apply Kd.Q_alloc | apply Kd.Q_drewN | apply Kd.Q_drew)); exact (Kd.Q_mono (Kd.Q_far (p := ⟨gb663, 1, none⟩) (Kd.Q_far (p := ⟨gb663, 0, none⟩) (Kd.Q_types HO662.out BK663.out (by decide)) (fun _ hk => hk.2) (.int .i64 t656)) (fun _ hk => hk.2) (.slice Ao10 t657.length co10)) (fun _ h_ => h_.1))) hb); have n3_ := Ae_q (bB_q (g := gb663) (o := .cells #[.int .i64 t656, .slice Ao10 t657.length co10] 41 (0, 0)) (by (with_reducible repeat (first | refine bN_q ?_ _ | refine bW_q ?_ | refine bL_q ?_ _)); refine blk_put (cs := #[.int .i64 t656, .slice none 0 0]) ?_ 1 _ rfl; (with_reducible repeat (first | refine bN_q ?_ _ | refine bW_q ?_ | refine bL_q ?_ _)); refine blk_put (cs := #[.int .i64 0, .slice none 0 0]) ?_ 0 _ rfl; (with_reducible repeat (first | refine bN_q ?_ _ | refine bW_q ?_ | refine bL_q ?_ _)); exact BK663.out) hb); have n4_ := Ae_q (bT_q (by repeat (first | (with_reducible first | exact HB.out | apply bA_q | apply pB_q | apply bD_q | refine bS_q ?_ GE663.out) | exact HB.out)) hb); clear HO655; clear HO659; clear HO662; clear BK663; clear HB; have HO655 := n0_; have HO659 := n1_; have HO662 := n2_; have BK663 := n3_; have HB := n4_; clear n0_ n1_ n2_ n3_ n4_; (try clear hb); (try clear hb2); (try clear hk); (try clear hi); have hcz14_0 : w13.cell? ⟨gb663, 0, none⟩ = some (.int .i64 t656) := (bC_q BK663.out 0).trans rfl; have hcz14_1 : w13.cell? ⟨gb663, 1, none⟩ = some (.slice Ao10 t657.length co10) := (bC_q BK663.out 1).trans rfl; have hfz14_0 := bF_q BK663.out 0; have hfz14_1 := bF_q BK663.out 1) | (go_at_call 16; (with_reducible refine (spec_PlanValid.calls k _ _ t653 t656 _ _ t657 _ _ t660 t665 _ ?side1 ?side2 ?side3 ?side4 ?side5 ?side6 A5.out).mono ?_); (case side1 => repeat (first | exact (Kd.S_reads' HO655.out).2.2 | (with_reducible refine cA_q ?_ _) | (with_reducible refine cN_q ?_ _) | (with_reducible refine cD_q ?_))); (case side2 => exact (Kd.S_reads' HO655.out).2.1); (case side3 => repeat (first | exact (rR_q HO659.out).2.2 | (with_reducible refine cA_q ?_ _) | (with_reducible refine cN_q ?_ _) | (with_reducible refine cD_q ?_))); (case side4 => exact (rR_q HO659.out).2.1); (case side5 => repeat (first | exact (Kd.Q_reads' HO662.out).2.2 | (with_reducible refine cA_q ?_ _) | (with_reducible refine cN_q ?_ _) | (with_reducible refine cD_q ?_))); (case side6 => exact (Kd.Q_reads' HO662.out).2.1); rintro e w15 ⟨rfl, hb⟩; have n0_ := Ae_q (Kd.S_below (by (with_reducible repeat (first | apply tA_q | apply tN_q | apply tD_q)); exact HO655.out) hb); have n1_ := Ae_q (rO_q (rup HO659.out) hb); have n2_ := Ae_q (Kd.Q_below (by (with_reducible repeat (first | apply Kd.Q_alloc | apply Kd.Q_drewN | apply Kd.Q_drew)); exact HO662.out) hb); have n3_ := Ae_q (bB_q (g := gb663) (o := .cells #[.int .i64 t656, .slice Ao10 t657.length co10] 41 (0, 0)) (bup BK663.out) hb); have n4_ := Ae_q (bT_q (by repeat (first | (with_reducible first | exact HB.out | apply bA_q | apply pB_q | apply bD_q | refine bS_q ?_ GE663.out) | exact HB.out)) hb); clear HO655; clear HO659; clear HO662; clear BK663; clear HB; have HO655 := n0_; have HO659 := n1_; have HO662 := n2_; have BK663 := n3_; have HB := n4_; clear n0_ n1_ n2_ n3_ n4_; (try clear hb); (try clear hb2); (try clear hk); (try clear hi))); go_upto_region 6 with (first | (go_at_call 24; (with_reducible refine (spec_DrawPlanValid.calls k _ _ l0 t653 t656 t657 t660 _ ?side1 ?side2 A3.out).mono ?_); (case side1 => repeat (first | exact HR0.out | (with_reducible refine cA_q ?_ _) | (with_reducible refine cN_q ?_ _) | (with_reducible refine cD_q ?_))); (case side2 => exact HC0.out); rintro e w7 ⟨v654, v658, v661, rfl, ho0, ho1, ho2, hb⟩; have n0_ := Ae_q (Kd.S_lower ho0 (bZ_q (bel HB.out))); have n1_ := Ae_q (rL_q ho1 (bZ_q (bel HB.out))); have n2_ := Ae_q (Kd.Q_lower ho2 (bZ_q (bel HB.out))); have n3_ := Ae_q (bT_q (bel HB.out) hb); clear HB; have HO655 := n0_; have HO659 := n1_; have HO662 := n2_; have HB := n3_; clear n0_ n1_ n2_ n3_; (try clear hb); (try clear hb2); (try clear hk); (try clear hi); (try clear ho0); (try clear ho1); (try clear ho2)) | ((with_reducible refine gD_q (N := 4) rfl ?_); refine bE_q ?hg (N := 4) ?hd (cs := #[.int .i64 0, .slice none 0 0]) (t := 41) ?hr ?_; (case hd => rfl); (case hg => rfl); (case hr => first | (go_simp; done) | (go_simp; rfl)); intro gb663 hg w8 hbox hb; have n0_ := Ae_q (Kd.S_below (by (with_reducible repeat (first | apply tA_q | apply tN_q | apply tD_q)); exact HO655.out) hb); have n1_ := Ae_q (rO_q (rup HO659.out) hb); have n2_ := Ae_q (Kd.Q_below (by (with_reducible repeat (first | apply Kd.Q_alloc | apply Kd.Q_drewN | apply Kd.Q_drew)); exact HO662.out) hb); have n3_ := Ae_q (bT_q (bel HB.out) hb); have n4_ := Ae_q (hbox); have n5_ := Ae_q ((by rw [hg]; exact (bZ_q (bel HB.out)) : w.heap.size ≤ gb663)); have n6_ := Ae_q ((by rw [hg]; exact (bZ_q (bel HB.out)) : w.heap.size ≤ gb663)); clear HO655; clear HO659; clear HO662; clear HB; have HO655 := n0_; have HO659 := n1_; have HO662 := n2_; have HB := n3_; have BK663 := n4_; have GW663 := n5_; have GE663 := n6_; clear n0_ n1_ n2_ n3_ n4_ n5_ n6_; clear hb hbox hg; have hcz9_0 : w8.cell? ⟨gb663, 0, none⟩ = some (.int .i64 0) := (bC_q BK663.out 0).trans rfl; have hcz9_1 : w8.cell? ⟨gb663, 1, none⟩ = some (.slice none 0 0) := (bC_q BK663.out 1).trans rfl; have hfz9_0 := bF_q BK663.out 0; have hfz9_1 := bF_q BK663.out 1; obtain ⟨Ao10, co10, eo10⟩ := rS_q HO659.out; subst eo10; obtain ⟨Ao11, co11, eo11⟩ := Kd.S_slice HO655.out; subst eo11; obtain ⟨Ao12, co12, eo12, _⟩ := Kd.Q_slice HO662.out; subst eo12) | (go_at_call 20; (with_reducible refine (impl_PlanValid.calls k _ _ t653 t656 _ _ t657 _ _ t660 t664 _ ?side1 ?side2 ?side3 ?side4 ?side5 ?side6 A4.out).mono ?_); (case side1 => refine (Kd.S_reads' (e := 31) (base := w.heap.size) (ok := fun k_ => (some k_ ≠ (.slice Ao10 t657.length co10 : Value).ownBlock ∧ some k_ ≠ (.slice Ao12 t660.length co12 : Value).ownBlock)) (n := t653.length) (c := co11) ?_).2.2; exact (by (with_reducible repeat (first | apply tA_q | apply tN_q | apply tD_q)); exact (Kd.S_mono (Kd.S_far (p := ⟨gb663, 1, none⟩) (Kd.S_far (p := ⟨gb663, 0, none⟩) (Kd.S_types HO655.out BK663.out (by decide)) (fun _ hk => hk.2) (.int .i64 t656)) (fun _ hk => hk.2) (.slice Ao10 t657.length co10)) (fun _ h_ => h_.1)))); (case side2 => exact (Kd.S_reads' HO655.out).2.1); (case side3 => refine (rR_q (e := 3) (base := w.heap.size) (ok := fun k_ => some k_ ≠ (.slice Ao12 t660.length co12 : Value).ownBlock) (n := t657.length) (c := co10) ?_).2.2; exact (by (with_reducible repeat (first | apply rA_q | apply rN_q | apply rD_q)); exact (rM_q (Kd.R_far (p := ⟨gb663, 1, none⟩) (Kd.R_far (p := ⟨gb663, 0, none⟩) (Kd.R_types HO659.out BK663.out (by decide)) (fun _ hk => hk.2) (.int .i64 t656)) (fun _ hk => hk.2) (.slice Ao10 t657.length co10)) (fun _ h_ => h_.1)))); (case side4 => exact (rR_q HO659.out).2.1); (case side5 => refine (Kd.Q_reads' (e := 3) (base := w.heap.size) (ok := fun k_ => some k_ ≠ (.slice Ao10 t657.length co10 : Value).ownBlock) (n := t660.length) (c := co12) ?_).2.2; exact (by (with_reducible repeat (first | apply Kd.Q_alloc | apply Kd.Q_drewN | apply Kd.Q_drew)); exact (Kd.Q_mono (Kd.Q_far (p := ⟨gb663, 1, none⟩) (Kd.Q_far (p := ⟨gb663, 0, none⟩) (Kd.Q_types HO662.out BK663.out (by decide)) (fun _ hk => hk.2) (.int .i64 t656)) (fun _ hk => hk.2) (.slice Ao10 t657.length co10)) (fun _ h_ => h_.1)))); (case side6 => exact (Kd.Q_reads' HO662.out).2.1); rintro e w13 ⟨rfl, hb⟩; have n0_ := Ae_q (Kd.S_below (by (with_reducible repeat (first | apply tA_q | apply tN_q | apply tD_q)); exact (Kd.S_mono (Kd.S_far (p := ⟨gb663, 1, none⟩) (Kd.S_far (p := ⟨gb663, 0, none⟩) (Kd.S_types HO655.out BK663.out (by decide)) (fun _ hk => hk.2) (.int .i64 t656)) (fun _ hk => hk.2) (.slice Ao10 t657.length co10)) (fun _ h_ => h_.1))) hb); have n1_ := Ae_q (rO_q (by (with_reducible repeat (first | apply rA_q | apply rN_q | apply rD_q)); exact (rM_q (Kd.R_far (p := ⟨gb663, 1, none⟩) (Kd.R_far (p := ⟨gb663, 0, none⟩) (Kd.R_types HO659.out BK663.out (by decide)) (fun _ hk => hk.2) (.int .i64 t656)) (fun _ hk => hk.2) (.slice Ao10 t657.length co10)) (fun _ h_ => h_.1))) hb); have n2_ := Ae_q (Kd.Q_below (by (with_reducible repeat (first | apply Kd.Q_alloc | apply Kd.Q_drewN | apply Kd.Q_drew)); exact (Kd.Q_mono (Kd.Q_far (p := ⟨gb663, 1, none⟩) (Kd.Q_far (p := ⟨gb663, 0, none⟩) (Kd.Q_types HO662.out BK663.out (by decide)) (fun _ hk => hk.2) (.int .i64 t656)) (fun _ hk => hk.2) (.slice Ao10 t657.length co10)) (fun _ h_ => h_.1))) hb); have n3_ := Ae_q (bB_q (g := gb663) (o := .cells #[.int .i64 t656, .slice Ao10 t657.length co10] 41 (0, 0)) (by (with_reducible repeat (first | refine bN_q ?_ _ | refine bW_q ?_ | refine bL_q ?_ _)); refine blk_put (cs := #[.int .i64 t656, .slice none 0 0]) ?_ 1 _ rfl; (with_reducible repeat (first | refine bN_q ?_ _ | refine bW_q ?_ | refine bL_q ?_ _)); refine blk_put (cs := #[.int .i64 0, .slice none 0 0]) ?_ 0 _ rfl; (with_reducible repeat (first | refine bN_q ?_ _ | refine bW_q ?_ | refine bL_q ?_ _)); exact BK663.out) hb); have n4_ := Ae_q (bT_q (by repeat (first | (with_reducible first | exact HB.out | apply bA_q | apply pB_q | apply bD_q | refine bS_q ?_ GE663.out) | exact HB.out)) hb); clear HO655; clear HO659; clear HO662; clear BK663; clear HB; have HO655 := n0_; have HO659 := n1_; have HO662 := n2_; have BK663 := n3_; have HB := n4_; clear n0_ n1_ n2_ n3_ n4_; (try clear hb); (try clear hb2); (try clear hk); (try clear hi); have hcz14_0 : w13.cell? ⟨gb663, 0, none⟩ = some (.int .i64 t656) := (bC_q BK663.out 0).trans rfl; have hcz14_1 : w13.cell? ⟨gb663, 1, none⟩ = some (.slice Ao10 t657.length co10) := (bC_q BK663.out 1).trans rfl; have hfz14_0 := bF_q BK663.out 0; have hfz14_1 := bF_q BK663.out 1) | (go_at_call 16; (with_reducible refine (spec_PlanValid.calls k _ _ t653 t656 _ _ t657 _ _ t660 t665 _ ?side1 ?side2 ?side3 ?side4 ?side5 ?side6 A5.out).mono ?_); (case side1 => repeat (first | exact (Kd.S_reads' HO655.out).2.2 | (with_reducible refine cA_q ?_ _) | (with_reducible refine cN_q ?_ _) | (with_reducible refine cD_q ?_))); (case side2 => exact (Kd.S_reads' HO655.out).2.1); (case side3 => repeat (first | exact (rR_q HO659.out).2.2 | (with_reducible refine cA_q ?_ _) | (with_reducible refine cN_q ?_ _) | (with_reducible refine cD_q ?_))); (case side4 => exact (rR_q HO659.out).2.1); (case side5 => repeat (first | exact (Kd.Q_reads' HO662.out).2.2 | (with_reducible refine cA_q ?_ _) | (with_reducible refine cN_q ?_ _) | (with_reducible refine cD_q ?_))); (case side6 => exact (Kd.Q_reads' HO662.out).2.1); rintro e w15 ⟨rfl, hb⟩; have n0_ := Ae_q (Kd.S_below (by (with_reducible repeat (first | apply tA_q | apply tN_q | apply tD_q)); exact HO655.out) hb); have n1_ := Ae_q (rO_q (rup HO659.out) hb); have n2_ := Ae_q (Kd.Q_below (by (with_reducible repeat (first | apply Kd.Q_alloc | apply Kd.Q_drewN | apply Kd.Q_drew)); exact HO662.out) hb); have n3_ := Ae_q (bB_q (g := gb663) (o := .cells #[.int .i64 t656, .slice Ao10 t657.length co10] 41 (0, 0)) (bup BK663.out) hb); have n4_ := Ae_q (bT_q (by repeat (first | (with_reducible first | exact HB.out | apply bA_q | apply pB_q | apply bD_q | refine bS_q ?_ GE663.out) | exact HB.out)) hb); clear HO655; clear HO659; clear HO662; clear BK663; clear HB; have HO655 := n0_; have HO659 := n1_; have HO662 := n2_; have BK663 := n3_; have HB := n4_; clear n0_ n1_ n2_ n3_ n4_; (try clear hb); (try clear hb2); (try clear hk); (try clear hi))))
 (try simp only [Act.put, sA_q, sZ_q, sS_q])
 go_cut [45] (fun v45 wc => ∃ (kq : Nat) (x45_5 : Bool), v45 = .bool x45_5 ∧ Aside0 (laws_FnPlanOnly.j0 kq t653 t660 t664 t665 x45_5 t656 t657 = some r) ∧ Aside0 (kq ≤ k) ∧ Aside0 (Kd.S k31 31 wc w.heap.size (fun k_ => some k_ ≠ ((.slice Ao12 t660.length co12) : Value).ownBlock ∧ some k_ ≠ ((.slice Ao10 t657.length co10) : Value).ownBlock) (.slice Ao11 t653.length co11) t653) ∧ Aside0 (Kd.Q kI_q 3 wc w.heap.size (fun k_ => some k_ ≠ ((.slice Ao10 t657.length co10) : Value).ownBlock) (.slice Ao12 t660.length co12) t660) ∧ Aside0 (Kd.R kI_q 3 wc w.heap.size (fun k_ => some k_ ≠ ((.slice Ao12 t660.length co12) : Value).ownBlock) (.slice Ao10 t657.length co10) t657) ∧ Aside0 (wc.heap[gb663]? = some (.cells #[.int .i64 t656, (.slice Ao10 t657.length co10)] 41 (0, 0))) ∧ Aside0 (Below w.heap.size w wc))
 case first =>
  have H := HC6.out
  clear HC6
  by_cases c16 : (t664 != t665) = true
  ·rw [if_pos c16] at H
   have c16b0 : (t664 != t665) = true := c16
   (try (have c16b1 : decide (t664 = t665) = false := by simpa using c16))
   (try (have c16b2 : (t664 == t665) = false := by simpa using c16))
   (try (have c16b3 : ¬ (t664 = t665) := by simpa using c16))
   clear c16
   (first | rw [c16b0] | (simp only [i64_w, i32_w]; rw [c16b0]) | skip)
   have H' := Ae_q H
   clear H
   go_wp2
   repeat (go_quiet (fail); try go_wp2)
   go_meet
   case rel => exact ⟨_, (true), (by first | rfl | (simp; done) | (simp [*]; done)), H', ⟨by first | omega | exact nR_q _⟩, ⟨by (with_reducible repeat (first | apply tA_q | apply tN_q | apply tD_q)); exact Kd.S_mono HO655.out (fun _ hk => ⟨hk.2, hk.1⟩)⟩, ⟨by (with_reducible repeat (first | apply Kd.Q_alloc | apply Kd.Q_drewN | apply Kd.Q_drew)); exact HO662.out⟩, ⟨by (with_reducible repeat (first | apply rA_q | apply rN_q | apply rD_q)); exact HO659.out⟩, ⟨by (with_reducible repeat (first | refine bN_q ?_ _ | refine bW_q ?_ | refine bL_q ?_ _)); exact BK663.out⟩, ⟨by repeat (first | (with_reducible first | exact HB.out | apply bA_q | apply pB_q | apply bD_q | refine bS_q ?_ GE663.out) | exact HB.out)⟩⟩
  rw [if_neg c16] at H
  have c16b0 : (t664 != t665) = false := by simpa using c16
  (try (have c16b1 : decide (t664 = t665) = true := by simpa using c16))
  (try (have c16b2 : (t664 == t665) = true := by simpa using c16))
  clear c16
  (first | rw [c16b0] | (simp only [i64_w, i32_w]; rw [c16b0]) | skip)
  replace H := oB_q.mp H
  obtain ⟨t666, A170, H⟩ := H
  replace H : (if t666 = true then ((spec_PlanEnd.f k t653 t660).bind fun t667 => (laws_FnPlanOnly.j0 k t653 t660 t664 t665 (decide (t667 < 0)) t656 t657)) else (laws_FnPlanOnly.j0 k t653 t660 t664 t665 true t656 t657)) = some r := H
  have A17 := Ae_q A170
  clear A170
  by_cases c18 : t666 = true
  ·subst c18
   have H1 : ((spec_PlanEnd.f k t653 t660).bind fun t667 => (laws_FnPlanOnly.j0 k t653 t660 t664 t665 (decide (t667 < 0)) t656 t657)) = some r := by rw [if_pos rfl] at H; exact H
   clear H
   have H := H1
   clear H1
   replace H := oB_q.mp H
   obtain ⟨t667, A190, H⟩ := H
   replace H : (laws_FnPlanOnly.j0 k t653 t660 t664 t665 (decide (t667 < 0)) t656 t657) = some r := H
   have A19 := Ae_q A190
   clear A190
   have H' := Ae_q H
   clear H
   have hcz20_0 : w15.cell? ⟨gb663, 0, none⟩ = some (.int .i64 t656) := (bC_q BK663.out 0).trans rfl
   have hcz20_1 : w15.cell? ⟨gb663, 1, none⟩ = some (.slice Ao10 t657.length co10) := (bC_q BK663.out 1).trans rfl
   have hfz20_0 := bF_q BK663.out 0
   have hfz20_1 := bF_q BK663.out 1
   go_wp2_with (first | (go_at_call 25; (with_reducible refine (spec_KitchenValid.calls k t656 _ _ t657 true _ ?side1 ?side2 A17.out).mono ?_); (case side1 => repeat (first | exact (rR_q HO659.out).2.2 | (with_reducible refine cA_q ?_ _) | (with_reducible refine cN_q ?_ _) | (with_reducible refine cD_q ?_))); (case side2 => exact (rR_q HO659.out).2.1); rintro e w21 ⟨rfl, hb⟩; have n0_ := Ae_q (Kd.S_below (by (with_reducible repeat (first | apply tA_q | apply tN_q | apply tD_q)); exact HO655.out) hb); have n1_ := Ae_q (rO_q (rup HO659.out) hb); have n2_ := Ae_q (Kd.Q_below (by (with_reducible repeat (first | apply Kd.Q_alloc | apply Kd.Q_drewN | apply Kd.Q_drew)); exact HO662.out) hb); have n3_ := Ae_q (bB_q (g := gb663) (o := .cells #[.int .i64 t656, .slice Ao10 t657.length co10] 41 (0, 0)) (bup BK663.out) hb); have n4_ := Ae_q (bT_q (by repeat (first | (with_reducible first | exact HB.out | apply bA_q | apply pB_q | apply bD_q | refine bS_q ?_ GE663.out) | exact HB.out)) hb); clear HO655; clear HO659; clear HO662; clear BK663; clear HB; have HO655 := n0_; have HO659 := n1_; have HO662 := n2_; have BK663 := n3_; have HB := n4_; clear n0_ n1_ n2_ n3_ n4_; (try clear hb); (try clear hb2); (try clear hk); (try clear hi)) | (go_at_call 26; (with_reducible refine (spec_PlanEnd.calls k _ _ t653 _ _ t660 t667 _ ?side1 ?side2 ?side3 ?side4 A19.out).mono ?_); (case side1 => repeat (first | exact (Kd.S_reads' HO655.out).2.2 | (with_reducible refine cA_q ?_ _) | (with_reducible refine cN_q ?_ _) | (with_reducible refine cD_q ?_))); (case side2 => exact (Kd.S_reads' HO655.out).2.1); (case side3 => repeat (first | exact (Kd.Q_reads' HO662.out).2.2 | (with_reducible refine cA_q ?_ _) | (with_reducible refine cN_q ?_ _) | (with_reducible refine cD_q ?_))); (case side4 => exact (Kd.Q_reads' HO662.out).2.1); rintro e w22 ⟨rfl, hb⟩; have n0_ := Ae_q (Kd.S_below (by (with_reducible repeat (first | apply tA_q | apply tN_q | apply tD_q)); exact HO655.out) hb); have n1_ := Ae_q (rO_q (rup HO659.out) hb); have n2_ := Ae_q (Kd.Q_below (by (with_reducible repeat (first | apply Kd.Q_alloc | apply Kd.Q_drewN | apply Kd.Q_drew)); exact HO662.out) hb); have n3_ := Ae_q (bB_q (g := gb663) (o := .cells #[.int .i64 t656, .slice Ao10 t657.length co10] 41 (0, 0)) (bup BK663.out) hb); have n4_ := Ae_q (bT_q (by repeat (first | (with_reducible first | exact HB.out | apply bA_q | apply pB_q | apply bD_q | refine bS_q ?_ GE663.out) | exact HB.out)) hb); clear HO655; clear HO659; clear HO662; clear BK663; clear HB; have HO655 := n0_; have HO659 := n1_; have HO662 := n2_; have BK663 := n3_; have HB := n4_; clear n0_ n1_ n2_ n3_ n4_; (try clear hb); (try clear hb2); (try clear hk); (try clear hi)))
   repeat (go_quiet (first | (go_at_call 25; (with_reducible refine (spec_KitchenValid.calls k t656 _ _ t657 true _ ?side1 ?side2 A17.out).mono ?_); (case side1 => repeat (first | exact (rR_q HO659.out).2.2 | (with_reducible refine cA_q ?_ _) | (with_reducible refine cN_q ?_ _) | (with_reducible refine cD_q ?_))); (case side2 => exact (rR_q HO659.out).2.1); rintro e w21 ⟨rfl, hb⟩; have n0_ := Ae_q (Kd.S_below (by (with_reducible repeat (first | apply tA_q | apply tN_q | apply tD_q)); exact HO655.out) hb); have n1_ := Ae_q (rO_q (rup HO659.out) hb); have n2_ := Ae_q (Kd.Q_below (by (with_reducible repeat (first | apply Kd.Q_alloc | apply Kd.Q_drewN | apply Kd.Q_drew)); exact HO662.out) hb); have n3_ := Ae_q (bB_q (g := gb663) (o := .cells #[.int .i64 t656, .slice Ao10 t657.length co10] 41 (0, 0)) (bup BK663.out) hb); have n4_ := Ae_q (bT_q (by repeat (first | (with_reducible first | exact HB.out | apply bA_q | apply pB_q | apply bD_q | refine bS_q ?_ GE663.out) | exact HB.out)) hb); clear HO655; clear HO659; clear HO662; clear BK663; clear HB; have HO655 := n0_; have HO659 := n1_; have HO662 := n2_; have BK663 := n3_; have HB := n4_; clear n0_ n1_ n2_ n3_ n4_; (try clear hb); (try clear hb2); (try clear hk); (try clear hi)) | (go_at_call 26; (with_reducible refine (spec_PlanEnd.calls k _ _ t653 _ _ t660 t667 _ ?side1 ?side2 ?side3 ?side4 A19.out).mono ?_); (case side1 => repeat (first | exact (Kd.S_reads' HO655.out).2.2 | (with_reducible refine cA_q ?_ _) | (with_reducible refine cN_q ?_ _) | (with_reducible refine cD_q ?_))); (case side2 => exact (Kd.S_reads' HO655.out).2.1); (case side3 => repeat (first | exact (Kd.Q_reads' HO662.out).2.2 | (with_reducible refine cA_q ?_ _) | (with_reducible refine cN_q ?_ _) | (with_reducible refine cD_q ?_))); (case side4 => exact (Kd.Q_reads' HO662.out).2.1); rintro e w22 ⟨rfl, hb⟩; have n0_ := Ae_q (Kd.S_below (by (with_reducible repeat (first | apply tA_q | apply tN_q | apply tD_q)); exact HO655.out) hb); have n1_ := Ae_q (rO_q (rup HO659.out) hb); have n2_ := Ae_q (Kd.Q_below (by (with_reducible repeat (first | apply Kd.Q_alloc | apply Kd.Q_drewN | apply Kd.Q_drew)); exact HO662.out) hb); have n3_ := Ae_q (bB_q (g := gb663) (o := .cells #[.int .i64 t656, .slice Ao10 t657.length co10] 41 (0, 0)) (bup BK663.out) hb); have n4_ := Ae_q (bT_q (by repeat (first | (with_reducible first | exact HB.out | apply bA_q | apply pB_q | apply bD_q | refine bS_q ?_ GE663.out) | exact HB.out)) hb); clear HO655; clear HO659; clear HO662; clear BK663; clear HB; have HO655 := n0_; have HO659 := n1_; have HO662 := n2_; have BK663 := n3_; have HB := n4_; clear n0_ n1_ n2_ n3_ n4_; (try clear hb); (try clear hb2); (try clear hk); (try clear hi))); try go_wp2_with (first | (go_at_call 25; (with_reducible refine (spec_KitchenValid.calls k t656 _ _ t657 true _ ?side1 ?side2 A17.out).mono ?_); (case side1 => repeat (first | exact (rR_q HO659.out).2.2 | (with_reducible refine cA_q ?_ _) | (with_reducible refine cN_q ?_ _) | (with_reducible refine cD_q ?_))); (case side2 => exact (rR_q HO659.out).2.1); rintro e w21 ⟨rfl, hb⟩; have n0_ := Ae_q (Kd.S_below (by (with_reducible repeat (first | apply tA_q | apply tN_q | apply tD_q)); exact HO655.out) hb); have n1_ := Ae_q (rO_q (rup HO659.out) hb); have n2_ := Ae_q (Kd.Q_below (by (with_reducible repeat (first | apply Kd.Q_alloc | apply Kd.Q_drewN | apply Kd.Q_drew)); exact HO662.out) hb); have n3_ := Ae_q (bB_q (g := gb663) (o := .cells #[.int .i64 t656, .slice Ao10 t657.length co10] 41 (0, 0)) (bup BK663.out) hb); have n4_ := Ae_q (bT_q (by repeat (first | (with_reducible first | exact HB.out | apply bA_q | apply pB_q | apply bD_q | refine bS_q ?_ GE663.out) | exact HB.out)) hb); clear HO655; clear HO659; clear HO662; clear BK663; clear HB; have HO655 := n0_; have HO659 := n1_; have HO662 := n2_; have BK663 := n3_; have HB := n4_; clear n0_ n1_ n2_ n3_ n4_; (try clear hb); (try clear hb2); (try clear hk); (try clear hi)) | (go_at_call 26; (with_reducible refine (spec_PlanEnd.calls k _ _ t653 _ _ t660 t667 _ ?side1 ?side2 ?side3 ?side4 A19.out).mono ?_); (case side1 => repeat (first | exact (Kd.S_reads' HO655.out).2.2 | (with_reducible refine cA_q ?_ _) | (with_reducible refine cN_q ?_ _) | (with_reducible refine cD_q ?_))); (case side2 => exact (Kd.S_reads' HO655.out).2.1); (case side3 => repeat (first | exact (Kd.Q_reads' HO662.out).2.2 | (with_reducible refine cA_q ?_ _) | (with_reducible refine cN_q ?_ _) | (with_reducible refine cD_q ?_))); (case side4 => exact (Kd.Q_reads' HO662.out).2.1); rintro e w22 ⟨rfl, hb⟩; have n0_ := Ae_q (Kd.S_below (by (with_reducible repeat (first | apply tA_q | apply tN_q | apply tD_q)); exact HO655.out) hb); have n1_ := Ae_q (rO_q (rup HO659.out) hb); have n2_ := Ae_q (Kd.Q_below (by (with_reducible repeat (first | apply Kd.Q_alloc | apply Kd.Q_drewN | apply Kd.Q_drew)); exact HO662.out) hb); have n3_ := Ae_q (bB_q (g := gb663) (o := .cells #[.int .i64 t656, .slice Ao10 t657.length co10] 41 (0, 0)) (bup BK663.out) hb); have n4_ := Ae_q (bT_q (by repeat (first | (with_reducible first | exact HB.out | apply bA_q | apply pB_q | apply bD_q | refine bS_q ?_ GE663.out) | exact HB.out)) hb); clear HO655; clear HO659; clear HO662; clear BK663; clear HB; have HO655 := n0_; have HO659 := n1_; have HO662 := n2_; have BK663 := n3_; have HB := n4_; clear n0_ n1_ n2_ n3_ n4_; (try clear hb); (try clear hb2); (try clear hk); (try clear hi))))
   go_meet
   case rel => exact ⟨_, (decide (t667 < 0)), (by first | rfl | (simp; done) | (simp [*]; done)), H', ⟨by first | omega | exact nR_q _⟩, ⟨by (with_reducible repeat (first | apply tA_q | apply tN_q | apply tD_q)); exact Kd.S_mono HO655.out (fun _ hk => ⟨hk.2, hk.1⟩)⟩, ⟨by (with_reducible repeat (first | apply Kd.Q_alloc | apply Kd.Q_drewN | apply Kd.Q_drew)); exact HO662.out⟩, ⟨by (with_reducible repeat (first | apply rA_q | apply rN_q | apply rD_q)); exact HO659.out⟩, ⟨by (with_reducible repeat (first | refine bN_q ?_ _ | refine bW_q ?_ | refine bL_q ?_ _)); exact BK663.out⟩, ⟨by repeat (first | (with_reducible first | exact HB.out | apply bA_q | apply pB_q | apply bD_q | refine bS_q ?_ GE663.out) | exact HB.out)⟩⟩
  replace c18 := fM_q.mpr c18
  subst c18
  have H1 : (laws_FnPlanOnly.j0 k t653 t660 t664 t665 true t656 t657) = some r := by rw [if_neg (show ¬ (false = true) by decide)] at H; exact H
  clear H
  have H := H1
  clear H1
  have H' := Ae_q H
  clear H
  have hcz23_0 : w15.cell? ⟨gb663, 0, none⟩ = some (.int .i64 t656) := (bC_q BK663.out 0).trans rfl
  have hcz23_1 : w15.cell? ⟨gb663, 1, none⟩ = some (.slice Ao10 t657.length co10) := (bC_q BK663.out 1).trans rfl
  have hfz23_0 := bF_q BK663.out 0
  have hfz23_1 := bF_q BK663.out 1
  go_wp2_with (first | (go_at_call 25; (with_reducible refine (spec_KitchenValid.calls k t656 _ _ t657 false _ ?side1 ?side2 A17.out).mono ?_); (case side1 => repeat (first | exact (rR_q HO659.out).2.2 | (with_reducible refine cA_q ?_ _) | (with_reducible refine cN_q ?_ _) | (with_reducible refine cD_q ?_))); (case side2 => exact (rR_q HO659.out).2.1); rintro e w24 ⟨rfl, hb⟩; have n0_ := Ae_q (Kd.S_below (by (with_reducible repeat (first | apply tA_q | apply tN_q | apply tD_q)); exact HO655.out) hb); have n1_ := Ae_q (rO_q (rup HO659.out) hb); have n2_ := Ae_q (Kd.Q_below (by (with_reducible repeat (first | apply Kd.Q_alloc | apply Kd.Q_drewN | apply Kd.Q_drew)); exact HO662.out) hb); have n3_ := Ae_q (bB_q (g := gb663) (o := .cells #[.int .i64 t656, .slice Ao10 t657.length co10] 41 (0, 0)) (bup BK663.out) hb); have n4_ := Ae_q (bT_q (by repeat (first | (with_reducible first | exact HB.out | apply bA_q | apply pB_q | apply bD_q | refine bS_q ?_ GE663.out) | exact HB.out)) hb); clear HO655; clear HO659; clear HO662; clear BK663; clear HB; have HO655 := n0_; have HO659 := n1_; have HO662 := n2_; have BK663 := n3_; have HB := n4_; clear n0_ n1_ n2_ n3_ n4_; (try clear hb); (try clear hb2); (try clear hk); (try clear hi)))
  repeat (go_quiet (first | (go_at_call 25; (with_reducible refine (spec_KitchenValid.calls k t656 _ _ t657 false _ ?side1 ?side2 A17.out).mono ?_); (case side1 => repeat (first | exact (rR_q HO659.out).2.2 | (with_reducible refine cA_q ?_ _) | (with_reducible refine cN_q ?_ _) | (with_reducible refine cD_q ?_))); (case side2 => exact (rR_q HO659.out).2.1); rintro e w24 ⟨rfl, hb⟩; have n0_ := Ae_q (Kd.S_below (by (with_reducible repeat (first | apply tA_q | apply tN_q | apply tD_q)); exact HO655.out) hb); have n1_ := Ae_q (rO_q (rup HO659.out) hb); have n2_ := Ae_q (Kd.Q_below (by (with_reducible repeat (first | apply Kd.Q_alloc | apply Kd.Q_drewN | apply Kd.Q_drew)); exact HO662.out) hb); have n3_ := Ae_q (bB_q (g := gb663) (o := .cells #[.int .i64 t656, .slice Ao10 t657.length co10] 41 (0, 0)) (bup BK663.out) hb); have n4_ := Ae_q (bT_q (by repeat (first | (with_reducible first | exact HB.out | apply bA_q | apply pB_q | apply bD_q | refine bS_q ?_ GE663.out) | exact HB.out)) hb); clear HO655; clear HO659; clear HO662; clear BK663; clear HB; have HO655 := n0_; have HO659 := n1_; have HO662 := n2_; have BK663 := n3_; have HB := n4_; clear n0_ n1_ n2_ n3_ n4_; (try clear hb); (try clear hb2); (try clear hk); (try clear hi))); try go_wp2_with (first | (go_at_call 25; (with_reducible refine (spec_KitchenValid.calls k t656 _ _ t657 false _ ?side1 ?side2 A17.out).mono ?_); (case side1 => repeat (first | exact (rR_q HO659.out).2.2 | (with_reducible refine cA_q ?_ _) | (with_reducible refine cN_q ?_ _) | (with_reducible refine cD_q ?_))); (case side2 => exact (rR_q HO659.out).2.1); rintro e w24 ⟨rfl, hb⟩; have n0_ := Ae_q (Kd.S_below (by (with_reducible repeat (first | apply tA_q | apply tN_q | apply tD_q)); exact HO655.out) hb); have n1_ := Ae_q (rO_q (rup HO659.out) hb); have n2_ := Ae_q (Kd.Q_below (by (with_reducible repeat (first | apply Kd.Q_alloc | apply Kd.Q_drewN | apply Kd.Q_drew)); exact HO662.out) hb); have n3_ := Ae_q (bB_q (g := gb663) (o := .cells #[.int .i64 t656, .slice Ao10 t657.length co10] 41 (0, 0)) (bup BK663.out) hb); have n4_ := Ae_q (bT_q (by repeat (first | (with_reducible first | exact HB.out | apply bA_q | apply pB_q | apply bD_q | refine bS_q ?_ GE663.out) | exact HB.out)) hb); clear HO655; clear HO659; clear HO662; clear BK663; clear HB; have HO655 := n0_; have HO659 := n1_; have HO662 := n2_; have BK663 := n3_; have HB := n4_; clear n0_ n1_ n2_ n3_ n4_; (try clear hb); (try clear hb2); (try clear hk); (try clear hi))))
  go_meet
  case rel => exact ⟨_, (true), (by first | rfl | (simp; done) | (simp [*]; done)), H', ⟨by first | omega | exact nR_q _⟩, ⟨by (with_reducible repeat (first | apply tA_q | apply tN_q | apply tD_q)); exact Kd.S_mono HO655.out (fun _ hk => ⟨hk.2, hk.1⟩)⟩, ⟨by (with_reducible repeat (first | apply Kd.Q_alloc | apply Kd.Q_drewN | apply Kd.Q_drew)); exact HO662.out⟩, ⟨by (with_reducible repeat (first | apply rA_q | apply rN_q | apply rD_q)); exact HO659.out⟩, ⟨by (with_reducible repeat (first | refine bN_q ?_ _ | refine bW_q ?_ | refine bL_q ?_ _)); exact BK663.out⟩, ⟨by repeat (first | (with_reducible first | exact HB.out | apply bA_q | apply pB_q | apply bD_q | refine bS_q ?_ GE663.out) | exact HB.out)⟩⟩
 case rest =>
  clear HC6
  try clear c1
  try clear c2
  try clear c2b0
  try clear c2b1
  try clear p2
  try clear c6
  try clear c16
  try clear c16b0
  try clear c16b1
  try clear c16b2
  try clear c18
  try clear hcz14_0
  try clear hcz14_1
  try clear hcz20_0
  try clear hcz20_1
  try clear hcz23_0
  try clear hcz23_1
  try clear hcz9_0
  try clear hcz9_1
  try clear hfz14_0
  try clear hfz14_1
  try clear hfz20_0
  try clear hfz20_1
  try clear hfz23_0
  try clear hfz23_1
  try clear hfz9_0
  try clear hfz9_1
  obtain ⟨kq, x45_5, rfl, HA, HJ5, HO_3, HO_5, HO_664001, BK663, HB⟩ := hcut
  cases kq with
  | zero => exact absurd HA.out (by simp [laws_FnPlanOnly.j0])
  | succ kj5 =>
   have H := HA.out
   clear HA
   simp only [laws_FnPlanOnly.j0] at H
   by_cases c25 : x45_5 = true
   ·subst c25
    have H1 : (some (t664 == t665)) = some r := by rw [if_pos rfl] at H; exact H
    clear H
    have H := H1
    clear H1
    obtain rfl := oI_q H
    go_wp2
    repeat (go_quiet (fail); try go_wp2)
    go_ret
    exact ⟨by first | rfl | (simp [eN_q, eS_q] <;> rfl) | (simp [*, eN_q, eS_q] <;> rfl), by repeat (first | (with_reducible first | exact HB.out | apply bA_q | apply pB_q | apply bD_q | refine bS_q ?_ GE663.out) | exact HB.out)⟩
   replace c25 := fM_q.mpr c25
   subst c25
   have H1 : (laws_FnPlanOnly.l0 kj5 t653 t660 t664 true 0 t656 t657) = some r := by rw [if_neg (show ¬ (false = true) by decide)] at H; exact H
   clear H
   have H := H1
   clear H1
   have H' := Ae_q H
   clear H
   go_wp2
   repeat (go_quiet (fail); try go_wp2)
   go_loopg [8, 9] kj5 (fun kq v8 v9 w' => ∃ (x8_2 : Bool) (x9_2 : Int), v8 = .bool x8_2 ∧ v9 = .int .i64 x9_2 ∧ Aside0 (laws_FnPlanOnly.l0 kq t653 t660 t664 x8_2 x9_2 t656 t657 = some r) ∧ Aside0 (kq ≤ kj5) ∧ Aside0 (Kd.S k31 31 w' w.heap.size (fun k_ => some k_ ≠ ((.slice Ao12 t660.length co12) : Value).ownBlock ∧ some k_ ≠ ((.slice Ao10 t657.length co10) : Value).ownBlock) (.slice Ao11 t653.length co11) t653) ∧ Aside0 (Kd.Q kI_q 3 w' w.heap.size (fun k_ => some k_ ≠ ((.slice Ao10 t657.length co10) : Value).ownBlock) (.slice Ao12 t660.length co12) t660) ∧ Aside0 (Kd.R kI_q 3 w' w.heap.size (fun k_ => some k_ ≠ ((.slice Ao12 t660.length co12) : Value).ownBlock) (.slice Ao10 t657.length co10) t657) ∧ Aside0 (w'.heap[gb663]? = some (.cells #[.int .i64 t656, (.slice Ao10 t657.length co10)] 41 (0, 0))) ∧ Aside0 (Below w.heap.size w w'))
   case atStart => exact ⟨(true), (0), (by first | rfl | (simp; done) | (simp [*]; done)), (by first | rfl | (simp; done) | (simp [*]; done)), H', ⟨nR_q _⟩, ⟨by (with_reducible repeat (first | apply tA_q | apply tN_q | apply tD_q)); exact HO_3.out⟩, ⟨by (with_reducible repeat (first | apply Kd.Q_alloc | apply Kd.Q_drewN | apply Kd.Q_drew)); exact HO_5.out⟩, ⟨by (with_reducible repeat (first | apply rA_q | apply rN_q | apply rD_q)); exact HO_664001.out⟩, ⟨by (with_reducible repeat (first | refine bN_q ?_ _ | refine bW_q ?_ | refine bL_q ?_ _)); exact BK663.out⟩, ⟨by repeat (first | (with_reducible first | exact HB.out | apply bA_q | apply pB_q | apply bD_q | refine bS_q ?_ GE663.out) | exact HB.out)⟩⟩
   case round =>
    clear H'
    try clear c1
    try clear c2
    try clear c2b0
    try clear c2b1
    try clear p2
    try clear c6
    try clear c16
    try clear c16b0
    try clear c16b1
    try clear c16b2
    try clear c18
    try clear c25
    try clear hcz14_0
    try clear hcz14_1
    try clear hcz20_0
    try clear hcz20_1
    try clear hcz23_0
    try clear hcz23_1
    try clear hcz9_0
    try clear hcz9_1
    try clear hfz14_0
    try clear hfz14_1
    try clear hfz20_0
    try clear hfz20_1
    try clear hfz23_0
    try clear hfz23_1
    try clear hfz9_0
    try clear hfz9_1
    try clear p2
    obtain ⟨x8_2, x9_2, rfl, rfl, HA, HK2, HO_3, HO_5, HO_664001, BK663, HB⟩ := hrel
    cases gk with
    | zero => exact absurd HA.out (by simp [laws_FnPlanOnly.l0])
    | succ k2 =>
     have H := HA.out
     clear HA
     simp only [laws_FnPlanOnly.l0] at H
     by_cases c26 : x9_2 < (t653.length : Int)
     ·rw [if_pos c26] at H
      have c26b0 : decide (x9_2 < (t653.length : Int)) = true := dT_q c26
      clear c26
      have H' := Ae_q H
      clear H
      go_wp2
      repeat (go_quiet (fail); try go_wp2)
      go_loopg [8, 10] k2 (fun kq v8 v10 w' => ∃ (x8_3 : Bool) (x10_3 : Int), v8 = .bool x8_3 ∧ v10 = .int .i64 x10_3 ∧ Aside0 (laws_FnPlanOnly.l1 kq t653 t660 t664 x8_3 x9_2 x10_3 t656 t657 = some r) ∧ Aside0 (kq ≤ k2) ∧ Aside0 (Kd.S k31 31 w' w.heap.size (fun k_ => some k_ ≠ ((.slice Ao12 t660.length co12) : Value).ownBlock ∧ some k_ ≠ ((.slice Ao10 t657.length co10) : Value).ownBlock) (.slice Ao11 t653.length co11) t653) ∧ Aside0 (Kd.Q kI_q 3 w' w.heap.size (fun k_ => some k_ ≠ ((.slice Ao10 t657.length co10) : Value).ownBlock) (.slice Ao12 t660.length co12) t660) ∧ Aside0 (Kd.R kI_q 3 w' w.heap.size (fun k_ => some k_ ≠ ((.slice Ao12 t660.length co12) : Value).ownBlock) (.slice Ao10 t657.length co10) t657) ∧ Aside0 (w'.heap[gb663]? = some (.cells #[.int .i64 t656, (.slice Ao10 t657.length co10)] 41 (0, 0))) ∧ Aside0 (Below w.heap.size w w'))
      case atStart => exact ⟨(x8_2), (0), (by first | rfl | (simp; done) | (simp [*]; done)), (by first | rfl | (simp; done) | (simp [*]; done)), H', ⟨nR_q _⟩, ⟨by (with_reducible repeat (first | apply tA_q | apply tN_q | apply tD_q)); exact HO_3.out⟩, ⟨by (with_reducible repeat (first | apply Kd.Q_alloc | apply Kd.Q_drewN | apply Kd.Q_drew)); exact HO_5.out⟩, ⟨by (with_reducible repeat (first | apply rA_q | apply rN_q | apply rD_q)); exact HO_664001.out⟩, ⟨by (with_reducible repeat (first | refine bN_q ?_ _ | refine bW_q ?_ | refine bL_q ?_ _)); exact BK663.out⟩, ⟨by repeat (first | (with_reducible first | exact HB.out | apply bA_q | apply pB_q | apply bD_q | refine bS_q ?_ GE663.out) | exact HB.out)⟩⟩
      case round =>
       clear H'
       try clear c1
       try clear c2
       try clear c2b0
       try clear c2b1
       try clear p2
       try clear c6
       try clear c16
       try clear c16b0
       try clear c16b1
       try clear c16b2
       try clear c18
       try clear c25
       try clear c26
       try clear c26b0
       try clear hcz14_0
       try clear hcz14_1
       try clear hcz20_0
       try clear hcz20_1
       try clear hcz23_0
       try clear hcz23_1
       try clear hcz9_0
       try clear hcz9_1
       try clear hfz14_0
       try clear hfz14_1
       try clear hfz20_0
       try clear hfz20_1
       try clear hfz23_0
       try clear hfz23_1
       try clear hfz9_0
       try clear hfz9_1
       try clear p2
       obtain ⟨x8_3, x10_3, rfl, rfl, HA, HK3, HO_3, HO_5, HO_664001, BK663, HB⟩ := hrel
       cases gk with
       | zero => exact absurd HA.out (by simp [laws_FnPlanOnly.l1])
       | succ k3 =>
        have H := HA.out
        clear HA
        simp only [laws_FnPlanOnly.l1] at H
        by_cases c27 : 0 ≤ x9_2
        ·rw [if_pos c27] at H
         have c27b0 : decide (0 ≤ x9_2) = true := dT_q c27
         clear c27
         by_cases c28 : x9_2 < (t653.length : Int)
         ·rw [if_pos c28] at H
          have c28b0 : decide (x9_2 < (t653.length : Int)) = true := dT_q c28
          clear c28
          by_cases c29 : x10_3 < (((rd_T31 t653 x9_2).f3).length : Int)
          ·rw [if_pos c29] at H
           have c29b0 : decide (x10_3 < (((rd_T31 t653 x9_2).f3).length : Int)) = true := dT_q c29
           clear c29
           by_cases c30 : 0 ≤ x10_3
           ·rw [if_pos c30] at H
            have c30b0 : decide (0 ≤ x10_3) = true := dT_q c30
            clear c30
            by_cases c31 : x8_3 = true
            ·subst c31
             have H1 : (if 0 ≤ (rd ((rd_T31 t653 x9_2).f3) x10_3) then (if (rd ((rd_T31 t653 x9_2).f3) x10_3) < (t660.length : Int) then (if (rd ((rd_T31 t653 x9_2).f3) x10_3) < (t653.length : Int) then (if x9_2 < (t660.length : Int) then (laws_FnPlanOnly.l1 k3 t653 t660 t664 (decide ((wrap64 ((rd t660 (rd ((rd_T31 t653 x9_2).f3) x10_3)) + ((rd_T31 t653 (rd ((rd_T31 t653 x9_2).f3) x10_3)).f0))) ≤ (rd t660 x9_2))) x9_2 (wrap64 (x10_3 + 1)) t656 t657) else (none)) else (none)) else (none)) else (none)) = some r := by rw [if_pos rfl] at H; exact H
             clear H
             have H := H1
             clear H1
             by_cases c32 : 0 ≤ (rd ((rd_T31 t653 x9_2).f3) x10_3)
             ·rw [if_pos c32] at H
              have c32b0 : decide (0 ≤ (rd ((rd_T31 t653 x9_2).f3) x10_3)) = true := dT_q c32
              clear c32
              by_cases c33 : (rd ((rd_T31 t653 x9_2).f3) x10_3) < (t660.length : Int)
              ·rw [if_pos c33] at H
               have c33b0 : decide ((rd ((rd_T31 t653 x9_2).f3) x10_3) < (t660.length : Int)) = true := dT_q c33
               clear c33
               by_cases c34 : (rd ((rd_T31 t653 x9_2).f3) x10_3) < (t653.length : Int)
               ·rw [if_pos c34] at H
                have c34b0 : decide ((rd ((rd_T31 t653 x9_2).f3) x10_3) < (t653.length : Int)) = true := dT_q c34
                clear c34
                by_cases c35 : x9_2 < (t660.length : Int)
                ·rw [if_pos c35] at H
                 have c35b0 : decide (x9_2 < (t660.length : Int)) = true := dT_q c35
                 clear c35
                 have H' := Ae_q H
                 clear H
                 have p668 : 0 ≤ (x9_2 : Int) := oD_q (by assumption)
                 have q668 : x9_2 < (t653.length : Int) := oD_q (by assumption)
                 obtain ⟨ad668, A668_3, c668_3, e668, hx668_0, hx668_1, hx668_2, hx668_3, hl668_3, hi668_3⟩ := at_T31 (Kd.S_reads' HO_3.out).2.2 x9_2 p668 q668
                 cases e668
                 obtain ⟨ce668, hce668, hMe668, hcc668⟩ := Kd.S_get HO_3.out z31 x9_2 p668 (by first | exact q668 | exact oD_q (by assumption) | (have e_ := (Kd.S_reads' HO_3.out).1; omega))
                 obtain ⟨ve668_3, rfl, ge668_3⟩ := k31_openM hMe668
                 have hv668_3 := hcc668 3 _ rfl
                 rw [add_field _ _ 3 (by omega)] at hv668_3
                 replace hv668_3 := oI_q (hv668_3.symm.trans hx668_3)
                 rw [hv668_3] at ge668_3
                 have HL668_3 := Ae_q (show Kd.R kI_q 3 _ _ _ _ ((rd_T31 t653 x9_2).f3) from ge668_3)
                 clear hv668_3 ge668_3
                 clear hcc668 hce668
                 have HR668_3 := Ae_q hi668_3
                 have HC668_3 := Ae_q hl668_3
                 clear hi668_3 hl668_3
                 replace p668 := eq_true p668
                 replace q668 := eq_true q668
                 have p669 : 0 ≤ (x9_2 : Int) := oD_q (by assumption)
                 have q669 : x9_2 < (t653.length : Int) := oD_q (by assumption)
                 obtain ⟨ad669, A669_3, c669_3, e669, hx669_0, hx669_1, hx669_2, hx669_3, hl669_3, hi669_3⟩ := at_T31 (Kd.S_reads' HO_3.out).2.2 x9_2 p669 q669
                 obtain rfl : ad668 = ad669 := (by injection e669)
                 obtain ⟨ce669, hce669, hMe669, hcc669⟩ := Kd.S_get HO_3.out z31 x9_2 p669 (by first | exact q669 | exact oD_q (by assumption) | (have e_ := (Kd.S_reads' HO_3.out).1; omega))
                 obtain ⟨ve669_3, rfl, ge669_3⟩ := k31_openM hMe669
                 have hv669_3 := hcc669 3 _ rfl
                 rw [add_field _ _ 3 (by omega)] at hv669_3
                 replace hv669_3 := oI_q (hv669_3.symm.trans hx669_3)
                 rw [hv669_3] at ge669_3
                 have HL669_3 := Ae_q (show Kd.R kI_q 3 _ _ _ _ ((rd_T31 t653 x9_2).f3) from ge669_3)
                 clear hv669_3 ge669_3
                 clear hcc669 hce669
                 have HR669_3 := Ae_q hi669_3
                 have HC669_3 := Ae_q hl669_3
                 clear hi669_3 hl669_3
                 replace p669 := eq_true p669
                 replace q669 := eq_true q669
                 have ea_ := oI_q (hx668_3.symm.trans hx669_3)
                 injection ea_ with ea_ en_ ec_
                 subst ea_
                 subst ec_
                 clear en_
                 have p670 : 0 ≤ (x10_3 : Int) := oD_q (by assumption)
                 have q670 : x10_3 < (((rd_T31 t653 x9_2).f3).length : Int) := oD_q (by assumption)
                 obtain ⟨ad670, e670, hx670_0⟩ := aI_q (by repeat (first | (with_reducible exact HR669_3.out) | (with_reducible refine cA_q ?_ _) | (with_reducible refine cN_q ?_ _) | (with_reducible refine cD_q ?_) | exact HR669_3.out)) x10_3 p670 q670
                 cases e670
                 replace p670 := eq_true p670
                 replace q670 := eq_true q670
                 have p671 : 0 ≤ ((rd ((rd_T31 t653 x9_2).f3) x10_3) : Int) := oD_q (by assumption)
                 have q671 : (rd ((rd_T31 t653 x9_2).f3) x10_3) < (t660.length : Int) := oD_q (by assumption)
                 obtain ⟨ad671, e671, hx671_0⟩ := aI_q (Kd.Q_reads' HO_5.out).2.2 (rd ((rd_T31 t653 x9_2).f3) x10_3) p671 q671
                 cases e671
                 replace p671 := eq_true p671
                 replace q671 := eq_true q671
                 have p672 : 0 ≤ ((rd ((rd_T31 t653 x9_2).f3) x10_3) : Int) := oD_q (by assumption)
                 have q672 : (rd ((rd_T31 t653 x9_2).f3) x10_3) < (t653.length : Int) := oD_q (by assumption)
                 obtain ⟨ad672, A672_3, c672_3, e672, hx672_0, hx672_1, hx672_2, hx672_3, hl672_3, hi672_3⟩ := at_T31 (Kd.S_reads' HO_3.out).2.2 (rd ((rd_T31 t653 x9_2).f3) x10_3) p672 q672
                 obtain rfl : ad668 = ad672 := (by injection e672)
                 obtain ⟨ce672, hce672, hMe672, hcc672⟩ := Kd.S_get HO_3.out z31 (rd ((rd_T31 t653 x9_2).f3) x10_3) p672 (by first | exact q672 | exact oD_q (by assumption) | (have e_ := (Kd.S_reads' HO_3.out).1; omega))
                 obtain ⟨ve672_3, rfl, ge672_3⟩ := k31_openM hMe672
                 have hv672_3 := hcc672 3 _ rfl
                 rw [add_field _ _ 3 (by omega)] at hv672_3
                 replace hv672_3 := oI_q (hv672_3.symm.trans hx672_3)
                 rw [hv672_3] at ge672_3
                 have HL672_3 := Ae_q (show Kd.R kI_q 3 _ _ _ _ ((rd_T31 t653 (rd ((rd_T31 t653 x9_2).f3) x10_3)).f3) from ge672_3)
                 clear hv672_3 ge672_3
                 clear hcc672 hce672
                 have HR672_3 := Ae_q hi672_3
                 have HC672_3 := Ae_q hl672_3
                 clear hi672_3 hl672_3
                 replace p672 := eq_true p672
                 replace q672 := eq_true q672
                 have p673 : 0 ≤ (x9_2 : Int) := oD_q (by assumption)
                 have q673 : x9_2 < (t660.length : Int) := oD_q (by assumption)
                 obtain ⟨ad673, e673, hx673_0⟩ := aI_q (Kd.Q_reads' HO_5.out).2.2 x9_2 p673 q673
                 obtain rfl : ad671 = ad673 := (by injection e673)
                 replace p673 := eq_true p673
                 replace q673 := eq_true q673
                 go_wp2
                 repeat (go_quiet (fail); try go_wp2)
                 go_roundg k3
                 case measure => have := HJ5.out; have := HK2.out; have := HK3.out; omega
                 case rel => exact ⟨(decide ((wrap64 ((rd t660 (rd ((rd_T31 t653 x9_2).f3) x10_3)) + ((rd_T31 t653 (rd ((rd_T31 t653 x9_2).f3) x10_3)).f0))) ≤ (rd t660 x9_2))), (wrap64 (x10_3 + 1)), (by first | rfl | (simp; done) | (simp [*]; done)), (by first | rfl | (simp; done) | (simp [*]; done)), H', ⟨by have := HJ5.out; have := HK2.out; have := HK3.out; omega⟩, ⟨by (with_reducible repeat (first | apply tA_q | apply tN_q | apply tD_q)); exact HO_3.out⟩, ⟨by (with_reducible repeat (first | apply Kd.Q_alloc | apply Kd.Q_drewN | apply Kd.Q_drew)); exact HO_5.out⟩, ⟨by (with_reducible repeat (first | apply rA_q | apply rN_q | apply rD_q)); exact HO_664001.out⟩, ⟨by (with_reducible repeat (first | refine bN_q ?_ _ | refine bW_q ?_ | refine bL_q ?_ _)); exact BK663.out⟩, ⟨by repeat (first | (with_reducible first | exact HB.out | apply bA_q | apply pB_q | apply bD_q | refine bS_q ?_ GE663.out) | exact HB.out)⟩⟩
                rw [if_neg c35] at H
                exact absurd H (by simp)
               rw [if_neg c34] at H
               exact absurd H (by simp)
              rw [if_neg c33] at H
              exact absurd H (by simp)
             rw [if_neg c32] at H
             exact absurd H (by simp)
            replace c31 := fM_q.mpr c31
            subst c31
            have H1 : (laws_FnPlanOnly.l1 k3 t653 t660 t664 false x9_2 (wrap64 (x10_3 + 1)) t656 t657) = some r := by rw [if_neg (show ¬ (false = true) by decide)] at H; exact H
            clear H
            have H := H1
            clear H1
            have H' := Ae_q H
            clear H
            have p668 : 0 ≤ (x9_2 : Int) := oD_q (by assumption)
            have q668 : x9_2 < (t653.length : Int) := oD_q (by assumption)
            obtain ⟨ad668, A668_3, c668_3, e668, hx668_0, hx668_1, hx668_2, hx668_3, hl668_3, hi668_3⟩ := at_T31 (Kd.S_reads' HO_3.out).2.2 x9_2 p668 q668
            cases e668
            obtain ⟨ce668, hce668, hMe668, hcc668⟩ := Kd.S_get HO_3.out z31 x9_2 p668 (by first | exact q668 | exact oD_q (by assumption) | (have e_ := (Kd.S_reads' HO_3.out).1; omega))
            obtain ⟨ve668_3, rfl, ge668_3⟩ := k31_openM hMe668
            have hv668_3 := hcc668 3 _ rfl
            rw [add_field _ _ 3 (by omega)] at hv668_3
            replace hv668_3 := oI_q (hv668_3.symm.trans hx668_3)
            rw [hv668_3] at ge668_3
            have HL668_3 := Ae_q (show Kd.R kI_q 3 _ _ _ _ ((rd_T31 t653 x9_2).f3) from ge668_3)
            clear hv668_3 ge668_3
            clear hcc668 hce668
            have HR668_3 := Ae_q hi668_3
            have HC668_3 := Ae_q hl668_3
            clear hi668_3 hl668_3
            replace p668 := eq_true p668
            replace q668 := eq_true q668
            have p669 : 0 ≤ (x9_2 : Int) := oD_q (by assumption)
            have q669 : x9_2 < (t653.length : Int) := oD_q (by assumption)
            obtain ⟨ad669, A669_3, c669_3, e669, hx669_0, hx669_1, hx669_2, hx669_3, hl669_3, hi669_3⟩ := at_T31 (Kd.S_reads' HO_3.out).2.2 x9_2 p669 q669
            obtain rfl : ad668 = ad669 := (by injection e669)
            obtain ⟨ce669, hce669, hMe669, hcc669⟩ := Kd.S_get HO_3.out z31 x9_2 p669 (by first | exact q669 | exact oD_q (by assumption) | (have e_ := (Kd.S_reads' HO_3.out).1; omega))
            obtain ⟨ve669_3, rfl, ge669_3⟩ := k31_openM hMe669
            have hv669_3 := hcc669 3 _ rfl
            rw [add_field _ _ 3 (by omega)] at hv669_3
            replace hv669_3 := oI_q (hv669_3.symm.trans hx669_3)
            rw [hv669_3] at ge669_3
            have HL669_3 := Ae_q (show Kd.R kI_q 3 _ _ _ _ ((rd_T31 t653 x9_2).f3) from ge669_3)
            clear hv669_3 ge669_3
            clear hcc669 hce669
            have HR669_3 := Ae_q hi669_3
            have HC669_3 := Ae_q hl669_3
            clear hi669_3 hl669_3
            replace p669 := eq_true p669
            replace q669 := eq_true q669
            have ea_ := oI_q (hx668_3.symm.trans hx669_3)
            injection ea_ with ea_ en_ ec_
            subst ea_
            subst ec_
            clear en_
            have p670 : 0 ≤ (x10_3 : Int) := oD_q (by assumption)
            have q670 : x10_3 < (((rd_T31 t653 x9_2).f3).length : Int) := oD_q (by assumption)
            obtain ⟨ad670, e670, hx670_0⟩ := aI_q (by repeat (first | (with_reducible exact HR669_3.out) | (with_reducible refine cA_q ?_ _) | (with_reducible refine cN_q ?_ _) | (with_reducible refine cD_q ?_) | exact HR669_3.out)) x10_3 p670 q670
            cases e670
            replace p670 := eq_true p670
            replace q670 := eq_true q670
            go_wp2
            repeat (go_quiet (fail); try go_wp2)
            go_roundg k3
            case measure => have := HJ5.out; have := HK2.out; have := HK3.out; omega
            case rel => exact ⟨(false), (wrap64 (x10_3 + 1)), (by first | rfl | (simp; done) | (simp [*]; done)), (by first | rfl | (simp; done) | (simp [*]; done)), H', ⟨by have := HJ5.out; have := HK2.out; have := HK3.out; omega⟩, ⟨by (with_reducible repeat (first | apply tA_q | apply tN_q | apply tD_q)); exact HO_3.out⟩, ⟨by (with_reducible repeat (first | apply Kd.Q_alloc | apply Kd.Q_drewN | apply Kd.Q_drew)); exact HO_5.out⟩, ⟨by (with_reducible repeat (first | apply rA_q | apply rN_q | apply rD_q)); exact HO_664001.out⟩, ⟨by (with_reducible repeat (first | refine bN_q ?_ _ | refine bW_q ?_ | refine bL_q ?_ _)); exact BK663.out⟩, ⟨by repeat (first | (with_reducible first | exact HB.out | apply bA_q | apply pB_q | apply bD_q | refine bS_q ?_ GE663.out) | exact HB.out)⟩⟩
           rw [if_neg c30] at H
           exact absurd H (by simp)
          rw [if_neg c29] at H
          have c29b0 : decide (x10_3 < (((rd_T31 t653 x9_2).f3).length : Int)) = false := dF_q c29
          clear c29
          by_cases c36 : x9_2 < (t660.length : Int)
          ·rw [if_pos c36] at H
           have c36b0 : decide (x9_2 < (t660.length : Int)) = true := dT_q c36
           clear c36
           replace H := oB_q.mp H
           obtain ⟨⟨t675, t676⟩, A370, H⟩ := H
           replace H : (if x8_3 = true then (laws_FnPlanOnly.j3 k3 t653 t660 t664 (decide (t675 ≤ t656)) x9_2 t676 t656 t657) else (laws_FnPlanOnly.j3 k3 t653 t660 t664 false x9_2 t676 t656 t657)) = some r := H
           have A37 := Ae_q A370
           clear A370
           have HC38 := Ae_q H
           clear H
           have p668 : 0 ≤ (x9_2 : Int) := oD_q (by assumption)
           have q668 : x9_2 < (t653.length : Int) := oD_q (by assumption)
           obtain ⟨ad668, A668_3, c668_3, e668, hx668_0, hx668_1, hx668_2, hx668_3, hl668_3, hi668_3⟩ := at_T31 (Kd.S_reads' HO_3.out).2.2 x9_2 p668 q668
           cases e668
           obtain ⟨ce668, hce668, hMe668, hcc668⟩ := Kd.S_get HO_3.out z31 x9_2 p668 (by first | exact q668 | exact oD_q (by assumption) | (have e_ := (Kd.S_reads' HO_3.out).1; omega))
           obtain ⟨ve668_3, rfl, ge668_3⟩ := k31_openM hMe668
           have hv668_3 := hcc668 3 _ rfl
           rw [add_field _ _ 3 (by omega)] at hv668_3
           replace hv668_3 := oI_q (hv668_3.symm.trans hx668_3)
           rw [hv668_3] at ge668_3
           have HL668_3 := Ae_q (show Kd.R kI_q 3 _ _ _ _ ((rd_T31 t653 x9_2).f3) from ge668_3)
           clear hv668_3 ge668_3
           clear hcc668 hce668
           have HR668_3 := Ae_q hi668_3
           have HC668_3 := Ae_q hl668_3
           clear hi668_3 hl668_3
           replace p668 := eq_true p668
           replace q668 := eq_true q668
           have p674 : 0 ≤ (x9_2 : Int) := oD_q (by assumption)
           have q674 : x9_2 < (t660.length : Int) := oD_q (by assumption)
           obtain ⟨ad674, e674, hx674_0⟩ := aI_q (Kd.Q_reads' HO_5.out).2.2 x9_2 p674 q674
           cases e674
           replace p674 := eq_true p674
           replace q674 := eq_true q674
           go_upto_region 18 with (first | (go_at_call 10; (with_reducible refine (impl_PlanUse.calls k3 _ _ t653 _ _ t660 (rd t660 x9_2) t675 t676 _ ?side1 ?side2 ?side3 ?side4 A37.out).mono ?_); (case side1 => repeat (first | exact (Kd.S_reads' HO_3.out).2.2 | (with_reducible refine cA_q ?_ _) | (with_reducible refine cN_q ?_ _) | (with_reducible refine cD_q ?_))); (case side2 => exact (Kd.S_reads' HO_3.out).2.1); (case side3 => repeat (first | exact (Kd.Q_reads' HO_5.out).2.2 | (with_reducible refine cA_q ?_ _) | (with_reducible refine cN_q ?_ _) | (with_reducible refine cD_q ?_))); (case side4 => exact (Kd.Q_reads' HO_5.out).2.1); rintro e w39 ⟨v677, rfl, ho0, hb⟩; have n0_ := Ae_q (Kd.S_elder' (by (with_reducible repeat (first | apply tA_q | apply tN_q | apply tD_q)); exact HO_3.out) (rB_q ho0) hb); have n1_ := Ae_q (Kd.Q_elder' (by (with_reducible repeat (first | apply Kd.Q_alloc | apply Kd.Q_drewN | apply Kd.Q_drew)); exact HO_5.out) (rB_q ho0) hb); have n2_ := Ae_q (rE_q (rup HO_664001.out) (rB_q ho0) hb); have n3_ := Ae_q (rE_q (by (with_reducible repeat (first | apply rA_q | apply rN_q | apply rD_q)); exact HL668_3.out) (rB_q ho0) hb); have n4_ := Ae_q (rL_q (rW_q (rW_q (rW_q ho0 (Kd.Q_lt (by (with_reducible repeat (first | apply Kd.Q_alloc | apply Kd.Q_drewN | apply Kd.Q_drew)); exact HO_5.out))) (rT_q (rup HO_664001.out))) (rT_q (by (with_reducible repeat (first | apply rA_q | apply rN_q | apply rD_q)); exact HL668_3.out))) (bZ_q (by repeat (first | (with_reducible first | exact HB.out | apply bA_q | apply pB_q | apply bD_q | refine bS_q ?_ GE663.out) | exact HB.out)))); have n5_ := Ae_q (bB_q (g := gb663) (o := .cells #[.int .i64 t656, .slice Ao10 t657.length co10] 41 (0, 0)) (bup BK663.out) hb); have n6_ := Ae_q (cB_q (by repeat (first | (with_reducible exact HR668_3.out) | (with_reducible refine cA_q ?_ _) | (with_reducible refine cN_q ?_ _) | (with_reducible refine cD_q ?_) | exact HR668_3.out)) hb); have n7_ := Ae_q (bT_q (by repeat (first | (with_reducible first | exact HB.out | apply bA_q | apply pB_q | apply bD_q | refine bS_q ?_ GE663.out) | exact HB.out)) hb); clear HO_3; clear HO_5; clear HO_664001; clear HL668_3; clear BK663; clear HR668_3; clear HB; have HO_3 := n0_; have HO_5 := n1_; have HO_664001 := n2_; have HL668_3 := n3_; have HO678 := n4_; have BK663 := n5_; have HR668_3 := n6_; have HB := n7_; clear n0_ n1_ n2_ n3_ n4_ n5_ n6_ n7_; (try clear hb); (try clear hb2); (try clear hk); (try clear hi); (try clear ho0)))
           repeat (go_quiet (first | (go_at_call 10; (with_reducible refine (impl_PlanUse.calls k3 _ _ t653 _ _ t660 (rd t660 x9_2) t675 t676 _ ?side1 ?side2 ?side3 ?side4 A37.out).mono ?_); (case side1 => repeat (first | exact (Kd.S_reads' HO_3.out).2.2 | (with_reducible refine cA_q ?_ _) | (with_reducible refine cN_q ?_ _) | (with_reducible refine cD_q ?_))); (case side2 => exact (Kd.S_reads' HO_3.out).2.1); (case side3 => repeat (first | exact (Kd.Q_reads' HO_5.out).2.2 | (with_reducible refine cA_q ?_ _) | (with_reducible refine cN_q ?_ _) | (with_reducible refine cD_q ?_))); (case side4 => exact (Kd.Q_reads' HO_5.out).2.1); rintro e w39 ⟨v677, rfl, ho0, hb⟩; have n0_ := Ae_q (Kd.S_elder' (by (with_reducible repeat (first | apply tA_q | apply tN_q | apply tD_q)); exact HO_3.out) (rB_q ho0) hb); have n1_ := Ae_q (Kd.Q_elder' (by (with_reducible repeat (first | apply Kd.Q_alloc | apply Kd.Q_drewN | apply Kd.Q_drew)); exact HO_5.out) (rB_q ho0) hb); have n2_ := Ae_q (rE_q (rup HO_664001.out) (rB_q ho0) hb); have n3_ := Ae_q (rE_q (by (with_reducible repeat (first | apply rA_q | apply rN_q | apply rD_q)); exact HL668_3.out) (rB_q ho0) hb); have n4_ := Ae_q (rL_q (rW_q (rW_q (rW_q ho0 (Kd.Q_lt (by (with_reducible repeat (first | apply Kd.Q_alloc | apply Kd.Q_drewN | apply Kd.Q_drew)); exact HO_5.out))) (rT_q (rup HO_664001.out))) (rT_q (by (with_reducible repeat (first | apply rA_q | apply rN_q | apply rD_q)); exact HL668_3.out))) (bZ_q (by repeat (first | (with_reducible first | exact HB.out | apply bA_q | apply pB_q | apply bD_q | refine bS_q ?_ GE663.out) | exact HB.out)))); have n5_ := Ae_q (bB_q (g := gb663) (o := .cells #[.int .i64 t656, .slice Ao10 t657.length co10] 41 (0, 0)) (bup BK663.out) hb); have n6_ := Ae_q (cB_q (by repeat (first | (with_reducible exact HR668_3.out) | (with_reducible refine cA_q ?_ _) | (with_reducible refine cN_q ?_ _) | (with_reducible refine cD_q ?_) | exact HR668_3.out)) hb); have n7_ := Ae_q (bT_q (by repeat (first | (with_reducible first | exact HB.out | apply bA_q | apply pB_q | apply bD_q | refine bS_q ?_ GE663.out) | exact HB.out)) hb); clear HO_3; clear HO_5; clear HO_664001; clear HL668_3; clear BK663; clear HR668_3; clear HB; have HO_3 := n0_; have HO_5 := n1_; have HO_664001 := n2_; have HL668_3 := n3_; have HO678 := n4_; have BK663 := n5_; have HR668_3 := n6_; have HB := n7_; clear n0_ n1_ n2_ n3_ n4_ n5_ n6_ n7_; (try clear hb); (try clear hb2); (try clear hk); (try clear hi); (try clear ho0))); go_upto_region 18 with (first | (go_at_call 10; (with_reducible refine (impl_PlanUse.calls k3 _ _ t653 _ _ t660 (rd t660 x9_2) t675 t676 _ ?side1 ?side2 ?side3 ?side4 A37.out).mono ?_); (case side1 => repeat (first | exact (Kd.S_reads' HO_3.out).2.2 | (with_reducible refine cA_q ?_ _) | (with_reducible refine cN_q ?_ _) | (with_reducible refine cD_q ?_))); (case side2 => exact (Kd.S_reads' HO_3.out).2.1); (case side3 => repeat (first | exact (Kd.Q_reads' HO_5.out).2.2 | (with_reducible refine cA_q ?_ _) | (with_reducible refine cN_q ?_ _) | (with_reducible refine cD_q ?_))); (case side4 => exact (Kd.Q_reads' HO_5.out).2.1); rintro e w39 ⟨v677, rfl, ho0, hb⟩; have n0_ := Ae_q (Kd.S_elder' (by (with_reducible repeat (first | apply tA_q | apply tN_q | apply tD_q)); exact HO_3.out) (rB_q ho0) hb); have n1_ := Ae_q (Kd.Q_elder' (by (with_reducible repeat (first | apply Kd.Q_alloc | apply Kd.Q_drewN | apply Kd.Q_drew)); exact HO_5.out) (rB_q ho0) hb); have n2_ := Ae_q (rE_q (rup HO_664001.out) (rB_q ho0) hb); have n3_ := Ae_q (rE_q (by (with_reducible repeat (first | apply rA_q | apply rN_q | apply rD_q)); exact HL668_3.out) (rB_q ho0) hb); have n4_ := Ae_q (rL_q (rW_q (rW_q (rW_q ho0 (Kd.Q_lt (by (with_reducible repeat (first | apply Kd.Q_alloc | apply Kd.Q_drewN | apply Kd.Q_drew)); exact HO_5.out))) (rT_q (rup HO_664001.out))) (rT_q (by (with_reducible repeat (first | apply rA_q | apply rN_q | apply rD_q)); exact HL668_3.out))) (bZ_q (by repeat (first | (with_reducible first | exact HB.out | apply bA_q | apply pB_q | apply bD_q | refine bS_q ?_ GE663.out) | exact HB.out)))); have n5_ := Ae_q (bB_q (g := gb663) (o := .cells #[.int .i64 t656, .slice Ao10 t657.length co10] 41 (0, 0)) (bup BK663.out) hb); have n6_ := Ae_q (cB_q (by repeat (first | (with_reducible exact HR668_3.out) | (with_reducible refine cA_q ?_ _) | (with_reducible refine cN_q ?_ _) | (with_reducible refine cD_q ?_) | exact HR668_3.out)) hb); have n7_ := Ae_q (bT_q (by repeat (first | (with_reducible first | exact HB.out | apply bA_q | apply pB_q | apply bD_q | refine bS_q ?_ GE663.out) | exact HB.out)) hb); clear HO_3; clear HO_5; clear HO_664001; clear HL668_3; clear BK663; clear HR668_3; clear HB; have HO_3 := n0_; have HO_5 := n1_; have HO_664001 := n2_; have HL668_3 := n3_; have HO678 := n4_; have BK663 := n5_; have HR668_3 := n6_; have HB := n7_; clear n0_ n1_ n2_ n3_ n4_ n5_ n6_ n7_; (try clear hb); (try clear hb2); (try clear hk); (try clear hi); (try clear ho0))))
           (try simp only [Act.put, sA_q, sZ_q, sS_q])
           go_cut [8] (fun v8 wc => ∃ (kq : Nat) (x8_37 : Bool), v8 = .bool x8_37 ∧ Aside0 (laws_FnPlanOnly.j3 kq t653 t660 t664 x8_37 x9_2 t676 t656 t657 = some r) ∧ Aside0 (kq ≤ k3) ∧ Aside0 (Kd.S k31 31 wc w.heap.size (fun k_ => some k_ ≠ ((.slice (some ad674) t660.length co12) : Value).ownBlock ∧ some k_ ≠ (v677 : Value).ownBlock ∧ some k_ ≠ ((.slice Ao10 t657.length co10) : Value).ownBlock) (.slice (some ad668) t653.length co11) t653) ∧ Aside0 (Kd.Q kI_q 3 wc w.heap.size (fun k_ => some k_ ≠ (v677 : Value).ownBlock ∧ some k_ ≠ ((.slice Ao10 t657.length co10) : Value).ownBlock) (.slice (some ad674) t660.length co12) t660) ∧ Aside0 (Kd.R kI_q 3 wc w.heap.size (fun k_ => some k_ ≠ ((.slice (some ad674) t660.length co12) : Value).ownBlock ∧ some k_ ≠ ((.slice Ao10 t657.length co10) : Value).ownBlock) v677 t676) ∧ Aside0 (Kd.R kI_q 3 wc w.heap.size (fun k_ => some k_ ≠ ((.slice (some ad674) t660.length co12) : Value).ownBlock ∧ some k_ ≠ (v677 : Value).ownBlock) (.slice Ao10 t657.length co10) t657) ∧ Aside0 (wc.heap[gb663]? = some (.cells #[.int .i64 t656, (.slice Ao10 t657.length co10)] 41 (0, 0))) ∧ Aside0 (Kd.C kI_q wc A668_3 ((rd_T31 t653 x9_2).f3).length ((rd_T31 t653 x9_2).f3)) ∧ Aside0 (Below w.heap.size w wc))
           case first =>
            have H := HC38.out
            clear HC38
            by_cases c40 : x8_3 = true
            ·subst c40
             have H1 : (laws_FnPlanOnly.j3 k3 t653 t660 t664 (decide (t675 ≤ t656)) x9_2 t676 t656 t657) = some r := by rw [if_pos rfl] at H; exact H
             clear H
             have H := H1
             clear H1
             have H' := Ae_q H
             clear H
             have hcz41_0 : w39.cell? ⟨gb663, 0, none⟩ = some (.int .i64 t656) := (bC_q BK663.out 0).trans rfl
             have hcz41_1 : w39.cell? ⟨gb663, 1, none⟩ = some (.slice Ao10 t657.length co10) := (bC_q BK663.out 1).trans rfl
             have hfz41_0 := bF_q BK663.out 0
             have hfz41_1 := bF_q BK663.out 1
             go_wp2
             repeat (go_quiet (fail); try go_wp2)
             go_meet
             case rel => exact ⟨_, (decide (t675 ≤ t656)), (by first | rfl | (simp; done) | (simp [*]; done)), H', ⟨by have := HJ5.out; have := HK2.out; have := HK3.out; first | omega | exact nR_q _⟩, ⟨by (with_reducible repeat (first | apply tA_q | apply tN_q | apply tD_q)); exact Kd.S_mono HO_3.out (fun _ hk => ⟨hk.1.1, ⟨hk.2, hk.1.2⟩⟩)⟩, ⟨by (with_reducible repeat (first | apply Kd.Q_alloc | apply Kd.Q_drewN | apply Kd.Q_drew)); exact Kd.Q_mono HO_5.out (fun _ hk => ⟨hk.2, hk.1⟩)⟩, ⟨by (with_reducible repeat (first | apply rA_q | apply rN_q | apply rD_q)); exact rM_q HO678.out (fun _ hk => ⟨hk.1.1.2, hk.1.2⟩)⟩, ⟨by (with_reducible repeat (first | apply rA_q | apply rN_q | apply rD_q)); exact HO_664001.out⟩, ⟨by (with_reducible repeat (first | refine bN_q ?_ _ | refine bW_q ?_ | refine bL_q ?_ _)); exact BK663.out⟩, ⟨by repeat (first | (with_reducible exact HR668_3.out) | (with_reducible refine cA_q ?_ _) | (with_reducible refine cN_q ?_ _) | (with_reducible refine cD_q ?_) | exact HR668_3.out)⟩, ⟨by repeat (first | (with_reducible first | exact HB.out | apply bA_q | apply pB_q | apply bD_q | refine bS_q ?_ GE663.out) | exact HB.out)⟩⟩
            replace c40 := fM_q.mpr c40
            subst c40
            have H1 : (laws_FnPlanOnly.j3 k3 t653 t660 t664 false x9_2 t676 t656 t657) = some r := by rw [if_neg (show ¬ (false = true) by decide)] at H; exact H
            clear H
            have H := H1
            clear H1
            have H' := Ae_q H
            clear H
            go_wp2
            repeat (go_quiet (fail); try go_wp2)
            go_meet
            case rel => exact ⟨_, (false), (by first | rfl | (simp; done) | (simp [*]; done)), H', ⟨by have := HJ5.out; have := HK2.out; have := HK3.out; first | omega | exact nR_q _⟩, ⟨by (with_reducible repeat (first | apply tA_q | apply tN_q | apply tD_q)); exact Kd.S_mono HO_3.out (fun _ hk => ⟨hk.1.1, ⟨hk.2, hk.1.2⟩⟩)⟩, ⟨by (with_reducible repeat (first | apply Kd.Q_alloc | apply Kd.Q_drewN | apply Kd.Q_drew)); exact Kd.Q_mono HO_5.out (fun _ hk => ⟨hk.2, hk.1⟩)⟩, ⟨by (with_reducible repeat (first | apply rA_q | apply rN_q | apply rD_q)); exact rM_q HO678.out (fun _ hk => ⟨hk.1.1.2, hk.1.2⟩)⟩, ⟨by (with_reducible repeat (first | apply rA_q | apply rN_q | apply rD_q)); exact HO_664001.out⟩, ⟨by (with_reducible repeat (first | refine bN_q ?_ _ | refine bW_q ?_ | refine bL_q ?_ _)); exact BK663.out⟩, ⟨by repeat (first | (with_reducible exact HR668_3.out) | (with_reducible refine cA_q ?_ _) | (with_reducible refine cN_q ?_ _) | (with_reducible refine cD_q ?_) | exact HR668_3.out)⟩, ⟨by repeat (first | (with_reducible first | exact HB.out | apply bA_q | apply pB_q | apply bD_q | refine bS_q ?_ GE663.out) | exact HB.out)⟩⟩
           case rest =>
            clear HC38
            try clear c1
            try clear c2
            try clear c2b0
            try clear c2b1
            try clear p2
            try clear c3
            try clear c4
            try clear c6
            try clear p6
            try clear q6
            try clear hx6
            try clear c16
            try clear c16b0
            try clear c16b1
            try clear c16b2
            try clear c18
            try clear c25
            try clear c26
            try clear c26b0
            try clear c27
            try clear c27b0
            try clear c28
            try clear c28b0
            try clear c29
            try clear c29b0
            try clear c30
            try clear c30b0
            try clear c31
            try clear c32
            try clear c32b0
            try clear c33
            try clear c33b0
            try clear c34
            try clear c34b0
            try clear c35
            try clear c35b0
            try clear c36
            try clear c36b0
            try clear c40
            try clear hcz14_0
            try clear hcz14_1
            try clear hcz20_0
            try clear hcz20_1
            try clear hcz23_0
            try clear hcz23_1
            try clear hcz41_0
            try clear hcz41_1
            try clear hcz9_0
            try clear hcz9_1
            try clear hfz14_0
            try clear hfz14_1
            try clear hfz20_0
            try clear hfz20_1
            try clear hfz23_0
            try clear hfz23_1
            try clear hfz41_0
            try clear hfz41_1
            try clear hfz9_0
            try clear hfz9_1
            try clear hx668_0
            try clear hx668_1
            try clear hx668_2
            try clear hx668_3
            try clear hx669_0
            try clear hx669_1
            try clear hx669_2
            try clear hx669_3
            try clear hx670_0
            try clear hx671_0
            try clear hx672_0
            try clear hx672_1
            try clear hx672_2
            try clear hx672_3
            try clear hx673_0
            try clear hx674_0
            try clear p2
            try clear p668
            try clear p669
            try clear p670
            try clear p671
            try clear p672
            try clear p673
            try clear p674
            try clear q668
            try clear q669
            try clear q670
            try clear q671
            try clear q672
            try clear q673
            try clear q674
            obtain ⟨kq, x8_37, rfl, HA, HJ37, HO_3, HO_5, HO_13, HO_664001, BK663, HR668_3, HB⟩ := hcut
            cases kq with
            | zero => exact absurd HA.out (by simp [laws_FnPlanOnly.j3])
            | succ kj37 =>
             have H := HA.out
             clear HA
             simp only [laws_FnPlanOnly.j3] at H
             have H' := Ae_q H
             clear H
             go_wp2
             repeat (go_quiet (fail); try go_wp2)
             go_loopg [8, 14] kj37 (fun kq v8 v14 w' => ∃ (x8_5 : Bool) (x14_5 : Int), v8 = .bool x8_5 ∧ v14 = .int .i64 x14_5 ∧ Aside0 (laws_FnPlanOnly.l2 kq t653 t660 t664 x8_5 x9_2 t676 x14_5 t656 t657 = some r) ∧ Aside0 (kq ≤ kj37) ∧ Aside0 (Kd.S k31 31 w' w.heap.size (fun k_ => some k_ ≠ ((.slice (some ad674) t660.length co12) : Value).ownBlock ∧ some k_ ≠ (v677 : Value).ownBlock ∧ some k_ ≠ ((.slice Ao10 t657.length co10) : Value).ownBlock) (.slice (some ad668) t653.length co11) t653) ∧ Aside0 (Kd.Q kI_q 3 w' w.heap.size (fun k_ => some k_ ≠ (v677 : Value).ownBlock ∧ some k_ ≠ ((.slice Ao10 t657.length co10) : Value).ownBlock) (.slice (some ad674) t660.length co12) t660) ∧ Aside0 (Kd.R kI_q 3 w' w.heap.size (fun k_ => some k_ ≠ ((.slice (some ad674) t660.length co12) : Value).ownBlock ∧ some k_ ≠ ((.slice Ao10 t657.length co10) : Value).ownBlock) v677 t676) ∧ Aside0 (Kd.R kI_q 3 w' w.heap.size (fun k_ => some k_ ≠ ((.slice (some ad674) t660.length co12) : Value).ownBlock ∧ some k_ ≠ (v677 : Value).ownBlock) (.slice Ao10 t657.length co10) t657) ∧ Aside0 (w'.heap[gb663]? = some (.cells #[.int .i64 t656, (.slice Ao10 t657.length co10)] 41 (0, 0))) ∧ Aside0 (Kd.C kI_q w' A668_3 ((rd_T31 t653 x9_2).f3).length ((rd_T31 t653 x9_2).f3)) ∧ Aside0 (Below w.heap.size w w'))
             case atStart => exact ⟨(x8_37), (0), (by first | rfl | (simp; done) | (simp [*]; done)), (by first | rfl | (simp; done) | (simp [*]; done)), H', ⟨nR_q _⟩, ⟨by (with_reducible repeat (first | apply tA_q | apply tN_q | apply tD_q)); exact HO_3.out⟩, ⟨by (with_reducible repeat (first | apply Kd.Q_alloc | apply Kd.Q_drewN | apply Kd.Q_drew)); exact HO_5.out⟩, ⟨by (with_reducible repeat (first | apply rA_q | apply rN_q | apply rD_q)); exact HO_13.out⟩, ⟨by (with_reducible repeat (first | apply rA_q | apply rN_q | apply rD_q)); exact HO_664001.out⟩, ⟨by (with_reducible repeat (first | refine bN_q ?_ _ | refine bW_q ?_ | refine bL_q ?_ _)); exact BK663.out⟩, ⟨by repeat (first | (with_reducible exact HR668_3.out) | (with_reducible refine cA_q ?_ _) | (with_reducible refine cN_q ?_ _) | (with_reducible refine cD_q ?_) | exact HR668_3.out)⟩, ⟨by repeat (first | (with_reducible first | exact HB.out | apply bA_q | apply pB_q | apply bD_q | refine bS_q ?_ GE663.out) | exact HB.out)⟩⟩
             case round =>
              clear H'
              try clear c1
              try clear c2
              try clear c2b0
              try clear c2b1
              try clear p2
              try clear c3
              try clear c4
              try clear c6
              try clear p6
              try clear q6
              try clear hx6
              try clear c16
              try clear c16b0
              try clear c16b1
              try clear c16b2
              try clear c18
              try clear c25
              try clear c26
              try clear c26b0
              try clear c27
              try clear c27b0
              try clear c28
              try clear c28b0
              try clear c29
              try clear c29b0
              try clear c30
              try clear c30b0
              try clear c31
              try clear c32
              try clear c32b0
              try clear c33
              try clear c33b0
              try clear c34
              try clear c34b0
              try clear c35
              try clear c35b0
              try clear c36
              try clear c36b0
              try clear c40
              try clear hcz14_0
              try clear hcz14_1
              try clear hcz20_0
              try clear hcz20_1
              try clear hcz23_0
              try clear hcz23_1
              try clear hcz41_0
              try clear hcz41_1
              try clear hcz9_0
              try clear hcz9_1
              try clear hfz14_0
              try clear hfz14_1
              try clear hfz20_0
              try clear hfz20_1
              try clear hfz23_0
              try clear hfz23_1
              try clear hfz41_0
              try clear hfz41_1
              try clear hfz9_0
              try clear hfz9_1
              try clear hx668_0
              try clear hx668_1
              try clear hx668_2
              try clear hx668_3
              try clear hx669_0
              try clear hx669_1
              try clear hx669_2
              try clear hx669_3
              try clear hx670_0
              try clear hx671_0
              try clear hx672_0
              try clear hx672_1
              try clear hx672_2
              try clear hx672_3
              try clear hx673_0
              try clear hx674_0
              try clear p2
              try clear p6
              try clear p668
              try clear p669
              try clear p670
              try clear p671
              try clear p672
              try clear p673
              try clear p674
              try clear q6
              try clear q668
              try clear q669
              try clear q670
              try clear q671
              try clear q672
              try clear q673
              try clear q674
              obtain ⟨x8_5, x14_5, rfl, rfl, HA, HK5, HO_3, HO_5, HO_13, HO_664001, BK663, HR668_3, HB⟩ := hrel
              cases gk with
              | zero => exact absurd HA.out (by simp [laws_FnPlanOnly.l2])
              | succ k5 =>
               have H := HA.out
               clear HA
               simp only [laws_FnPlanOnly.l2] at H
               by_cases c42 : x14_5 < (t676.length : Int)
               ·rw [if_pos c42] at H
                have c42b0 : decide (x14_5 < (t676.length : Int)) = true := dT_q c42
                clear c42
                by_cases c43 : x8_5 = true
                ·subst c43
                 have H1 : (if 0 ≤ x14_5 then (if x14_5 < (t657.length : Int) then (laws_FnPlanOnly.l2 k5 t653 t660 t664 (decide ((rd t676 x14_5) ≤ (rd t657 x14_5))) x9_2 t676 (wrap64 (x14_5 + 1)) t656 t657) else (none)) else (none)) = some r := by rw [if_pos rfl] at H; exact H
                 clear H
                 have H := H1
                 clear H1
                 by_cases c44 : 0 ≤ x14_5
                 ·rw [if_pos c44] at H
                  have c44b0 : decide (0 ≤ x14_5) = true := dT_q c44
                  clear c44
                  by_cases c45 : x14_5 < (t657.length : Int)
                  ·rw [if_pos c45] at H
                   have c45b0 : decide (x14_5 < (t657.length : Int)) = true := dT_q c45
                   clear c45
                   have H' := Ae_q H
                   clear H
                   obtain ⟨Ao46, co46, eo46⟩ := rS_q HO_13.out
                   subst eo46
                   have p679 : 0 ≤ (x14_5 : Int) := oD_q (by assumption)
                   have q679 : x14_5 < (t676.length : Int) := oD_q (by assumption)
                   obtain ⟨ad679, e679, hx679_0⟩ := aI_q (rR_q HO_13.out).2.2 x14_5 p679 q679
                   cases e679
                   replace p679 := eq_true p679
                   replace q679 := eq_true q679
                   have hcz47_0 : wr.cell? ⟨gb663, 0, none⟩ = some (.int .i64 t656) := (bC_q BK663.out 0).trans rfl
                   have hcz47_1 : wr.cell? ⟨gb663, 1, none⟩ = some (.slice Ao10 t657.length co10) := (bC_q BK663.out 1).trans rfl
                   have hfz47_0 := bF_q BK663.out 0
                   have hfz47_1 := bF_q BK663.out 1
                   have p680 : 0 ≤ (x14_5 : Int) := oD_q (by assumption)
                   have q680 : x14_5 < (t657.length : Int) := oD_q (by assumption)
                   obtain ⟨ad680, e680, hx680_0⟩ := aI_q (rR_q HO_664001.out).2.2 x14_5 p680 q680
                   cases e680
                   replace p680 := eq_true p680
                   replace q680 := eq_true q680
                   go_wp2
                   repeat (go_quiet (fail); try go_wp2)
                   go_roundg k5
                   case measure => have := HJ5.out; have := HK2.out; have := HK3.out; have := HJ37.out; have := HK5.out; omega
                   case rel => exact ⟨(decide ((rd t676 x14_5) ≤ (rd t657 x14_5))), (wrap64 (x14_5 + 1)), (by first | rfl | (simp; done) | (simp [*]; done)), (by first | rfl | (simp; done) | (simp [*]; done)), H', ⟨by have := HJ5.out; have := HK2.out; have := HK3.out; have := HJ37.out; have := HK5.out; omega⟩, ⟨by (with_reducible repeat (first | apply tA_q | apply tN_q | apply tD_q)); exact HO_3.out⟩, ⟨by (with_reducible repeat (first | apply Kd.Q_alloc | apply Kd.Q_drewN | apply Kd.Q_drew)); exact HO_5.out⟩, ⟨by (with_reducible repeat (first | apply rA_q | apply rN_q | apply rD_q)); exact HO_13.out⟩, ⟨by (with_reducible repeat (first | apply rA_q | apply rN_q | apply rD_q)); exact HO_664001.out⟩, ⟨by (with_reducible repeat (first | refine bN_q ?_ _ | refine bW_q ?_ | refine bL_q ?_ _)); exact BK663.out⟩, ⟨by repeat (first | (with_reducible exact HR668_3.out) | (with_reducible refine cA_q ?_ _) | (with_reducible refine cN_q ?_ _) | (with_reducible refine cD_q ?_) | exact HR668_3.out)⟩, ⟨by repeat (first | (with_reducible first | exact HB.out | apply bA_q | apply pB_q | apply bD_q | refine bS_q ?_ GE663.out) | exact HB.out)⟩⟩
                  rw [if_neg c45] at H
                  exact absurd H (by simp)
                 rw [if_neg c44] at H
                 exact absurd H (by simp)
                replace c43 := fM_q.mpr c43
                subst c43
                have H1 : (laws_FnPlanOnly.l2 k5 t653 t660 t664 false x9_2 t676 (wrap64 (x14_5 + 1)) t656 t657) = some r := by rw [if_neg (show ¬ (false = true) by decide)] at H; exact H
                clear H
                have H := H1
                clear H1
                have H' := Ae_q H
                clear H
                obtain ⟨Ao48, co48, eo48⟩ := rS_q HO_13.out
                subst eo48
                go_wp2
                repeat (go_quiet (fail); try go_wp2)
                go_roundg k5
                case measure => have := HJ5.out; have := HK2.out; have := HK3.out; have := HJ37.out; have := HK5.out; omega
                case rel => exact ⟨(false), (wrap64 (x14_5 + 1)), (by first | rfl | (simp; done) | (simp [*]; done)), (by first | rfl | (simp; done) | (simp [*]; done)), H', ⟨by have := HJ5.out; have := HK2.out; have := HK3.out; have := HJ37.out; have := HK5.out; omega⟩, ⟨by (with_reducible repeat (first | apply tA_q | apply tN_q | apply tD_q)); exact HO_3.out⟩, ⟨by (with_reducible repeat (first | apply Kd.Q_alloc | apply Kd.Q_drewN | apply Kd.Q_drew)); exact HO_5.out⟩, ⟨by (with_reducible repeat (first | apply rA_q | apply rN_q | apply rD_q)); exact HO_13.out⟩, ⟨by (with_reducible repeat (first | apply rA_q | apply rN_q | apply rD_q)); exact HO_664001.out⟩, ⟨by (with_reducible repeat (first | refine bN_q ?_ _ | refine bW_q ?_ | refine bL_q ?_ _)); exact BK663.out⟩, ⟨by repeat (first | (with_reducible exact HR668_3.out) | (with_reducible refine cA_q ?_ _) | (with_reducible refine cN_q ?_ _) | (with_reducible refine cD_q ?_) | exact HR668_3.out)⟩, ⟨by repeat (first | (with_reducible first | exact HB.out | apply bA_q | apply pB_q | apply bD_q | refine bS_q ?_ GE663.out) | exact HB.out)⟩⟩
               rw [if_neg c42] at H
               have c42b0 : decide (x14_5 < (t676.length : Int)) = false := dF_q c42
               clear c42
               have H' := Ae_q H
               clear H
               obtain ⟨Ao49, co49, eo49⟩ := rS_q HO_13.out
               subst eo49
               go_wp2
               repeat (go_quiet (fail); try go_wp2)
               go_roundg k5
               case measure => have := HJ5.out; have := HK2.out; have := HK3.out; have := HJ37.out; have := HK5.out; omega
               case rel => exact ⟨(x8_5), (wrap64 (x9_2 + 1)), (by first | rfl | (simp; done) | (simp [*]; done)), (by first | rfl | (simp; done) | (simp [*]; done)), H', ⟨by have := HJ5.out; have := HK2.out; have := HK3.out; have := HJ37.out; have := HK5.out; omega⟩, ⟨by (with_reducible repeat (first | apply tA_q | apply tN_q | apply tD_q)); exact Kd.S_mono HO_3.out (fun _ hk => ⟨hk.1, hk.2.2⟩)⟩, ⟨by (with_reducible repeat (first | apply Kd.Q_alloc | apply Kd.Q_drewN | apply Kd.Q_drew)); exact Kd.Q_mono HO_5.out (fun _ hk => hk.2)⟩, ⟨by (with_reducible repeat (first | apply rA_q | apply rN_q | apply rD_q)); exact rM_q HO_664001.out (fun _ hk => hk.1)⟩, ⟨by (with_reducible repeat (first | refine bN_q ?_ _ | refine bW_q ?_ | refine bL_q ?_ _)); exact BK663.out⟩, ⟨by repeat (first | (with_reducible first | exact HB.out | apply bA_q | apply pB_q | apply bD_q | refine bS_q ?_ GE663.out) | exact HB.out)⟩⟩
          rw [if_neg c36] at H
          exact absurd H (by simp)
         rw [if_neg c28] at H
         exact absurd H (by simp)
        rw [if_neg c27] at H
        exact absurd H (by simp)
     rw [if_neg c26] at H
     have c26b0 : decide (x9_2 < (t653.length : Int)) = false := dF_q c26
     clear c26
     obtain rfl := oI_q H
     go_wp2
     repeat (go_quiet (fail); try go_wp2)
     go_ret
     exact ⟨by first | rfl | (simp [eN_q, eS_q] <;> rfl) | (simp [*, eN_q, eS_q] <;> rfl), by repeat (first | (with_reducible first | exact HB.out | apply bA_q | apply pB_q | apply bD_q | refine bS_q ?_ GE663.out) | exact HB.out)⟩

def laws_FnPlanOnly.Pure : Prop := ∀ (l0 : List Int), l0.length ≤ maxLen → l0.length * 1 ≤ 140737488351232 → (∀ x ∈ l0, (Lit.int .u8 x).wf = true) → ∃ k, laws_FnPlanOnly.f k l0 = some true
theorem laws_FnPlanOnly.walk (P : laws_FnPlanOnly.Pure) (a0 : Option Addr) (len0 cap0 : Nat) (z0 : List Int) (w : World) (w0 : (a0 = none ∧ len0 = 0 ∧ cap0 = 0 ∧ z0 = []) ∨ ∃ x, a0 = some x ∧ len0 ≤ cap0 ∧ cap0 ≤ maxLen ∧ z0.length = cap0 ∧ (∀ i, i < z0.length → w.cell? (x.add i) = some (.int .u8 (z0.getD i 0))) ∧ ∀ n ∈ z0, (Lit.int .u8 n).wf = true) (y0 : len0 * 1 ≤ 140737488351232) :
    Calls Try.prog 6 #[.slice a0 len0 cap0] w fun e w' => e = .returned (.bool true) ∧ Below w.heap.size w w' := by
 obtain ⟨l0, rfl, hr0, hm0, hw0, hc0⟩ := ReadsInt.ofRowC w0
 obtain ⟨k, h⟩ := P l0 hm0 y0 hw0
 refine (laws_FnPlanOnly.calls k _ _ l0 true w (Kd.C_of_reads (d := (0 : Int)) (h1 := fun _ => rfl) hr0) hc0 h).mono ?_
 rintro e w' ⟨rfl, hd⟩
 exact ⟨rfl, hd⟩

end Go.Proofs.Ytoaigcdoblnmhaa.PPn
