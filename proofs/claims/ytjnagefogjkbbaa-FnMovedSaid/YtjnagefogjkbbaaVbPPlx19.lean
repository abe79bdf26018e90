import Derived.Test.YtjnagefogjkbbaaVbPPlx0
import Derived.Test.YtjnagefogjkbbaaVbPPlx3
import Derived.Test.YtjnagefogjkbbaaVbPPlx18
namespace Go.Proofs.Ytjnagefogjkbbaa.PPl
open Go.RowKit Go.Proofs.YtjnagefogjkbbaaW.PrintWords Go.Proofs.YtjnagefogjkbbaaW.PrintLast Go.Proofs.YtjnagefogjkbbaaW.PrintMore
attribute [local go_sem] max2_int min2_int max_two min_two max_three min_three max_four min_four
set_option linter.unusedVariables false
set_option linter.unusedSimpArgs false

mutual
def laws_FnMoved.j0 : Nat → List Int → List Int → List Int → List Int → Bool → Option (Bool)
 | 0, _, _, _, _, _ => none
 | k + 1, x3, x4, x5, x6, x32 => if x32 = true then ((laws_sameInts.f k x5 x6).bind fun t558 => (some t558)) else (laws_FnMoved.l0 k x3 x4 x5 0)
def laws_FnMoved.l0 : Nat → List Int → List Int → List Int → Int → Option (Bool)
 | 0, _, _, _, _ => none
 | k + 1, x3, x4, x5, x7 => if x7 < (x3.length : Int) then ((laws_hasInt.f k x5 x7).bind fun t559 => (if 0 ≤ x7 then (if x7 < (x4.length : Int) then (if (t559 != ((rd x3 x7) != (rd x4 x7))) = true then (some false) else (laws_FnMoved.l0 k x3 x4 x5 (wrap64 (x7 + 1)))) else (none)) else (none))) else ((impl_PlanMoved.f k x4 x3).bind fun t562 => ((laws_sameInts.f k t562 x5).bind fun t565 => (some t565)))
end
def laws_FnMoved.f (k : Nat) (l0 : List Int) : Option (Bool) := if (l0.length : Int) > 1048576 then (some true) else ((spec_DrawPlanMoved.f k l0).bind fun bt545 => ((impl_PlanMoved.f k bt545.1 bt545.2).bind fun t551 => ((spec_PlanMoved.f k bt545.1 bt545.2).bind fun t554 => ((laws_sameInts.f k t551 t554).bind fun t557 => (if t557 = true then (laws_FnMoved.j0 k bt545.1 bt545.2 t551 t554 ((bt545.1.length : Int) != (bt545.2.length : Int))) else (laws_FnMoved.j0 k bt545.1 bt545.2 t551 t554 true))))))
theorem laws_FnMoved.mono_l : ∀ k, (∀ y0 y1 y2 y3 y4, LeO (laws_FnMoved.j0 k y0 y1 y2 y3 y4) (laws_FnMoved.j0 (k + 1) y0 y1 y2 y3 y4)) ∧ (∀ y0 y1 y2 y3, LeO (laws_FnMoved.l0 k y0 y1 y2 y3) (laws_FnMoved.l0 (k + 1) y0 y1 y2 y3))
 | 0 => ⟨fun _ _ _ _ _ r h => by simp [laws_FnMoved.j0] at h, fun _ _ _ _ r h => by simp [laws_FnMoved.l0] at h⟩
 | k + 1 => by
  obtain ⟨ih0, ih1⟩ := laws_FnMoved.mono_l k
  refine ⟨?_, ?_⟩
  ·intro y0 y1 y2 y3 y4
   unfold laws_FnMoved.j0
   repeat' first
   | (with_reducible exact ih0 _ _ _ _ _)
   | (with_reducible exact ih1 _ _ _ _)
   | (with_reducible exact impl_PlanMoved.mono _ _ _)
   | (with_reducible exact laws_hasInt.mono _ _ _)
   | (with_reducible exact laws_sameInts.mono _ _ _)
   | (with_reducible exact spec_DrawPlanMoved.mono _ _)
   | (with_reducible exact spec_PlanMoved.mono _ _ _)
   | (with_reducible exact lR_q _)
   | (with_reducible exact lO_q _)
   | (with_reducible refine lI_q ?_ ?_)
   | (with_reducible refine lB_q ?_ (fun _ => ?_))
   | exact ih0 _ _ _ _ _
   | exact ih1 _ _ _ _
   | exact impl_PlanMoved.mono _ _ _
   | exact laws_hasInt.mono _ _ _
   | exact laws_sameInts.mono _ _ _
   | exact spec_DrawPlanMoved.mono _ _
   | exact spec_PlanMoved.mono _ _ _
   | exact lO_q _
   | refine lI_q ?_ ?_
   | refine lB_q ?_ (fun _ => ?_)
  intro y0 y1 y2 y3
  unfold laws_FnMoved.l0
  repeat' first
  | (with_reducible exact ih0 _ _ _ _ _)
  | (with_reducible exact ih1 _ _ _ _)
  | (with_reducible exact impl_PlanMoved.mono _ _ _)
  | (with_reducible exact laws_hasInt.mono _ _ _)
  | (with_reducible exact laws_sameInts.mono _ _ _)
  | (with_reducible exact spec_DrawPlanMoved.mono _ _)
  | (with_reducible exact spec_PlanMoved.mono _ _ _)
  | (with_reducible exact lR_q _)
  | (with_reducible exact lO_q _)
  | (with_reducible refine lI_q ?_ ?_)
  | (with_reducible refine lB_q ?_ (fun _ => ?_))
  | exact ih0 _ _ _ _ _
  | exact ih1 _ _ _ _
  | exact impl_PlanMoved.mono _ _ _
  | exact laws_hasInt.mono _ _ _
  | exact laws_sameInts.mono _ _ _
  | exact spec_DrawPlanMoved.mono _ _
  | exact spec_PlanMoved.mono _ _ _
  | exact lO_q _
  | refine lI_q ?_ ?_
  | refine lB_q ?_ (fun _ => ?_)
theorem laws_FnMoved.mono : ∀ a0 k, LeO (laws_FnMoved.f k a0) (laws_FnMoved.f (k + 1) a0) := by
 intro a0 k
 obtain ⟨ih0, ih1⟩ := laws_FnMoved.mono_l k
 unfold laws_FnMoved.f
 repeat' first
  | (with_reducible exact ih0 _ _ _ _ _)
  | (with_reducible exact ih1 _ _ _ _)
  | (with_reducible exact impl_PlanMoved.mono _ _ _)
  | (with_reducible exact laws_hasInt.mono _ _ _)
  | (with_reducible exact laws_sameInts.mono _ _ _)
  | (with_reducible exact spec_DrawPlanMoved.mono _ _)
  | (with_reducible exact spec_PlanMoved.mono _ _ _)
  | (with_reducible exact lR_q _)
  | (with_reducible exact lO_q _)
  | (with_reducible refine lI_q ?_ ?_)
  | (with_reducible refine lB_q ?_ (fun _ => ?_))
  | exact ih0 _ _ _ _ _
  | exact ih1 _ _ _ _
  | exact impl_PlanMoved.mono _ _ _
  | exact laws_hasInt.mono _ _ _
  | exact laws_sameInts.mono _ _ _
  | exact spec_DrawPlanMoved.mono _ _
  | exact spec_PlanMoved.mono _ _ _
  | exact lO_q _
  | refine lI_q ?_ ?_
  | refine lB_q ?_ (fun _ => ?_)
set_option maxHeartbeats 8000000 in
set_option maxRecDepth 100000 in
theorem laws_FnMoved.calls (k : Nat) (A0 : Option Addr) (c0 : Nat) (l0 : List Int) (r : Bool) (w : World) (hr0 : Kd.C (Kd.int .u8) w A0 l0.length l0) (hc0 : l0.length ≤ c0) (h : laws_FnMoved.f k l0 = some r) :
    Calls Try.prog 6 #[.slice A0 l0.length c0] w fun e w' => e = .returned (.bool r) ∧ Below w.heap.size w w' := by
 have HR0 := Ae_q hr0
 have HC0 := Ae_q hc0
 clear hr0 hc0
 have HB := Ae_q (bR_q w.heap.size w)
 have H : (if (l0.length : Int) > 1048576 then (some true) else ((spec_DrawPlanMoved.f k l0).bind fun bt545 => ((impl_PlanMoved.f k bt545.1 bt545.2).bind fun t551 => ((spec_PlanMoved.f k bt545.1 bt545.2).bind fun t554 => ((laws_sameInts.f k t551 t554).bind fun t557 => (if t557 = true then (laws_FnMoved.j0 k bt545.1 bt545.2 t551 t554 ((bt545.1.length : Int) != (bt545.2.length : Int))) else (laws_FnMoved.j0 k bt545.1 bt545.2 t551 t554 true))))))) = some r := h
 clear h
 by_cases c2 : (l0.length : Int) > 1048576
 ·rw [if_pos c2] at H
  have c2b0 : decide (1048576 < (l0.length : Int)) = true := dT_q c2
  have c2b1 : decide (1048576 < l0.length) = true := dT_q (by omega)
  clear c2
  obtain rfl := oI_q H
  go_enter Try.func6, Try.ntmps6
  go_wp2
  repeat (go_quiet (fail); try go_wp2)
  go_ret
  exact ⟨by first | rfl | (simp [eN_q, eS_q] <;> rfl) | (simp [*, eN_q, eS_q] <;> rfl), bel HB.out⟩
 rw [if_neg c2] at H
 have c2b0 : decide (1048576 < (l0.length : Int)) = false := dF_q c2
 have c2b1 : decide (1048576 < l0.length) = false := dF_q (by omega)
 clear c2
 replace H := oB_q.mp H
 obtain ⟨⟨t545, t546⟩, A30, H⟩ := H
 replace H : ((impl_PlanMoved.f k t545 t546).bind fun t551 => ((spec_PlanMoved.f k t545 t546).bind fun t554 => ((laws_sameInts.f k t551 t554).bind fun t557 => (if t557 = true then (laws_FnMoved.j0 k t545 t546 t551 t554 ((t545.length : Int) != (t546.length : Int))) else (laws_FnMoved.j0 k t545 t546 t551 t554 true))))) = some r := H
 have A3 := Ae_q A30
 clear A30
 replace H := oB_q.mp H
 obtain ⟨t551, A40, H⟩ := H
 replace H : ((spec_PlanMoved.f k t545 t546).bind fun t554 => ((laws_sameInts.f k t551 t554).bind fun t557 => (if t557 = true then (laws_FnMoved.j0 k t545 t546 t551 t554 ((t545.length : Int) != (t546.length : Int))) else (laws_FnMoved.j0 k t545 t546 t551 t554 true)))) = some r := H
 have A4 := Ae_q A40
 clear A40
 replace H := oB_q.mp H
 obtain ⟨t554, A50, H⟩ := H
 replace H : ((laws_sameInts.f k t551 t554).bind fun t557 => (if t557 = true then (laws_FnMoved.j0 k t545 t546 t551 t554 ((t545.length : Int) != (t546.length : Int))) else (laws_FnMoved.j0 k t545 t546 t551 t554 true))) = some r := H
 have A5 := Ae_q A50
 clear A50
 have HC6 := Ae_q H
 clear H
 go_enter Try.func6, Try.ntmps6
 go_upto_region 6 with (first | (go_at_call 16; (with_reducible refine (spec_DrawPlanMoved.calls k _ _ l0 t545 t546 _ ?side1 ?side2 A3.out).mono ?_); (case side1 => repeat (first | exact HR0.out | (with_reducible refine cA_q ?_ _) | (with_reducible refine cN_q ?_ _) | (with_reducible refine cD_q ?_))); (case side2 => exact HC0.out); rintro e w7 ⟨v547, v549, rfl, ho0, ho1, hb⟩; have n0_ := Ae_q (rL_q ho0 (bZ_q (bel HB.out))); have n1_ := Ae_q (Kd.Q_lower ho1 (bZ_q (bel HB.out))); have n2_ := Ae_q (bT_q (bel HB.out) hb); clear HB; have HO548 := n0_; have HO550 := n1_; have HB := n2_; clear n0_ n1_ n2_; (try clear hb); (try clear hb2); (try clear hk); (try clear hi); (try clear ho0); (try clear ho1); obtain ⟨Ao8, co8, eo8⟩ := rS_q HO548.out; subst eo8; obtain ⟨Ao9, co9, eo9, _⟩ := Kd.Q_slice HO550.out; subst eo9) | (go_at_call 12; (with_reducible refine (impl_PlanMoved.calls k _ _ t545 _ _ t546 t551 _ ?side1 ?side2 ?side3 ?side4 A4.out).mono ?_); (case side1 => exact cup (rR_q HO548.out).2.2); (case side2 => exact (rR_q HO548.out).2.1); (case side3 => repeat (first | exact (Kd.Q_reads' HO550.out).2.2 | (with_reducible refine cA_q ?_ _) | (with_reducible refine cN_q ?_ _) | (with_reducible refine cD_q ?_))); (case side4 => exact (Kd.Q_reads' HO550.out).2.1); rintro e w10 ⟨v552, rfl, ho0, hb⟩; have n0_ := Ae_q (rE_q (rup HO548.out) (rB_q ho0) hb); have n1_ := Ae_q (Kd.Q_elder' (by (with_reducible repeat (first | apply Kd.Q_alloc | apply Kd.Q_drewN | apply Kd.Q_drew)); exact HO550.out) (rB_q ho0) hb); have n2_ := Ae_q (rL_q (rW_q (rW_q ho0 (rT_q (rup HO548.out))) (Kd.Q_lt (by (with_reducible repeat (first | apply Kd.Q_alloc | apply Kd.Q_drewN | apply Kd.Q_drew)); exact HO550.out))) (bZ_q (bel HB.out))); have n3_ := Ae_q (bT_q (bel HB.out) hb); clear HO548; clear HO550; clear HB; have HO548 := n0_; have HO550 := n1_; have HO553 := n2_; have HB := n3_; clear n0_ n1_ n2_ n3_; (try clear hb); (try clear hb2); (try clear hk); (try clear hi); (try clear ho0)) | (go_at_call 11; (with_reducible refine (spec_PlanMoved.calls k _ _ t545 _ _ t546 t554 _ ?side1 ?side2 ?side3 ?side4 A5.out).mono ?_); (case side1 => exact cup (rR_q HO548.out).2.2); (case side2 => exact (rR_q HO548.out).2.1); (case side3 => repeat (first | exact (Kd.Q_reads' HO550.out).2.2 | (with_reducible refine cA_q ?_ _) | (with_reducible refine cN_q ?_ _) | (with_reducible refine cD_q ?_))); (case side4 => exact (Kd.Q_reads' HO550.out).2.1); rintro e w11 ⟨v555, rfl, ho0, hb⟩; have n0_ := Ae_q (rE_q (rup HO548.out) (rB_q ho0) hb); have n1_ := Ae_q (Kd.Q_elder' (by (with_reducible repeat (first | apply Kd.Q_alloc | apply Kd.Q_drewN | apply Kd.Q_drew)); exact HO550.out) (rB_q ho0) hb); have n2_ := Ae_q (rE_q (rup HO553.out) (rB_q ho0) hb); have n3_ := Ae_q (rL_q (rW_q (rW_q (rW_q ho0 (rT_q (rup HO548.out))) (Kd.Q_lt (by (with_reducible repeat (first | apply Kd.Q_alloc | apply Kd.Q_drewN | apply Kd.Q_drew)); exact HO550.out))) (rT_q (rup HO553.out))) (bZ_q (bel HB.out))); have n4_ := Ae_q (bT_q (bel HB.out) hb); clear HO548; clear HO550; clear HO553; clear HB; have HO548 := n0_; have HO550 := n1_; have HO553 := n2_; have HO556 := n3_; have HB := n4_; clear n0_ n1_ n2_ n3_ n4_; (try clear hb); (try clear hb2); (try clear hk); (try clear hi); (try clear ho0)))
 repeat (go_quiet (first | (go_at_call 16; (with_reducible refine (spec_DrawPlanMoved.calls k _ _ l0 t545 t546 _ ?side1 ?side2 A3.out).mono ?_); (case side1 => repeat (first | exact HR0.out | (with_reducible refine cA_q ?_ _) | (with_reducible refine cN_q ?_ _) | (with_reducible refine cD_q ?_))); (case side2 => exact HC0.out); rintro e w7 ⟨v547, v549, rfl, ho0, ho1, hb⟩; have n0_ := Ae_q (rL_q ho0 (bZ_q (bel HB.out))); have n1_ := Ae_q (Kd.Q_lower ho1 (bZ_q (bel HB.out))); have n2_ := Ae_q (bT_q (bel HB.out) hb); clear HB; have HO548 := n0_; have HO550 := n1_; have HB := n2_; clear n0_ n1_ n2_; (try clear hb); (try clear hb2); (try clear hk); (try clear hi); (try clear ho0); (try clear ho1); obtain ⟨Ao8, co8, eo8⟩ := rS_q HO548.out; subst eo8; obtain ⟨Ao9, co9, eo9, _⟩ := Kd.Q_slice HO550.out; subst eo9) | (go_at_call 12; (with_reducible refine (impl_PlanMoved.calls k _ _ t545 _ _ t546 t551 _ ?side1 ?side2 ?side3 ?side4 A4.out).mono ?_); (case side1 => exact cup (rR_q HO548.out).2.2); (case side2 => exact (rR_q HO548.out).2.1); (case side3 => repeat (first | exact (Kd.Q_reads' HO550.out).2.2 | (with_reducible refine cA_q ?_ _) | (with_reducible refine cN_q ?_ _) | (with_reducible refine cD_q ?_))); (case side4 => exact (Kd.Q_reads' HO550.out).2.1); rintro e w10 ⟨v552, rfl, ho0, hb⟩; have n0_ := Ae_q (rE_q (rup HO548.out) (rB_q ho0) hb); have n1_ := Ae_q (Kd.Q_elder' (by (with_reducible repeat (first | apply Kd.Q_alloc | apply Kd.Q_drewN | apply Kd.Q_drew)); exact HO550.out) (rB_q ho0) hb); have n2_ := Ae_q (rL_q (rW_q (rW_q ho0 (rT_q (rup HO548.out))) (Kd.Q_lt (by (with_reducible repeat (first | apply Kd.Q_alloc | apply Kd.Q_drewN | apply Kd.Q_drew)); exact HO550.out))) (bZ_q (bel HB.out))); have n3_ := Ae_q (bT_q (bel HB.out) hb); clear HO548; clear HO550; clear HB; have HO548 := n0_; have HO550 := n1_; have HO553 := n2_; have HB := n3_; clear n0_ n1_ n2_ n3_; (try clear hb); (try clear hb2); (try clear hk); (try clear hi); (try clear ho0)) | (go_at_call 11; (with_reducible refine (spec_PlanMoved.calls k _ _ t545 _ _ t546 t554 _ ?side1 ?side2 ?side3 ?side4 A5.out).mono ?_); (case side1 => exact cup (rR_q HO548.out).2.2); (case side2 => exact (rR_q HO548.out).2.1); (case side3 => repeat (first | exact (Kd.Q_reads' HO550.out).2.2 | (with_reducible refine cA_q ?_ _) | (with_reducible refine cN_q ?_ _) | (with_reducible refine cD_q ?_))); (case side4 => exact (Kd.Q_reads' HO550.out).2.1); rintro e w11 ⟨v555, rfl, ho0, hb⟩; have n0_ := Ae_q (rE_q (rup HO548.out) (rB_q ho0) hb); have n1_ := Ae_q (Kd.Q_elder' (by (with_reducible repeat (first | apply Kd.Q_alloc | apply Kd.Q_drewN | apply Kd.Q_drew)); exact HO550.out) (rB_q ho0) hb); have n2_ := Ae_q (rE_q (rup HO553.out) (rB_q ho0) hb); have n3_ := Ae_q (rL_q (rW_q (rW_q (rW_q ho0 (rT_q (rup HO548.out))) (Kd.Q_lt (by (with_reducible repeat (first | apply Kd.Q_alloc | apply Kd.Q_drewN | apply Kd.Q_drew)); exact HO550.out))) (rT_q (rup HO553.out))) (bZ_q (bel HB.out))); have n4_ := Ae_q (bT_q (bel HB.out) hb); clear HO548; clear HO550; clear HO553; clear HB; have HO548 := n0_; have HO550 := n1_; have HO553 := n2_; have HO556 := n3_; have HB := n4_; clear n0_ n1_ n2_ n3_ n4_; (try clear hb); (try clear hb2); (try clear hk); (try clear hi); (try clear ho0))); go_upto_region 6 with (first | (go_at_call 16; (with_reducible refine (spec_DrawPlanMoved.calls k _ _ l0 t545 t546 _ ?side1 ?side2 A3.out).mono ?_); (case side1 => repeat (first | exact HR0.out | (with_reducible refine cA_q ?_ _) | (with_reducible refine cN_q ?_ _) | (with_reducible refine cD_q ?_))); (case side2 => exact HC0.out); rintro e w7 ⟨v547, v549, rfl, ho0, ho1, hb⟩; have n0_ := Ae_q (rL_q ho0 (bZ_q (bel HB.out))); have n1_ := Ae_q (Kd.Q_lower ho1 (bZ_q (bel HB.out))); have n2_ := Ae_q (bT_q (bel HB.out) hb); clear HB; have HO548 := n0_; have HO550 := n1_; have HB := n2_; clear n0_ n1_ n2_; (try clear hb); (try clear hb2); (try clear hk); (try clear hi); (try clear ho0); (try clear ho1); obtain ⟨Ao8, co8, eo8⟩ := rS_q HO548.out; subst eo8; obtain ⟨Ao9, co9, eo9, _⟩ := Kd.Q_slice HO550.out; subst eo9) | (go_at_call 12; (with_reducible refine (impl_PlanMoved.calls k _ _ t545 _ _ t546 t551 _ ?side1 ?side2 ?side3 ?side4 A4.out).mono ?_); (case side1 => exact cup (rR_q HO548.out).2.2); (case side2 => exact (rR_q HO548.out).2.1); (case side3 => repeat (first | exact (Kd.Q_reads' HO550.out).2.2 | (with_reducible refine cA_q ?_ _) | (with_reducible refine cN_q ?_ _) | (with_reducible refine cD_q ?_))); (case side4 => exact (Kd.Q_reads' HO550.out).2.1); rintro e w10 ⟨v552, rfl, ho0, hb⟩; have n0_ := Ae_q (rE_q (rup HO548.out) (rB_q ho0) hb); have n1_ := Ae_q (Kd.Q_elder' (by (with_reducible repeat (first | apply Kd.Q_alloc | apply Kd.Q_drewN | apply Kd.Q_drew)); exact HO550.out) (rB_q ho0) hb); have n2_ := Ae_q (rL_q (rW_q (rW_q ho0 (rT_q (rup HO548.out))) (Kd.Q_lt (by (with_reducible repeat (first | apply Kd.Q_alloc | apply Kd.Q_drewN | apply Kd.Q_drew)); exact HO550.out))) (bZ_q (bel HB.out))); have n3_ := Ae_q (bT_q (bel HB.out) hb); clear HO548; clear HO550; clear HB; have HO548 := n0_; have HO550 := n1_; have HO553 := n2_; have HB := n3_; clear n0_ n1_ n2_ n3_; (try clear hb); (try clear hb2); (try clear hk); (try clear hi); (try clear ho0)) | (go_at_call 11; (with_reducible refine (spec_PlanMoved.calls k _ _ t545 _ _ t546 t554 _ ?side1 ?side2 ?side3 ?side4 A5.out).mono ?_); (case side1 => exact cup (rR_q HO548.out).2.2); (case side2 => exact (rR_q HO548.out).2.1); (case side3 => repeat (first | exact (Kd.Q_reads' HO550.out).2.2 | (with_reducible refine cA_q ?_ _) | (with_reducible refine cN_q ?_ _) | (with_reducible refine cD_q ?_))); (case side4 => exact (Kd.Q_reads' HO550.out).2.1); rintro e w11 ⟨v555, rfl, ho0, hb⟩; have n0_ := Ae_q (rE_q (rup HO548.out) (rB_q ho0) hb); have n1_ := Ae_q (Kd.Q_elder' (by (with_reducible repeat (first | apply Kd.Q_alloc | apply Kd.Q_drewN | apply Kd.Q_drew)); exact HO550.out) (rB_q ho0) hb); have n2_ := Ae_q (rE_q (rup HO553.out) (rB_q ho0) hb); have n3_ := Ae_q (rL_q (rW_q (rW_q (rW_q ho0 (rT_q (rup HO548.out))) (Kd.Q_lt (by (with_reducible repeat (first | apply Kd.Q_alloc | apply Kd.Q_drewN | apply Kd.Q_drew)); exact HO550.out))) (rT_q (rup HO553.out))) (bZ_q (bel HB.out))); have n4_ := Ae_q (bT_q (bel HB.out) hb); clear HO548; clear HO550; clear HO553; clear HB; have HO548 := n0_; have HO550 := n1_; have HO553 := n2_; have HO556 := n3_; have HB := n4_; clear n0_ n1_ n2_ n3_ n4_; (try clear hb); (try clear hb2); (try clear hk); (try clear hi); (try clear ho0))))
 (try simp only [Act.put, sA_q, sZ_q, sS_q])
 go_cut [32] (fun v32 wc => ∃ (kq : Nat) (x32_5 : Bool), v32 = .bool x32_5 ∧ Aside0 (laws_FnMoved.j0 kq t545 t546 t551 t554 x32_5 = some r) ∧ Aside0 (kq ≤ k) ∧ Aside0 (Kd.R kI_q 3 wc w.heap.size (fun k_ => some k_ ≠ ((.slice Ao9 t546.length co9) : Value).ownBlock ∧ some k_ ≠ (v552 : Value).ownBlock ∧ some k_ ≠ (v555 : Value).ownBlock) (.slice Ao8 t545.length co8) t545) ∧ Aside0 (Kd.Q kI_q 3 wc w.heap.size (fun k_ => some k_ ≠ ((.slice Ao8 t545.length co8) : Value).ownBlock ∧ some k_ ≠ (v552 : Value).ownBlock ∧ some k_ ≠ (v555 : Value).ownBlock) (.slice Ao9 t546.length co9) t546) ∧ Aside0 (Kd.R kI_q 3 wc w.heap.size (fun k_ => some k_ ≠ ((.slice Ao8 t545.length co8) : Value).ownBlock ∧ some k_ ≠ ((.slice Ao9 t546.length co9) : Value).ownBlock ∧ some k_ ≠ (v555 : Value).ownBlock) v552 t551) ∧ Aside0 (Kd.R kI_q 3 wc w.heap.size (fun k_ => some k_ ≠ ((.slice Ao8 t545.length co8) : Value).ownBlock ∧ some k_ ≠ ((.slice Ao9 t546.length co9) : Value).ownBlock ∧ some k_ ≠ (v552 : Value).ownBlock) v555 t554) ∧ Aside0 (Below w.heap.size w wc))
 case first =>
  have H := HC6.out
  clear HC6
  replace H := oB_q.mp H
  obtain ⟨t557, A120, H⟩ := H
  replace H : (if t557 = true then (laws_FnMoved.j0 k t545 t546 t551 t554 ((t545.length : Int) != (t546.length : Int))) else (laws_FnMoved.j0 k t545 t546 t551 t554 true)) = some r := H
  have A12 := Ae_q A120
  clear A120
  by_cases c13 : t557 = true
  ·subst c13
   have H1 : (laws_FnMoved.j0 k t545 t546 t551 t554 ((t545.length : Int) != (t546.length : Int))) = some r := by rw [if_pos rfl] at H; exact H
   clear H
   have H := H1
   clear H1
   have H' := Ae_q H
   clear H
   obtain ⟨Ao14, co14, eo14⟩ := rS_q HO553.out
   subst eo14
   obtain ⟨Ao15, co15, eo15⟩ := rS_q HO556.out
   subst eo15
   go_wp2_with (first | (go_at_call 17; (with_reducible refine (laws_sameInts.calls k _ _ t551 _ _ t554 true _ ?side1 ?side2 ?side3 ?side4 A12.out).mono ?_); (case side1 => exact cup (rR_q HO553.out).2.2); (case side2 => exact (rR_q HO553.out).2.1); (case side3 => exact cup (rR_q HO556.out).2.2); (case side4 => exact (rR_q HO556.out).2.1); rintro e w' ⟨rfl, ⟨nd, rfl⟩⟩; (try first | exact ⟨rfl, _, wD_q _ _ _⟩ | exact ⟨rfl, _, Eq.trans (wD_q _ _ _) (congrArg (World.drewN _) (nA_q _ _ _))⟩)))
   repeat (go_quiet (first | (go_at_call 17; (with_reducible refine (laws_sameInts.calls k _ _ t551 _ _ t554 true _ ?side1 ?side2 ?side3 ?side4 A12.out).mono ?_); (case side1 => exact cup (rR_q HO553.out).2.2); (case side2 => exact (rR_q HO553.out).2.1); (case side3 => exact cup (rR_q HO556.out).2.2); (case side4 => exact (rR_q HO556.out).2.1); rintro e w' ⟨rfl, ⟨nd, rfl⟩⟩; (try first | exact ⟨rfl, _, wD_q _ _ _⟩ | exact ⟨rfl, _, Eq.trans (wD_q _ _ _) (congrArg (World.drewN _) (nA_q _ _ _))⟩))); try go_wp2_with (first | (go_at_call 17; (with_reducible refine (laws_sameInts.calls k _ _ t551 _ _ t554 true _ ?side1 ?side2 ?side3 ?side4 A12.out).mono ?_); (case side1 => exact cup (rR_q HO553.out).2.2); (case side2 => exact (rR_q HO553.out).2.1); (case side3 => exact cup (rR_q HO556.out).2.2); (case side4 => exact (rR_q HO556.out).2.1); rintro e w' ⟨rfl, ⟨nd, rfl⟩⟩; (try first | exact ⟨rfl, _, wD_q _ _ _⟩ | exact ⟨rfl, _, Eq.trans (wD_q _ _ _) (congrArg (World.drewN _) (nA_q _ _ _))⟩))))
   go_meet
   case rel => exact ⟨_, (((t545.length : Int) != (t546.length : Int))), (by first | rfl | (simp; done) | (simp [*]; done)), H', ⟨by first | omega | exact nR_q _⟩, ⟨by (with_reducible repeat (first | apply rA_q | apply rN_q | apply rD_q)); exact rM_q HO548.out (fun _ hk => ⟨hk.1.1, ⟨hk.1.2, hk.2⟩⟩)⟩, ⟨by (with_reducible repeat (first | apply Kd.Q_alloc | apply Kd.Q_drewN | apply Kd.Q_drew)); exact Kd.Q_mono HO550.out (fun _ hk => ⟨hk.1.1, ⟨hk.1.2, hk.2⟩⟩)⟩, ⟨by (with_reducible repeat (first | apply rA_q | apply rN_q | apply rD_q)); exact rM_q HO553.out (fun _ hk => ⟨hk.1.1.2, ⟨hk.1.2, hk.2⟩⟩)⟩, ⟨by (with_reducible repeat (first | apply rA_q | apply rN_q | apply rD_q)); exact rM_q HO556.out (fun _ hk => ⟨hk.1.1.2, ⟨hk.1.2, hk.2⟩⟩)⟩, ⟨bel HB.out⟩⟩
  replace c13 := fM_q.mpr c13
  subst c13
  have H1 : (laws_FnMoved.j0 k t545 t546 t551 t554 true) = some r := by rw [if_neg (show ¬ (false = true) by decide)] at H; exact H
  clear H
  have H := H1
  clear H1
  have H' := Ae_q H
  clear H
  obtain ⟨Ao16, co16, eo16⟩ := rS_q HO553.out
  subst eo16
  obtain ⟨Ao17, co17, eo17⟩ := rS_q HO556.out
  subst eo17
  go_wp2_with (first | (go_at_call 17; (with_reducible refine (laws_sameInts.calls k _ _ t551 _ _ t554 false _ ?side1 ?side2 ?side3 ?side4 A12.out).mono ?_); (case side1 => exact cup (rR_q HO553.out).2.2); (case side2 => exact (rR_q HO553.out).2.1); (case side3 => exact cup (rR_q HO556.out).2.2); (case side4 => exact (rR_q HO556.out).2.1); rintro e w' ⟨rfl, ⟨nd, rfl⟩⟩; (try first | exact ⟨rfl, _, wD_q _ _ _⟩ | exact ⟨rfl, _, Eq.trans (wD_q _ _ _) (congrArg (World.drewN _) (nA_q _ _ _))⟩)))
  repeat (go_quiet (first | (go_at_call 17; (with_reducible refine (laws_sameInts.calls k _ _ t551 _ _ t554 false _ ?side1 ?side2 ?side3 ?side4 A12.out).mono ?_); (case side1 => exact cup (rR_q HO553.out).2.2); (case side2 => exact (rR_q HO553.out).2.1); (case side3 => exact cup (rR_q HO556.out).2.2); (case side4 => exact (rR_q HO556.out).2.1); rintro e w' ⟨rfl, ⟨nd, rfl⟩⟩; (try first | exact ⟨rfl, _, wD_q _ _ _⟩ | exact ⟨rfl, _, Eq.trans (wD_q _ _ _) (congrArg (World.drewN _) (nA_q _ _ _))⟩))); try go_wp2_with (first | (go_at_call 17; (with_reducible refine (laws_sameInts.calls k _ _ t551 _ _ t554 false _ ?side1 ?side2 ?side3 ?side4 A12.out).mono ?_); (case side1 => exact cup (rR_q HO553.out).2.2); (case side2 => exact (rR_q HO553.out).2.1); (case side3 => exact cup (rR_q HO556.out).2.2); (case side4 => exact (rR_q HO556.out).2.1); rintro e w' ⟨rfl, ⟨nd, rfl⟩⟩; (try first | exact ⟨rfl, _, wD_q _ _ _⟩ | exact ⟨rfl, _, Eq.trans (wD_q _ _ _) (congrArg (World.drewN _) (nA_q _ _ _))⟩))))
  go_meet
  case rel => exact ⟨_, (true), (by first | rfl | (simp; done) | (simp [*]; done)), H', ⟨by first | omega | exact nR_q _⟩, ⟨by (with_reducible repeat (first | apply rA_q | apply rN_q | apply rD_q)); exact rM_q HO548.out (fun _ hk => ⟨hk.1.1, ⟨hk.1.2, hk.2⟩⟩)⟩, ⟨by (with_reducible repeat (first | apply Kd.Q_alloc | apply Kd.Q_drewN | apply Kd.Q_drew)); exact Kd.Q_mono HO550.out (fun _ hk => ⟨hk.1.1, ⟨hk.1.2, hk.2⟩⟩)⟩, ⟨by (with_reducible repeat (first | apply rA_q | apply rN_q | apply rD_q)); exact rM_q HO553.out (fun _ hk => ⟨hk.1.1.2, ⟨hk.1.2, hk.2⟩⟩)⟩, ⟨by (with_reducible repeat (first | apply rA_q | apply rN_q | apply rD_q)); exact rM_q HO556.out (fun _ hk => ⟨hk.1.1.2, ⟨hk.1.2, hk.2⟩⟩)⟩, ⟨bel HB.out⟩⟩
 case rest =>
  clear HC6
  try clear c1
  try clear c2
  try clear c2b0
  try clear c2b1
  try clear p2
  try clear c6
  try clear c13
  obtain ⟨kq, x32_5, rfl, HA, HJ5, HO_3, HO_4, HO_5, HO_6, HB⟩ := hcut
  cases kq with
  | zero => exact absurd HA.out (by simp [laws_FnMoved.j0])
  | succ kj5 =>
   have H := HA.out
   clear HA
   simp only [laws_FnMoved.j0] at H
   by_cases c18 : x32_5 = true
   ·subst c18
    have H1 : ((laws_sameInts.f kj5 t551 t554).bind fun t558 => (some t558)) = some r := by rw [if_pos rfl] at H; exact H
    clear H
    have H := H1
    clear H1
    replace H := oB_q.mp H
    obtain ⟨t558, A190, H⟩ := H
    replace H : (some t558) = some r := H
    have A19 := Ae_q A190
    clear A190
    obtain rfl := oI_q H
    obtain ⟨Ao20, co20, eo20⟩ := rS_q HO_5.out
    subst eo20
    obtain ⟨Ao21, co21, eo21⟩ := rS_q HO_6.out
    subst eo21
    go_wp2_with (first | (go_at_call 17; (with_reducible refine (laws_sameInts.calls kj5 _ _ t551 _ _ t554 t558 _ ?side1 ?side2 ?side3 ?side4 A19.out).mono ?_); (case side1 => exact cup (rR_q HO_5.out).2.2); (case side2 => exact (rR_q HO_5.out).2.1); (case side3 => exact cup (rR_q HO_6.out).2.2); (case side4 => exact (rR_q HO_6.out).2.1); rintro e w' ⟨rfl, ⟨nd, rfl⟩⟩; (try first | exact ⟨rfl, _, wD_q _ _ _⟩ | exact ⟨rfl, _, Eq.trans (wD_q _ _ _) (congrArg (World.drewN _) (nA_q _ _ _))⟩)))
    repeat (go_quiet (first | (go_at_call 17; (with_reducible refine (laws_sameInts.calls kj5 _ _ t551 _ _ t554 t558 _ ?side1 ?side2 ?side3 ?side4 A19.out).mono ?_); (case side1 => exact cup (rR_q HO_5.out).2.2); (case side2 => exact (rR_q HO_5.out).2.1); (case side3 => exact cup (rR_q HO_6.out).2.2); (case side4 => exact (rR_q HO_6.out).2.1); rintro e w' ⟨rfl, ⟨nd, rfl⟩⟩; (try first | exact ⟨rfl, _, wD_q _ _ _⟩ | exact ⟨rfl, _, Eq.trans (wD_q _ _ _) (congrArg (World.drewN _) (nA_q _ _ _))⟩))); try go_wp2_with (first | (go_at_call 17; (with_reducible refine (laws_sameInts.calls kj5 _ _ t551 _ _ t554 t558 _ ?side1 ?side2 ?side3 ?side4 A19.out).mono ?_); (case side1 => exact cup (rR_q HO_5.out).2.2); (case side2 => exact (rR_q HO_5.out).2.1); (case side3 => exact cup (rR_q HO_6.out).2.2); (case side4 => exact (rR_q HO_6.out).2.1); rintro e w' ⟨rfl, ⟨nd, rfl⟩⟩; (try first | exact ⟨rfl, _, wD_q _ _ _⟩ | exact ⟨rfl, _, Eq.trans (wD_q _ _ _) (congrArg (World.drewN _) (nA_q _ _ _))⟩))))
    go_ret
    exact ⟨by first | rfl | (simp [eN_q, eS_q] <;> rfl) | (simp [*, eN_q, eS_q] <;> rfl), bel HB.out⟩
   replace c18 := fM_q.mpr c18
   subst c18
   have H1 : (laws_FnMoved.l0 kj5 t545 t546 t551 0) = some r := by rw [if_neg (show ¬ (false = true) by decide)] at H; exact H
   clear H
   have H := H1
   clear H1
   have H' := Ae_q H
   clear H
   go_wp2
   repeat (go_quiet (fail); try go_wp2)
   go_loopg [7] kj5 (fun kq v7 w' => ∃ (x7_2 : Int), v7 = .int .i64 x7_2 ∧ Aside0 (laws_FnMoved.l0 kq t545 t546 t551 x7_2 = some r) ∧ Aside0 (kq ≤ kj5) ∧ Aside0 (Kd.R kI_q 3 w' w.heap.size (fun k_ => some k_ ≠ ((.slice Ao9 t546.length co9) : Value).ownBlock ∧ some k_ ≠ (v552 : Value).ownBlock) (.slice Ao8 t545.length co8) t545) ∧ Aside0 (Kd.Q kI_q 3 w' w.heap.size (fun k_ => some k_ ≠ ((.slice Ao8 t545.length co8) : Value).ownBlock ∧ some k_ ≠ (v552 : Value).ownBlock) (.slice Ao9 t546.length co9) t546) ∧ Aside0 (Kd.R kI_q 3 w' w.heap.size (fun k_ => some k_ ≠ ((.slice Ao8 t545.length co8) : Value).ownBlock ∧ some k_ ≠ ((.slice Ao9 t546.length co9) : Value).ownBlock) v552 t551) ∧ Aside0 (Below w.heap.size w w'))
   case atStart => exact ⟨(0), (by first | rfl | (simp; done) | (simp [*]; done)), H', ⟨nR_q _⟩, ⟨by (with_reducible repeat (first | apply rA_q | apply rN_q | apply rD_q)); exact rM_q HO_3.out (fun _ hk => ⟨hk.1, hk.2.1⟩)⟩, ⟨by (with_reducible repeat (first | apply Kd.Q_alloc | apply Kd.Q_drewN | apply Kd.Q_drew)); exact Kd.Q_mono HO_4.out (fun _ hk => ⟨hk.1, hk.2.1⟩)⟩, ⟨by (with_reducible repeat (first | apply rA_q | apply rN_q | apply rD_q)); exact rM_q HO_5.out (fun _ hk => ⟨hk.1, hk.2.1⟩)⟩, ⟨bel HB.out⟩⟩
   case round =>
    clear H'
    try clear c1
    try clear c2
    try clear c2b0
    try clear c2b1
    try clear p2
    try clear c6
    try clear c13
    try clear c18
    try clear p2
    obtain ⟨x7_2, rfl, HA, HK2, HO_3, HO_4, HO_5, HB⟩ := hrel
    cases gk with
    | zero => exact absurd HA.out (by simp [laws_FnMoved.l0])
    | succ k2 =>
     have H := HA.out
     clear HA
     simp only [laws_FnMoved.l0] at H
     by_cases c22 : x7_2 < (t545.length : Int)
     ·rw [if_pos c22] at H
      have c22b0 : decide (x7_2 < (t545.length : Int)) = true := dT_q c22
      clear c22
      replace H := oB_q.mp H
      obtain ⟨t559, A230, H⟩ := H
      replace H : (if 0 ≤ x7_2 then (if x7_2 < (t546.length : Int) then (if (t559 != ((rd t545 x7_2) != (rd t546 x7_2))) = true then (some false) else (laws_FnMoved.l0 k2 t545 t546 t551 (wrap64 (x7_2 + 1)))) else (none)) else (none)) = some r := H
      have A23 := Ae_q A230
      clear A230
      by_cases c24 : 0 ≤ x7_2
      ·rw [if_pos c24] at H
       have c24b0 : decide (0 ≤ x7_2) = true := dT_q c24
       clear c24
       by_cases c25 : x7_2 < (t546.length : Int)
       ·rw [if_pos c25] at H
        have c25b0 : decide (x7_2 < (t546.length : Int)) = true := dT_q c25
        clear c25
        by_cases c26 : (t559 != ((rd t545 x7_2) != (rd t546 x7_2))) = true
        ·rw [if_pos c26] at H
         have c26b0 : (t559 != ((rd t545 x7_2) != (rd t546 x7_2))) = true := c26
         (try (have c26b1 : decide (t559 = ((rd t545 x7_2) != (rd t546 x7_2))) = false := by simpa using c26))
         (try (have c26b2 : (t559 == ((rd t545 x7_2) != (rd t546 x7_2))) = false := by simpa using c26))
         (try (have c26b3 : ¬ (t559 = ((rd t545 x7_2) != (rd t546 x7_2))) := by simpa using c26))
         clear c26
         obtain rfl := oI_q H
         obtain ⟨Ao27, co27, eo27⟩ := rS_q HO_5.out
         subst eo27
         go_wp2_with (first | (go_at_call 18; (with_reducible refine (laws_hasInt.calls k2 _ _ t551 x7_2 t559 _ ?side1 ?side2 A23.out).mono ?_); (case side1 => exact cup (rR_q HO_5.out).2.2); (case side2 => exact (rR_q HO_5.out).2.1); rintro e w' ⟨rfl, ⟨nd, rfl⟩⟩; (try first | exact ⟨rfl, _, wD_q _ _ _⟩ | exact ⟨rfl, _, Eq.trans (wD_q _ _ _) (congrArg (World.drewN _) (nA_q _ _ _))⟩); have p560 : 0 ≤ (x7_2 : Int) := oD_q (by assumption); have q560 : x7_2 < (t545.length : Int) := oD_q (by assumption); obtain ⟨ad560, e560, hx560_0⟩ := aI_q (rR_q HO_3.out).2.2 x7_2 p560 q560; cases e560; replace p560 := eq_true p560; replace q560 := eq_true q560; have p561 : 0 ≤ (x7_2 : Int) := oD_q (by assumption); have q561 : x7_2 < (t546.length : Int) := oD_q (by assumption); obtain ⟨ad561, e561, hx561_0⟩ := aI_q (Kd.Q_reads' HO_4.out).2.2 x7_2 p561 q561; cases e561; replace p561 := eq_true p561; replace q561 := eq_true q561))
         repeat (go_quiet (first | (go_at_call 18; (with_reducible refine (laws_hasInt.calls k2 _ _ t551 x7_2 t559 _ ?side1 ?side2 A23.out).mono ?_); (case side1 => exact cup (rR_q HO_5.out).2.2); (case side2 => exact (rR_q HO_5.out).2.1); rintro e w' ⟨rfl, ⟨nd, rfl⟩⟩; (try first | exact ⟨rfl, _, wD_q _ _ _⟩ | exact ⟨rfl, _, Eq.trans (wD_q _ _ _) (congrArg (World.drewN _) (nA_q _ _ _))⟩); have p560 : 0 ≤ (x7_2 : Int) := oD_q (by assumption); have q560 : x7_2 < (t545.length : Int) := oD_q (by assumption); obtain ⟨ad560, e560, hx560_0⟩ := aI_q (rR_q HO_3.out).2.2 x7_2 p560 q560; cases e560; replace p560 := eq_true p560; replace q560 := eq_true q560; have p561 : 0 ≤ (x7_2 : Int) := oD_q (by assumption); have q561 : x7_2 < (t546.length : Int) := oD_q (by assumption); obtain ⟨ad561, e561, hx561_0⟩ := aI_q (Kd.Q_reads' HO_4.out).2.2 x7_2 p561 q561; cases e561; replace p561 := eq_true p561; replace q561 := eq_true q561)); try go_wp2_with (first | (go_at_call 18; (with_reducible refine (laws_hasInt.calls k2 _ _ t551 x7_2 t559 _ ?side1 ?side2 A23.out).mono ?_); (case side1 => exact cup (rR_q HO_5.out).2.2); (case side2 => exact (rR_q HO_5.out).2.1); rintro e w' ⟨rfl, ⟨nd, rfl⟩⟩; (try first | exact ⟨rfl, _, wD_q _ _ _⟩ | exact ⟨rfl, _, Eq.trans (wD_q _ _ _) (congrArg (World.drewN _) (nA_q _ _ _))⟩); have p560 : 0 ≤ (x7_2 : Int) := oD_q (by assumption); have q560 : x7_2 < (t545.length : Int) := oD_q (by assumption); obtain ⟨ad560, e560, hx560_0⟩ := aI_q (rR_q HO_3.out).2.2 x7_2 p560 q560; cases e560; replace p560 := eq_true p560; replace q560 := eq_true q560; have p561 : 0 ≤ (x7_2 : Int) := oD_q (by assumption); have q561 : x7_2 < (t546.length : Int) := oD_q (by assumption); obtain ⟨ad561, e561, hx561_0⟩ := aI_q (Kd.Q_reads' HO_4.out).2.2 x7_2 p561 q561; cases e561; replace p561 := eq_true p561; replace q561 := eq_true q561)))
         go_ret
         exact ⟨by first | rfl | (simp [eN_q, eS_q] <;> rfl) | (simp [*, eN_q, eS_q] <;> rfl), bel HB.out⟩
        rw [if_neg c26] at H
        have c26b0 : (t559 != ((rd t545 x7_2) != (rd t546 x7_2))) = false := by simpa using c26
        (try (have c26b1 : decide (t559 = ((rd t545 x7_2) != (rd t546 x7_2))) = true := by simpa using c26))
        (try (have c26b2 : (t559 == ((rd t545 x7_2) != (rd t546 x7_2))) = true := by simpa using c26))
        clear c26
        have H' := Ae_q H
        clear H
        obtain ⟨Ao28, co28, eo28⟩ := rS_q HO_5.out
        subst eo28
        go_wp2_with (first | (go_at_call 18; (with_reducible refine (laws_hasInt.calls k2 _ _ t551 x7_2 t559 _ ?side1 ?side2 A23.out).mono ?_); (case side1 => exact cup (rR_q HO_5.out).2.2); (case side2 => exact (rR_q HO_5.out).2.1); rintro e w' ⟨rfl, ⟨nd, rfl⟩⟩; (try first | exact ⟨rfl, _, wD_q _ _ _⟩ | exact ⟨rfl, _, Eq.trans (wD_q _ _ _) (congrArg (World.drewN _) (nA_q _ _ _))⟩); have p560 : 0 ≤ (x7_2 : Int) := oD_q (by assumption); have q560 : x7_2 < (t545.length : Int) := oD_q (by assumption); obtain ⟨ad560, e560, hx560_0⟩ := aI_q (rR_q HO_3.out).2.2 x7_2 p560 q560; cases e560; replace p560 := eq_true p560; replace q560 := eq_true q560; have p561 : 0 ≤ (x7_2 : Int) := oD_q (by assumption); have q561 : x7_2 < (t546.length : Int) := oD_q (by assumption); obtain ⟨ad561, e561, hx561_0⟩ := aI_q (Kd.Q_reads' HO_4.out).2.2 x7_2 p561 q561; cases e561; replace p561 := eq_true p561; replace q561 := eq_true q561))
        repeat (go_quiet (first | (go_at_call 18; (with_reducible refine (laws_hasInt.calls k2 _ _ t551 x7_2 t559 _ ?side1 ?side2 A23.out).mono ?_); (case side1 => exact cup (rR_q HO_5.out).2.2); (case side2 => exact (rR_q HO_5.out).2.1); rintro e w' ⟨rfl, ⟨nd, rfl⟩⟩; (try first | exact ⟨rfl, _, wD_q _ _ _⟩ | exact ⟨rfl, _, Eq.trans (wD_q _ _ _) (congrArg (World.drewN _) (nA_q _ _ _))⟩); have p560 : 0 ≤ (x7_2 : Int) := oD_q (by assumption); have q560 : x7_2 < (t545.length : Int) := oD_q (by assumption); obtain ⟨ad560, e560, hx560_0⟩ := aI_q (rR_q HO_3.out).2.2 x7_2 p560 q560; cases e560; replace p560 := eq_true p560; replace q560 := eq_true q560; have p561 : 0 ≤ (x7_2 : Int) := oD_q (by assumption); have q561 : x7_2 < (t546.length : Int) := oD_q (by assumption); obtain ⟨ad561, e561, hx561_0⟩ := aI_q (Kd.Q_reads' HO_4.out).2.2 x7_2 p561 q561; cases e561; replace p561 := eq_true p561; replace q561 := eq_true q561)); try go_wp2_with (first | (go_at_call 18; (with_reducible refine (laws_hasInt.calls k2 _ _ t551 x7_2 t559 _ ?side1 ?side2 A23.out).mono ?_); (case side1 => exact cup (rR_q HO_5.out).2.2); (case side2 => exact (rR_q HO_5.out).2.1); rintro e w' ⟨rfl, ⟨nd, rfl⟩⟩; (try first | exact ⟨rfl, _, wD_q _ _ _⟩ | exact ⟨rfl, _, Eq.trans (wD_q _ _ _) (congrArg (World.drewN _) (nA_q _ _ _))⟩); have p560 : 0 ≤ (x7_2 : Int) := oD_q (by assumption); have q560 : x7_2 < (t545.length : Int) := oD_q (by assumption); obtain ⟨ad560, e560, hx560_0⟩ := aI_q (rR_q HO_3.out).2.2 x7_2 p560 q560; cases e560; replace p560 := eq_true p560; replace q560 := eq_true q560; have p561 : 0 ≤ (x7_2 : Int) := oD_q (by assumption); have q561 : x7_2 < (t546.length : Int) := oD_q (by assumption); obtain ⟨ad561, e561, hx561_0⟩ := aI_q (Kd.Q_reads' HO_4.out).2.2 x7_2 p561 q561; cases e561; replace p561 := eq_true p561; replace q561 := eq_true q561)))
        go_roundg k2
        case measure => have := HJ5.out; have := HK2.out; omega
        case rel => exact ⟨(wrap64 (x7_2 + 1)), (by first | rfl | (simp; done) | (simp [*]; done)), H', ⟨by have := HJ5.out; have := HK2.out; omega⟩, ⟨by (with_reducible repeat (first | apply rA_q | apply rN_q | apply rD_q)); exact HO_3.out⟩, ⟨by (with_reducible repeat (first | apply Kd.Q_alloc | apply Kd.Q_drewN | apply Kd.Q_drew)); exact HO_4.out⟩, ⟨by (with_reducible repeat (first | apply rA_q | apply rN_q | apply rD_q)); exact HO_5.out⟩, ⟨bel HB.out⟩⟩
       rw [if_neg c25] at H
       exact absurd H (by simp)
      rw [if_neg c24] at H
      exact absurd H (by simp)
     rw [if_neg c22] at H
     have c22b0 : decide (x7_2 < (t545.length : Int)) = false := dF_q c22
     clear c22
     replace H := oB_q.mp H
     obtain ⟨t562, A290, H⟩ := H
     replace H : ((laws_sameInts.f k2 t562 t551).bind fun t565 => (some t565)) = some r := H
     have A29 := Ae_q A290
     clear A290
     replace H := oB_q.mp H
     obtain ⟨t565, A300, H⟩ := H
     replace H : (some t565) = some r := H
     have A30 := Ae_q A300
     clear A300
     obtain rfl := oI_q H
     go_wp2_with (first | (go_at_call 12; (with_reducible refine (impl_PlanMoved.calls k2 _ _ t546 _ _ t545 t562 _ ?side1 ?side2 ?side3 ?side4 A29.out).mono ?_); (case side1 => repeat (first | exact (Kd.Q_reads' HO_4.out).2.2 | (with_reducible refine cA_q ?_ _) | (with_reducible refine cN_q ?_ _) | (with_reducible refine cD_q ?_))); (case side2 => exact (Kd.Q_reads' HO_4.out).2.1); (case side3 => exact cup (rR_q HO_3.out).2.2); (case side4 => exact (rR_q HO_3.out).2.1); rintro e w31 ⟨v563, rfl, ho0, hb⟩; have n0_ := Ae_q (rE_q (rup HO_3.out) (rB_q ho0) hb); have n1_ := Ae_q (Kd.Q_elder' (by (with_reducible repeat (first | apply Kd.Q_alloc | apply Kd.Q_drewN | apply Kd.Q_drew)); exact HO_4.out) (rB_q ho0) hb); have n2_ := Ae_q (rE_q (rup HO_5.out) (rB_q ho0) hb); have n3_ := Ae_q (rL_q (rW_q (rW_q (rW_q ho0 (rT_q (rup HO_3.out))) (Kd.Q_lt (by (with_reducible repeat (first | apply Kd.Q_alloc | apply Kd.Q_drewN | apply Kd.Q_drew)); exact HO_4.out))) (rT_q (rup HO_5.out))) (bZ_q (bel HB.out))); have n4_ := Ae_q (bT_q (bel HB.out) hb); clear HO_3; clear HO_4; clear HO_5; clear HB; have HO_3 := n0_; have HO_4 := n1_; have HO_5 := n2_; have HO564 := n3_; have HB := n4_; clear n0_ n1_ n2_ n3_ n4_; (try clear hb); (try clear hb2); (try clear hk); (try clear hi); (try clear ho0); obtain ⟨Ao32, co32, eo32⟩ := rS_q HO564.out; subst eo32; obtain ⟨Ao33, co33, eo33⟩ := rS_q HO_5.out; subst eo33) | (go_at_call 17; (with_reducible refine (laws_sameInts.calls k2 _ _ t562 _ _ t551 t565 _ ?side1 ?side2 ?side3 ?side4 A30.out).mono ?_); (case side1 => exact cup (rR_q HO564.out).2.2); (case side2 => exact (rR_q HO564.out).2.1); (case side3 => exact cup (rR_q HO_5.out).2.2); (case side4 => exact (rR_q HO_5.out).2.1); rintro e w' ⟨rfl, ⟨nd, rfl⟩⟩; (try first | exact ⟨rfl, _, wD_q _ _ _⟩ | exact ⟨rfl, _, Eq.trans (wD_q _ _ _) (congrArg (World.drewN _) (nA_q _ _ _))⟩)))
     repeat (go_quiet (first | (go_at_call 12; (with_reducible refine (impl_PlanMoved.calls k2 _ _ t546 _ _ t545 t562 _ ?side1 ?side2 ?side3 ?side4 A29.out).mono ?_); (case side1 => repeat (first | exact (Kd.Q_reads' HO_4.out).2.2 | (with_reducible refine cA_q ?_ _) | (with_reducible refine cN_q ?_ _) | (with_reducible refine cD_q ?_))); (case side2 => exact (Kd.Q_reads' HO_4.out).2.1); (case side3 => exact cup (rR_q HO_3.out).2.2); (case side4 => exact (rR_q HO_3.out).2.1); rintro e w31 ⟨v563, rfl, ho0, hb⟩; have n0_ := Ae_q (rE_q (rup HO_3.out) (rB_q ho0) hb); have n1_ := Ae_q (Kd.Q_elder' (by (with_reducible repeat (first | apply Kd.Q_alloc | apply Kd.Q_drewN | apply Kd.Q_drew)); exact HO_4.out) (rB_q ho0) hb); have n2_ := Ae_q (rE_q (rup HO_5.out) (rB_q ho0) hb); have n3_ := Ae_q (rL_q (rW_q (rW_q (rW_q ho0 (rT_q (rup HO_3.out))) (Kd.Q_lt (by (with_reducible repeat (first | apply Kd.Q_alloc | apply Kd.Q_drewN | apply Kd.Q_drew)); exact HO_4.out))) (rT_q (rup HO_5.out))) (bZ_q (bel HB.out))); have n4_ := Ae_q (bT_q (bel HB.out) hb); clear HO_3; clear HO_4; clear HO_5; clear HB; have HO_3 := n0_; have HO_4 := n1_; have HO_5 := n2_; have HO564 := n3_; have HB := n4_; clear n0_ n1_ n2_ n3_ n4_; (try clear hb); (try clear hb2); (try clear hk); (try clear hi); (try clear ho0); obtain ⟨Ao32, co32, eo32⟩ := rS_q HO564.out; subst eo32; obtain ⟨Ao33, co33, eo33⟩ := rS_q HO_5.out; subst eo33) | (go_at_call 17; (with_reducible refine (laws_sameInts.calls k2 _ _ t562 _ _ t551 t565 _ ?side1 ?side2 ?side3 ?side4 A30.out).mono ?_); (case side1 => exact cup (rR_q HO564.out).2.2); (case side2 => exact (rR_q HO564.out).2.1); (case side3 => exact cup (rR_q HO_5.out).2.2); (case side4 => exact (rR_q HO_5.out).2.1); rintro e w' ⟨rfl, ⟨nd, rfl⟩⟩; (try first | exact ⟨rfl, _, wD_q _ _ _⟩ | exact ⟨rfl, _, Eq.trans (wD_q _ _ _) (congrArg (World.drewN _) (nA_q _ _ _))⟩))); try go_wp2_with (first | (go_at_call 12; (with_reducible refine (impl_PlanMoved.calls k2 _ _ t546 _ _ t545 t562 _ ?side1 ?side2 ?side3 ?side4 A29.out).mono ?_); (case side1 => repeat (first | exact (Kd.Q_reads' HO_4.out).2.2 | (with_reducible refine cA_q ?_ _) | (with_reducible refine cN_q ?_ _) | (with_reducible refine cD_q ?_))); (case side2 => exact (Kd.Q_reads' HO_4.out).2.1); (case side3 => exact cup (rR_q HO_3.out).2.2); (case side4 => exact (rR_q HO_3.out).2.1); rintro e w31 ⟨v563, rfl, ho0, hb⟩; have n0_ := Ae_q (rE_q (rup HO_3.out) (rB_q ho0) hb); have n1_ := Ae_q (Kd.Q_elder' (by (with_reducible repeat (first | apply Kd.Q_alloc | apply Kd.Q_drewN | apply Kd.Q_drew)); exact HO_4.out) (rB_q ho0) hb); have n2_ := Ae_q (rE_q (rup HO_5.out) (rB_q ho0) hb); have n3_ := Ae_q (rL_q (rW_q (rW_q (rW_q ho0 (rT_q (rup HO_3.out))) (Kd.Q_lt (by (with_reducible repeat (first | apply Kd.Q_alloc | apply Kd.Q_drewN | apply Kd.Q_drew)); exact HO_4.out))) (rT_q (rup HO_5.out))) (bZ_q (bel HB.out))); have n4_ := Ae_q (bT_q (bel HB.out) hb); clear HO_3; clear HO_4; clear HO_5; clear HB; have HO_3 := n0_; have HO_4 := n1_; have HO_5 := n2_; have HO564 := n3_; have HB := n4_; clear n0_ n1_ n2_ n3_ n4_; (try clear hb); (try clear hb2); (try clear hk); (try clear hi); (try clear ho0); obtain ⟨Ao32, co32, eo32⟩ := rS_q HO564.out; subst eo32; obtain ⟨Ao33, co33, eo33⟩ := rS_q HO_5.out; subst eo33) | (go_at_call 17; (with_reducible refine (laws_sameInts.calls k2 _ _ t562 _ _ t551 t565 _ ?side1 ?side2 ?side3 ?side4 A30.out).mono ?_); (case side1 => exact cup (rR_q HO564.out).2.2); (case side2 => exact (rR_q HO564.out).2.1); (case side3 => exact cup (rR_q HO_5.out).2.2); (case side4 => exact (rR_q HO_5.out).2.1); rintro e w' ⟨rfl, ⟨nd, rfl⟩⟩; (try first | exact ⟨rfl, _, wD_q _ _ _⟩ | exact ⟨rfl, _, Eq.trans (wD_q _ _ _) (congrArg (World.drewN _) (nA_q _ _ _))⟩))))
     go_ret
     exact ⟨by first | rfl | (simp [eN_q, eS_q] <;> rfl) | (simp [*, eN_q, eS_q] <;> rfl), bel HB.out⟩

def laws_FnMoved.Pure : Prop := ∀ (l0 : List Int), l0.length ≤ maxLen → l0.length * 1 ≤ 140737488351232 → (∀ x ∈ l0, (Lit.int .u8 x).wf = true) → ∃ k, laws_FnMoved.f k l0 = some true
theorem laws_FnMoved.walk (P : laws_FnMoved.Pure) (a0 : Option Addr) (len0 cap0 : Nat) (z0 : List Int) (w : World) (w0 : (a0 = none ∧ len0 = 0 ∧ cap0 = 0 ∧ z0 = []) ∨ ∃ x, a0 = some x ∧ len0 ≤ cap0 ∧ cap0 ≤ maxLen ∧ z0.length = cap0 ∧ (∀ i, i < z0.length → w.cell? (x.add i) = some (.int .u8 (z0.getD i 0))) ∧ ∀ n ∈ z0, (Lit.int .u8 n).wf = true) (y0 : len0 * 1 ≤ 140737488351232) :
    Calls Try.prog 6 #[.slice a0 len0 cap0] w fun e w' => e = .returned (.bool true) ∧ Below w.heap.size w w' := by
 obtain ⟨l0, rfl, hr0, hm0, hw0, hc0⟩ := ReadsInt.ofRowC w0
 obtain ⟨k, h⟩ := P l0 hm0 y0 hw0
 refine (laws_FnMoved.calls k _ _ l0 true w (Kd.C_of_reads (d := (0 : Int)) (h1 := fun _ => rfl) hr0) hc0 h).mono ?_
 rintro e w' ⟨rfl, hd⟩
 exact ⟨rfl, hd⟩

end Go.Proofs.Ytjnagefogjkbbaa.PPl
