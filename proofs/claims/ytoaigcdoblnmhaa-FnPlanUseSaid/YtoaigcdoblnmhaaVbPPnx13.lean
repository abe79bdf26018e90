/- Written by the session's own driver (wip/tools/gprint.sh) over the kit's printing program: the machine side of a group of laws. Not trusted: the kernel checks it. -/
import Derived.Test.YtoaigcdoblnmhaaVbPPnx0
import Derived.Test.YtoaigcdoblnmhaaVbPPnx8
import Derived.Test.YtoaigcdoblnmhaaVbPPnx11
import Derived.Test.YtoaigcdoblnmhaaVbPPnx12
namespace Go.Proofs.Ytoaigcdoblnmhaa.PPn
open Go.RowKit Go.Proofs.YtoaigcdoblnmhaaW.PrintWords Go.Proofs.YtoaigcdoblnmhaaW.PrintLast Go.Proofs.YtoaigcdoblnmhaaW.PrintMore
attribute [local go_sem] max2_int min2_int max_two min_two max_three min_three max_four min_four   -- for this text's walks alone
set_option linter.unusedVariables false
set_option linter.unusedSimpArgs false

/-! ### laws_FnPlanUse: function 3 -/
mutual
def laws_FnPlanUse.j0 : Nat → List (S31) → List Int → Int → Int → List Int → Int → List Int → Bool → Option (Bool)
 | 0, _, _, _, _, _, _, _, _ => none
 | k + 1, x3, x4, x5, x6, x7, x8, x9, x48 => if x48 = true then (if x6 = x8 then ((laws_sameInts.f k x7 x9).bind fun t370 => (some t370)) else (some false)) else (laws_FnPlanUse.l0 k x3 x4 x5 x6 x7 0 0 0)
def laws_FnPlanUse.l0 : Nat → List (S31) → List Int → Int → Int → List Int → Int → Int → Int → Option (Bool)
 | 0, _, _, _, _, _, _, _, _ => none
 | k + 1, x3, x4, x5, x6, x7, x10, x11, x12 => if x12 < (x3.length : Int) then (if 0 ≤ x12 then (if x12 < (x4.length : Int) then (if (rd x4 x12) ≤ x5 then (laws_FnPlanUse.j2 k x3 x4 x5 x6 x7 x10 x11 x12 (decide (x5 < (wrap64 ((rd x4 x12) + ((rd_T31 x3 x12).f0)))))) else (laws_FnPlanUse.j2 k x3 x4 x5 x6 x7 x10 x11 x12 false)) else (none)) else (none)) else (if x10 = x6 then ((laws_sumOf.f k x7).bind fun t371 => (some (x11 == t371))) else (some false))
def laws_FnPlanUse.j2 : Nat → List (S31) → List Int → Int → Int → List Int → Int → Int → Int → Bool → Option (Bool)
 | 0, _, _, _, _, _, _, _, _, _ => none
 | k + 1, x3, x4, x5, x6, x7, x10, x11, x12, x82 => if x82 = true then (if 0 ≤ x12 then (if x12 < (x3.length : Int) then (if ((rd_T31 x3 x12).f2) > 0 then (laws_FnPlanUse.l0 k x3 x4 x5 x6 x7 (wrap64 (x10 + ((rd_T31 x3 x12).f1))) (wrap64 (x11 + 1)) (wrap64 (x12 + 1))) else (laws_FnPlanUse.l0 k x3 x4 x5 x6 x7 (wrap64 (x10 + ((rd_T31 x3 x12).f1))) x11 (wrap64 (x12 + 1)))) else (none)) else (none)) else (laws_FnPlanUse.l0 k x3 x4 x5 x6 x7 x10 x11 (wrap64 (x12 + 1)))
end
def laws_FnPlanUse.f (k : Nat) (l0 : List Int) : Option (Bool) := if (l0.length : Int) > 1048576 then (some true) else ((spec_DrawPlanUse.f k l0).bind fun bt354 => ((impl_PlanUse.f k bt354.1 bt354.2.1 bt354.2.2).bind fun bt361 => ((spec_PlanUse.f k bt354.1 bt354.2.1 bt354.2.2).bind fun bt365 => (if bt361.1 = bt365.1 then ((laws_sameInts.f k bt361.2 bt365.2).bind fun t369 => (if t369 = true then (laws_FnPlanUse.j0 k bt354.1 bt354.2.1 bt354.2.2 bt361.1 bt361.2 bt365.1 bt365.2 (decide (bt365.1 < 0))) else (laws_FnPlanUse.j0 k bt354.1 bt354.2.1 bt354.2.2 bt361.1 bt361.2 bt365.1 bt365.2 true))) else (laws_FnPlanUse.j0 k bt354.1 bt354.2.1 bt354.2.2 bt361.1 bt361.2 bt365.1 bt365.2 true)))))
theorem laws_FnPlanUse.mono_l : ∀ k, (∀ y0 y1 y2 y3 y4 y5 y6 y7, LeO (laws_FnPlanUse.j0 k y0 y1 y2 y3 y4 y5 y6 y7) (laws_FnPlanUse.j0 (k + 1) y0 y1 y2 y3 y4 y5 y6 y7)) ∧ (∀ y0 y1 y2 y3 y4 y5 y6 y7, LeO (laws_FnPlanUse.l0 k y0 y1 y2 y3 y4 y5 y6 y7) (laws_FnPlanUse.l0 (k + 1) y0 y1 y2 y3 y4 y5 y6 y7)) ∧ (∀ y0 y1 y2 y3 y4 y5 y6 y7 y8, LeO (laws_FnPlanUse.j2 k y0 y1 y2 y3 y4 y5 y6 y7 y8) (laws_FnPlanUse.j2 (k + 1) y0 y1 y2 y3 y4 y5 y6 y7 y8))
 | 0 => ⟨fun _ _ _ _ _ _ _ _ r h => by simp [laws_FnPlanUse.j0] at h, fun _ _ _ _ _ _ _ _ r h => by simp [laws_FnPlanUse.l0] at h, fun _ _ _ _ _ _ _ _ _ r h => by simp [laws_FnPlanUse.j2] at h⟩
 | k + 1 => by
  obtain ⟨ih0, ih1, ih2⟩ := laws_FnPlanUse.mono_l k
  refine ⟨?_, ?_, ?_⟩
  ·intro y0 y1 y2 y3 y4 y5 y6 y7
   unfold laws_FnPlanUse.j0
   repeat' first
   | (with_reducible exact ih0 _ _ _ _ _ _ _ _)
   | (with_reducible exact ih1 _ _ _ _ _ _ _ _)
   | (with_reducible exact ih2 _ _ _ _ _ _ _ _ _)
   | (with_reducible exact impl_PlanUse.mono _ _ _ _)
   | (with_reducible exact laws_sameInts.mono _ _ _)
   | (with_reducible exact laws_sumOf.mono _ _)
   | (with_reducible exact spec_DrawPlanUse.mono _ _)
   | (with_reducible exact spec_PlanUse.mono _ _ _ _)
   | (with_reducible exact LeO.refl _)
   | (with_reducible exact LeO.none _)
   | (with_reducible refine LeO.ite ?_ ?_)
   | (with_reducible refine LeO.bind ?_ (fun _ => ?_))
   | exact ih0 _ _ _ _ _ _ _ _
   | exact ih1 _ _ _ _ _ _ _ _
   | exact ih2 _ _ _ _ _ _ _ _ _
   | exact impl_PlanUse.mono _ _ _ _
   | exact laws_sameInts.mono _ _ _
   | exact laws_sumOf.mono _ _
   | exact spec_DrawPlanUse.mono _ _
   | exact spec_PlanUse.mono _ _ _ _
   | exact LeO.none _
   | refine LeO.ite ?_ ?_
   | refine LeO.bind ?_ (fun _ => ?_)
  ·intro y0 y1 y2 y3 y4 y5 y6 y7
   unfold laws_FnPlanUse.l0
   repeat' first
   | (with_reducible exact ih0 _ _ _ _ _ _ _ _)
   | (with_reducible exact ih1 _ _ _ _ _ _ _ _)
   | (with_reducible exact ih2 _ _ _ _ _ _ _ _ _)
   | (with_reducible exact impl_PlanUse.mono _ _ _ _)
   | (with_reducible exact laws_sameInts.mono _ _ _)
   | (with_reducible exact laws_sumOf.mono _ _)
   | (with_reducible exact spec_DrawPlanUse.mono _ _)
   | (with_reducible exact spec_PlanUse.mono _ _ _ _)
   | (with_reducible exact LeO.refl _)
   | (with_reducible exact LeO.none _)
   | (with_reducible refine LeO.ite ?_ ?_)
   | (with_reducible refine LeO.bind ?_ (fun _ => ?_))
   | exact ih0 _ _ _ _ _ _ _ _
   | exact ih1 _ _ _ _ _ _ _ _
   | exact ih2 _ _ _ _ _ _ _ _ _
   | exact impl_PlanUse.mono _ _ _ _
   | exact laws_sameInts.mono _ _ _
   | exact laws_sumOf.mono _ _
   | exact spec_DrawPlanUse.mono _ _
   | exact spec_PlanUse.mono _ _ _ _
   | exact LeO.none _
   | refine LeO.ite ?_ ?_
   | refine LeO.bind ?_ (fun _ => ?_)
  intro y0 y1 y2 y3 y4 y5 y6 y7 y8
  unfold laws_FnPlanUse.j2
  repeat' first
  | (with_reducible exact ih0 _ _ _ _ _ _ _ _)
  | (with_reducible exact ih1 _ _ _ _ _ _ _ _)
  | (with_reducible exact ih2 _ _ _ _ _ _ _ _ _)
  | (with_reducible exact impl_PlanUse.mono _ _ _ _)
  | (with_reducible exact laws_sameInts.mono _ _ _)
  | (with_reducible exact laws_sumOf.mono _ _)
  | (with_reducible exact spec_DrawPlanUse.mono _ _)
  | (with_reducible exact spec_PlanUse.mono _ _ _ _)
  | (with_reducible exact LeO.refl _)
  | (with_reducible exact LeO.none _)
  | (with_reducible refine LeO.ite ?_ ?_)
  | (with_reducible refine LeO.bind ?_ (fun _ => ?_))
  | exact ih0 _ _ _ _ _ _ _ _
  | exact ih1 _ _ _ _ _ _ _ _
  | exact ih2 _ _ _ _ _ _ _ _ _
  | exact impl_PlanUse.mono _ _ _ _
  | exact laws_sameInts.mono _ _ _
  | exact laws_sumOf.mono _ _
  | exact spec_DrawPlanUse.mono _ _
  | exact spec_PlanUse.mono _ _ _ _
  | exact LeO.none _
  | refine LeO.ite ?_ ?_
  | refine LeO.bind ?_ (fun _ => ?_)
theorem laws_FnPlanUse.mono : ∀ a0 k, LeO (laws_FnPlanUse.f k a0) (laws_FnPlanUse.f (k + 1) a0) := by
 intro a0 k
 obtain ⟨ih0, ih1, ih2⟩ := laws_FnPlanUse.mono_l k
 unfold laws_FnPlanUse.f
 repeat' first
  | (with_reducible exact ih0 _ _ _ _ _ _ _ _)
  | (with_reducible exact ih1 _ _ _ _ _ _ _ _)
  | (with_reducible exact ih2 _ _ _ _ _ _ _ _ _)
  | (with_reducible exact impl_PlanUse.mono _ _ _ _)
  | (with_reducible exact laws_sameInts.mono _ _ _)
  | (with_reducible exact laws_sumOf.mono _ _)
  | (with_reducible exact spec_DrawPlanUse.mono _ _)
  | (with_reducible exact spec_PlanUse.mono _ _ _ _)
  | (with_reducible exact LeO.refl _)
  | (with_reducible exact LeO.none _)
  | (with_reducible refine LeO.ite ?_ ?_)
  | (with_reducible refine LeO.bind ?_ (fun _ => ?_))
  | exact ih0 _ _ _ _ _ _ _ _
  | exact ih1 _ _ _ _ _ _ _ _
  | exact ih2 _ _ _ _ _ _ _ _ _
  | exact impl_PlanUse.mono _ _ _ _
  | exact laws_sameInts.mono _ _ _
  | exact laws_sumOf.mono _ _
  | exact spec_DrawPlanUse.mono _ _
  | exact spec_PlanUse.mono _ _ _ _
  | exact LeO.none _
  | refine LeO.ite ?_ ?_
  | refine LeO.bind ?_ (fun _ => ?_)
set_option maxHeartbeats 8000000 in
set_option maxRecDepth 100000 in
theorem laws_FnPlanUse.calls (k : Nat) (A0 : Option Addr) (c0 : Nat) (l0 : List Int) (r : Bool) (w : World) (hr0 : Kd.C (Kd.int .u8) w A0 l0.length l0) (hc0 : l0.length ≤ c0) (h : laws_FnPlanUse.f k l0 = some r) :
    Calls Try.prog 3 #[.slice A0 l0.length c0] w fun e w' => e = .returned (.bool r) ∧ Below w.heap.size w w' := by
 have HR0 := Aside0.mk hr0
 have HC0 := Aside0.mk hc0
 clear hr0 hc0
 have HB := Aside0.mk (Below.refl w.heap.size w)
 have H : (if (l0.length : Int) > 1048576 then (some true) else ((spec_DrawPlanUse.f k l0).bind fun bt354 => ((impl_PlanUse.f k bt354.1 bt354.2.1 bt354.2.2).bind fun bt361 => ((spec_PlanUse.f k bt354.1 bt354.2.1 bt354.2.2).bind fun bt365 => (if bt361.1 = bt365.1 then ((laws_sameInts.f k bt361.2 bt365.2).bind fun t369 => (if t369 = true then (laws_FnPlanUse.j0 k bt354.1 bt354.2.1 bt354.2.2 bt361.1 bt361.2 bt365.1 bt365.2 (decide (bt365.1 < 0))) else (laws_FnPlanUse.j0 k bt354.1 bt354.2.1 bt354.2.2 bt361.1 bt361.2 bt365.1 bt365.2 true))) else (laws_FnPlanUse.j0 k bt354.1 bt354.2.1 bt354.2.2 bt361.1 bt361.2 bt365.1 bt365.2 true)))))) = some r := h
 clear h
 by_cases c2 : (l0.length : Int) > 1048576
 ·rw [if_pos c2] at H
  have c2b0 : decide (1048576 < (l0.length : Int)) = true := decide_eq_true c2
  have c2b1 : decide (1048576 < l0.length) = true := decide_eq_true (by omega)
  clear c2
  obtain rfl := Option.some.inj H
  go_enter Try.func3, Try.ntmps3
  go_wp2
  repeat (go_quiet (fail); try go_wp2)
  go_ret
  exact ⟨by first | rfl | (simp [errW_none, errW_some] <;> rfl) | (simp [*, errW_none, errW_some] <;> rfl), bel HB.out⟩
 rw [if_neg c2] at H
 have c2b0 : decide (1048576 < (l0.length : Int)) = false := decide_eq_false c2
 have c2b1 : decide (1048576 < l0.length) = false := decide_eq_false (by omega)
 clear c2
 replace H := Option.bind_eq_some_iff.mp H
 obtain ⟨⟨t354, t355, t356⟩, A30, H⟩ := H
 replace H : ((impl_PlanUse.f k t354 t355 t356).bind fun bt361 => ((spec_PlanUse.f k t354 t355 t356).bind fun bt365 => (if bt361.1 = bt365.1 then ((laws_sameInts.f k bt361.2 bt365.2).bind fun t369 => (if t369 = true then (laws_FnPlanUse.j0 k t354 t355 t356 bt361.1 bt361.2 bt365.1 bt365.2 (decide (bt365.1 < 0))) else (laws_FnPlanUse.j0 k t354 t355 t356 bt361.1 bt361.2 bt365.1 bt365.2 true))) else (laws_FnPlanUse.j0 k t354 t355 t356 bt361.1 bt361.2 bt365.1 bt365.2 true)))) = some r := H
 have A3 := Aside0.mk A30
 clear A30
 replace H := Option.bind_eq_some_iff.mp H
 obtain ⟨⟨t361, t362⟩, A40, H⟩ := H
 replace H : ((spec_PlanUse.f k t354 t355 t356).bind fun bt365 => (if t361 = bt365.1 then ((laws_sameInts.f k t362 bt365.2).bind fun t369 => (if t369 = true then (laws_FnPlanUse.j0 k t354 t355 t356 t361 t362 bt365.1 bt365.2 (decide (bt365.1 < 0))) else (laws_FnPlanUse.j0 k t354 t355 t356 t361 t362 bt365.1 bt365.2 true))) else (laws_FnPlanUse.j0 k t354 t355 t356 t361 t362 bt365.1 bt365.2 true))) = some r := H
 have A4 := Aside0.mk A40
 clear A40
 replace H := Option.bind_eq_some_iff.mp H
 obtain ⟨⟨t365, t366⟩, A50, H⟩ := H
 replace H : (if t361 = t365 then ((laws_sameInts.f k t362 t366).bind fun t369 => (if t369 = true then (laws_FnPlanUse.j0 k t354 t355 t356 t361 t362 t365 t366 (decide (t365 < 0))) else (laws_FnPlanUse.j0 k t354 t355 t356 t361 t362 t365 t366 true))) else (laws_FnPlanUse.j0 k t354 t355 t356 t361 t362 t365 t366 true)) = some r := H
 have A5 := Aside0.mk A50
 clear A50
 have HC6 := Aside0.mk H
 clear H
 go_enter Try.func3, Try.ntmps3
 go_upto_region 6 with (first | (go_at_call 9; (with_reducible refine (spec_DrawPlanUse.calls k _ _ l0 t354 t355 t356 _ ?side1 ?side2 A3.out).mono ?_); (case side1 => repeat (first | exact HR0.out | (with_reducible refine Kd.C_alloc ?_ _) | (with_reducible refine Kd.C_drewN ?_ _) | (with_reducible refine Kd.C_drew ?_))); (case side2 => exact HC0.out); rintro e w7 ⟨v357, v359, rfl, ho0, ho1, hb⟩; have n0_ := Aside0.mk (Kd.S_lower ho0 (below_size (bel HB.out))); have n1_ := Aside0.mk (Kd.R_lower ho1 (below_size (bel HB.out))); have n2_ := Aside0.mk (below_step (bel HB.out) hb); clear HB; have HO358 := n0_; have HO360 := n1_; have HB := n2_; clear n0_ n1_ n2_; (try clear hb); (try clear hb2); (try clear hk); (try clear hi); (try clear ho0); (try clear ho1); obtain ⟨Ao8, co8, eo8⟩ := Kd.S_slice HO358.out; subst eo8; obtain ⟨Ao9, co9, eo9⟩ := Kd.R_slice HO360.out; subst eo9) | (go_at_call 10; (with_reducible refine (impl_PlanUse.calls k _ _ t354 _ _ t355 t356 t361 t362 _ ?side1 ?side2 ?side3 ?side4 A4.out).mono ?_); (case side1 => repeat (first | exact (Kd.S_reads' HO358.out).2.2 | (with_reducible refine Kd.C_alloc ?_ _) | (with_reducible refine Kd.C_drewN ?_ _) | (with_reducible refine Kd.C_drew ?_))); (case side2 => exact (Kd.S_reads' HO358.out).2.1); (case side3 => repeat (first | exact (Kd.R_reads' HO360.out).2.2 | (with_reducible refine Kd.C_alloc ?_ _) | (with_reducible refine Kd.C_drewN ?_ _) | (with_reducible refine Kd.C_drew ?_))); (case side4 => exact (Kd.R_reads' HO360.out).2.1); rintro e w10 ⟨v363, rfl, ho0, hb⟩; have n0_ := Aside0.mk (Kd.S_elder' (by (with_reducible repeat (first | apply Kd.S_alloc | apply Kd.S_drewN | apply Kd.S_drew)); exact HO358.out) (Kd.R_base ho0) hb); have n1_ := Aside0.mk (Kd.R_elder' (rup HO360.out) (Kd.R_base ho0) hb); have n2_ := Aside0.mk (Kd.R_lower (Kd.R_new' ho0 (Kd.R_lt (rup HO360.out))) (below_size (bel HB.out))); have n3_ := Aside0.mk (below_step (bel HB.out) hb); clear HO358; clear HO360; clear HB; have HO358 := n0_; have HO360 := n1_; have HO364 := n2_; have HB := n3_; clear n0_ n1_ n2_ n3_; (try clear hb); (try clear hb2); (try clear hk); (try clear hi); (try clear ho0)) | (go_at_call 11; (with_reducible refine (spec_PlanUse.calls k _ _ t354 _ _ t355 t356 t365 t366 _ ?side1 ?side2 ?side3 ?side4 A5.out).mono ?_); (case side1 => repeat (first | exact (Kd.S_reads' HO358.out).2.2 | (with_reducible refine Kd.C_alloc ?_ _) | (with_reducible refine Kd.C_drewN ?_ _) | (with_reducible refine Kd.C_drew ?_))); (case side2 => exact (Kd.S_reads' HO358.out).2.1); (case side3 => repeat (first | exact (Kd.R_reads' HO360.out).2.2 | (with_reducible refine Kd.C_alloc ?_ _) | (with_reducible refine Kd.C_drewN ?_ _) | (with_reducible refine Kd.C_drew ?_))); (case side4 => exact (Kd.R_reads' HO360.out).2.1); rintro e w11 ⟨v367, rfl, ho0, hb⟩; have n0_ := Aside0.mk (Kd.S_elder' (by (with_reducible repeat (first | apply Kd.S_alloc | apply Kd.S_drewN | apply Kd.S_drew)); exact HO358.out) (Kd.R_base ho0) hb); have n1_ := Aside0.mk (Kd.R_elder' (rup HO360.out) (Kd.R_base ho0) hb); have n2_ := Aside0.mk (Kd.R_elder' (rup HO364.out) (Kd.R_base ho0) hb); have n3_ := Aside0.mk (Kd.R_lower (Kd.R_new' (Kd.R_new' ho0 (Kd.R_lt (rup HO360.out))) (Kd.R_lt (rup HO364.out))) (below_size (bel HB.out))); have n4_ := Aside0.mk (below_step (bel HB.out) hb); clear HO358; clear HO360; clear HO364; clear HB; have HO358 := n0_; have HO360 := n1_; have HO364 := n2_; have HO368 := n3_; have HB := n4_; clear n0_ n1_ n2_ n3_ n4_; (try clear hb); (try clear hb2); (try clear hk); (try clear hi); (try clear ho0)))
 repeat (go_quiet (first | (go_at_call 9; (with_reducible refine (spec_DrawPlanUse.calls k _ _ l0 t354 t355 t356 _ ?side1 ?side2 A3.out).mono ?_); (case side1 => repeat (first | exact HR0.out | (with_reducible refine Kd.C_alloc ?_ _) | (with_reducible refine Kd.C_drewN ?_ _) | (with_reducible refine Kd.C_drew ?_))); (case side2 => exact HC0.out); rintro e w7 ⟨v357, v359, rfl, ho0, ho1, hb⟩; have n0_ := Aside0.mk (Kd.S_lower ho0 (below_size (bel HB.out))); have n1_ := Aside0.mk (Kd.R_lower ho1 (below_size (bel HB.out))); have n2_ := Aside0.mk (below_step (bel HB.out) hb); clear HB; have HO358 := n0_; have HO360 := n1_; have HB := n2_; clear n0_ n1_ n2_; (try clear hb); (try clear hb2); (try clear hk); (try clear hi); (try clear ho0); (try clear ho1); obtain ⟨Ao8, co8, eo8⟩ := Kd.S_slice HO358.out; subst eo8; obtain ⟨Ao9, co9, eo9⟩ := Kd.R_slice HO360.out; subst eo9) | (go_at_call 10; (with_reducible refine (impl_PlanUse.calls k _ _ t354 _ _ t355 t356 t361 t362 _ ?side1 ?side2 ?side3 ?side4 A4.out).mono ?_); (case side1 => repeat (first | exact (Kd.S_reads' HO358.out).2.2 | (with_reducible refine Kd.C_alloc ?_ _) | (with_reducible refine Kd.C_drewN ?_ _) | (with_reducible refine Kd.C_drew ?_))); (case side2 => exact (Kd.S_reads' HO358.out).2.1); (case side3 => repeat (first | exact (Kd.R_reads' HO360.out).2.2 | (with_reducible refine Kd.C_alloc ?_ _) | (with_reducible refine Kd.C_drewN ?_ _) | (with_reducible refine Kd.C_drew ?_))); (case side4 => exact (Kd.R_reads' HO360.out).2.1); rintro e w10 ⟨v363, rfl, ho0, hb⟩; have n0_ := Aside0.mk (Kd.S_elder' (by (with_reducible repeat (first | apply Kd.S_alloc | apply Kd.S_drewN | apply Kd.S_drew)); exact HO358.out) (Kd.R_base ho0) hb); have n1_ := Aside0.mk (Kd.R_elder' (rup HO360.out) (Kd.R_base ho0) hb); have n2_ := Aside0.mk (Kd.R_lower (Kd.R_new' ho0 (Kd.R_lt (rup HO360.out))) (below_size (bel HB.out))); have n3_ := Aside0.mk (below_step (bel HB.out) hb); clear HO358; clear HO360; clear HB; have HO358 := n0_; have HO360 := n1_; have HO364 := n2_; have HB := n3_; clear n0_ n1_ n2_ n3_; (try clear hb); (try clear hb2); (try clear hk); (try clear hi); (try clear ho0)) | (go_at_call 11; (with_reducible refine (spec_PlanUse.calls k _ _ t354 _ _ t355 t356 t365 t366 _ ?side1 ?side2 ?side3 ?side4 A5.out).mono ?_); (case side1 => repeat (first | exact (Kd.S_reads' HO358.out).2.2 | (with_reducible refine Kd.C_alloc ?_ _) | (with_reducible refine Kd.C_drewN ?_ _) | (with_reducible refine Kd.C_drew ?_))); (case side2 => exact (Kd.S_reads' HO358.out).2.1); (case side3 => repeat (first | exact (Kd.R_reads' HO360.out).2.2 | (with_reducible refine Kd.C_alloc ?_ _) | (with_reducible refine Kd.C_drewN ?_ _) | (with_reducible refine Kd.C_drew ?_))); (case side4 => exact (Kd.R_reads' HO360.out).2.1); rintro e w11 ⟨v367, rfl, ho0, hb⟩; have n0_ := Aside0.mk (Kd.S_elder' (by (with_reducible repeat (first | apply Kd.S_alloc | apply Kd.S_drewN | apply Kd.S_drew)); exact HO358.out) (Kd.R_base ho0) hb); have n1_ := Aside0.mk (Kd.R_elder' (rup HO360.out) (Kd.R_base ho0) hb); have n2_ := Aside0.mk (Kd.R_elder' (rup HO364.out) (Kd.R_base ho0) hb); have n3_ := Aside0.mk (Kd.R_lower (Kd.R_new' (Kd.R_new' ho0 (Kd.R_lt (rup HO360.out))) (Kd.R_lt (rup HO364.out))) (below_size (bel HB.out))); have n4_ := Aside0.mk (below_step (bel HB.out) hb); clear HO358; clear HO360; clear HO364; clear HB; have HO358 := n0_; have HO360 := n1_; have HO364 := n2_; have HO368 := n3_; have HB := n4_; clear n0_ n1_ n2_ n3_ n4_; (try clear hb); (try clear hb2); (try clear hk); (try clear hi); (try clear ho0))); go_upto_region 6 with (first | (go_at_call 9; (with_reducible refine (spec_DrawPlanUse.calls k _ _ l0 t354 t355 t356 _ ?side1 ?side2 A3.out).mono ?_); (case side1 => repeat (first | exact HR0.out | (with_reducible refine Kd.C_alloc ?_ _) | (with_reducible refine Kd.C_drewN ?_ _) | (with_reducible refine Kd.C_drew ?_))); (case side2 => exact HC0.out); rintro e w7 ⟨v357, v359, rfl, ho0, ho1, hb⟩; have n0_ := Aside0.mk (Kd.S_lower ho0 (below_size (bel HB.out))); have n1_ := Aside0.mk (Kd.R_lower ho1 (below_size (bel HB.out))); have n2_ := Aside0.mk (below_step (bel HB.out) hb); clear HB; have HO358 := n0_; have HO360 := n1_; have HB := n2_; clear n0_ n1_ n2_; (try clear hb); (try clear hb2); (try clear hk); (try clear hi); (try clear ho0); (try clear ho1); obtain ⟨Ao8, co8, eo8⟩ := Kd.S_slice HO358.out; subst eo8; obtain ⟨Ao9, co9, eo9⟩ := Kd.R_slice HO360.out; subst eo9) | (go_at_call 10; (with_reducible refine (impl_PlanUse.calls k _ _ t354 _ _ t355 t356 t361 t362 _ ?side1 ?side2 ?side3 ?side4 A4.out).mono ?_); (case side1 => repeat (first | exact (Kd.S_reads' HO358.out).2.2 | (with_reducible refine Kd.C_alloc ?_ _) | (with_reducible refine Kd.C_drewN ?_ _) | (with_reducible refine Kd.C_drew ?_))); (case side2 => exact (Kd.S_reads' HO358.out).2.1); (case side3 => repeat (first | exact (Kd.R_reads' HO360.out).2.2 | (with_reducible refine Kd.C_alloc ?_ _) | (with_reducible refine Kd.C_drewN ?_ _) | (with_reducible refine Kd.C_drew ?_))); (case side4 => exact (Kd.R_reads' HO360.out).2.1); rintro e w10 ⟨v363, rfl, ho0, hb⟩; have n0_ := Aside0.mk (Kd.S_elder' (by (with_reducible repeat (first | apply Kd.S_alloc | apply Kd.S_drewN | apply Kd.S_drew)); exact HO358.out) (Kd.R_base ho0) hb); have n1_ := Aside0.mk (Kd.R_elder' (rup HO360.out) (Kd.R_base ho0) hb); have n2_ := Aside0.mk (Kd.R_lower (Kd.R_new' ho0 (Kd.R_lt (rup HO360.out))) (below_size (bel HB.out))); have n3_ := Aside0.mk (below_step (bel HB.out) hb); clear HO358; clear HO360; clear HB; have HO358 := n0_; have HO360 := n1_; have HO364 := n2_; have HB := n3_; clear n0_ n1_ n2_ n3_; (try clear hb); (try clear hb2); (try clear hk); (try clear hi); (try clear ho0)) | (go_at_call 11; (with_reducible refine (spec_PlanUse.calls k _ _ t354 _ _ t355 t356 t365 t366 _ ?side1 ?side2 ?side3 ?side4 A5.out).mono ?_); (case side1 => repeat (first | exact (Kd.S_reads' HO358.out).2.2 | (with_reducible refine Kd.C_alloc ?_ _) | (with_reducible refine Kd.C_drewN ?_ _) | (with_reducible refine Kd.C_drew ?_))); (case side2 => exact (Kd.S_reads' HO358.out).2.1); (case side3 => repeat (first | exact (Kd.R_reads' HO360.out).2.2 | (with_reducible refine Kd.C_alloc ?_ _) | (with_reducible refine Kd.C_drewN ?_ _) | (with_reducible refine Kd.C_drew ?_))); (case side4 => exact (Kd.R_reads' HO360.out).2.1); rintro e w11 ⟨v367, rfl, ho0, hb⟩; have n0_ := Aside0.mk (Kd.S_elder' (by (with_reducible repeat (first | apply Kd.S_alloc | apply Kd.S_drewN | apply Kd.S_drew)); exact HO358.out) (Kd.R_base ho0) hb); have n1_ := Aside0.mk (Kd.R_elder' (rup HO360.out) (Kd.R_base ho0) hb); have n2_ := Aside0.mk (Kd.R_elder' (rup HO364.out) (Kd.R_base ho0) hb); have n3_ := Aside0.mk (Kd.R_lower (Kd.R_new' (Kd.R_new' ho0 (Kd.R_lt (rup HO360.out))) (Kd.R_lt (rup HO364.out))) (below_size (bel HB.out))); have n4_ := Aside0.mk (below_step (bel HB.out) hb); clear HO358; clear HO360; clear HO364; clear HB; have HO358 := n0_; have HO360 := n1_; have HO364 := n2_; have HO368 := n3_; have HB := n4_; clear n0_ n1_ n2_ n3_ n4_; (try clear hb); (try clear hb2); (try clear hk); (try clear hi); (try clear ho0))))
 (try simp only [Act.put, List.setIfInBounds_toArray, List.set_cons_zero, List.set_cons_succ])
 go_cut [48] (fun v48 wc => ∃ (kq : Nat) (x48_5 : Bool), v48 = .bool x48_5 ∧ Aside0 (laws_FnPlanUse.j0 kq t354 t355 t356 t361 t362 t365 t366 x48_5 = some r) ∧ Aside0 (kq ≤ k) ∧ Aside0 (Kd.S k31 31 wc w.heap.size (fun k_ => some k_ ≠ ((.slice Ao9 t355.length co9) : Value).ownBlock ∧ some k_ ≠ (v363 : Value).ownBlock ∧ some k_ ≠ (v367 : Value).ownBlock) (.slice Ao8 t354.length co8) t354) ∧ Aside0 (Kd.R (Kd.int .i64) 3 wc w.heap.size (fun k_ => some k_ ≠ (v363 : Value).ownBlock ∧ some k_ ≠ (v367 : Value).ownBlock) (.slice Ao9 t355.length co9) t355) ∧ Aside0 (Kd.R (Kd.int .i64) 3 wc w.heap.size (fun k_ => some k_ ≠ ((.slice Ao9 t355.length co9) : Value).ownBlock ∧ some k_ ≠ (v367 : Value).ownBlock) v363 t362) ∧ Aside0 (Kd.R (Kd.int .i64) 3 wc w.heap.size (fun k_ => some k_ ≠ ((.slice Ao9 t355.length co9) : Value).ownBlock ∧ some k_ ≠ (v363 : Value).ownBlock) v367 t366) ∧ Aside0 (Below w.heap.size w wc))
 case first =>
  have H := HC6.out
  clear HC6
  by_cases c12 : t361 = t365
  ·rw [if_pos c12] at H
   have c12b0 : (t361 == t365) = true := beq_iff_eq.mpr c12
   have c12b1 : (t361 != t365) = false := bne_eq_false_iff_eq.mpr c12
   clear c12
   (first | rw [c12b0] | (simp only [i64_w, i32_w]; rw [c12b0]) | skip)
   replace H := Option.bind_eq_some_iff.mp H
   obtain ⟨t369, A130, H⟩ := H
   replace H : (if t369 = true then (laws_FnPlanUse.j0 k t354 t355 t356 t361 t362 t365 t366 (decide (t365 < 0))) else (laws_FnPlanUse.j0 k t354 t355 t356 t361 t362 t365 t366 true)) = some r := H
   have A13 := Aside0.mk A130
   clear A130
   by_cases c14 : t369 = true
   ·subst c14
    have H1 : (laws_FnPlanUse.j0 k t354 t355 t356 t361 t362 t365 t366 (decide (t365 < 0))) = some r := by rw [if_pos rfl] at H; exact H
    clear H
    have H := H1
    clear H1
    have H' := Aside0.mk H
    clear H
    obtain ⟨Ao15, co15, eo15⟩ := Kd.R_slice HO364.out
    subst eo15
    obtain ⟨Ao16, co16, eo16⟩ := Kd.R_slice HO368.out
    subst eo16
    go_wp2_with (first | (go_at_call 12; (with_reducible refine (laws_sameInts.calls k _ _ t362 _ _ t366 true _ ?side1 ?side2 ?side3 ?side4 A13.out).mono ?_); (case side1 => repeat (first | exact (Kd.R_reads' HO364.out).2.2 | (with_reducible refine Kd.C_alloc ?_ _) | (with_reducible refine Kd.C_drewN ?_ _) | (with_reducible refine Kd.C_drew ?_))); (case side2 => exact (Kd.R_reads' HO364.out).2.1); (case side3 => repeat (first | exact (Kd.R_reads' HO368.out).2.2 | (with_reducible refine Kd.C_alloc ?_ _) | (with_reducible refine Kd.C_drewN ?_ _) | (with_reducible refine Kd.C_drew ?_))); (case side4 => exact (Kd.R_reads' HO368.out).2.1); rintro e w' ⟨rfl, ⟨nd, rfl⟩⟩; (try first | exact ⟨rfl, _, World.drewN_drewN _ _ _⟩ | exact ⟨rfl, _, Eq.trans (World.drewN_drewN _ _ _) (congrArg (World.drewN _) (Nat.add_assoc _ _ _))⟩)))
    repeat (go_quiet (first | (go_at_call 12; (with_reducible refine (laws_sameInts.calls k _ _ t362 _ _ t366 true _ ?side1 ?side2 ?side3 ?side4 A13.out).mono ?_); (case side1 => repeat (first | exact (Kd.R_reads' HO364.out).2.2 | (with_reducible refine Kd.C_alloc ?_ _) | (with_reducible refine Kd.C_drewN ?_ _) | (with_reducible refine Kd.C_drew ?_))); (case side2 => exact (Kd.R_reads' HO364.out).2.1); (case side3 => repeat (first | exact (Kd.R_reads' HO368.out).2.2 | (with_reducible refine Kd.C_alloc ?_ _) | (with_reducible refine Kd.C_drewN ?_ _) | (with_reducible refine Kd.C_drew ?_))); (case side4 => exact (Kd.R_reads' HO368.out).2.1); rintro e w' ⟨rfl, ⟨nd, rfl⟩⟩; (try first | exact ⟨rfl, _, World.drewN_drewN _ _ _⟩ | exact ⟨rfl, _, Eq.trans (World.drewN_drewN _ _ _) (congrArg (World.drewN _) (Nat.add_assoc _ _ _))⟩))); try go_wp2_with (first | (go_at_call 12; (with_reducible refine (laws_sameInts.calls k _ _ t362 _ _ t366 true _ ?side1 ?side2 ?side3 ?side4 A13.out).mono ?_); (case side1 => repeat (first | exact (Kd.R_reads' HO364.out).2.2 | (with_reducible refine Kd.C_alloc ?_ _) | (with_reducible refine Kd.C_drewN ?_ _) | (with_reducible refine Kd.C_drew ?_))); (case side2 => exact (Kd.R_reads' HO364.out).2.1); (case side3 => repeat (first | exact (Kd.R_reads' HO368.out).2.2 | (with_reducible refine Kd.C_alloc ?_ _) | (with_reducible refine Kd.C_drewN ?_ _) | (with_reducible refine Kd.C_drew ?_))); (case side4 => exact (Kd.R_reads' HO368.out).2.1); rintro e w' ⟨rfl, ⟨nd, rfl⟩⟩; (try first | exact ⟨rfl, _, World.drewN_drewN _ _ _⟩ | exact ⟨rfl, _, Eq.trans (World.drewN_drewN _ _ _) (congrArg (World.drewN _) (Nat.add_assoc _ _ _))⟩))))
    go_meet
    case rel => exact ⟨_, (decide (t365 < 0)), (by first | rfl | (simp; done) | (simp [*]; done)), H', ⟨by first | omega | exact Nat.le_refl _⟩, ⟨by (with_reducible repeat (first | apply Kd.S_alloc | apply Kd.S_drewN | apply Kd.S_drew)); exact Kd.S_mono HO358.out (fun _ hk => ⟨hk.1.1, ⟨hk.1.2, hk.2⟩⟩)⟩, ⟨by (with_reducible repeat (first | apply Kd.R_alloc | apply Kd.R_drewN | apply Kd.R_drew)); exact Kd.R_mono HO360.out (fun _ hk => ⟨hk.1.2, hk.2⟩)⟩, ⟨by (with_reducible repeat (first | apply Kd.R_alloc | apply Kd.R_drewN | apply Kd.R_drew)); exact Kd.R_mono HO364.out (fun _ hk => ⟨hk.1.2, hk.2⟩)⟩, ⟨by (with_reducible repeat (first | apply Kd.R_alloc | apply Kd.R_drewN | apply Kd.R_drew)); exact Kd.R_mono HO368.out (fun _ hk => ⟨hk.1.2, hk.2⟩)⟩, ⟨bel HB.out⟩⟩
   replace c14 := Bool.eq_false_iff.mpr c14
   subst c14
   have H1 : (laws_FnPlanUse.j0 k t354 t355 t356 t361 t362 t365 t366 true) = some r := by rw [if_neg (show ¬ (false = true) by decide)] at H; exact H
   clear H
   have H := H1
   clear H1
   have H' := Aside0.mk H
   clear H
   obtain ⟨Ao17, co17, eo17⟩ := Kd.R_slice HO364.out
   subst eo17
   obtain ⟨Ao18, co18, eo18⟩ := Kd.R_slice HO368.out
   subst eo18
   go_wp2_with (first | (go_at_call 12; (with_reducible refine (laws_sameInts.calls k _ _ t362 _ _ t366 false _ ?side1 ?side2 ?side3 ?side4 A13.out).mono ?_); (case side1 => repeat (first | exact (Kd.R_reads' HO364.out).2.2 | (with_reducible refine Kd.C_alloc ?_ _) | (with_reducible refine Kd.C_drewN ?_ _) | (with_reducible refine Kd.C_drew ?_))); (case side2 => exact (Kd.R_reads' HO364.out).2.1); (case side3 => repeat (first | exact (Kd.R_reads' HO368.out).2.2 | (with_reducible refine Kd.C_alloc ?_ _) | (with_reducible refine Kd.C_drewN ?_ _) | (with_reducible refine Kd.C_drew ?_))); (case side4 => exact (Kd.R_reads' HO368.out).2.1); rintro e w' ⟨rfl, ⟨nd, rfl⟩⟩; (try first | exact ⟨rfl, _, World.drewN_drewN _ _ _⟩ | exact ⟨rfl, _, Eq.trans (World.drewN_drewN _ _ _) (congrArg (World.drewN _) (Nat.add_assoc _ _ _))⟩)))
   repeat (go_quiet (first | (go_at_call 12; (with_reducible refine (laws_sameInts.calls k _ _ t362 _ _ t366 false _ ?side1 ?side2 ?side3 ?side4 A13.out).mono ?_); (case side1 => repeat (first | exact (Kd.R_reads' HO364.out).2.2 | (with_reducible refine Kd.C_alloc ?_ _) | (with_reducible refine Kd.C_drewN ?_ _) | (with_reducible refine Kd.C_drew ?_))); (case side2 => exact (Kd.R_reads' HO364.out).2.1); (case side3 => repeat (first | exact (Kd.R_reads' HO368.out).2.2 | (with_reducible refine Kd.C_alloc ?_ _) | (with_reducible refine Kd.C_drewN ?_ _) | (with_reducible refine Kd.C_drew ?_))); (case side4 => exact (Kd.R_reads' HO368.out).2.1); rintro e w' ⟨rfl, ⟨nd, rfl⟩⟩; (try first | exact ⟨rfl, _, World.drewN_drewN _ _ _⟩ | exact ⟨rfl, _, Eq.trans (World.drewN_drewN _ _ _) (congrArg (World.drewN _) (Nat.add_assoc _ _ _))⟩))); try go_wp2_with (first | (go_at_call 12; (with_reducible refine (laws_sameInts.calls k _ _ t362 _ _ t366 false _ ?side1 ?side2 ?side3 ?side4 A13.out).mono ?_); (case side1 => repeat (first | exact (Kd.R_reads' HO364.out).2.2 | (with_reducible refine Kd.C_alloc ?_ _) | (with_reducible refine Kd.C_drewN ?_ _) | (with_reducible refine Kd.C_drew ?_))); (case side2 => exact (Kd.R_reads' HO364.out).2.1); (case side3 => repeat (first | exact (Kd.R_reads' HO368.out).2.2 | (with_reducible refine Kd.C_alloc ?_ _) | (with_reducible refine Kd.C_drewN ?_ _) | (with_reducible refine Kd.C_drew ?_))); (case side4 => exact (Kd.R_reads' HO368.out).2.1); rintro e w' ⟨rfl, ⟨nd, rfl⟩⟩; (try first | exact ⟨rfl, _, World.drewN_drewN _ _ _⟩ | exact ⟨rfl, _, Eq.trans (World.drewN_drewN _ _ _) (congrArg (World.drewN _) (Nat.add_assoc _ _ _))⟩))))
   go_meet
   case rel => exact ⟨_, (true), (by first | rfl | (simp; done) | (simp [*]; done)), H', ⟨by first | omega | exact Nat.le_refl _⟩, ⟨by (with_reducible repeat (first | apply Kd.S_alloc | apply Kd.S_drewN | apply Kd.S_drew)); exact Kd.S_mono HO358.out (fun _ hk => ⟨hk.1.1, ⟨hk.1.2, hk.2⟩⟩)⟩, ⟨by (with_reducible repeat (first | apply Kd.R_alloc | apply Kd.R_drewN | apply Kd.R_drew)); exact Kd.R_mono HO360.out (fun _ hk => ⟨hk.1.2, hk.2⟩)⟩, ⟨by (with_reducible repeat (first | apply Kd.R_alloc | apply Kd.R_drewN | apply Kd.R_drew)); exact Kd.R_mono HO364.out (fun _ hk => ⟨hk.1.2, hk.2⟩)⟩, ⟨by (with_reducible repeat (first | apply Kd.R_alloc | apply Kd.R_drewN | apply Kd.R_drew)); exact Kd.R_mono HO368.out (fun _ hk => ⟨hk.1.2, hk.2⟩)⟩, ⟨bel HB.out⟩⟩
  rw [if_neg c12] at H
  have c12b0 : (t361 == t365) = false := beq_eq_false_iff_ne.mpr c12
  have c12b1 : (t361 != t365) = true := bne_iff_ne.mpr c12
  (first | rw [c12b0] | (simp only [i64_w, i32_w]; rw [c12b0]) | skip)
  have H' := Aside0.mk H
  clear H
  go_wp2
  repeat (go_quiet (fail); try go_wp2)
  go_meet
  case rel => exact ⟨_, (true), (by first | rfl | (simp; done) | (simp [*]; done)), H', ⟨by first | omega | exact Nat.le_refl _⟩, ⟨by (with_reducible repeat (first | apply Kd.S_alloc | apply Kd.S_drewN | apply Kd.S_drew)); exact Kd.S_mono HO358.out (fun _ hk => ⟨hk.1.1, ⟨hk.1.2, hk.2⟩⟩)⟩, ⟨by (with_reducible repeat (first | apply Kd.R_alloc | apply Kd.R_drewN | apply Kd.R_drew)); exact Kd.R_mono HO360.out (fun _ hk => ⟨hk.1.2, hk.2⟩)⟩, ⟨by (with_reducible repeat (first | apply Kd.R_alloc | apply Kd.R_drewN | apply Kd.R_drew)); exact Kd.R_mono HO364.out (fun _ hk => ⟨hk.1.2, hk.2⟩)⟩, ⟨by (with_reducible repeat (first | apply Kd.R_alloc | apply Kd.R_drewN | apply Kd.R_drew)); exact Kd.R_mono HO368.out (fun _ hk => ⟨hk.1.2, hk.2⟩)⟩, ⟨bel HB.out⟩⟩
 case rest =>
  clear HC6
  try clear c1
  try clear c2
  try clear c2b0
  try clear c2b1
  try clear p2
  try clear c3
  try clear c12
  try clear c12b0
  try clear c12b1
  try clear c14
  obtain ⟨kq, x48_5, rfl, HA, HJ5, HO_3, HO_4, HO_7, HO_9, HB⟩ := hcut
  cases kq with
  | zero => exact absurd HA.out (by simp [laws_FnPlanUse.j0])
  | succ kj5 =>
   have H := HA.out
   clear HA
   simp only [laws_FnPlanUse.j0] at H
   by_cases c19 : x48_5 = true
   ·subst c19
    have H1 : (if t361 = t365 then ((laws_sameInts.f kj5 t362 t366).bind fun t370 => (some t370)) else (some false)) = some r := by rw [if_pos rfl] at H; exact H
    clear H
    have H := H1
    clear H1
    by_cases c20 : t361 = t365
    ·rw [if_pos c20] at H
     have c20b0 : (t361 == t365) = true := beq_iff_eq.mpr c20
     have c20b1 : (t361 != t365) = false := bne_eq_false_iff_eq.mpr c20
     clear c20
     replace H := Option.bind_eq_some_iff.mp H
     obtain ⟨t370, A210, H⟩ := H
     replace H : (some t370) = some r := H
     have A21 := Aside0.mk A210
     clear A210
     obtain rfl := Option.some.inj H
     obtain ⟨Ao22, co22, eo22⟩ := Kd.R_slice HO_7.out
     subst eo22
     obtain ⟨Ao23, co23, eo23⟩ := Kd.R_slice HO_9.out
     subst eo23
     go_wp2_with (first | (go_at_call 12; (with_reducible refine (laws_sameInts.calls kj5 _ _ t362 _ _ t366 t370 _ ?side1 ?side2 ?side3 ?side4 A21.out).mono ?_); (case side1 => repeat (first | exact (Kd.R_reads' HO_7.out).2.2 | (with_reducible refine Kd.C_alloc ?_ _) | (with_reducible refine Kd.C_drewN ?_ _) | (with_reducible refine Kd.C_drew ?_))); (case side2 => exact (Kd.R_reads' HO_7.out).2.1); (case side3 => repeat (first | exact (Kd.R_reads' HO_9.out).2.2 | (with_reducible refine Kd.C_alloc ?_ _) | (with_reducible refine Kd.C_drewN ?_ _) | (with_reducible refine Kd.C_drew ?_))); (case side4 => exact (Kd.R_reads' HO_9.out).2.1); rintro e w' ⟨rfl, ⟨nd, rfl⟩⟩; (try first | exact ⟨rfl, _, World.drewN_drewN _ _ _⟩ | exact ⟨rfl, _, Eq.trans (World.drewN_drewN _ _ _) (congrArg (World.drewN _) (Nat.add_assoc _ _ _))⟩)))
     repeat (go_quiet (first | (go_at_call 12; (with_reducible refine (laws_sameInts.calls kj5 _ _ t362 _ _ t366 t370 _ ?side1 ?side2 ?side3 ?side4 A21.out).mono ?_); (case side1 => repeat (first | exact (Kd.R_reads' HO_7.out).2.2 | (with_reducible refine Kd.C_alloc ?_ _) | (with_reducible refine Kd.C_drewN ?_ _) | (with_reducible refine Kd.C_drew ?_))); (case side2 => exact (Kd.R_reads' HO_7.out).2.1); (case side3 => repeat (first | exact (Kd.R_reads' HO_9.out).2.2 | (with_reducible refine Kd.C_alloc ?_ _) | (with_reducible refine Kd.C_drewN ?_ _) | (with_reducible refine Kd.C_drew ?_))); (case side4 => exact (Kd.R_reads' HO_9.out).2.1); rintro e w' ⟨rfl, ⟨nd, rfl⟩⟩; (try first | exact ⟨rfl, _, World.drewN_drewN _ _ _⟩ | exact ⟨rfl, _, Eq.trans (World.drewN_drewN _ _ _) (congrArg (World.drewN _) (Nat.add_assoc _ _ _))⟩))); try go_wp2_with (first | (go_at_call 12; (with_reducible refine (laws_sameInts.calls kj5 _ _ t362 _ _ t366 t370 _ ?side1 ?side2 ?side3 ?side4 A21.out).mono ?_); (case side1 => repeat (first | exact (Kd.R_reads' HO_7.out).2.2 | (with_reducible refine Kd.C_alloc ?_ _) | (with_reducible refine Kd.C_drewN ?_ _) | (with_reducible refine Kd.C_drew ?_))); (case side2 => exact (Kd.R_reads' HO_7.out).2.1); (case side3 => repeat (first | exact (Kd.R_reads' HO_9.out).2.2 | (with_reducible refine Kd.C_alloc ?_ _) | (with_reducible refine Kd.C_drewN ?_ _) | (with_reducible refine Kd.C_drew ?_))); (case side4 => exact (Kd.R_reads' HO_9.out).2.1); rintro e w' ⟨rfl, ⟨nd, rfl⟩⟩; (try first | exact ⟨rfl, _, World.drewN_drewN _ _ _⟩ | exact ⟨rfl, _, Eq.trans (World.drewN_drewN _ _ _) (congrArg (World.drewN _) (Nat.add_assoc _ _ _))⟩))))
     go_ret
     exact ⟨by first | rfl | (simp [errW_none, errW_some] <;> rfl) | (simp [*, errW_none, errW_some] <;> rfl), bel HB.out⟩
    rw [if_neg c20] at H
    have c20b0 : (t361 == t365) = false := beq_eq_false_iff_ne.mpr c20
    have c20b1 : (t361 != t365) = true := bne_iff_ne.mpr c20
    obtain rfl := Option.some.inj H
    go_wp2
    repeat (go_quiet (fail); try go_wp2)
    go_ret
    exact ⟨by first | rfl | (simp [errW_none, errW_some] <;> rfl) | (simp [*, errW_none, errW_some] <;> rfl), bel HB.out⟩
   replace c19 := Bool.eq_false_iff.mpr c19
   subst c19
   have H1 : (laws_FnPlanUse.l0 kj5 t354 t355 t356 t361 t362 0 0 0) = some r := by rw [if_neg (show ¬ (false = true) by decide)] at H; exact H
   clear H
   have H := H1
   clear H1
   have H' := Aside0.mk H
   clear H
   go_wp2
   repeat (go_quiet (fail); try go_wp2)
   go_loopg [10, 11, 12] kj5 (fun kq v10 v11 v12 w' => ∃ (x10_2 : Int) (x11_2 : Int) (x12_2 : Int), v10 = .int .i64 x10_2 ∧ v11 = .int .i64 x11_2 ∧ v12 = .int .i64 x12_2 ∧ Aside0 (laws_FnPlanUse.l0 kq t354 t355 t356 t361 t362 x10_2 x11_2 x12_2 = some r) ∧ Aside0 (kq ≤ kj5) ∧ Aside0 (Kd.S k31 31 w' w.heap.size (fun k_ => some k_ ≠ ((.slice Ao9 t355.length co9) : Value).ownBlock ∧ some k_ ≠ (v363 : Value).ownBlock) (.slice Ao8 t354.length co8) t354) ∧ Aside0 (Kd.R (Kd.int .i64) 3 w' w.heap.size (fun k_ => some k_ ≠ (v363 : Value).ownBlock) (.slice Ao9 t355.length co9) t355) ∧ Aside0 (Kd.R (Kd.int .i64) 3 w' w.heap.size (fun k_ => some k_ ≠ ((.slice Ao9 t355.length co9) : Value).ownBlock) v363 t362) ∧ Aside0 (Below w.heap.size w w'))
   case atStart => exact ⟨(0), (0), (0), (by first | rfl | (simp; done) | (simp [*]; done)), (by first | rfl | (simp; done) | (simp [*]; done)), (by first | rfl | (simp; done) | (simp [*]; done)), H', ⟨Nat.le_refl _⟩, ⟨by (with_reducible repeat (first | apply Kd.S_alloc | apply Kd.S_drewN | apply Kd.S_drew)); exact Kd.S_mono HO_3.out (fun _ hk => ⟨hk.1, hk.2.1⟩)⟩, ⟨by (with_reducible repeat (first | apply Kd.R_alloc | apply Kd.R_drewN | apply Kd.R_drew)); exact Kd.R_mono HO_4.out (fun _ hk => hk.1)⟩, ⟨by (with_reducible repeat (first | apply Kd.R_alloc | apply Kd.R_drewN | apply Kd.R_drew)); exact Kd.R_mono HO_7.out (fun _ hk => hk.1)⟩, ⟨bel HB.out⟩⟩
   case round =>
    clear H'
    try clear c1
    try clear c2
    try clear c2b0
    try clear c2b1
    try clear p2
    try clear c3
    try clear c12
    try clear c12b0
    try clear c12b1
    try clear c14
    try clear c19
    try clear c20
    try clear c20b0
    try clear c20b1
    try clear p2
    obtain ⟨x10_2, x11_2, x12_2, rfl, rfl, rfl, HA, HK2, HO_3, HO_4, HO_7, HB⟩ := hrel
    cases gk with
    | zero => exact absurd HA.out (by simp [laws_FnPlanUse.l0])
    | succ k2 =>
     have H := HA.out
     clear HA
     simp only [laws_FnPlanUse.l0] at H
     by_cases c24 : x12_2 < (t354.length : Int)
     ·rw [if_pos c24] at H
      have c24b0 : decide (x12_2 < (t354.length : Int)) = true := decide_eq_true c24
      clear c24
      have HC25 := Aside0.mk H
      clear H
      go_upto_region 13 with (fail)
      repeat (go_quiet (fail); go_upto_region 13 with (fail))
      go_cut [82] (fun v82 wc => ∃ (kq : Nat) (x82_24 : Bool), v82 = .bool x82_24 ∧ Aside0 (laws_FnPlanUse.j2 kq t354 t355 t356 t361 t362 x10_2 x11_2 x12_2 x82_24 = some r) ∧ Aside0 (kq ≤ k2) ∧ Aside0 (Kd.S k31 31 wc w.heap.size (fun k_ => some k_ ≠ ((.slice Ao9 t355.length co9) : Value).ownBlock ∧ some k_ ≠ (v363 : Value).ownBlock) (.slice Ao8 t354.length co8) t354) ∧ Aside0 (Kd.R (Kd.int .i64) 3 wc w.heap.size (fun k_ => some k_ ≠ (v363 : Value).ownBlock) (.slice Ao9 t355.length co9) t355) ∧ Aside0 (Kd.R (Kd.int .i64) 3 wc w.heap.size (fun k_ => some k_ ≠ ((.slice Ao9 t355.length co9) : Value).ownBlock) v363 t362) ∧ Aside0 (Below w.heap.size w wc))
      case first =>
       have H := HC25.out
       clear HC25
       by_cases c26 : 0 ≤ x12_2
       ·rw [if_pos c26] at H
        have c26b0 : decide (0 ≤ x12_2) = true := decide_eq_true c26
        clear c26
        (first | rw [c26b0] | (simp only [i64_w, i32_w]; rw [c26b0]) | skip)
        by_cases c27 : x12_2 < (t355.length : Int)
        ·rw [if_pos c27] at H
         have c27b0 : decide (x12_2 < (t355.length : Int)) = true := decide_eq_true c27
         clear c27
         by_cases c28 : (rd t355 x12_2) ≤ t356
         ·rw [if_pos c28] at H
          have c28b0 : decide ((rd t355 x12_2) ≤ t356) = true := decide_eq_true c28
          clear c28
          have H' := Aside0.mk H
          clear H
          have p372 : 0 ≤ (x12_2 : Int) := of_decide_eq_true (by assumption)
          have q372 : x12_2 < (t355.length : Int) := of_decide_eq_true (by assumption)
          obtain ⟨ad372, e372, hx372_0⟩ := Kd.at_int (Kd.R_reads' HO_4.out).2.2 x12_2 p372 q372
          cases e372
          replace p372 := eq_true p372
          replace q372 := eq_true q372
          have p373 : 0 ≤ (x12_2 : Int) := of_decide_eq_true (by assumption)
          have q373 : x12_2 < (t355.length : Int) := of_decide_eq_true (by assumption)
          obtain ⟨ad373, e373, hx373_0⟩ := Kd.at_int (Kd.R_reads' HO_4.out).2.2 x12_2 p373 q373
          obtain rfl : ad372 = ad373 := (by injection e373)
          replace p373 := eq_true p373
          replace q373 := eq_true q373
          have p374 : 0 ≤ (x12_2 : Int) := of_decide_eq_true (by assumption)
          have q374 : x12_2 < (t354.length : Int) := of_decide_eq_true (by assumption)
          obtain ⟨ad374, A374_3, c374_3, e374, hx374_0, hx374_1, hx374_2, hx374_3, hl374_3, hi374_3⟩ := at_T31 (Kd.S_reads' HO_3.out).2.2 x12_2 p374 q374
          cases e374
          obtain ⟨ce374, hce374, hMe374, hcc374⟩ := Kd.S_get HO_3.out z31 x12_2 p374 (by first | exact q374 | exact of_decide_eq_true (by assumption) | (have e_ := (Kd.S_reads' HO_3.out).1; omega))
          obtain ⟨ve374_3, rfl, ge374_3⟩ := k31_openM hMe374
          have hv374_3 := hcc374 3 _ rfl
          rw [add_field _ _ 3 (by omega)] at hv374_3
          replace hv374_3 := Option.some.inj (hv374_3.symm.trans hx374_3)
          rw [hv374_3] at ge374_3
          have HL374_3 := Aside0.mk (show Kd.R (Kd.int .i64) 3 _ _ _ _ ((rd_T31 t354 x12_2).f3) from ge374_3)
          clear hv374_3 ge374_3
          clear hcc374 hce374
          have HR374_3 := Aside0.mk hi374_3
          have HC374_3 := Aside0.mk hl374_3
          clear hi374_3 hl374_3
          replace p374 := eq_true p374
          replace q374 := eq_true q374
          go_wp2
          repeat (go_quiet (fail); try go_wp2)
          go_meet
          case rel => exact ⟨_, (decide (t356 < (wrap64 ((rd t355 x12_2) + ((rd_T31 t354 x12_2).f0))))), (by first | rfl | (simp; done) | (simp [*]; done)), H', ⟨by have := HJ5.out; have := HK2.out; first | omega | exact Nat.le_refl _⟩, ⟨by (with_reducible repeat (first | apply Kd.S_alloc | apply Kd.S_drewN | apply Kd.S_drew)); exact HO_3.out⟩, ⟨by (with_reducible repeat (first | apply Kd.R_alloc | apply Kd.R_drewN | apply Kd.R_drew)); exact HO_4.out⟩, ⟨by (with_reducible repeat (first | apply Kd.R_alloc | apply Kd.R_drewN | apply Kd.R_drew)); exact HO_7.out⟩, ⟨bel HB.out⟩⟩
         rw [if_neg c28] at H
         have c28b0 : decide ((rd t355 x12_2) ≤ t356) = false := decide_eq_false c28
         clear c28
         have H' := Aside0.mk H
         clear H
         have p372 : 0 ≤ (x12_2 : Int) := of_decide_eq_true (by assumption)
         have q372 : x12_2 < (t355.length : Int) := of_decide_eq_true (by assumption)
         obtain ⟨ad372, e372, hx372_0⟩ := Kd.at_int (Kd.R_reads' HO_4.out).2.2 x12_2 p372 q372
         cases e372
         replace p372 := eq_true p372
         replace q372 := eq_true q372
         go_wp2
         repeat (go_quiet (fail); try go_wp2)
         go_meet
         case rel => exact ⟨_, (false), (by first | rfl | (simp; done) | (simp [*]; done)), H', ⟨by have := HJ5.out; have := HK2.out; first | omega | exact Nat.le_refl _⟩, ⟨by (with_reducible repeat (first | apply Kd.S_alloc | apply Kd.S_drewN | apply Kd.S_drew)); exact HO_3.out⟩, ⟨by (with_reducible repeat (first | apply Kd.R_alloc | apply Kd.R_drewN | apply Kd.R_drew)); exact HO_4.out⟩, ⟨by (with_reducible repeat (first | apply Kd.R_alloc | apply Kd.R_drewN | apply Kd.R_drew)); exact HO_7.out⟩, ⟨bel HB.out⟩⟩
        rw [if_neg c27] at H
        exact absurd H (by simp)
       rw [if_neg c26] at H
       exact absurd H (by simp)
      case rest =>
       clear HC25
       try clear c1
       try clear c2
       try clear c2b0
       try clear c2b1
       try clear p2
       try clear c3
       try clear p3
       try clear q3
       try clear hx3
       try clear p6
       try clear c12
       try clear c12b0
       try clear c12b1
       try clear c14
       try clear c19
       try clear c20
       try clear c20b0
       try clear c20b1
       try clear c24
       try clear c24b0
       try clear c26
       try clear c26b0
       try clear c27
       try clear c27b0
       try clear c28
       try clear c28b0
       try clear hx372_0
       try clear hx373_0
       try clear hx374_0
       try clear hx374_1
       try clear hx374_2
       try clear hx374_3
       try clear p2
       try clear p372
       try clear p373
       try clear p374
       try clear q372
       try clear q373
       try clear q374
       obtain ⟨kq, x82_24, rfl, HA, HJ24, HO_3, HO_4, HO_7, HB⟩ := hcut
       cases kq with
       | zero => exact absurd HA.out (by simp [laws_FnPlanUse.j2])
       | succ kj24 =>
        have H := HA.out
        clear HA
        simp only [laws_FnPlanUse.j2] at H
        by_cases c29 : x82_24 = true
        ·subst c29
         have H1 : (if 0 ≤ x12_2 then (if x12_2 < (t354.length : Int) then (if ((rd_T31 t354 x12_2).f2) > 0 then (laws_FnPlanUse.l0 kj24 t354 t355 t356 t361 t362 (wrap64 (x10_2 + ((rd_T31 t354 x12_2).f1))) (wrap64 (x11_2 + 1)) (wrap64 (x12_2 + 1))) else (laws_FnPlanUse.l0 kj24 t354 t355 t356 t361 t362 (wrap64 (x10_2 + ((rd_T31 t354 x12_2).f1))) x11_2 (wrap64 (x12_2 + 1)))) else (none)) else (none)) = some r := by rw [if_pos rfl] at H; exact H
         clear H
         have H := H1
         clear H1
         by_cases c30 : 0 ≤ x12_2
         ·rw [if_pos c30] at H
          have c30b0 : decide (0 ≤ x12_2) = true := decide_eq_true c30
          clear c30
          by_cases c31 : x12_2 < (t354.length : Int)
          ·rw [if_pos c31] at H
           have c31b0 : decide (x12_2 < (t354.length : Int)) = true := decide_eq_true c31
           clear c31
           by_cases c32 : ((rd_T31 t354 x12_2).f2) > 0
           ·rw [if_pos c32] at H
            have c32b0 : decide (0 < ((rd_T31 t354 x12_2).f2)) = true := decide_eq_true c32
            clear c32
            have H' := Aside0.mk H
            clear H
            have p375 : 0 ≤ (x12_2 : Int) := of_decide_eq_true (by assumption)
            have q375 : x12_2 < (t354.length : Int) := of_decide_eq_true (by assumption)
            obtain ⟨ad375, A375_3, c375_3, e375, hx375_0, hx375_1, hx375_2, hx375_3, hl375_3, hi375_3⟩ := at_T31 (Kd.S_reads' HO_3.out).2.2 x12_2 p375 q375
            cases e375
            obtain ⟨ce375, hce375, hMe375, hcc375⟩ := Kd.S_get HO_3.out z31 x12_2 p375 (by first | exact q375 | exact of_decide_eq_true (by assumption) | (have e_ := (Kd.S_reads' HO_3.out).1; omega))
            obtain ⟨ve375_3, rfl, ge375_3⟩ := k31_openM hMe375
            have hv375_3 := hcc375 3 _ rfl
            rw [add_field _ _ 3 (by omega)] at hv375_3
            replace hv375_3 := Option.some.inj (hv375_3.symm.trans hx375_3)
            rw [hv375_3] at ge375_3
            have HL375_3 := Aside0.mk (show Kd.R (Kd.int .i64) 3 _ _ _ _ ((rd_T31 t354 x12_2).f3) from ge375_3)
            clear hv375_3 ge375_3
            clear hcc375 hce375
            have HR375_3 := Aside0.mk hi375_3
            have HC375_3 := Aside0.mk hl375_3
            clear hi375_3 hl375_3
            replace p375 := eq_true p375
            replace q375 := eq_true q375
            have p376 : 0 ≤ (x12_2 : Int) := of_decide_eq_true (by assumption)
            have q376 : x12_2 < (t354.length : Int) := of_decide_eq_true (by assumption)
            obtain ⟨ad376, A376_3, c376_3, e376, hx376_0, hx376_1, hx376_2, hx376_3, hl376_3, hi376_3⟩ := at_T31 (Kd.S_reads' HO_3.out).2.2 x12_2 p376 q376
            obtain rfl : ad375 = ad376 := (by injection e376)
            obtain ⟨ce376, hce376, hMe376, hcc376⟩ := Kd.S_get HO_3.out z31 x12_2 p376 (by first | exact q376 | exact of_decide_eq_true (by assumption) | (have e_ := (Kd.S_reads' HO_3.out).1; omega))
            obtain ⟨ve376_3, rfl, ge376_3⟩ := k31_openM hMe376
            have hv376_3 := hcc376 3 _ rfl
            rw [add_field _ _ 3 (by omega)] at hv376_3
            replace hv376_3 := Option.some.inj (hv376_3.symm.trans hx376_3)
            rw [hv376_3] at ge376_3
            have HL376_3 := Aside0.mk (show Kd.R (Kd.int .i64) 3 _ _ _ _ ((rd_T31 t354 x12_2).f3) from ge376_3)
            clear hv376_3 ge376_3
            clear hcc376 hce376
            have HR376_3 := Aside0.mk hi376_3
            have HC376_3 := Aside0.mk hl376_3
            clear hi376_3 hl376_3
            replace p376 := eq_true p376
            replace q376 := eq_true q376
            have ea_ := Option.some.inj (hx375_3.symm.trans hx376_3)
            injection ea_ with ea_ en_ ec_
            subst ea_
            subst ec_
            clear en_
            go_wp2
            repeat (go_quiet (fail); try go_wp2)
            go_roundg kj24
            case measure => have := HJ5.out; have := HK2.out; have := HJ24.out; omega
            case rel => exact ⟨(wrap64 (x10_2 + ((rd_T31 t354 x12_2).f1))), (wrap64 (x11_2 + 1)), (wrap64 (x12_2 + 1)), (by first | rfl | (simp; done) | (simp [*]; done)), (by first | rfl | (simp; done) | (simp [*]; done)), (by first | rfl | (simp; done) | (simp [*]; done)), H', ⟨by have := HJ5.out; have := HK2.out; have := HJ24.out; omega⟩, ⟨by (with_reducible repeat (first | apply Kd.S_alloc | apply Kd.S_drewN | apply Kd.S_drew)); exact HO_3.out⟩, ⟨by (with_reducible repeat (first | apply Kd.R_alloc | apply Kd.R_drewN | apply Kd.R_drew)); exact HO_4.out⟩, ⟨by (with_reducible repeat (first | apply Kd.R_alloc | apply Kd.R_drewN | apply Kd.R_drew)); exact HO_7.out⟩, ⟨bel HB.out⟩⟩
           rw [if_neg c32] at H
           have c32b0 : decide (0 < ((rd_T31 t354 x12_2).f2)) = false := decide_eq_false c32
           clear c32
           have H' := Aside0.mk H
           clear H
           have p375 : 0 ≤ (x12_2 : Int) := of_decide_eq_true (by assumption)
           have q375 : x12_2 < (t354.length : Int) := of_decide_eq_true (by assumption)
           obtain ⟨ad375, A375_3, c375_3, e375, hx375_0, hx375_1, hx375_2, hx375_3, hl375_3, hi375_3⟩ := at_T31 (Kd.S_reads' HO_3.out).2.2 x12_2 p375 q375
           cases e375
           obtain ⟨ce375, hce375, hMe375, hcc375⟩ := Kd.S_get HO_3.out z31 x12_2 p375 (by first | exact q375 | exact of_decide_eq_true (by assumption) | (have e_ := (Kd.S_reads' HO_3.out).1; omega))
           obtain ⟨ve375_3, rfl, ge375_3⟩ := k31_openM hMe375
           have hv375_3 := hcc375 3 _ rfl
           rw [add_field _ _ 3 (by omega)] at hv375_3
           replace hv375_3 := Option.some.inj (hv375_3.symm.trans hx375_3)
           rw [hv375_3] at ge375_3
           have HL375_3 := Aside0.mk (show Kd.R (Kd.int .i64) 3 _ _ _ _ ((rd_T31 t354 x12_2).f3) from ge375_3)
           clear hv375_3 ge375_3
           clear hcc375 hce375
           have HR375_3 := Aside0.mk hi375_3
           have HC375_3 := Aside0.mk hl375_3
           clear hi375_3 hl375_3
           replace p375 := eq_true p375
           replace q375 := eq_true q375
           have p376 : 0 ≤ (x12_2 : Int) := of_decide_eq_true (by assumption)
           have q376 : x12_2 < (t354.length : Int) := of_decide_eq_true (by assumption)
           obtain ⟨ad376, A376_3, c376_3, e376, hx376_0, hx376_1, hx376_2, hx376_3, hl376_3, hi376_3⟩ := at_T31 (Kd.S_reads' HO_3.out).2.2 x12_2 p376 q376
           obtain rfl : ad375 = ad376 := (by injection e376)
           obtain ⟨ce376, hce376, hMe376, hcc376⟩ := Kd.S_get HO_3.out z31 x12_2 p376 (by first | exact q376 | exact of_decide_eq_true (by assumption) | (have e_ := (Kd.S_reads' HO_3.out).1; omega))
           obtain ⟨ve376_3, rfl, ge376_3⟩ := k31_openM hMe376
           have hv376_3 := hcc376 3 _ rfl
           rw [add_field _ _ 3 (by omega)] at hv376_3
           replace hv376_3 := Option.some.inj (hv376_3.symm.trans hx376_3)
           rw [hv376_3] at ge376_3
           have HL376_3 := Aside0.mk (show Kd.R (Kd.int .i64) 3 _ _ _ _ ((rd_T31 t354 x12_2).f3) from ge376_3)
           clear hv376_3 ge376_3
           clear hcc376 hce376
           have HR376_3 := Aside0.mk hi376_3
           have HC376_3 := Aside0.mk hl376_3
           clear hi376_3 hl376_3
           replace p376 := eq_true p376
           replace q376 := eq_true q376
           have ea_ := Option.some.inj (hx375_3.symm.trans hx376_3)
           injection ea_ with ea_ en_ ec_
           subst ea_
           subst ec_
           clear en_
           go_wp2
           repeat (go_quiet (fail); try go_wp2)
           go_roundg kj24
           case measure => have := HJ5.out; have := HK2.out; have := HJ24.out; omega
           case rel => exact ⟨(wrap64 (x10_2 + ((rd_T31 t354 x12_2).f1))), (x11_2), (wrap64 (x12_2 + 1)), (by first | rfl | (simp; done) | (simp [*]; done)), (by first | rfl | (simp; done) | (simp [*]; done)), (by first | rfl | (simp; done) | (simp [*]; done)), H', ⟨by have := HJ5.out; have := HK2.out; have := HJ24.out; omega⟩, ⟨by (with_reducible repeat (first | apply Kd.S_alloc | apply Kd.S_drewN | apply Kd.S_drew)); exact HO_3.out⟩, ⟨by (with_reducible repeat (first | apply Kd.R_alloc | apply Kd.R_drewN | apply Kd.R_drew)); exact HO_4.out⟩, ⟨by (with_reducible repeat (first | apply Kd.R_alloc | apply Kd.R_drewN | apply Kd.R_drew)); exact HO_7.out⟩, ⟨bel HB.out⟩⟩
          rw [if_neg c31] at H
          exact absurd H (by simp)
         rw [if_neg c30] at H
         exact absurd H (by simp)
        replace c29 := Bool.eq_false_iff.mpr c29
        subst c29
        have H1 : (laws_FnPlanUse.l0 kj24 t354 t355 t356 t361 t362 x10_2 x11_2 (wrap64 (x12_2 + 1))) = some r := by rw [if_neg (show ¬ (false = true) by decide)] at H; exact H
        clear H
        have H := H1
        clear H1
        have H' := Aside0.mk H
        clear H
        go_wp2
        repeat (go_quiet (fail); try go_wp2)
        go_roundg kj24
        case measure => have := HJ5.out; have := HK2.out; have := HJ24.out; omega
        case rel => exact ⟨(x10_2), (x11_2), (wrap64 (x12_2 + 1)), (by first | rfl | (simp; done) | (simp [*]; done)), (by first | rfl | (simp; done) | (simp [*]; done)), (by first | rfl | (simp; done) | (simp [*]; done)), H', ⟨by have := HJ5.out; have := HK2.out; have := HJ24.out; omega⟩, ⟨by (with_reducible repeat (first | apply Kd.S_alloc | apply Kd.S_drewN | apply Kd.S_drew)); exact HO_3.out⟩, ⟨by (with_reducible repeat (first | apply Kd.R_alloc | apply Kd.R_drewN | apply Kd.R_drew)); exact HO_4.out⟩, ⟨by (with_reducible repeat (first | apply Kd.R_alloc | apply Kd.R_drewN | apply Kd.R_drew)); exact HO_7.out⟩, ⟨bel HB.out⟩⟩
     rw [if_neg c24] at H
     have c24b0 : decide (x12_2 < (t354.length : Int)) = false := decide_eq_false c24
     clear c24
     by_cases c33 : x10_2 = t361
     ·rw [if_pos c33] at H
      have c33b0 : (x10_2 == t361) = true := beq_iff_eq.mpr c33
      have c33b1 : (x10_2 != t361) = false := bne_eq_false_iff_eq.mpr c33
      clear c33
      replace H := Option.bind_eq_some_iff.mp H
      obtain ⟨t371, A340, H⟩ := H
      replace H : (some (x11_2 == t371)) = some r := H
      have A34 := Aside0.mk A340
      clear A340
      obtain rfl := Option.some.inj H
      obtain ⟨Ao35, co35, eo35⟩ := Kd.R_slice HO_7.out
      subst eo35
      go_wp2_with (first | (go_at_call 13; (with_reducible refine (laws_sumOf.calls k2 _ _ t362 t371 _ ?side1 ?side2 A34.out).mono ?_); (case side1 => repeat (first | exact (Kd.R_reads' HO_7.out).2.2 | (with_reducible refine Kd.C_alloc ?_ _) | (with_reducible refine Kd.C_drewN ?_ _) | (with_reducible refine Kd.C_drew ?_))); (case side2 => exact (Kd.R_reads' HO_7.out).2.1); rintro e w' ⟨rfl, ⟨nd, rfl⟩⟩; (try first | exact ⟨rfl, _, World.drewN_drewN _ _ _⟩ | exact ⟨rfl, _, Eq.trans (World.drewN_drewN _ _ _) (congrArg (World.drewN _) (Nat.add_assoc _ _ _))⟩)))
      repeat (go_quiet (first | (go_at_call 13; (with_reducible refine (laws_sumOf.calls k2 _ _ t362 t371 _ ?side1 ?side2 A34.out).mono ?_); (case side1 => repeat (first | exact (Kd.R_reads' HO_7.out).2.2 | (with_reducible refine Kd.C_alloc ?_ _) | (with_reducible refine Kd.C_drewN ?_ _) | (with_reducible refine Kd.C_drew ?_))); (case side2 => exact (Kd.R_reads' HO_7.out).2.1); rintro e w' ⟨rfl, ⟨nd, rfl⟩⟩; (try first | exact ⟨rfl, _, World.drewN_drewN _ _ _⟩ | exact ⟨rfl, _, Eq.trans (World.drewN_drewN _ _ _) (congrArg (World.drewN _) (Nat.add_assoc _ _ _))⟩))); try go_wp2_with (first | (go_at_call 13; (with_reducible refine (laws_sumOf.calls k2 _ _ t362 t371 _ ?side1 ?side2 A34.out).mono ?_); (case side1 => repeat (first | exact (Kd.R_reads' HO_7.out).2.2 | (with_reducible refine Kd.C_alloc ?_ _) | (with_reducible refine Kd.C_drewN ?_ _) | (with_reducible refine Kd.C_drew ?_))); (case side2 => exact (Kd.R_reads' HO_7.out).2.1); rintro e w' ⟨rfl, ⟨nd, rfl⟩⟩; (try first | exact ⟨rfl, _, World.drewN_drewN _ _ _⟩ | exact ⟨rfl, _, Eq.trans (World.drewN_drewN _ _ _) (congrArg (World.drewN _) (Nat.add_assoc _ _ _))⟩))))
      go_ret
      exact ⟨by first | rfl | (simp [errW_none, errW_some] <;> rfl) | (simp [*, errW_none, errW_some] <;> rfl), bel HB.out⟩
     rw [if_neg c33] at H
     have c33b0 : (x10_2 == t361) = false := beq_eq_false_iff_ne.mpr c33
     have c33b1 : (x10_2 != t361) = true := bne_iff_ne.mpr c33
     obtain rfl := Option.some.inj H
     go_wp2
     repeat (go_quiet (fail); try go_wp2)
     go_ret
     exact ⟨by first | rfl | (simp [errW_none, errW_some] <;> rfl) | (simp [*, errW_none, errW_some] <;> rfl), bel HB.out⟩

/-- THE ONE PURE STATEMENT of laws_FnPlanUse: yours. -/
def laws_FnPlanUse.Pure : Prop := ∀ (l0 : List Int), l0.length ≤ maxLen → l0.length * 1 ≤ 140737488351232 → (∀ x ∈ l0, (Lit.int .u8 x).wf = true) → ∃ k, laws_FnPlanUse.f k l0 = some true
theorem laws_FnPlanUse.walk (P : laws_FnPlanUse.Pure) (a0 : Option Addr) (len0 cap0 : Nat) (z0 : List Int) (w : World) (w0 : (a0 = none ∧ len0 = 0 ∧ cap0 = 0 ∧ z0 = []) ∨ ∃ x, a0 = some x ∧ len0 ≤ cap0 ∧ cap0 ≤ maxLen ∧ z0.length = cap0 ∧ (∀ i, i < z0.length → w.cell? (x.add i) = some (.int .u8 (z0.getD i 0))) ∧ ∀ n ∈ z0, (Lit.int .u8 n).wf = true) (y0 : len0 * 1 ≤ 140737488351232) :
    Calls Try.prog 3 #[.slice a0 len0 cap0] w fun e w' => e = .returned (.bool true) ∧ Below w.heap.size w w' := by
 obtain ⟨l0, rfl, hr0, hm0, hw0, hc0⟩ := ReadsInt.ofRowC w0
 obtain ⟨k, h⟩ := P l0 hm0 y0 hw0
 refine (laws_FnPlanUse.calls k _ _ l0 true w (Kd.C_of_reads (d := (0 : Int)) (h1 := fun _ => rfl) hr0) hc0 h).mono ?_
 rintro e w' ⟨rfl, hd⟩
 exact ⟨rfl, hd⟩

end Go.Proofs.Ytoaigcdoblnmhaa.PPn
