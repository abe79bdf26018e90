/- Written by the session's own driver (wip/tools/gprint.sh) over the kit's printing program: the machine side of a group of laws. Not trusted: the kernel checks it. -/
import Derived.Test.YtcglfapodhcfeaaVbPPmx0
import Derived.Test.YtcglfapodhcfeaaVbPPmx2
import Derived.Test.YtcglfapodhcfeaaVbPPmx9
import Derived.Test.YtcglfapodhcfeaaVbPPmx10
import Derived.Test.YtcglfapodhcfeaaVbPPmx13
import Derived.Test.YtcglfapodhcfeaaVbPPmx14
namespace Go.Proofs.Ytcglfapodhcfeaa.PPm
open Go.RowKit Go.Proofs.YtcglfapodhcfeaaW.PrintWords Go.Proofs.YtcglfapodhcfeaaW.PrintLast Go.Proofs.YtcglfapodhcfeaaW.PrintMore
attribute [local go_sem] max2_int min2_int max_two min_two max_three min_three max_four min_four   -- for this text's walks alone
set_option linter.unusedVariables false
set_option linter.unusedSimpArgs false

/-! ### laws_FnPlanMakeAlone: function 4 -/
mutual
def laws_FnPlanMakeAlone.j0 : Nat → List (S39) → List Int → Bool → List Int → Bool → Bool → Int → List Int → Option (Bool)
 | 0, _, _, _, _, _, _, _, _ => none
 | k + 1, x3, x5, x6, x7, x8, x49, x397000, x397001 => if x49 = true then (if (x6 == x8) = true then ((laws_sameInts.f k x5 x7).bind fun t408 => (some t408)) else (some false)) else (laws_FnPlanMakeAlone.l0 k x3 x6 true 0 x397000 x397001)
def laws_FnPlanMakeAlone.l0 : Nat → List (S39) → Bool → Bool → Int → Int → List Int → Option (Bool)
 | 0, _, _, _, _, _, _ => none
 | k + 1, x3, x6, x9, x10, x397000, x397001 => if x10 < (x3.length : Int) then (if x9 = true then (if 0 ≤ x10 then (if ((rd_T39 x3 x10).f1) ≤ x397000 then (if ((rd_T39 x3 x10).f2) = 0 then (laws_FnPlanMakeAlone.l0 k x3 x6 true (wrap64 (x10 + 1)) x397000 x397001) else (if 0 ≤ (wrap64 (((rd_T39 x3 x10).f2) - 1)) then (if (wrap64 (((rd_T39 x3 x10).f2) - 1)) < (x397001.length : Int) then (laws_FnPlanMakeAlone.l0 k x3 x6 (decide ((rd x397001 (wrap64 (((rd_T39 x3 x10).f2) - 1))) > 0)) (wrap64 (x10 + 1)) x397000 x397001) else (none)) else (none))) else (laws_FnPlanMakeAlone.l0 k x3 x6 false (wrap64 (x10 + 1)) x397000 x397001)) else (none)) else (laws_FnPlanMakeAlone.l0 k x3 x6 false (wrap64 (x10 + 1)) x397000 x397001)) else (some (x6 == x9))
end
def laws_FnPlanMakeAlone.f (k : Nat) (l0 : List Int) : Option (Bool) := if (l0.length : Int) > 1048576 then (some true) else ((spec_DrawPlanMake.f k l0).bind fun bt389 => ((impl_PlanMake.f k bt389.1 bt389.2.1 bt389.2.2).bind fun bt397 => ((spec_PlanMake.f k bt389.1 bt389.2.1 bt389.2.2).bind fun bt401 => (if (bt397.2 != bt401.2) = true then (laws_FnPlanMakeAlone.j0 k bt389.1 bt397.1 bt397.2 bt401.1 bt401.2 true bt389.2.1 bt389.2.2) else ((laws_sameInts.f k bt397.1 bt401.1).bind fun t405 => (if t405 = true then ((spec_KitchenValid.f k bt389.2.1 bt389.2.2).bind fun t406 => (if t406 = true then ((spec_StepsValid.f k bt389.1).bind fun t407 => (laws_FnPlanMakeAlone.j0 k bt389.1 bt397.1 bt397.2 bt401.1 bt401.2 (!t407) bt389.2.1 bt389.2.2)) else (laws_FnPlanMakeAlone.j0 k bt389.1 bt397.1 bt397.2 bt401.1 bt401.2 true bt389.2.1 bt389.2.2))) else (laws_FnPlanMakeAlone.j0 k bt389.1 bt397.1 bt397.2 bt401.1 bt401.2 true bt389.2.1 bt389.2.2)))))))
theorem laws_FnPlanMakeAlone.mono_l : ∀ k, (∀ y0 y1 y2 y3 y4 y5 y6 y7, LeO (laws_FnPlanMakeAlone.j0 k y0 y1 y2 y3 y4 y5 y6 y7) (laws_FnPlanMakeAlone.j0 (k + 1) y0 y1 y2 y3 y4 y5 y6 y7)) ∧ (∀ y0 y1 y2 y3 y4 y5, LeO (laws_FnPlanMakeAlone.l0 k y0 y1 y2 y3 y4 y5) (laws_FnPlanMakeAlone.l0 (k + 1) y0 y1 y2 y3 y4 y5))
 | 0 => ⟨fun _ _ _ _ _ _ _ _ r h => by simp [laws_FnPlanMakeAlone.j0] at h, fun _ _ _ _ _ _ r h => by simp [laws_FnPlanMakeAlone.l0] at h⟩
 | k + 1 => by
  obtain ⟨ih0, ih1⟩ := laws_FnPlanMakeAlone.mono_l k
  refine ⟨?_, ?_⟩
  ·intro y0 y1 y2 y3 y4 y5 y6 y7
   unfold laws_FnPlanMakeAlone.j0
   repeat' first
   | (with_reducible exact ih0 _ _ _ _ _ _ _ _)
   | (with_reducible exact ih1 _ _ _ _ _ _)
   | (with_reducible exact impl_PlanMake.mono _ _ _ _)
   | (with_reducible exact laws_sameInts.mono _ _ _)
   | (with_reducible exact spec_DrawPlanMake.mono _ _)
   | (with_reducible exact spec_KitchenValid.mono _ _ _)
   | (with_reducible exact spec_PlanMake.mono _ _ _ _)
   | (with_reducible exact spec_StepsValid.mono _ _)
   | (with_reducible exact LeO.refl _)
   | (with_reducible exact LeO.none _)
   | (with_reducible refine LeO.ite ?_ ?_)
   | (with_reducible refine LeO.bind ?_ (fun _ => ?_))
   | exact ih0 _ _ _ _ _ _ _ _
   | exact ih1 _ _ _ _ _ _
   | exact impl_PlanMake.mono _ _ _ _
   | exact laws_sameInts.mono _ _ _
   | exact spec_DrawPlanMake.mono _ _
   | exact spec_KitchenValid.mono _ _ _
   | exact spec_PlanMake.mono _ _ _ _
   | exact spec_StepsValid.mono _ _
   | exact LeO.none _
   | refine LeO.ite ?_ ?_
   | refine LeO.bind ?_ (fun _ => ?_)
  intro y0 y1 y2 y3 y4 y5
  unfold laws_FnPlanMakeAlone.l0
  repeat' first
  | (with_reducible exact ih0 _ _ _ _ _ _ _ _)
  | (with_reducible exact ih1 _ _ _ _ _ _)
  | (with_reducible exact impl_PlanMake.mono _ _ _ _)
  | (with_reducible exact laws_sameInts.mono _ _ _)
  | (with_reducible exact spec_DrawPlanMake.mono _ _)
  | (with_reducible exact spec_KitchenValid.mono _ _ _)
  | (with_reducible exact spec_PlanMake.mono _ _ _ _)
  | (with_reducible exact spec_StepsValid.mono _ _)
  | (with_reducible exact LeO.refl _)
  | (with_reducible exact LeO.none _)
  | (with_reducible refine LeO.ite ?_ ?_)
  | (with_reducible refine LeO.bind ?_ (fun _ => ?_))
  | exact ih0 _ _ _ _ _ _ _ _
  | exact ih1 _ _ _ _ _ _
  | exact impl_PlanMake.mono _ _ _ _
  | exact laws_sameInts.mono _ _ _
  | exact spec_DrawPlanMake.mono _ _
  | exact spec_KitchenValid.mono _ _ _
  | exact spec_PlanMake.mono _ _ _ _
  | exact spec_StepsValid.mono _ _
  | exact LeO.none _
  | refine LeO.ite ?_ ?_
  | refine LeO.bind ?_ (fun _ => ?_)
theorem laws_FnPlanMakeAlone.mono : ∀ a0 k, LeO (laws_FnPlanMakeAlone.f k a0) (laws_FnPlanMakeAlone.f (k + 1) a0) := by
 intro a0 k
 obtain ⟨ih0, ih1⟩ := laws_FnPlanMakeAlone.mono_l k
 unfold laws_FnPlanMakeAlone.f
 repeat' first
  | (with_reducible exact ih0 _ _ _ _ _ _ _ _)
  | (with_reducible exact ih1 _ _ _ _ _ _)
  | (with_reducible exact impl_PlanMake.mono _ _ _ _)
  | (with_reducible exact laws_sameInts.mono _ _ _)
  | (with_reducible exact spec_DrawPlanMake.mono _ _)
  | (with_reducible exact spec_KitchenValid.mono _ _ _)
  | (with_reducible exact spec_PlanMake.mono _ _ _ _)
  | (with_reducible exact spec_StepsValid.mono _ _)
  | (with_reducible exact LeO.refl _)
  | (with_reducible exact LeO.none _)
  | (with_reducible refine LeO.ite ?_ ?_)
  | (with_reducible refine LeO.bind ?_ (fun _ => ?_))
  | exact ih0 _ _ _ _ _ _ _ _
  | exact ih1 _ _ _ _ _ _
  | exact impl_PlanMake.mono _ _ _ _
  | exact laws_sameInts.mono _ _ _
  | exact spec_DrawPlanMake.mono _ _
  | exact spec_KitchenValid.mono _ _ _
  | exact spec_PlanMake.mono _ _ _ _
  | exact spec_StepsValid.mono _ _
  | exact LeO.none _
  | refine LeO.ite ?_ ?_
  | refine LeO.bind ?_ (fun _ => ?_)
set_option maxHeartbeats 8000000 in
set_option maxRecDepth 100000 in
theorem laws_FnPlanMakeAlone.calls (k : Nat) (A0 : Option Addr) (c0 : Nat) (l0 : List Int) (r : Bool) (w : World) (hr0 : Kd.C (Kd.int .u8) w A0 l0.length l0) (hc0 : l0.length ≤ c0) (h : laws_FnPlanMakeAlone.f k l0 = some r) :
    Calls Try.prog 4 #[.slice A0 l0.length c0] w fun e w' => e = .returned (.bool r) ∧ Below w.heap.size w w' := by
 have hu26 := Try.underlying26
 have HR0 := Aside0.mk hr0
 have HC0 := Aside0.mk hc0
 clear hr0 hc0
 have HB := Aside0.mk (Below.refl w.heap.size w)
 have H : (if (l0.length : Int) > 1048576 then (some true) else ((spec_DrawPlanMake.f k l0).bind fun bt389 => ((impl_PlanMake.f k bt389.1 bt389.2.1 bt389.2.2).bind fun bt397 => ((spec_PlanMake.f k bt389.1 bt389.2.1 bt389.2.2).bind fun bt401 => (if (bt397.2 != bt401.2) = true then (laws_FnPlanMakeAlone.j0 k bt389.1 bt397.1 bt397.2 bt401.1 bt401.2 true bt389.2.1 bt389.2.2) else ((laws_sameInts.f k bt397.1 bt401.1).bind fun t405 => (if t405 = true then ((spec_KitchenValid.f k bt389.2.1 bt389.2.2).bind fun t406 => (if t406 = true then ((spec_StepsValid.f k bt389.1).bind fun t407 => (laws_FnPlanMakeAlone.j0 k bt389.1 bt397.1 bt397.2 bt401.1 bt401.2 (!t407) bt389.2.1 bt389.2.2)) else (laws_FnPlanMakeAlone.j0 k bt389.1 bt397.1 bt397.2 bt401.1 bt401.2 true bt389.2.1 bt389.2.2))) else (laws_FnPlanMakeAlone.j0 k bt389.1 bt397.1 bt397.2 bt401.1 bt401.2 true bt389.2.1 bt389.2.2)))))))) = some r := h
 clear h
 by_cases c2 : (l0.length : Int) > 1048576
 ·rw [if_pos c2] at H
  have c2b0 : decide (1048576 < (l0.length : Int)) = true := decide_eq_true c2
  have c2b1 : decide (1048576 < l0.length) = true := decide_eq_true (by omega)
  clear c2
  obtain rfl := Option.some.inj H
  go_enter Try.func4, Try.ntmps4
  go_wp2
  repeat (go_quiet (fail); try go_wp2)
  go_ret
  exact ⟨by first | rfl | (simp [errW_none, errW_some] <;> rfl) | (simp [*, errW_none, errW_some] <;> rfl), bel HB.out⟩
 rw [if_neg c2] at H
 have c2b0 : decide (1048576 < (l0.length : Int)) = false := decide_eq_false c2
 have c2b1 : decide (1048576 < l0.length) = false := decide_eq_false (by omega)
 clear c2
 replace H := Option.bind_eq_some_iff.mp H
 obtain ⟨⟨t389, t392, t393⟩, A30, H⟩ := H
 replace H : ((impl_PlanMake.f k t389 t392 t393).bind fun bt397 => ((spec_PlanMake.f k t389 t392 t393).bind fun bt401 => (if (bt397.2 != bt401.2) = true then (laws_FnPlanMakeAlone.j0 k t389 bt397.1 bt397.2 bt401.1 bt401.2 true t392 t393) else ((laws_sameInts.f k bt397.1 bt401.1).bind fun t405 => (if t405 = true then ((spec_KitchenValid.f k t392 t393).bind fun t406 => (if t406 = true then ((spec_StepsValid.f k t389).bind fun t407 => (laws_FnPlanMakeAlone.j0 k t389 bt397.1 bt397.2 bt401.1 bt401.2 (!t407) t392 t393)) else (laws_FnPlanMakeAlone.j0 k t389 bt397.1 bt397.2 bt401.1 bt401.2 true t392 t393))) else (laws_FnPlanMakeAlone.j0 k t389 bt397.1 bt397.2 bt401.1 bt401.2 true t392 t393)))))) = some r := H
 have A3 := Aside0.mk A30
 clear A30
 replace H := Option.bind_eq_some_iff.mp H
 obtain ⟨⟨t397, t400⟩, A40, H⟩ := H
 replace H : ((spec_PlanMake.f k t389 t392 t393).bind fun bt401 => (if (t400 != bt401.2) = true then (laws_FnPlanMakeAlone.j0 k t389 t397 t400 bt401.1 bt401.2 true t392 t393) else ((laws_sameInts.f k t397 bt401.1).bind fun t405 => (if t405 = true then ((spec_KitchenValid.f k t392 t393).bind fun t406 => (if t406 = true then ((spec_StepsValid.f k t389).bind fun t407 => (laws_FnPlanMakeAlone.j0 k t389 t397 t400 bt401.1 bt401.2 (!t407) t392 t393)) else (laws_FnPlanMakeAlone.j0 k t389 t397 t400 bt401.1 bt401.2 true t392 t393))) else (laws_FnPlanMakeAlone.j0 k t389 t397 t400 bt401.1 bt401.2 true t392 t393))))) = some r := H
 have A4 := Aside0.mk A40
 clear A40
 replace H := Option.bind_eq_some_iff.mp H
 obtain ⟨⟨t401, t404⟩, A50, H⟩ := H
 replace H : (if (t400 != t404) = true then (laws_FnPlanMakeAlone.j0 k t389 t397 t400 t401 t404 true t392 t393) else ((laws_sameInts.f k t397 t401).bind fun t405 => (if t405 = true then ((spec_KitchenValid.f k t392 t393).bind fun t406 => (if t406 = true then ((spec_StepsValid.f k t389).bind fun t407 => (laws_FnPlanMakeAlone.j0 k t389 t397 t400 t401 t404 (!t407) t392 t393)) else (laws_FnPlanMakeAlone.j0 k t389 t397 t400 t401 t404 true t392 t393))) else (laws_FnPlanMakeAlone.j0 k t389 t397 t400 t401 t404 true t392 t393)))) = some r := H
 have A5 := Aside0.mk A50
 clear A50
 have HC6 := Aside0.mk H
 clear H
 go_enter Try.func4, Try.ntmps4
 go_upto_region 6 with (first | (go_at_call 7; (with_reducible refine (spec_DrawPlanMake.calls k _ _ l0 t389 t392 t393 _ ?side1 ?side2 A3.out).mono ?_); (case side1 => repeat (first | exact HR0.out | (with_reducible refine Kd.C_alloc ?_ _) | (with_reducible refine Kd.C_drewN ?_ _) | (with_reducible refine Kd.C_drew ?_))); (case side2 => exact HC0.out); rintro e w7 ⟨v390, v394, rfl, ho0, ho1, hb⟩; have n0_ := Aside0.mk (Kd.S_lower ho0 (below_size (bel HB.out))); have n1_ := Aside0.mk (Kd.R_lower ho1 (below_size (bel HB.out))); have n2_ := Aside0.mk (below_step (bel HB.out) hb); clear HB; have HO391 := n0_; have HO395 := n1_; have HB := n2_; clear n0_ n1_ n2_; (try clear hb); (try clear hb2); (try clear hk); (try clear hi); (try clear ho0); (try clear ho1)) | ((with_reducible refine gate_dst (N := 4) rfl ?_); refine box_event ?hg (N := 4) ?hd (cs := #[.int .i64 0, .slice none 0 0]) (t := 26) ?hr ?_; (case hd => rfl); (case hg => rfl); (case hr => first | (go_simp; done) | (go_simp; rfl)); intro gb396 hg w8 hbox hb; have n0_ := Aside0.mk (Kd.S_below (by (with_reducible repeat (first | apply Kd.S_alloc | apply Kd.S_drewN | apply Kd.S_drew)); exact HO391.out) hb); have n1_ := Aside0.mk (Kd.R_below (rup HO395.out) hb); have n2_ := Aside0.mk (below_step (bel HB.out) hb); have n3_ := Aside0.mk (hbox); have n4_ := Aside0.mk ((by rw [hg]; exact (below_size (bel HB.out)) : w.heap.size ≤ gb396)); have n5_ := Aside0.mk ((by rw [hg]; exact (below_size (bel HB.out)) : w.heap.size ≤ gb396)); clear HO391; clear HO395; clear HB; have HO391 := n0_; have HO395 := n1_; have HB := n2_; have BK396 := n3_; have GW396 := n4_; have GE396 := n5_; clear n0_ n1_ n2_ n3_ n4_ n5_; clear hb hbox hg; have hcz9_0 : w8.cell? ⟨gb396, 0, none⟩ = some (.int .i64 0) := (blk_cell BK396.out 0).trans rfl; have hcz9_1 : w8.cell? ⟨gb396, 1, none⟩ = some (.slice none 0 0) := (blk_cell BK396.out 1).trans rfl; have hfz9_0 := blk_frozen BK396.out 0; have hfz9_1 := blk_frozen BK396.out 1; obtain ⟨Ao10, co10, eo10⟩ := Kd.R_slice HO395.out; subst eo10; obtain ⟨Ao11, co11, eo11⟩ := Kd.S_slice HO391.out; subst eo11) | (go_at_call 8; (with_reducible refine (impl_PlanMake.calls k _ _ t389 t392 _ _ t393 t397 t400 _ ?side1 ?side2 ?side3 ?side4 A4.out).mono ?_); (case side1 => refine (Kd.S_reads' (e := 39) (base := w.heap.size) (ok := fun k_ => some k_ ≠ (.slice Ao10 t393.length co10 : Value).ownBlock) (n := t389.length) (c := co11) ?_).2.2; exact (by (with_reducible repeat (first | apply Kd.S_alloc | apply Kd.S_drewN | apply Kd.S_drew)); exact (Kd.S_mono (Kd.S_far (p := ⟨gb396, 1, none⟩) (Kd.S_far (p := ⟨gb396, 0, none⟩) (Kd.S_types HO391.out BK396.out (by decide)) (fun _ hk => hk.2) (.int .i64 t392)) (fun _ hk => hk.2) (.slice Ao10 t393.length co10)) (fun _ h_ => h_.1)))); (case side2 => exact (Kd.S_reads' HO391.out).2.1); (case side3 => refine (Kd.R_reads' (e := 3) (base := w.heap.size) (ok := fun k_ => True) (n := t393.length) (c := co10) ?_).2.2; exact (by (with_reducible repeat (first | apply Kd.R_alloc | apply Kd.R_drewN | apply Kd.R_drew)); exact (Kd.R_mono (Kd.R_far (p := ⟨gb396, 1, none⟩) (Kd.R_far (p := ⟨gb396, 0, none⟩) (Kd.R_types HO395.out BK396.out (by decide)) (fun _ hk => hk.2) (.int .i64 t392)) (fun _ hk => hk.2) (.slice Ao10 t393.length co10)) (fun _ h_ => h_.1)))); (case side4 => exact (Kd.R_reads' HO395.out).2.1); rintro e w12 ⟨v398, rfl, ho0, hb⟩; have n0_ := Aside0.mk (Kd.S_elder' (by (with_reducible repeat (first | apply Kd.S_alloc | apply Kd.S_drewN | apply Kd.S_drew)); exact (Kd.S_mono (Kd.S_far (p := ⟨gb396, 1, none⟩) (Kd.S_far (p := ⟨gb396, 0, none⟩) (Kd.S_types HO391.out BK396.out (by decide)) (fun _ hk => hk.2) (.int .i64 t392)) (fun _ hk => hk.2) (.slice Ao10 t393.length co10)) (fun _ h_ => h_.1))) (Kd.R_base ho0) hb); have n1_ := Aside0.mk (Kd.R_elder' (by (with_reducible repeat (first | apply Kd.R_alloc | apply Kd.R_drewN | apply Kd.R_drew)); exact (Kd.R_mono (Kd.R_far (p := ⟨gb396, 1, none⟩) (Kd.R_far (p := ⟨gb396, 0, none⟩) (Kd.R_types HO395.out BK396.out (by decide)) (fun _ hk => hk.2) (.int .i64 t392)) (fun _ hk => hk.2) (.slice Ao10 t393.length co10)) (fun _ h_ => h_.1))) (Kd.R_base ho0) hb); have n2_ := Aside0.mk (Kd.R_lower (Kd.R_new' ho0 (Kd.R_lt (by (with_reducible repeat (first | apply Kd.R_alloc | apply Kd.R_drewN | apply Kd.R_drew)); exact (Kd.R_mono (Kd.R_far (p := ⟨gb396, 1, none⟩) (Kd.R_far (p := ⟨gb396, 0, none⟩) (Kd.R_types HO395.out BK396.out (by decide)) (fun _ hk => hk.2) (.int .i64 t392)) (fun _ hk => hk.2) (.slice Ao10 t393.length co10)) (fun _ h_ => h_.1))))) (below_size (by repeat (first | (with_reducible first | exact HB.out | apply below_alloc | apply pw_below_drewN | apply below_drew1 | refine below_set ?_ GE396.out) | exact HB.out)))); have n3_ := Aside0.mk (blk_below (g := gb396) (o := .cells #[.int .i64 t392, .slice Ao10 t393.length co10] 26 (0, 0)) (by (with_reducible repeat (first | refine blk_drewN ?_ _ | refine blk_drew ?_ | refine blk_alloc ?_ _)); refine blk_put (cs := #[.int .i64 t392, .slice none 0 0]) ?_ 1 _ rfl; (with_reducible repeat (first | refine blk_drewN ?_ _ | refine blk_drew ?_ | refine blk_alloc ?_ _)); refine blk_put (cs := #[.int .i64 0, .slice none 0 0]) ?_ 0 _ rfl; (with_reducible repeat (first | refine blk_drewN ?_ _ | refine blk_drew ?_ | refine blk_alloc ?_ _)); exact BK396.out) hb); have n4_ := Aside0.mk (below_step (by repeat (first | (with_reducible first | exact HB.out | apply below_alloc | apply pw_below_drewN | apply below_drew1 | refine below_set ?_ GE396.out) | exact HB.out)) hb); clear HO391; clear HO395; clear BK396; clear HB; have HO391 := n0_; have HO395 := n1_; have HO399 := n2_; have BK396 := n3_; have HB := n4_; clear n0_ n1_ n2_ n3_ n4_; (try clear hb); (try clear hb2); (try clear hk); (try clear hi); (try clear ho0); have hcz13_0 : w12.cell? ⟨gb396, 0, none⟩ = some (.int .i64 t392) := (blk_cell BK396.out 0).trans rfl; have hcz13_1 : w12.cell? ⟨gb396, 1, none⟩ = some (.slice Ao10 t393.length co10) := (blk_cell BK396.out 1).trans rfl; have hfz13_0 := blk_frozen BK396.out 0; have hfz13_1 := blk_frozen BK396.out 1) | (go_at_call 9; (with_reducible refine (spec_PlanMake.calls k _ _ t389 t392 _ _ t393 t401 t404 _ ?side1 ?side2 ?side3 ?side4 A5.out).mono ?_); (case side1 => repeat (first | exact (Kd.S_reads' HO391.out).2.2 | (with_reducible refine Kd.C_alloc ?_ _) | (with_reducible refine Kd.C_drewN ?_ _) | (with_reducible refine Kd.C_drew ?_))); (case side2 => exact (Kd.S_reads' HO391.out).2.1); (case side3 => exact cup (Kd.R_reads' HO395.out).2.2); (case side4 => exact (Kd.R_reads' HO395.out).2.1); rintro e w14 ⟨v402, rfl, ho0, hb⟩; have n0_ := Aside0.mk (Kd.S_elder' (by (with_reducible repeat (first | apply Kd.S_alloc | apply Kd.S_drewN | apply Kd.S_drew)); exact HO391.out) (Kd.R_base ho0) hb); have n1_ := Aside0.mk (Kd.R_elder' (rup HO395.out) (Kd.R_base ho0) hb); have n2_ := Aside0.mk (Kd.R_elder' (rup HO399.out) (Kd.R_base ho0) hb); have n3_ := Aside0.mk (Kd.R_lower (Kd.R_new' (Kd.R_new' ho0 (Kd.R_lt (rup HO395.out))) (Kd.R_lt (rup HO399.out))) (below_size (by repeat (first | (with_reducible first | exact HB.out | apply below_alloc | apply pw_below_drewN | apply below_drew1 | refine below_set ?_ GE396.out) | exact HB.out)))); have n4_ := Aside0.mk (blk_below (g := gb396) (o := .cells #[.int .i64 t392, .slice Ao10 t393.length co10] 26 (0, 0)) (bup BK396.out) hb); have n5_ := Aside0.mk (below_step (by repeat (first | (with_reducible first | exact HB.out | apply below_alloc | apply pw_below_drewN | apply below_drew1 | refine below_set ?_ GE396.out) | exact HB.out)) hb); clear HO391; clear HO395; clear HO399; clear BK396; clear HB; have HO391 := n0_; have HO395 := n1_; have HO399 := n2_; have HO403 := n3_; have BK396 := n4_; have HB := n5_; clear n0_ n1_ n2_ n3_ n4_ n5_; (try clear hb); (try clear hb2); (try clear hk); (try clear hi); (try clear ho0)))
 repeat (go_quiet (first | (go_at_call 7; (with_reducible refine (spec_DrawPlanMake.calls k _ _ l0 t389 t392 t393 _ ?side1 ?side2 A3.out).mono ?_); (case side1 => repeat (first | exact HR0.out | (with_reducible refine Kd.C_alloc ?_ _) | (with_reducible refine Kd.C_drewN ?_ _) | (with_reducible refine Kd.C_drew ?_))); (case side2 => exact HC0.out); rintro e w7 ⟨v390, v394, rfl, ho0, ho1, hb⟩; have n0_ := Aside0.mk (Kd.S_lower ho0 (below_size (bel HB.out))); have n1_ := Aside0.mk (Kd.R_lower ho1 (below_size (bel HB.out))); have n2_ := Aside0.mk (below_step (bel HB.out) hb); clear HB; have HO391 := n0_; have HO395 := n1_; have HB := n2_; clear n0_ n1_ n2_; (try clear hb); (try clear hb2); (try clear hk); (try clear hi); (try clear ho0); (try clear ho1)) | ((with_reducible refine gate_dst (N := 4) rfl ?_); refine box_event ?hg (N := 4) ?hd (cs := #[.int .i64 0, .slice none 0 0]) (t := 26) ?hr ?_; (case hd => rfl); (case hg => rfl); (case hr => first | (go_simp; done) | (go_simp; rfl)); intro gb396 hg w8 hbox hb; have n0_ := Aside0.mk (Kd.S_below (by (with_reducible repeat (first | apply Kd.S_alloc | apply Kd.S_drewN | apply Kd.S_drew)); exact HO391.out) hb); have n1_ := Aside0.mk (Kd.R_below (rup HO395.out) hb); have n2_ := Aside0.mk (below_step (bel HB.out) hb); have n3_ := Aside0.mk (hbox); have n4_ := Aside0.mk ((by rw [hg]; exact (below_size (bel HB.out)) : w.heap.size ≤ gb396)); have n5_ := Aside0.mk ((by rw [hg]; exact (below_size (bel HB.out)) : w.heap.size ≤ gb396)); clear HO391; clear HO395; clear HB; have HO391 := n0_; have HO395 := n1_; have HB := n2_; have BK396 := n3_; have GW396 := n4_; have GE396 := n5_; clear n0_ n1_ n2_ n3_ n4_ n5_; clear hb hbox hg; have hcz9_0 : w8.cell? ⟨gb396, 0, none⟩ = some (.int .i64 0) := (blk_cell BK396.out 0).trans rfl; have hcz9_1 : w8.cell? ⟨gb396, 1, none⟩ = some (.slice none 0 0) := (blk_cell BK396.out 1).trans rfl; have hfz9_0 := blk_frozen BK396.out 0; have hfz9_1 := blk_frozen BK396.out 1; obtain ⟨Ao10, co10, eo10⟩ := Kd.R_slice HO395.out; subst eo10; obtain ⟨Ao11, co11, eo11⟩ := Kd.S_slice HO391.out; subst eo11) | (go_at_call 8; (with_reducible refine (impl_PlanMake.calls k _ _ t389 t392 _ _ t393 t397 t400 _ ?side1 ?side2 ?side3 ?side4 A4.out).mono ?_); (case side1 => refine (Kd.S_reads' (e := 39) (base := w.heap.size) (ok := fun k_ => some k_ ≠ (.slice Ao10 t393.length co10 : Value).ownBlock) (n := t389.length) (c := co11) ?_).2.2; exact (by (with_reducible repeat (first | apply Kd.S_alloc | apply Kd.S_drewN | apply Kd.S_drew)); exact (Kd.S_mono (Kd.S_far (p := ⟨gb396, 1, none⟩) (Kd.S_far (p := ⟨gb396, 0, none⟩) (Kd.S_types HO391.out BK396.out (by decide)) (fun _ hk => hk.2) (.int .i64 t392)) (fun _ hk => hk.2) (.slice Ao10 t393.length co10)) (fun _ h_ => h_.1)))); (case side2 => exact (Kd.S_reads' HO391.out).2.1); (case side3 => refine (Kd.R_reads' (e := 3) (base := w.heap.size) (ok := fun k_ => True) (n := t393.length) (c := co10) ?_).2.2; exact (by (with_reducible repeat (first | apply Kd.R_alloc | apply Kd.R_drewN | apply Kd.R_drew)); exact (Kd.R_mono (Kd.R_far (p := ⟨gb396, 1, none⟩) (Kd.R_far (p := ⟨gb396, 0, none⟩) (Kd.R_types HO395.out BK396.out (by decide)) (fun _ hk => hk.2) (.int .i64 t392)) (fun _ hk => hk.2) (.slice Ao10 t393.length co10)) (fun _ h_ => h_.1)))); (case side4 => exact (Kd.R_reads' HO395.out).2.1); rintro e w12 ⟨v398, rfl, ho0, hb⟩; have n0_ := Aside0.mk (Kd.S_elder' (by (with_reducible repeat (first | apply Kd.S_alloc | apply Kd.S_drewN | apply Kd.S_drew)); exact (Kd.S_mono (Kd.S_far (p := ⟨gb396, 1, none⟩) (Kd.S_far (p := ⟨gb396, 0, none⟩) (Kd.S_types HO391.out BK396.out (by decide)) (fun _ hk => hk.2) (.int .i64 t392)) (fun _ hk => hk.2) (.slice Ao10 t393.length co10)) (fun _ h_ => h_.1))) (Kd.R_base ho0) hb); have n1_ := Aside0.mk (Kd.R_elder' (by (with_reducible repeat (first | apply Kd.R_alloc | apply Kd.R_drewN | apply Kd.R_drew)); exact (Kd.R_mono (Kd.R_far (p := ⟨gb396, 1, none⟩) (Kd.R_far (p := ⟨gb396, 0, none⟩) (Kd.R_types HO395.out BK396.out (by decide)) (fun _ hk => hk.2) (.int .i64 t392)) (fun _ hk => hk.2) (.slice Ao10 t393.length co10)) (fun _ h_ => h_.1))) (Kd.R_base ho0) hb); have n2_ := Aside0.mk (Kd.R_lower (Kd.R_new' ho0 (Kd.R_lt (by (with_reducible repeat (first | apply Kd.R_alloc | apply Kd.R_drewN | apply Kd.R_drew)); exact (Kd.R_mono (Kd.R_far (p := ⟨gb396, 1, none⟩) (Kd.R_far (p := ⟨gb396, 0, none⟩) (Kd.R_types HO395.out BK396.out (by decide)) (fun _ hk => hk.2) (.int .i64 t392)) (fun _ hk => hk.2) (.slice Ao10 t393.length co10)) (fun _ h_ => h_.1))))) (below_size (by repeat (first | (with_reducible first | exact HB.out | apply below_alloc | apply pw_below_drewN | apply below_drew1 | refine below_set ?_ GE396.out) | exact HB.out)))); have n3_ := Aside0.mk (blk_below (g := gb396) (o := .cells #[.int .i64 t392, .slice Ao10 t393.length co10] 26 (0, 0)) (by (with_reducible repeat (first | refine blk_drewN ?_ _ | refine blk_drew ?_ | refine blk_alloc ?_ _)); refine blk_put (cs := #[.int .i64 t392, .slice none 0 0]) ?_ 1 _ rfl; (with_reducible repeat (first | refine blk_drewN ?_ _ | refine blk_drew ?_ | refine blk_alloc ?_ _)); refine blk_put (cs := #[.int .i64 0, .slice none 0 0]) ?_ 0 _ rfl; (with_reducible repeat (first | refine blk_drewN ?_ _ | refine blk_drew ?_ | refine blk_alloc ?_ _)); exact BK396.out) hb); have n4_ := Aside0.mk (below_step (by repeat (first | (with_reducible first | exact HB.out | apply below_alloc | apply pw_below_drewN | apply below_drew1 | refine below_set ?_ GE396.out) | exact HB.out)) hb); clear HO391; clear HO395; clear BK396; clear HB; have HO391 := n0_; have HO395 := n1_; have HO399 := n2_; have BK396 := n3_; have HB := n4_; clear n0_ n1_ n2_ n3_ n4_; (try clear hb); (try clear hb2); (try clear hk); (try clear hi); (try clear ho0); have hcz13_0 : w12.cell? ⟨gb396, 0, none⟩ = some (.int .i64 t392) := (blk_cell BK396.out 0).trans rfl; have hcz13_1 : w12.cell? ⟨gb396, 1, none⟩ = some (.slice Ao10 t393.length co10) := (blk_cell BK396.out 1).trans rfl; have hfz13_0 := blk_frozen BK396.out 0; have hfz13_1 := blk_frozen BK396.out 1) | (go_at_call 9; (with_reducible refine (spec_PlanMake.calls k _ _ t389 t392 _ _ t393 t401 t404 _ ?side1 ?side2 ?side3 ?side4 A5.out).mono ?_); (case side1 => repeat (first | exact (Kd.S_reads' HO391.out).2.2 | (with_reducible refine Kd.C_alloc ?_ _) | (with_reducible refine Kd.C_drewN ?_ _) | (with_reducible refine Kd.C_drew ?_))); (case side2 => exact (Kd.S_reads' HO391.out).2.1); (case side3 => exact cup (Kd.R_reads' HO395.out).2.2); (case side4 => exact (Kd.R_reads' HO395.out).2.1); rintro e w14 ⟨v402, rfl, ho0, hb⟩; have n0_ := Aside0.mk (Kd.S_elder' (by (with_reducible repeat (first | apply Kd.S_alloc | apply Kd.S_drewN | apply Kd.S_drew)); exact HO391.out) (Kd.R_base ho0) hb); have n1_ := Aside0.mk (Kd.R_elder' (rup HO395.out) (Kd.R_base ho0) hb); have n2_ := Aside0.mk (Kd.R_elder' (rup HO399.out) (Kd.R_base ho0) hb); have n3_ := Aside0.mk (Kd.R_lower (Kd.R_new' (Kd.R_new' ho0 (Kd.R_lt (rup HO395.out))) (Kd.R_lt (rup HO399.out))) (below_size (by repeat (first | (with_reducible first | exact HB.out | apply below_alloc | apply pw_below_drewN | apply below_drew1 | refine below_set ?_ GE396.out) | exact HB.out)))); have n4_ := Aside0.mk (blk_below (g := gb396) (o := .cells #[.int .i64 t392, .slice Ao10 t393.length co10] 26 (0, 0)) (bup BK396.out) hb); have n5_ := Aside0.mk (below_step (by repeat (first | (with_reducible first | exact HB.out | apply below_alloc | apply pw_below_drewN | apply below_drew1 | refine below_set ?_ GE396.out) | exact HB.out)) hb); clear HO391; clear HO395; clear HO399; clear BK396; clear HB; have HO391 := n0_; have HO395 := n1_; have HO399 := n2_; have HO403 := n3_; have BK396 := n4_; have HB := n5_; clear n0_ n1_ n2_ n3_ n4_ n5_; (try clear hb); (try clear hb2); (try clear hk); (try clear hi); (try clear ho0))); go_upto_region 6 with (first | (go_at_call 7; (with_reducible refine (spec_DrawPlanMake.calls k _ _ l0 t389 t392 t393 _ ?side1 ?side2 A3.out).mono ?_); (case side1 => repeat (first | exact HR0.out | (with_reducible refine Kd.C_alloc ?_ _) | (with_reducible refine Kd.C_drewN ?_ _) | (with_reducible refine Kd.C_drew ?_))); (case side2 => exact HC0.out); rintro e w7 ⟨v390, v394, rfl, ho0, ho1, hb⟩; have n0_ := Aside0.mk (Kd.S_lower ho0 (below_size (bel HB.out))); have n1_ := Aside0.mk (Kd.R_lower ho1 (below_size (bel HB.out))); have n2_ := Aside0.mk (below_step (bel HB.out) hb); clear HB; have HO391 := n0_; have HO395 := n1_; have HB := n2_; clear n0_ n1_ n2_; (try clear hb); (try clear hb2); (try clear hk); (try clear hi); (try clear ho0); (try clear ho1)) | ((with_reducible refine gate_dst (N := 4) rfl ?_); refine box_event ?hg (N := 4) ?hd (cs := #[.int .i64 0, .slice none 0 0]) (t := 26) ?hr ?_; (case hd => rfl); (case hg => rfl); (case hr => first | (go_simp; done) | (go_simp; rfl)); intro gb396 hg w8 hbox hb; have n0_ := Aside0.mk (Kd.S_below (by (with_reducible repeat (first | apply Kd.S_alloc | apply Kd.S_drewN | apply Kd.S_drew)); exact HO391.out) hb); have n1_ := Aside0.mk (Kd.R_below (rup HO395.out) hb); have n2_ := Aside0.mk (below_step (bel HB.out) hb); have n3_ := Aside0.mk (hbox); have n4_ := Aside0.mk ((by rw [hg]; exact (below_size (bel HB.out)) : w.heap.size ≤ gb396)); have n5_ := Aside0.mk ((by rw [hg]; exact (below_size (bel HB.out)) : w.heap.size ≤ gb396)); clear HO391; clear HO395; clear HB; have HO391 := n0_; have HO395 := n1_; have HB := n2_; have BK396 := n3_; have GW396 := n4_; have GE396 := n5_; clear n0_ n1_ n2_ n3_ n4_ n5_; clear hb hbox hg; have hcz9_0 : w8.cell? ⟨gb396, 0, none⟩ = some (.int .i64 0) := (blk_cell BK396.out 0).trans rfl; have hcz9_1 : w8.cell? ⟨gb396, 1, none⟩ = some (.slice none 0 0) := (blk_cell BK396.out 1).trans rfl; have hfz9_0 := blk_frozen BK396.out 0; have hfz9_1 := blk_frozen BK396.out 1; obtain ⟨Ao10, co10, eo10⟩ := Kd.R_slice HO395.out; subst eo10; obtain ⟨Ao11, co11, eo11⟩ := Kd.S_slice HO391.out; subst eo11) | (go_at_call 8; (with_reducible refine (impl_PlanMake.calls k _ _ t389 t392 _ _ t393 t397 t400 _ ?side1 ?side2 ?side3 ?side4 A4.out).mono ?_); (case side1 => refine (Kd.S_reads' (e := 39) (base := w.heap.size) (ok := fun k_ => some k_ ≠ (.slice Ao10 t393.length co10 : Value).ownBlock) (n := t389.length) (c := co11) ?_).2.2; exact (by (with_reducible repeat (first | apply Kd.S_alloc | apply Kd.S_drewN | apply Kd.S_drew)); exact (Kd.S_mono (Kd.S_far (p := ⟨gb396, 1, none⟩) (Kd.S_far (p := ⟨gb396, 0, none⟩) (Kd.S_types HO391.out BK396.out (by decide)) (fun _ hk => hk.2) (.int .i64 t392)) (fun _ hk => hk.2) (.slice Ao10 t393.length co10)) (fun _ h_ => h_.1)))); (case side2 => exact (Kd.S_reads' HO391.out).2.1); (case side3 => refine (Kd.R_reads' (e := 3) (base := w.heap.size) (ok := fun k_ => True) (n := t393.length) (c := co10) ?_).2.2; exact (by (with_reducible repeat (first | apply Kd.R_alloc | apply Kd.R_drewN | apply Kd.R_drew)); exact (Kd.R_mono (Kd.R_far (p := ⟨gb396, 1, none⟩) (Kd.R_far (p := ⟨gb396, 0, none⟩) (Kd.R_types HO395.out BK396.out (by decide)) (fun _ hk => hk.2) (.int .i64 t392)) (fun _ hk => hk.2) (.slice Ao10 t393.length co10)) (fun _ h_ => h_.1)))); (case side4 => exact (Kd.R_reads' HO395.out).2.1); rintro e w12 ⟨v398, rfl, ho0, hb⟩; have n0_ := Aside0.mk (Kd.S_elder' (by (with_reducible repeat (first | apply Kd.S_alloc | apply Kd.S_drewN | apply Kd.S_drew)); exact (Kd.S_mono (Kd.S_far (p := ⟨gb396, 1, none⟩) (Kd.S_far (p := ⟨gb396, 0, none⟩) (Kd.S_types HO391.out BK396.out (by decide)) (fun _ hk => hk.2) (.int .i64 t392)) (fun _ hk => hk.2) (.slice Ao10 t393.length co10)) (fun _ h_ => h_.1))) (Kd.R_base ho0) hb); have n1_ := Aside0.mk (Kd.R_elder' (by (with_reducible repeat (first | apply Kd.R_alloc | apply Kd.R_drewN | apply Kd.R_drew)); exact (Kd.R_mono (Kd.R_far (p := ⟨gb396, 1, none⟩) (Kd.R_far (p := ⟨gb396, 0, none⟩) (Kd.R_types HO395.out BK396.out (by decide)) (fun _ hk => hk.2) (.int .i64 t392)) (fun _ hk => hk.2) (.slice Ao10 t393.length co10)) (fun _ h_ => h_.1))) (Kd.R_base ho0) hb); have n2_ := Aside0.mk (Kd.R_lower (Kd.R_new' ho0 (Kd.R_lt (by (with_reducible repeat (first | apply Kd.R_alloc | apply Kd.R_drewN | apply Kd.R_drew)); exact (Kd.R_mono (Kd.R_far (p := ⟨gb396, 1, none⟩) (Kd.R_far (p := ⟨gb396, 0, none⟩) (Kd.R_types HO395.out BK396.out (by decide)) (fun _ hk => hk.2) (.int .i64 t392)) (fun _ hk => hk.2) (.slice Ao10 t393.length co10)) (fun _ h_ => h_.1))))) (below_size (by repeat (first | (with_reducible first | exact HB.out | apply below_alloc | apply pw_below_drewN | apply below_drew1 | refine below_set ?_ GE396.out) | exact HB.out)))); have n3_ := Aside0.mk (blk_below (g := gb396) (o := .cells #[.int .i64 t392, .slice Ao10 t393.length co10] 26 (0, 0)) (by (with_reducible repeat (first | refine blk_drewN ?_ _ | refine blk_drew ?_ | refine blk_alloc ?_ _)); refine blk_put (cs := #[.int .i64 t392, .slice none 0 0]) ?_ 1 _ rfl; (with_reducible repeat (first | refine blk_drewN ?_ _ | refine blk_drew ?_ | refine blk_alloc ?_ _)); refine blk_put (cs := #[.int .i64 0, .slice none 0 0]) ?_ 0 _ rfl; (with_reducible repeat (first | refine blk_drewN ?_ _ | refine blk_drew ?_ | refine blk_alloc ?_ _)); exact BK396.out) hb); have n4_ := Aside0.mk (below_step (by repeat (first | (with_reducible first | exact HB.out | apply below_alloc | apply pw_below_drewN | apply below_drew1 | refine below_set ?_ GE396.out) | exact HB.out)) hb); clear HO391; clear HO395; clear BK396; clear HB; have HO391 := n0_; have HO395 := n1_; have HO399 := n2_; have BK396 := n3_; have HB := n4_; clear n0_ n1_ n2_ n3_ n4_; (try clear hb); (try clear hb2); (try clear hk); (try clear hi); (try clear ho0); have hcz13_0 : w12.cell? ⟨gb396, 0, none⟩ = some (.int .i64 t392) := (blk_cell BK396.out 0).trans rfl; have hcz13_1 : w12.cell? ⟨gb396, 1, none⟩ = some (.slice Ao10 t393.length co10) := (blk_cell BK396.out 1).trans rfl; have hfz13_0 := blk_frozen BK396.out 0; have hfz13_1 := blk_frozen BK396.out 1) | (go_at_call 9; (with_reducible refine (spec_PlanMake.calls k _ _ t389 t392 _ _ t393 t401 t404 _ ?side1 ?side2 ?side3 ?side4 A5.out).mono ?_); (case side1 => repeat (first | exact (Kd.S_reads' HO391.out).2.2 | (with_reducible refine Kd.C_alloc ?_ _) | (with_reducible refine Kd.C_drewN ?_ _) | (with_reducible refine Kd.C_drew ?_))); (case side2 => exact (Kd.S_reads' HO391.out).2.1); (case side3 => exact cup (Kd.R_reads' HO395.out).2.2); (case side4 => exact (Kd.R_reads' HO395.out).2.1); rintro e w14 ⟨v402, rfl, ho0, hb⟩; have n0_ := Aside0.mk (Kd.S_elder' (by (with_reducible repeat (first | apply Kd.S_alloc | apply Kd.S_drewN | apply Kd.S_drew)); exact HO391.out) (Kd.R_base ho0) hb); have n1_ := Aside0.mk (Kd.R_elder' (rup HO395.out) (Kd.R_base ho0) hb); have n2_ := Aside0.mk (Kd.R_elder' (rup HO399.out) (Kd.R_base ho0) hb); have n3_ := Aside0.mk (Kd.R_lower (Kd.R_new' (Kd.R_new' ho0 (Kd.R_lt (rup HO395.out))) (Kd.R_lt (rup HO399.out))) (below_size (by repeat (first | (with_reducible first | exact HB.out | apply below_alloc | apply pw_below_drewN | apply below_drew1 | refine below_set ?_ GE396.out) | exact HB.out)))); have n4_ := Aside0.mk (blk_below (g := gb396) (o := .cells #[.int .i64 t392, .slice Ao10 t393.length co10] 26 (0, 0)) (bup BK396.out) hb); have n5_ := Aside0.mk (below_step (by repeat (first | (with_reducible first | exact HB.out | apply below_alloc | apply pw_below_drewN | apply below_drew1 | refine below_set ?_ GE396.out) | exact HB.out)) hb); clear HO391; clear HO395; clear HO399; clear BK396; clear HB; have HO391 := n0_; have HO395 := n1_; have HO399 := n2_; have HO403 := n3_; have BK396 := n4_; have HB := n5_; clear n0_ n1_ n2_ n3_ n4_ n5_; (try clear hb); (try clear hb2); (try clear hk); (try clear hi); (try clear ho0))))
 (try simp only [Act.put, List.setIfInBounds_toArray, List.set_cons_zero, List.set_cons_succ])
 go_cut [49] (fun v49 wc => ∃ (kq : Nat) (x49_5 : Bool), v49 = .bool x49_5 ∧ Aside0 (laws_FnPlanMakeAlone.j0 kq t389 t397 t400 t401 t404 x49_5 t392 t393 = some r) ∧ Aside0 (kq ≤ k) ∧ Aside0 (Kd.S k39 39 wc w.heap.size (fun k_ => some k_ ≠ (v398 : Value).ownBlock ∧ some k_ ≠ (v402 : Value).ownBlock ∧ some k_ ≠ ((.slice Ao10 t393.length co10) : Value).ownBlock) (.slice Ao11 t389.length co11) t389) ∧ Aside0 (Kd.R (Kd.int .i64) 3 wc w.heap.size (fun k_ => some k_ ≠ (v402 : Value).ownBlock ∧ some k_ ≠ ((.slice Ao10 t393.length co10) : Value).ownBlock) v398 t397) ∧ Aside0 (Kd.R (Kd.int .i64) 3 wc w.heap.size (fun k_ => some k_ ≠ (v398 : Value).ownBlock ∧ some k_ ≠ ((.slice Ao10 t393.length co10) : Value).ownBlock) v402 t401) ∧ Aside0 (Kd.R (Kd.int .i64) 3 wc w.heap.size (fun k_ => some k_ ≠ (v398 : Value).ownBlock ∧ some k_ ≠ (v402 : Value).ownBlock) (.slice Ao10 t393.length co10) t393) ∧ Aside0 (wc.heap[gb396]? = some (.cells #[.int .i64 t392, (.slice Ao10 t393.length co10)] 26 (0, 0))) ∧ Aside0 (Below w.heap.size w wc))
 case first =>
  have H := HC6.out
  clear HC6
  by_cases c15 : (t400 != t404) = true
  ·rw [if_pos c15] at H
   have c15b0 : (t400 != t404) = true := c15
   (try (have c15b1 : decide (t400 = t404) = false := by simpa using c15))
   (try (have c15b2 : (t400 == t404) = false := by simpa using c15))
   (try (have c15b3 : ¬ (t400 = t404) := by simpa using c15))
   clear c15
   (first | rw [c15b0] | (simp only [i64_w, i32_w]; rw [c15b0]) | skip)
   have H' := Aside0.mk H
   clear H
   go_wp2
   repeat (go_quiet (fail); try go_wp2)
   go_meet
   case rel => exact ⟨_, (true), (by first | rfl | (simp; done) | (simp [*]; done)), H', ⟨by first | omega | exact Nat.le_refl _⟩, ⟨by (with_reducible repeat (first | apply Kd.S_alloc | apply Kd.S_drewN | apply Kd.S_drew)); exact Kd.S_mono HO391.out (fun _ hk => ⟨hk.1.2, ⟨hk.2, hk.1.1⟩⟩)⟩, ⟨by (with_reducible repeat (first | apply Kd.R_alloc | apply Kd.R_drewN | apply Kd.R_drew)); exact Kd.R_mono HO399.out (fun _ hk => ⟨hk.2, hk.1.2⟩)⟩, ⟨by (with_reducible repeat (first | apply Kd.R_alloc | apply Kd.R_drewN | apply Kd.R_drew)); exact Kd.R_mono HO403.out (fun _ hk => ⟨hk.2, hk.1.2⟩)⟩, ⟨by (with_reducible repeat (first | apply Kd.R_alloc | apply Kd.R_drewN | apply Kd.R_drew)); exact Kd.R_mono HO395.out (fun _ hk => ⟨hk.1.2, hk.2⟩)⟩, ⟨by (with_reducible repeat (first | refine blk_drewN ?_ _ | refine blk_drew ?_ | refine blk_alloc ?_ _)); exact BK396.out⟩, ⟨by repeat (first | (with_reducible first | exact HB.out | apply below_alloc | apply pw_below_drewN | apply below_drew1 | refine below_set ?_ GE396.out) | exact HB.out)⟩⟩
  rw [if_neg c15] at H
  have c15b0 : (t400 != t404) = false := by simpa using c15
  (try (have c15b1 : decide (t400 = t404) = true := by simpa using c15))
  (try (have c15b2 : (t400 == t404) = true := by simpa using c15))
  clear c15
  (first | rw [c15b0] | (simp only [i64_w, i32_w]; rw [c15b0]) | skip)
  replace H := Option.bind_eq_some_iff.mp H
  obtain ⟨t405, A160, H⟩ := H
  replace H : (if t405 = true then ((spec_KitchenValid.f k t392 t393).bind fun t406 => (if t406 = true then ((spec_StepsValid.f k t389).bind fun t407 => (laws_FnPlanMakeAlone.j0 k t389 t397 t400 t401 t404 (!t407) t392 t393)) else (laws_FnPlanMakeAlone.j0 k t389 t397 t400 t401 t404 true t392 t393))) else (laws_FnPlanMakeAlone.j0 k t389 t397 t400 t401 t404 true t392 t393)) = some r := H
  have A16 := Aside0.mk A160
  clear A160
  by_cases c17 : t405 = true
  ·subst c17
   have H1 : ((spec_KitchenValid.f k t392 t393).bind fun t406 => (if t406 = true then ((spec_StepsValid.f k t389).bind fun t407 => (laws_FnPlanMakeAlone.j0 k t389 t397 t400 t401 t404 (!t407) t392 t393)) else (laws_FnPlanMakeAlone.j0 k t389 t397 t400 t401 t404 true t392 t393))) = some r := by rw [if_pos rfl] at H; exact H
   clear H
   have H := H1
   clear H1
   replace H := Option.bind_eq_some_iff.mp H
   obtain ⟨t406, A180, H⟩ := H
   replace H : (if t406 = true then ((spec_StepsValid.f k t389).bind fun t407 => (laws_FnPlanMakeAlone.j0 k t389 t397 t400 t401 t404 (!t407) t392 t393)) else (laws_FnPlanMakeAlone.j0 k t389 t397 t400 t401 t404 true t392 t393)) = some r := H
   have A18 := Aside0.mk A180
   clear A180
   by_cases c19 : t406 = true
   ·subst c19
    have H1 : ((spec_StepsValid.f k t389).bind fun t407 => (laws_FnPlanMakeAlone.j0 k t389 t397 t400 t401 t404 (!t407) t392 t393)) = some r := by rw [if_pos rfl] at H; exact H
    clear H
    have H := H1
    clear H1
    replace H := Option.bind_eq_some_iff.mp H
    obtain ⟨t407, A200, H⟩ := H
    replace H : (laws_FnPlanMakeAlone.j0 k t389 t397 t400 t401 t404 (!t407) t392 t393) = some r := H
    have A20 := Aside0.mk A200
    clear A200
    have H' := Aside0.mk H
    clear H
    obtain ⟨Ao21, co21, eo21⟩ := Kd.R_slice HO399.out
    subst eo21
    obtain ⟨Ao22, co22, eo22⟩ := Kd.R_slice HO403.out
    subst eo22
    go_wp2_with (first | (go_at_call 10; (with_reducible refine (laws_sameInts.calls k _ _ t397 _ _ t401 true _ ?side1 ?side2 ?side3 ?side4 A16.out).mono ?_); (case side1 => exact cup (Kd.R_reads' HO399.out).2.2); (case side2 => exact (Kd.R_reads' HO399.out).2.1); (case side3 => exact cup (Kd.R_reads' HO403.out).2.2); (case side4 => exact (Kd.R_reads' HO403.out).2.1); rintro e w' ⟨rfl, ⟨nd, rfl⟩⟩; (try first | exact ⟨rfl, _, World.drewN_drewN _ _ _⟩ | exact ⟨rfl, _, Eq.trans (World.drewN_drewN _ _ _) (congrArg (World.drewN _) (Nat.add_assoc _ _ _))⟩); have hcz23_0 : w14.cell? ⟨gb396, 0, none⟩ = some (.int .i64 t392) := (blk_cell BK396.out 0).trans rfl; have hcz23_1 : w14.cell? ⟨gb396, 1, none⟩ = some (.slice Ao10 t393.length co10) := (blk_cell BK396.out 1).trans rfl; have hfz23_0 := blk_frozen BK396.out 0; have hfz23_1 := blk_frozen BK396.out 1) | (go_at_call 14; (with_reducible refine (spec_KitchenValid.calls k t392 _ _ t393 true _ ?side1 ?side2 A18.out).mono ?_); (case side1 => exact cup (Kd.R_reads' HO395.out).2.2); (case side2 => exact (Kd.R_reads' HO395.out).2.1); rintro e w24 ⟨rfl, hb⟩; have n0_ := Aside0.mk (Kd.S_below (by (with_reducible repeat (first | apply Kd.S_alloc | apply Kd.S_drewN | apply Kd.S_drew)); exact HO391.out) hb); have n1_ := Aside0.mk (Kd.R_below (rup HO395.out) hb); have n2_ := Aside0.mk (Kd.R_below (rup HO399.out) hb); have n3_ := Aside0.mk (Kd.R_below (rup HO403.out) hb); have n4_ := Aside0.mk (blk_below (g := gb396) (o := .cells #[.int .i64 t392, .slice Ao10 t393.length co10] 26 (0, 0)) (bup BK396.out) hb); have n5_ := Aside0.mk (below_step (by repeat (first | (with_reducible first | exact HB.out | apply below_alloc | apply pw_below_drewN | apply below_drew1 | refine below_set ?_ GE396.out) | exact HB.out)) hb); clear HO391; clear HO395; clear HO399; clear HO403; clear BK396; clear HB; have HO391 := n0_; have HO395 := n1_; have HO399 := n2_; have HO403 := n3_; have BK396 := n4_; have HB := n5_; clear n0_ n1_ n2_ n3_ n4_ n5_; (try clear hb); (try clear hb2); (try clear hk); (try clear hi)) | (go_at_call 15; (with_reducible refine (spec_StepsValid.calls k _ _ t389 t407 _ ?side1 ?side2 A20.out).mono ?_); (case side1 => repeat (first | exact (Kd.S_reads' HO391.out).2.2 | (with_reducible refine Kd.C_alloc ?_ _) | (with_reducible refine Kd.C_drewN ?_ _) | (with_reducible refine Kd.C_drew ?_))); (case side2 => exact (Kd.S_reads' HO391.out).2.1); rintro e w25 ⟨rfl, hb⟩; have n0_ := Aside0.mk (Kd.S_below (by (with_reducible repeat (first | apply Kd.S_alloc | apply Kd.S_drewN | apply Kd.S_drew)); exact HO391.out) hb); have n1_ := Aside0.mk (Kd.R_below (rup HO395.out) hb); have n2_ := Aside0.mk (Kd.R_below (rup HO399.out) hb); have n3_ := Aside0.mk (Kd.R_below (rup HO403.out) hb); have n4_ := Aside0.mk (blk_below (g := gb396) (o := .cells #[.int .i64 t392, .slice Ao10 t393.length co10] 26 (0, 0)) (bup BK396.out) hb); have n5_ := Aside0.mk (below_step (by repeat (first | (with_reducible first | exact HB.out | apply below_alloc | apply pw_below_drewN | apply below_drew1 | refine below_set ?_ GE396.out) | exact HB.out)) hb); clear HO391; clear HO395; clear HO399; clear HO403; clear BK396; clear HB; have HO391 := n0_; have HO395 := n1_; have HO399 := n2_; have HO403 := n3_; have BK396 := n4_; have HB := n5_; clear n0_ n1_ n2_ n3_ n4_ n5_; (try clear hb); (try clear hb2); (try clear hk); (try clear hi)))
    repeat (go_quiet (first | (go_at_call 10; (with_reducible refine (laws_sameInts.calls k _ _ t397 _ _ t401 true _ ?side1 ?side2 ?side3 ?side4 A16.out).mono ?_); (case side1 => exact cup (Kd.R_reads' HO399.out).2.2); (case side2 => exact (Kd.R_reads' HO399.out).2.1); (case side3 => exact cup (Kd.R_reads' HO403.out).2.2); (case side4 => exact (Kd.R_reads' HO403.out).2.1); rintro e w' ⟨rfl, ⟨nd, rfl⟩⟩; (try first | exact ⟨rfl, _, World.drewN_drewN _ _ _⟩ | exact ⟨rfl, _, Eq.trans (World.drewN_drewN _ _ _) (congrArg (World.drewN _) (Nat.add_assoc _ _ _))⟩); have hcz23_0 : w14.cell? ⟨gb396, 0, none⟩ = some (.int .i64 t392) := (blk_cell BK396.out 0).trans rfl; have hcz23_1 : w14.cell? ⟨gb396, 1, none⟩ = some (.slice Ao10 t393.length co10) := (blk_cell BK396.out 1).trans rfl; have hfz23_0 := blk_frozen BK396.out 0; have hfz23_1 := blk_frozen BK396.out 1) | (go_at_call 14; (with_reducible refine (spec_KitchenValid.calls k t392 _ _ t393 true _ ?side1 ?side2 A18.out).mono ?_); (case side1 => exact cup (Kd.R_reads' HO395.out).2.2); (case side2 => exact (Kd.R_reads' HO395.out).2.1); rintro e w24 ⟨rfl, hb⟩; have n0_ := Aside0.mk (Kd.S_below (by (with_reducible repeat (first | apply Kd.S_alloc | apply Kd.S_drewN | apply Kd.S_drew)); exact HO391.out) hb); have n1_ := Aside0.mk (Kd.R_below (rup HO395.out) hb); have n2_ := Aside0.mk (Kd.R_below (rup HO399.out) hb); have n3_ := Aside0.mk (Kd.R_below (rup HO403.out) hb); have n4_ := Aside0.mk (blk_below (g := gb396) (o := .cells #[.int .i64 t392, .slice Ao10 t393.length co10] 26 (0, 0)) (bup BK396.out) hb); have n5_ := Aside0.mk (below_step (by repeat (first | (with_reducible first | exact HB.out | apply below_alloc | apply pw_below_drewN | apply below_drew1 | refine below_set ?_ GE396.out) | exact HB.out)) hb); clear HO391; clear HO395; clear HO399; clear HO403; clear BK396; clear HB; have HO391 := n0_; have HO395 := n1_; have HO399 := n2_; have HO403 := n3_; have BK396 := n4_; have HB := n5_; clear n0_ n1_ n2_ n3_ n4_ n5_; (try clear hb); (try clear hb2); (try clear hk); (try clear hi)) | (go_at_call 15; (with_reducible refine (spec_StepsValid.calls k _ _ t389 t407 _ ?side1 ?side2 A20.out).mono ?_); (case side1 => repeat (first | exact (Kd.S_reads' HO391.out).2.2 | (with_reducible refine Kd.C_alloc ?_ _) | (with_reducible refine Kd.C_drewN ?_ _) | (with_reducible refine Kd.C_drew ?_))); (case side2 => exact (Kd.S_reads' HO391.out).2.1); rintro e w25 ⟨rfl, hb⟩; have n0_ := Aside0.mk (Kd.S_below (by (with_reducible repeat (first | apply Kd.S_alloc | apply Kd.S_drewN | apply Kd.S_drew)); exact HO391.out) hb); have n1_ := Aside0.mk (Kd.R_below (rup HO395.out) hb); have n2_ := Aside0.mk (Kd.R_below (rup HO399.out) hb); have n3_ := Aside0.mk (Kd.R_below (rup HO403.out) hb); have n4_ := Aside0.mk (blk_below (g := gb396) (o := .cells #[.int .i64 t392, .slice Ao10 t393.length co10] 26 (0, 0)) (bup BK396.out) hb); have n5_ := Aside0.mk (below_step (by repeat (first | (with_reducible first | exact HB.out | apply below_alloc | apply pw_below_drewN | apply below_drew1 | refine below_set ?_ GE396.out) | exact HB.out)) hb); clear HO391; clear HO395; clear HO399; clear HO403; clear BK396; clear HB; have HO391 := n0_; have HO395 := n1_; have HO399 := n2_; have HO403 := n3_; have BK396 := n4_; have HB := n5_; clear n0_ n1_ n2_ n3_ n4_ n5_; (try clear hb); (try clear hb2); (try clear hk); (try clear hi))); try go_wp2_with (first | (go_at_call 10; (with_reducible refine (laws_sameInts.calls k _ _ t397 _ _ t401 true _ ?side1 ?side2 ?side3 ?side4 A16.out).mono ?_); (case side1 => exact cup (Kd.R_reads' HO399.out).2.2); (case side2 => exact (Kd.R_reads' HO399.out).2.1); (case side3 => exact cup (Kd.R_reads' HO403.out).2.2); (case side4 => exact (Kd.R_reads' HO403.out).2.1); rintro e w' ⟨rfl, ⟨nd, rfl⟩⟩; (try first | exact ⟨rfl, _, World.drewN_drewN _ _ _⟩ | exact ⟨rfl, _, Eq.trans (World.drewN_drewN _ _ _) (congrArg (World.drewN _) (Nat.add_assoc _ _ _))⟩); have hcz23_0 : w14.cell? ⟨gb396, 0, none⟩ = some (.int .i64 t392) := (blk_cell BK396.out 0).trans rfl; have hcz23_1 : w14.cell? ⟨gb396, 1, none⟩ = some (.slice Ao10 t393.length co10) := (blk_cell BK396.out 1).trans rfl; have hfz23_0 := blk_frozen BK396.out 0; have hfz23_1 := blk_frozen BK396.out 1) | (go_at_call 14; (with_reducible refine (spec_KitchenValid.calls k t392 _ _ t393 true _ ?side1 ?side2 A18.out).mono ?_); (case side1 => exact cup (Kd.R_reads' HO395.out).2.2); (case side2 => exact (Kd.R_reads' HO395.out).2.1); rintro e w24 ⟨rfl, hb⟩; have n0_ := Aside0.mk (Kd.S_below (by (with_reducible repeat (first | apply Kd.S_alloc | apply Kd.S_drewN | apply Kd.S_drew)); exact HO391.out) hb); have n1_ := Aside0.mk (Kd.R_below (rup HO395.out) hb); have n2_ := Aside0.mk (Kd.R_below (rup HO399.out) hb); have n3_ := Aside0.mk (Kd.R_below (rup HO403.out) hb); have n4_ := Aside0.mk (blk_below (g := gb396) (o := .cells #[.int .i64 t392, .slice Ao10 t393.length co10] 26 (0, 0)) (bup BK396.out) hb); have n5_ := Aside0.mk (below_step (by repeat (first | (with_reducible first | exact HB.out | apply below_alloc | apply pw_below_drewN | apply below_drew1 | refine below_set ?_ GE396.out) | exact HB.out)) hb); clear HO391; clear HO395; clear HO399; clear HO403; clear BK396; clear HB; have HO391 := n0_; have HO395 := n1_; have HO399 := n2_; have HO403 := n3_; have BK396 := n4_; have HB := n5_; clear n0_ n1_ n2_ n3_ n4_ n5_; (try clear hb); (try clear hb2); (try clear hk); (try clear hi)) | (go_at_call 15; (with_reducible refine (spec_StepsValid.calls k _ _ t389 t407 _ ?side1 ?side2 A20.out).mono ?_); (case side1 => repeat (first | exact (Kd.S_reads' HO391.out).2.2 | (with_reducible refine Kd.C_alloc ?_ _) | (with_reducible refine Kd.C_drewN ?_ _) | (with_reducible refine Kd.C_drew ?_))); (case side2 => exact (Kd.S_reads' HO391.out).2.1); rintro e w25 ⟨rfl, hb⟩; have n0_ := Aside0.mk (Kd.S_below (by (with_reducible repeat (first | apply Kd.S_alloc | apply Kd.S_drewN | apply Kd.S_drew)); exact HO391.out) hb); have n1_ := Aside0.mk (Kd.R_below (rup HO395.out) hb); have n2_ := Aside0.mk (Kd.R_below (rup HO399.out) hb); have n3_ := Aside0.mk (Kd.R_below (rup HO403.out) hb); have n4_ := Aside0.mk (blk_below (g := gb396) (o := .cells #[.int .i64 t392, .slice Ao10 t393.length co10] 26 (0, 0)) (bup BK396.out) hb); have n5_ := Aside0.mk (below_step (by repeat (first | (with_reducible first | exact HB.out | apply below_alloc | apply pw_below_drewN | apply below_drew1 | refine below_set ?_ GE396.out) | exact HB.out)) hb); clear HO391; clear HO395; clear HO399; clear HO403; clear BK396; clear HB; have HO391 := n0_; have HO395 := n1_; have HO399 := n2_; have HO403 := n3_; have BK396 := n4_; have HB := n5_; clear n0_ n1_ n2_ n3_ n4_ n5_; (try clear hb); (try clear hb2); (try clear hk); (try clear hi))))
    go_meet
    case rel => exact ⟨_, (!t407), (by first | rfl | (simp; done) | (simp [*]; done)), H', ⟨by first | omega | exact Nat.le_refl _⟩, ⟨by (with_reducible repeat (first | apply Kd.S_alloc | apply Kd.S_drewN | apply Kd.S_drew)); exact Kd.S_mono HO391.out (fun _ hk => ⟨hk.1.2, ⟨hk.2, hk.1.1⟩⟩)⟩, ⟨by (with_reducible repeat (first | apply Kd.R_alloc | apply Kd.R_drewN | apply Kd.R_drew)); exact Kd.R_mono HO399.out (fun _ hk => ⟨hk.2, hk.1.2⟩)⟩, ⟨by (with_reducible repeat (first | apply Kd.R_alloc | apply Kd.R_drewN | apply Kd.R_drew)); exact Kd.R_mono HO403.out (fun _ hk => ⟨hk.2, hk.1.2⟩)⟩, ⟨by (with_reducible repeat (first | apply Kd.R_alloc | apply Kd.R_drewN | apply Kd.R_drew)); exact Kd.R_mono HO395.out (fun _ hk => ⟨hk.1.2, hk.2⟩)⟩, ⟨by (with_reducible repeat (first | refine blk_drewN ?_ _ | refine blk_drew ?_ | refine blk_alloc ?_ _)); exact BK396.out⟩, ⟨by repeat (first | (with_reducible first | exact HB.out | apply below_alloc | apply pw_below_drewN | apply below_drew1 | refine below_set ?_ GE396.out) | exact HB.out)⟩⟩
   replace c19 := Bool.eq_false_iff.mpr c19
   subst c19
   have H1 : (laws_FnPlanMakeAlone.j0 k t389 t397 t400 t401 t404 true t392 t393) = some r := by rw [if_neg (show ¬ (false = true) by decide)] at H; exact H
   clear H
   have H := H1
   clear H1
   have H' := Aside0.mk H
   clear H
   obtain ⟨Ao26, co26, eo26⟩ := Kd.R_slice HO399.out
   subst eo26
   obtain ⟨Ao27, co27, eo27⟩ := Kd.R_slice HO403.out
   subst eo27
   go_wp2_with (first | (go_at_call 10; (with_reducible refine (laws_sameInts.calls k _ _ t397 _ _ t401 true _ ?side1 ?side2 ?side3 ?side4 A16.out).mono ?_); (case side1 => exact cup (Kd.R_reads' HO399.out).2.2); (case side2 => exact (Kd.R_reads' HO399.out).2.1); (case side3 => exact cup (Kd.R_reads' HO403.out).2.2); (case side4 => exact (Kd.R_reads' HO403.out).2.1); rintro e w' ⟨rfl, ⟨nd, rfl⟩⟩; (try first | exact ⟨rfl, _, World.drewN_drewN _ _ _⟩ | exact ⟨rfl, _, Eq.trans (World.drewN_drewN _ _ _) (congrArg (World.drewN _) (Nat.add_assoc _ _ _))⟩); have hcz28_0 : w14.cell? ⟨gb396, 0, none⟩ = some (.int .i64 t392) := (blk_cell BK396.out 0).trans rfl; have hcz28_1 : w14.cell? ⟨gb396, 1, none⟩ = some (.slice Ao10 t393.length co10) := (blk_cell BK396.out 1).trans rfl; have hfz28_0 := blk_frozen BK396.out 0; have hfz28_1 := blk_frozen BK396.out 1) | (go_at_call 14; (with_reducible refine (spec_KitchenValid.calls k t392 _ _ t393 false _ ?side1 ?side2 A18.out).mono ?_); (case side1 => exact cup (Kd.R_reads' HO395.out).2.2); (case side2 => exact (Kd.R_reads' HO395.out).2.1); rintro e w29 ⟨rfl, hb⟩; have n0_ := Aside0.mk (Kd.S_below (by (with_reducible repeat (first | apply Kd.S_alloc | apply Kd.S_drewN | apply Kd.S_drew)); exact HO391.out) hb); have n1_ := Aside0.mk (Kd.R_below (rup HO395.out) hb); have n2_ := Aside0.mk (Kd.R_below (rup HO399.out) hb); have n3_ := Aside0.mk (Kd.R_below (rup HO403.out) hb); have n4_ := Aside0.mk (blk_below (g := gb396) (o := .cells #[.int .i64 t392, .slice Ao10 t393.length co10] 26 (0, 0)) (bup BK396.out) hb); have n5_ := Aside0.mk (below_step (by repeat (first | (with_reducible first | exact HB.out | apply below_alloc | apply pw_below_drewN | apply below_drew1 | refine below_set ?_ GE396.out) | exact HB.out)) hb); clear HO391; clear HO395; clear HO399; clear HO403; clear BK396; clear HB; have HO391 := n0_; have HO395 := n1_; have HO399 := n2_; have HO403 := n3_; have BK396 := n4_; have HB := n5_; clear n0_ n1_ n2_ n3_ n4_ n5_; (try clear hb); (try clear hb2); (try clear hk); (try clear hi)))
   repeat (go_quiet (first | (go_at_call 10; (with_reducible refine (laws_sameInts.calls k _ _ t397 _ _ t401 true _ ?side1 ?side2 ?side3 ?side4 A16.out).mono ?_); (case side1 => exact cup (Kd.R_reads' HO399.out).2.2); (case side2 => exact (Kd.R_reads' HO399.out).2.1); (case side3 => exact cup (Kd.R_reads' HO403.out).2.2); (case side4 => exact (Kd.R_reads' HO403.out).2.1); rintro e w' ⟨rfl, ⟨nd, rfl⟩⟩; (try first | exact ⟨rfl, _, World.drewN_drewN _ _ _⟩ | exact ⟨rfl, _, Eq.trans (World.drewN_drewN _ _ _) (congrArg (World.drewN _) (Nat.add_assoc _ _ _))⟩); have hcz28_0 : w14.cell? ⟨gb396, 0, none⟩ = some (.int .i64 t392) := (blk_cell BK396.out 0).trans rfl; have hcz28_1 : w14.cell? ⟨gb396, 1, none⟩ = some (.slice Ao10 t393.length co10) := (blk_cell BK396.out 1).trans rfl; have hfz28_0 := blk_frozen BK396.out 0; have hfz28_1 := blk_frozen BK396.out 1) | (go_at_call 14; (with_reducible refine (spec_KitchenValid.calls k t392 _ _ t393 false _ ?side1 ?side2 A18.out).mono ?_); (case side1 => exact cup (Kd.R_reads' HO395.out).2.2); (case side2 => exact (Kd.R_reads' HO395.out).2.1); rintro e w29 ⟨rfl, hb⟩; have n0_ := Aside0.mk (Kd.S_below (by (with_reducible repeat (first | apply Kd.S_alloc | apply Kd.S_drewN | apply Kd.S_drew)); exact HO391.out) hb); have n1_ := Aside0.mk (Kd.R_below (rup HO395.out) hb); have n2_ := Aside0.mk (Kd.R_below (rup HO399.out) hb); have n3_ := Aside0.mk (Kd.R_below (rup HO403.out) hb); have n4_ := Aside0.mk (blk_below (g := gb396) (o := .cells #[.int .i64 t392, .slice Ao10 t393.length co10] 26 (0, 0)) (bup BK396.out) hb); have n5_ := Aside0.mk (below_step (by repeat (first | (with_reducible first | exact HB.out | apply below_alloc | apply pw_below_drewN | apply below_drew1 | refine below_set ?_ GE396.out) | exact HB.out)) hb); clear HO391; clear HO395; clear HO399; clear HO403; clear BK396; clear HB; have HO391 := n0_; have HO395 := n1_; have HO399 := n2_; have HO403 := n3_; have BK396 := n4_; have HB := n5_; clear n0_ n1_ n2_ n3_ n4_ n5_; (try clear hb); (try clear hb2); (try clear hk); (try clear hi))); try go_wp2_with (first | (go_at_call 10; (with_reducible refine (laws_sameInts.calls k _ _ t397 _ _ t401 true _ ?side1 ?side2 ?side3 ?side4 A16.out).mono ?_); (case side1 => exact cup (Kd.R_reads' HO399.out).2.2); (case side2 => exact (Kd.R_reads' HO399.out).2.1); (case side3 => exact cup (Kd.R_reads' HO403.out).2.2); (case side4 => exact (Kd.R_reads' HO403.out).2.1); rintro e w' ⟨rfl, ⟨nd, rfl⟩⟩; (try first | exact ⟨rfl, _, World.drewN_drewN _ _ _⟩ | exact ⟨rfl, _, Eq.trans (World.drewN_drewN _ _ _) (congrArg (World.drewN _) (Nat.add_assoc _ _ _))⟩); have hcz28_0 : w14.cell? ⟨gb396, 0, none⟩ = some (.int .i64 t392) := (blk_cell BK396.out 0).trans rfl; have hcz28_1 : w14.cell? ⟨gb396, 1, none⟩ = some (.slice Ao10 t393.length co10) := (blk_cell BK396.out 1).trans rfl; have hfz28_0 := blk_frozen BK396.out 0; have hfz28_1 := blk_frozen BK396.out 1) | (go_at_call 14; (with_reducible refine (spec_KitchenValid.calls k t392 _ _ t393 false _ ?side1 ?side2 A18.out).mono ?_); (case side1 => exact cup (Kd.R_reads' HO395.out).2.2); (case side2 => exact (Kd.R_reads' HO395.out).2.1); rintro e w29 ⟨rfl, hb⟩; have n0_ := Aside0.mk (Kd.S_below (by (with_reducible repeat (first | apply Kd.S_alloc | apply Kd.S_drewN | apply Kd.S_drew)); exact HO391.out) hb); have n1_ := Aside0.mk (Kd.R_below (rup HO395.out) hb); have n2_ := Aside0.mk (Kd.R_below (rup HO399.out) hb); have n3_ := Aside0.mk (Kd.R_below (rup HO403.out) hb); have n4_ := Aside0.mk (blk_below (g := gb396) (o := .cells #[.int .i64 t392, .slice Ao10 t393.length co10] 26 (0, 0)) (bup BK396.out) hb); have n5_ := Aside0.mk (below_step (by repeat (first | (with_reducible first | exact HB.out | apply below_alloc | apply pw_below_drewN | apply below_drew1 | refine below_set ?_ GE396.out) | exact HB.out)) hb); clear HO391; clear HO395; clear HO399; clear HO403; clear BK396; clear HB; have HO391 := n0_; have HO395 := n1_; have HO399 := n2_; have HO403 := n3_; have BK396 := n4_; have HB := n5_; clear n0_ n1_ n2_ n3_ n4_ n5_; (try clear hb); (try clear hb2); (try clear hk); (try clear hi))))
   go_meet
   case rel => exact ⟨_, (true), (by first | rfl | (simp; done) | (simp [*]; done)), H', ⟨by first | omega | exact Nat.le_refl _⟩, ⟨by (with_reducible repeat (first | apply Kd.S_alloc | apply Kd.S_drewN | apply Kd.S_drew)); exact Kd.S_mono HO391.out (fun _ hk => ⟨hk.1.2, ⟨hk.2, hk.1.1⟩⟩)⟩, ⟨by (with_reducible repeat (first | apply Kd.R_alloc | apply Kd.R_drewN | apply Kd.R_drew)); exact Kd.R_mono HO399.out (fun _ hk => ⟨hk.2, hk.1.2⟩)⟩, ⟨by (with_reducible repeat (first | apply Kd.R_alloc | apply Kd.R_drewN | apply Kd.R_drew)); exact Kd.R_mono HO403.out (fun _ hk => ⟨hk.2, hk.1.2⟩)⟩, ⟨by (with_reducible repeat (first | apply Kd.R_alloc | apply Kd.R_drewN | apply Kd.R_drew)); exact Kd.R_mono HO395.out (fun _ hk => ⟨hk.1.2, hk.2⟩)⟩, ⟨by (with_reducible repeat (first | refine blk_drewN ?_ _ | refine blk_drew ?_ | refine blk_alloc ?_ _)); exact BK396.out⟩, ⟨by repeat (first | (with_reducible first | exact HB.out | apply below_alloc | apply pw_below_drewN | apply below_drew1 | refine below_set ?_ GE396.out) | exact HB.out)⟩⟩
  replace c17 := Bool.eq_false_iff.mpr c17
  subst c17
  have H1 : (laws_FnPlanMakeAlone.j0 k t389 t397 t400 t401 t404 true t392 t393) = some r := by rw [if_neg (show ¬ (false = true) by decide)] at H; exact H
  clear H
  have H := H1
  clear H1
  have H' := Aside0.mk H
  clear H
  obtain ⟨Ao30, co30, eo30⟩ := Kd.R_slice HO399.out
  subst eo30
  obtain ⟨Ao31, co31, eo31⟩ := Kd.R_slice HO403.out
  subst eo31
  go_wp2_with (first | (go_at_call 10; (with_reducible refine (laws_sameInts.calls k _ _ t397 _ _ t401 false _ ?side1 ?side2 ?side3 ?side4 A16.out).mono ?_); (case side1 => exact cup (Kd.R_reads' HO399.out).2.2); (case side2 => exact (Kd.R_reads' HO399.out).2.1); (case side3 => exact cup (Kd.R_reads' HO403.out).2.2); (case side4 => exact (Kd.R_reads' HO403.out).2.1); rintro e w' ⟨rfl, ⟨nd, rfl⟩⟩; (try first | exact ⟨rfl, _, World.drewN_drewN _ _ _⟩ | exact ⟨rfl, _, Eq.trans (World.drewN_drewN _ _ _) (congrArg (World.drewN _) (Nat.add_assoc _ _ _))⟩)))
  repeat (go_quiet (first | (go_at_call 10; (with_reducible refine (laws_sameInts.calls k _ _ t397 _ _ t401 false _ ?side1 ?side2 ?side3 ?side4 A16.out).mono ?_); (case side1 => exact cup (Kd.R_reads' HO399.out).2.2); (case side2 => exact (Kd.R_reads' HO399.out).2.1); (case side3 => exact cup (Kd.R_reads' HO403.out).2.2); (case side4 => exact (Kd.R_reads' HO403.out).2.1); rintro e w' ⟨rfl, ⟨nd, rfl⟩⟩; (try first | exact ⟨rfl, _, World.drewN_drewN _ _ _⟩ | exact ⟨rfl, _, Eq.trans (World.drewN_drewN _ _ _) (congrArg (World.drewN _) (Nat.add_assoc _ _ _))⟩))); try go_wp2_with (first | (go_at_call 10; (with_reducible refine (laws_sameInts.calls k _ _ t397 _ _ t401 false _ ?side1 ?side2 ?side3 ?side4 A16.out).mono ?_); (case side1 => exact cup (Kd.R_reads' HO399.out).2.2); (case side2 => exact (Kd.R_reads' HO399.out).2.1); (case side3 => exact cup (Kd.R_reads' HO403.out).2.2); (case side4 => exact (Kd.R_reads' HO403.out).2.1); rintro e w' ⟨rfl, ⟨nd, rfl⟩⟩; (try first | exact ⟨rfl, _, World.drewN_drewN _ _ _⟩ | exact ⟨rfl, _, Eq.trans (World.drewN_drewN _ _ _) (congrArg (World.drewN _) (Nat.add_assoc _ _ _))⟩))))
  go_meet
  case rel => exact ⟨_, (true), (by first | rfl | (simp; done) | (simp [*]; done)), H', ⟨by first | omega | exact Nat.le_refl _⟩, ⟨by (with_reducible repeat (first | apply Kd.S_alloc | apply Kd.S_drewN | apply Kd.S_drew)); exact Kd.S_mono HO391.out (fun _ hk => ⟨hk.1.2, ⟨hk.2, hk.1.1⟩⟩)⟩, ⟨by (with_reducible repeat (first | apply Kd.R_alloc | apply Kd.R_drewN | apply Kd.R_drew)); exact Kd.R_mono HO399.out (fun _ hk => ⟨hk.2, hk.1.2⟩)⟩, ⟨by (with_reducible repeat (first | apply Kd.R_alloc | apply Kd.R_drewN | apply Kd.R_drew)); exact Kd.R_mono HO403.out (fun _ hk => ⟨hk.2, hk.1.2⟩)⟩, ⟨by (with_reducible repeat (first | apply Kd.R_alloc | apply Kd.R_drewN | apply Kd.R_drew)); exact Kd.R_mono HO395.out (fun _ hk => ⟨hk.1.2, hk.2⟩)⟩, ⟨by (with_reducible repeat (first | refine blk_drewN ?_ _ | refine blk_drew ?_ | refine blk_alloc ?_ _)); exact BK396.out⟩, ⟨by repeat (first | (with_reducible first | exact HB.out | apply below_alloc | apply pw_below_drewN | apply below_drew1 | refine below_set ?_ GE396.out) | exact HB.out)⟩⟩
 case rest =>
  clear HC6
  try clear c1
  try clear c2
  try clear c2b0
  try clear c2b1
  try clear p2
  try clear c4
  try clear c15
  try clear c15b0
  try clear c15b1
  try clear c15b2
  try clear c17
  try clear c19
  try clear hcz13_0
  try clear hcz13_1
  try clear hcz23_0
  try clear hcz23_1
  try clear hcz28_0
  try clear hcz28_1
  try clear hcz9_0
  try clear hcz9_1
  try clear hfz13_0
  try clear hfz13_1
  try clear hfz23_0
  try clear hfz23_1
  try clear hfz28_0
  try clear hfz28_1
  try clear hfz9_0
  try clear hfz9_1
  obtain ⟨kq, x49_5, rfl, HA, HJ5, HO_3, HO_5, HO_7, HO_397001, BK396, HB⟩ := hcut
  cases kq with
  | zero => exact absurd HA.out (by simp [laws_FnPlanMakeAlone.j0])
  | succ kj5 =>
   have H := HA.out
   clear HA
   simp only [laws_FnPlanMakeAlone.j0] at H
   by_cases c32 : x49_5 = true
   ·subst c32
    have H1 : (if (t400 == t404) = true then ((laws_sameInts.f kj5 t397 t401).bind fun t408 => (some t408)) else (some false)) = some r := by rw [if_pos rfl] at H; exact H
    clear H
    have H := H1
    clear H1
    by_cases c33 : (t400 == t404) = true
    ·rw [if_pos c33] at H
     have c33b0 : (t400 == t404) = true := c33
     (try (have c33b1 : decide (t400 = t404) = true := by simpa using c33))
     (try (have c33b2 : (t400 == t404) = true := by simpa using c33))
     clear c33
     replace H := Option.bind_eq_some_iff.mp H
     obtain ⟨t408, A340, H⟩ := H
     replace H : (some t408) = some r := H
     have A34 := Aside0.mk A340
     clear A340
     obtain rfl := Option.some.inj H
     obtain ⟨Ao35, co35, eo35⟩ := Kd.R_slice HO_5.out
     subst eo35
     obtain ⟨Ao36, co36, eo36⟩ := Kd.R_slice HO_7.out
     subst eo36
     go_wp2_with (first | (go_at_call 10; (with_reducible refine (laws_sameInts.calls kj5 _ _ t397 _ _ t401 t408 _ ?side1 ?side2 ?side3 ?side4 A34.out).mono ?_); (case side1 => exact cup (Kd.R_reads' HO_5.out).2.2); (case side2 => exact (Kd.R_reads' HO_5.out).2.1); (case side3 => exact cup (Kd.R_reads' HO_7.out).2.2); (case side4 => exact (Kd.R_reads' HO_7.out).2.1); rintro e w' ⟨rfl, ⟨nd, rfl⟩⟩; (try first | exact ⟨rfl, _, World.drewN_drewN _ _ _⟩ | exact ⟨rfl, _, Eq.trans (World.drewN_drewN _ _ _) (congrArg (World.drewN _) (Nat.add_assoc _ _ _))⟩)))
     repeat (go_quiet (first | (go_at_call 10; (with_reducible refine (laws_sameInts.calls kj5 _ _ t397 _ _ t401 t408 _ ?side1 ?side2 ?side3 ?side4 A34.out).mono ?_); (case side1 => exact cup (Kd.R_reads' HO_5.out).2.2); (case side2 => exact (Kd.R_reads' HO_5.out).2.1); (case side3 => exact cup (Kd.R_reads' HO_7.out).2.2); (case side4 => exact (Kd.R_reads' HO_7.out).2.1); rintro e w' ⟨rfl, ⟨nd, rfl⟩⟩; (try first | exact ⟨rfl, _, World.drewN_drewN _ _ _⟩ | exact ⟨rfl, _, Eq.trans (World.drewN_drewN _ _ _) (congrArg (World.drewN _) (Nat.add_assoc _ _ _))⟩))); try go_wp2_with (first | (go_at_call 10; (with_reducible refine (laws_sameInts.calls kj5 _ _ t397 _ _ t401 t408 _ ?side1 ?side2 ?side3 ?side4 A34.out).mono ?_); (case side1 => exact cup (Kd.R_reads' HO_5.out).2.2); (case side2 => exact (Kd.R_reads' HO_5.out).2.1); (case side3 => exact cup (Kd.R_reads' HO_7.out).2.2); (case side4 => exact (Kd.R_reads' HO_7.out).2.1); rintro e w' ⟨rfl, ⟨nd, rfl⟩⟩; (try first | exact ⟨rfl, _, World.drewN_drewN _ _ _⟩ | exact ⟨rfl, _, Eq.trans (World.drewN_drewN _ _ _) (congrArg (World.drewN _) (Nat.add_assoc _ _ _))⟩))))
     go_ret
     exact ⟨by first | rfl | (simp [errW_none, errW_some] <;> rfl) | (simp [*, errW_none, errW_some] <;> rfl), by repeat (first | (with_reducible first | exact HB.out | apply below_alloc | apply pw_below_drewN | apply below_drew1 | refine below_set ?_ GE396.out) | exact HB.out)⟩
    rw [if_neg c33] at H
    have c33b0 : (t400 == t404) = false := by simpa using c33
    (try (have c33b1 : decide (t400 = t404) = false := by simpa using c33))
    (try (have c33b2 : (t400 == t404) = false := by simpa using c33))
    (try (have c33b3 : ¬ (t400 = t404) := by simpa using c33))
    clear c33
    obtain rfl := Option.some.inj H
    go_wp2
    repeat (go_quiet (fail); try go_wp2)
    go_ret
    exact ⟨by first | rfl | (simp [errW_none, errW_some] <;> rfl) | (simp [*, errW_none, errW_some] <;> rfl), by repeat (first | (with_reducible first | exact HB.out | apply below_alloc | apply pw_below_drewN | apply below_drew1 | refine below_set ?_ GE396.out) | exact HB.out)⟩
   replace c32 := Bool.eq_false_iff.mpr c32
   subst c32
   have H1 : (laws_FnPlanMakeAlone.l0 kj5 t389 t400 true 0 t392 t393) = some r := by rw [if_neg (show ¬ (false = true) by decide)] at H; exact H
   clear H
   have H := H1
   clear H1
   have H' := Aside0.mk H
   clear H
   go_wp2
   repeat (go_quiet (fail); try go_wp2)
   go_loopg [9, 10] kj5 (fun kq v9 v10 w' => ∃ (x9_2 : Bool) (x10_2 : Int), v9 = .bool x9_2 ∧ v10 = .int .i64 x10_2 ∧ Aside0 (laws_FnPlanMakeAlone.l0 kq t389 t400 x9_2 x10_2 t392 t393 = some r) ∧ Aside0 (kq ≤ kj5) ∧ Aside0 (Kd.S k39 39 w' w.heap.size (fun k_ => some k_ ≠ ((.slice Ao10 t393.length co10) : Value).ownBlock) (.slice Ao11 t389.length co11) t389) ∧ Aside0 (Kd.R (Kd.int .i64) 3 w' w.heap.size (fun _ => True) (.slice Ao10 t393.length co10) t393) ∧ Aside0 (w'.heap[gb396]? = some (.cells #[.int .i64 t392, (.slice Ao10 t393.length co10)] 26 (0, 0))) ∧ Aside0 (Below w.heap.size w w'))
   case atStart => exact ⟨(true), (0), (by first | rfl | (simp; done) | (simp [*]; done)), (by first | rfl | (simp; done) | (simp [*]; done)), H', ⟨Nat.le_refl _⟩, ⟨by (with_reducible repeat (first | apply Kd.S_alloc | apply Kd.S_drewN | apply Kd.S_drew)); exact Kd.S_mono HO_3.out (fun _ hk => hk.2.2)⟩, ⟨by (with_reducible repeat (first | apply Kd.R_alloc | apply Kd.R_drewN | apply Kd.R_drew)); exact Kd.R_mono HO_397001.out (fun _ hk => trivial)⟩, ⟨by (with_reducible repeat (first | refine blk_drewN ?_ _ | refine blk_drew ?_ | refine blk_alloc ?_ _)); exact BK396.out⟩, ⟨by repeat (first | (with_reducible first | exact HB.out | apply below_alloc | apply pw_below_drewN | apply below_drew1 | refine below_set ?_ GE396.out) | exact HB.out)⟩⟩
   case round =>
    clear H'
    try clear c1
    try clear c2
    try clear c2b0
    try clear c2b1
    try clear p2
    try clear c3
    try clear c4
    try clear c15
    try clear c15b0
    try clear c15b1
    try clear c15b2
    try clear c17
    try clear c19
    try clear c32
    try clear c33
    try clear c33b0
    try clear c33b1
    try clear c33b2
    try clear hcz13_0
    try clear hcz13_1
    try clear hcz23_0
    try clear hcz23_1
    try clear hcz28_0
    try clear hcz28_1
    try clear hcz9_0
    try clear hcz9_1
    try clear hfz13_0
    try clear hfz13_1
    try clear hfz23_0
    try clear hfz23_1
    try clear hfz28_0
    try clear hfz28_1
    try clear hfz9_0
    try clear hfz9_1
    try clear p2
    obtain ⟨x9_2, x10_2, rfl, rfl, HA, HK2, HO_3, HO_397001, BK396, HB⟩ := hrel
    cases gk with
    | zero => exact absurd HA.out (by simp [laws_FnPlanMakeAlone.l0])
    | succ k2 =>
     have H := HA.out
     clear HA
     simp only [laws_FnPlanMakeAlone.l0] at H
     by_cases c37 : x10_2 < (t389.length : Int)
     ·rw [if_pos c37] at H
      have c37b0 : decide (x10_2 < (t389.length : Int)) = true := decide_eq_true c37
      clear c37
      by_cases c38 : x9_2 = true
      ·subst c38
       have H1 : (if 0 ≤ x10_2 then (if ((rd_T39 t389 x10_2).f1) ≤ t392 then (if ((rd_T39 t389 x10_2).f2) = 0 then (laws_FnPlanMakeAlone.l0 k2 t389 t400 true (wrap64 (x10_2 + 1)) t392 t393) else (if 0 ≤ (wrap64 (((rd_T39 t389 x10_2).f2) - 1)) then (if (wrap64 (((rd_T39 t389 x10_2).f2) - 1)) < (t393.length : Int) then (laws_FnPlanMakeAlone.l0 k2 t389 t400 (decide ((rd t393 (wrap64 (((rd_T39 t389 x10_2).f2) - 1))) > 0)) (wrap64 (x10_2 + 1)) t392 t393) else (none)) else (none))) else (laws_FnPlanMakeAlone.l0 k2 t389 t400 false (wrap64 (x10_2 + 1)) t392 t393)) else (none)) = some r := by rw [if_pos rfl] at H; exact H
       clear H
       have H := H1
       clear H1
       by_cases c39 : 0 ≤ x10_2
       ·rw [if_pos c39] at H
        have c39b0 : decide (0 ≤ x10_2) = true := decide_eq_true c39
        clear c39
        by_cases c40 : ((rd_T39 t389 x10_2).f1) ≤ t392
        ·rw [if_pos c40] at H
         have c40b0 : decide (((rd_T39 t389 x10_2).f1) ≤ t392) = true := decide_eq_true c40
         clear c40
         by_cases c41 : ((rd_T39 t389 x10_2).f2) = 0
         ·rw [if_pos c41] at H
          have c41b0 : (((rd_T39 t389 x10_2).f2) == 0) = true := beq_iff_eq.mpr c41
          have c41b1 : (((rd_T39 t389 x10_2).f2) != 0) = false := bne_eq_false_iff_eq.mpr c41
          clear c41
          have H' := Aside0.mk H
          clear H
          have p409 : 0 ≤ (x10_2 : Int) := of_decide_eq_true (by assumption)
          have q409 : x10_2 < (t389.length : Int) := of_decide_eq_true (by assumption)
          obtain ⟨ad409, A409_3, c409_3, e409, hx409_0, hx409_1, hx409_2, hx409_3, hl409_3, hi409_3⟩ := at_T39 (Kd.S_reads' HO_3.out).2.2 x10_2 p409 q409
          cases e409
          obtain ⟨ce409, hce409, hMe409, hcc409⟩ := Kd.S_get HO_3.out z39 x10_2 p409 (by first | exact q409 | exact of_decide_eq_true (by assumption) | (have e_ := (Kd.S_reads' HO_3.out).1; omega))
          obtain ⟨ve409_3, rfl, ge409_3⟩ := k39_openM hMe409
          have hv409_3 := hcc409 3 _ rfl
          rw [add_field _ _ 3 (by omega)] at hv409_3
          replace hv409_3 := Option.some.inj (hv409_3.symm.trans hx409_3)
          rw [hv409_3] at ge409_3
          have HL409_3 := Aside0.mk (show Kd.R (Kd.int .i64) 3 _ _ _ _ ((rd_T39 t389 x10_2).f3) from ge409_3)
          clear hv409_3 ge409_3
          clear hcc409 hce409
          have HR409_3 := Aside0.mk hi409_3
          have HC409_3 := Aside0.mk hl409_3
          clear hi409_3 hl409_3
          replace p409 := eq_true p409
          replace q409 := eq_true q409
          have hcz42_0 : wr.cell? ⟨gb396, 0, none⟩ = some (.int .i64 t392) := (blk_cell BK396.out 0).trans rfl
          have hcz42_1 : wr.cell? ⟨gb396, 1, none⟩ = some (.slice Ao10 t393.length co10) := (blk_cell BK396.out 1).trans rfl
          have hfz42_0 := blk_frozen BK396.out 0
          have hfz42_1 := blk_frozen BK396.out 1
          have p410 : 0 ≤ (x10_2 : Int) := of_decide_eq_true (by assumption)
          have q410 : x10_2 < (t389.length : Int) := of_decide_eq_true (by assumption)
          obtain ⟨ad410, A410_3, c410_3, e410, hx410_0, hx410_1, hx410_2, hx410_3, hl410_3, hi410_3⟩ := at_T39 (Kd.S_reads' HO_3.out).2.2 x10_2 p410 q410
          obtain rfl : ad409 = ad410 := (by injection e410)
          obtain ⟨ce410, hce410, hMe410, hcc410⟩ := Kd.S_get HO_3.out z39 x10_2 p410 (by first | exact q410 | exact of_decide_eq_true (by assumption) | (have e_ := (Kd.S_reads' HO_3.out).1; omega))
          obtain ⟨ve410_3, rfl, ge410_3⟩ := k39_openM hMe410
          have hv410_3 := hcc410 3 _ rfl
          rw [add_field _ _ 3 (by omega)] at hv410_3
          replace hv410_3 := Option.some.inj (hv410_3.symm.trans hx410_3)
          rw [hv410_3] at ge410_3
          have HL410_3 := Aside0.mk (show Kd.R (Kd.int .i64) 3 _ _ _ _ ((rd_T39 t389 x10_2).f3) from ge410_3)
          clear hv410_3 ge410_3
          clear hcc410 hce410
          have HR410_3 := Aside0.mk hi410_3
          have HC410_3 := Aside0.mk hl410_3
          clear hi410_3 hl410_3
          replace p410 := eq_true p410
          replace q410 := eq_true q410
          have ea_ := Option.some.inj (hx409_3.symm.trans hx410_3)
          injection ea_ with ea_ en_ ec_
          subst ea_
          subst ec_
          clear en_
          go_wp2
          repeat (go_quiet (fail); try go_wp2)
          go_roundg k2
          case measure => have := HJ5.out; have := HK2.out; omega
          case rel => exact ⟨(true), (wrap64 (x10_2 + 1)), (by first | rfl | (simp; done) | (simp [*]; done)), (by first | rfl | (simp; done) | (simp [*]; done)), H', ⟨by have := HJ5.out; have := HK2.out; omega⟩, ⟨by (with_reducible repeat (first | apply Kd.S_alloc | apply Kd.S_drewN | apply Kd.S_drew)); exact HO_3.out⟩, ⟨by (with_reducible repeat (first | apply Kd.R_alloc | apply Kd.R_drewN | apply Kd.R_drew)); exact HO_397001.out⟩, ⟨by (with_reducible repeat (first | refine blk_drewN ?_ _ | refine blk_drew ?_ | refine blk_alloc ?_ _)); exact BK396.out⟩, ⟨by repeat (first | (with_reducible first | exact HB.out | apply below_alloc | apply pw_below_drewN | apply below_drew1 | refine below_set ?_ GE396.out) | exact HB.out)⟩⟩
         rw [if_neg c41] at H
         have c41b0 : (((rd_T39 t389 x10_2).f2) == 0) = false := beq_eq_false_iff_ne.mpr c41
         have c41b1 : (((rd_T39 t389 x10_2).f2) != 0) = true := bne_iff_ne.mpr c41
         obtain ⟨ji43, hji43⟩ : ∃ j_ : Int, (wrap64 (((rd_T39 t389 x10_2).f2) - 1)) = j_ := ⟨_, rfl⟩
         replace H : (if 0 ≤ (ji43) then (if (ji43) < (t393.length : Int) then (laws_FnPlanMakeAlone.l0 k2 t389 t400 (decide ((rd t393 (ji43)) > 0)) (wrap64 (x10_2 + 1)) t392 t393) else (none)) else (none)) = some r := by first | (rw [hji43] at H; exact H) | (simp only [hji43] at H ⊢; exact H)
         have hji43w : (IntKind.i64.wrap (((rd_T39 t389 x10_2).f2) - 1)) = ji43 := (i64_w _).trans hji43
         by_cases c44 : 0 ≤ (ji43)
         ·rw [if_pos c44] at H
          have c44b0 : decide (0 ≤ (ji43)) = true := decide_eq_true c44
          clear c44
          by_cases c45 : (ji43) < (t393.length : Int)
          ·rw [if_pos c45] at H
           have c45b0 : decide ((ji43) < (t393.length : Int)) = true := decide_eq_true c45
           clear c45
           have H' := Aside0.mk H
           clear H
           have p409 : 0 ≤ (x10_2 : Int) := of_decide_eq_true (by assumption)
           have q409 : x10_2 < (t389.length : Int) := of_decide_eq_true (by assumption)
           obtain ⟨ad409, A409_3, c409_3, e409, hx409_0, hx409_1, hx409_2, hx409_3, hl409_3, hi409_3⟩ := at_T39 (Kd.S_reads' HO_3.out).2.2 x10_2 p409 q409
           cases e409
           obtain ⟨ce409, hce409, hMe409, hcc409⟩ := Kd.S_get HO_3.out z39 x10_2 p409 (by first | exact q409 | exact of_decide_eq_true (by assumption) | (have e_ := (Kd.S_reads' HO_3.out).1; omega))
           obtain ⟨ve409_3, rfl, ge409_3⟩ := k39_openM hMe409
           have hv409_3 := hcc409 3 _ rfl
           rw [add_field _ _ 3 (by omega)] at hv409_3
           replace hv409_3 := Option.some.inj (hv409_3.symm.trans hx409_3)
           rw [hv409_3] at ge409_3
           have HL409_3 := Aside0.mk (show Kd.R (Kd.int .i64) 3 _ _ _ _ ((rd_T39 t389 x10_2).f3) from ge409_3)
           clear hv409_3 ge409_3
           clear hcc409 hce409
           have HR409_3 := Aside0.mk hi409_3
           have HC409_3 := Aside0.mk hl409_3
           clear hi409_3 hl409_3
           replace p409 := eq_true p409
           replace q409 := eq_true q409
           have hcz46_0 : wr.cell? ⟨gb396, 0, none⟩ = some (.int .i64 t392) := (blk_cell BK396.out 0).trans rfl
           have hcz46_1 : wr.cell? ⟨gb396, 1, none⟩ = some (.slice Ao10 t393.length co10) := (blk_cell BK396.out 1).trans rfl
           have hfz46_0 := blk_frozen BK396.out 0
           have hfz46_1 := blk_frozen BK396.out 1
           have p410 : 0 ≤ (x10_2 : Int) := of_decide_eq_true (by assumption)
           have q410 : x10_2 < (t389.length : Int) := of_decide_eq_true (by assumption)
           obtain ⟨ad410, A410_3, c410_3, e410, hx410_0, hx410_1, hx410_2, hx410_3, hl410_3, hi410_3⟩ := at_T39 (Kd.S_reads' HO_3.out).2.2 x10_2 p410 q410
           obtain rfl : ad409 = ad410 := (by injection e410)
           obtain ⟨ce410, hce410, hMe410, hcc410⟩ := Kd.S_get HO_3.out z39 x10_2 p410 (by first | exact q410 | exact of_decide_eq_true (by assumption) | (have e_ := (Kd.S_reads' HO_3.out).1; omega))
           obtain ⟨ve410_3, rfl, ge410_3⟩ := k39_openM hMe410
           have hv410_3 := hcc410 3 _ rfl
           rw [add_field _ _ 3 (by omega)] at hv410_3
           replace hv410_3 := Option.some.inj (hv410_3.symm.trans hx410_3)
           rw [hv410_3] at ge410_3
           have HL410_3 := Aside0.mk (show Kd.R (Kd.int .i64) 3 _ _ _ _ ((rd_T39 t389 x10_2).f3) from ge410_3)
           clear hv410_3 ge410_3
           clear hcc410 hce410
           have HR410_3 := Aside0.mk hi410_3
           have HC410_3 := Aside0.mk hl410_3
           clear hi410_3 hl410_3
           replace p410 := eq_true p410
           replace q410 := eq_true q410
           have ea_ := Option.some.inj (hx409_3.symm.trans hx410_3)
           injection ea_ with ea_ en_ ec_
           subst ea_
           subst ec_
           clear en_
           have p411 : 0 ≤ (x10_2 : Int) := of_decide_eq_true (by assumption)
           have q411 : x10_2 < (t389.length : Int) := of_decide_eq_true (by assumption)
           obtain ⟨ad411, A411_3, c411_3, e411, hx411_0, hx411_1, hx411_2, hx411_3, hl411_3, hi411_3⟩ := at_T39 (Kd.S_reads' HO_3.out).2.2 x10_2 p411 q411
           obtain rfl : ad409 = ad411 := (by injection e411)
           obtain ⟨ce411, hce411, hMe411, hcc411⟩ := Kd.S_get HO_3.out z39 x10_2 p411 (by first | exact q411 | exact of_decide_eq_true (by assumption) | (have e_ := (Kd.S_reads' HO_3.out).1; omega))
           obtain ⟨ve411_3, rfl, ge411_3⟩ := k39_openM hMe411
           have hv411_3 := hcc411 3 _ rfl
           rw [add_field _ _ 3 (by omega)] at hv411_3
           replace hv411_3 := Option.some.inj (hv411_3.symm.trans hx411_3)
           rw [hv411_3] at ge411_3
           have HL411_3 := Aside0.mk (show Kd.R (Kd.int .i64) 3 _ _ _ _ ((rd_T39 t389 x10_2).f3) from ge411_3)
           clear hv411_3 ge411_3
           clear hcc411 hce411
           have HR411_3 := Aside0.mk hi411_3
           have HC411_3 := Aside0.mk hl411_3
           clear hi411_3 hl411_3
           replace p411 := eq_true p411
           replace q411 := eq_true q411
           have ea_ := Option.some.inj (hx409_3.symm.trans hx411_3)
           injection ea_ with ea_ en_ ec_
           subst ea_
           subst ec_
           clear en_
           have p412 : 0 ≤ ((ji43) : Int) := of_decide_eq_true (by assumption)
           have q412 : (ji43) < (t393.length : Int) := of_decide_eq_true (by assumption)
           obtain ⟨ad412, e412, hx412_0⟩ := Kd.at_int (Kd.R_reads' HO_397001.out).2.2 (ji43) p412 q412
           cases e412
           replace p412 := eq_true p412
           replace q412 := eq_true q412
           go_wp2
           repeat (go_quiet (fail); try go_wp2)
           go_roundg k2
           case measure => have := HJ5.out; have := HK2.out; omega
           case rel => exact ⟨(decide ((rd t393 (ji43)) > 0)), (wrap64 (x10_2 + 1)), (by first | rfl | (simp; done) | (simp only [← hji43] <;> (first | rfl | simp)) | (simp [*]; done)), (by first | rfl | (simp; done) | (simp [*]; done)), H', ⟨by have := HJ5.out; have := HK2.out; omega⟩, ⟨by (with_reducible repeat (first | apply Kd.S_alloc | apply Kd.S_drewN | apply Kd.S_drew)); exact HO_3.out⟩, ⟨by (with_reducible repeat (first | apply Kd.R_alloc | apply Kd.R_drewN | apply Kd.R_drew)); exact HO_397001.out⟩, ⟨by (with_reducible repeat (first | refine blk_drewN ?_ _ | refine blk_drew ?_ | refine blk_alloc ?_ _)); exact BK396.out⟩, ⟨by repeat (first | (with_reducible first | exact HB.out | apply below_alloc | apply pw_below_drewN | apply below_drew1 | refine below_set ?_ GE396.out) | exact HB.out)⟩⟩
          rw [if_neg c45] at H
          exact absurd H (by simp)
         rw [if_neg c44] at H
         exact absurd H (by simp)
        rw [if_neg c40] at H
        have c40b0 : decide (((rd_T39 t389 x10_2).f1) ≤ t392) = false := decide_eq_false c40
        clear c40
        have H' := Aside0.mk H
        clear H
        have p409 : 0 ≤ (x10_2 : Int) := of_decide_eq_true (by assumption)
        have q409 : x10_2 < (t389.length : Int) := of_decide_eq_true (by assumption)
        obtain ⟨ad409, A409_3, c409_3, e409, hx409_0, hx409_1, hx409_2, hx409_3, hl409_3, hi409_3⟩ := at_T39 (Kd.S_reads' HO_3.out).2.2 x10_2 p409 q409
        cases e409
        obtain ⟨ce409, hce409, hMe409, hcc409⟩ := Kd.S_get HO_3.out z39 x10_2 p409 (by first | exact q409 | exact of_decide_eq_true (by assumption) | (have e_ := (Kd.S_reads' HO_3.out).1; omega))
        obtain ⟨ve409_3, rfl, ge409_3⟩ := k39_openM hMe409
        have hv409_3 := hcc409 3 _ rfl
        rw [add_field _ _ 3 (by omega)] at hv409_3
        replace hv409_3 := Option.some.inj (hv409_3.symm.trans hx409_3)
        rw [hv409_3] at ge409_3
        have HL409_3 := Aside0.mk (show Kd.R (Kd.int .i64) 3 _ _ _ _ ((rd_T39 t389 x10_2).f3) from ge409_3)
        clear hv409_3 ge409_3
        clear hcc409 hce409
        have HR409_3 := Aside0.mk hi409_3
        have HC409_3 := Aside0.mk hl409_3
        clear hi409_3 hl409_3
        replace p409 := eq_true p409
        replace q409 := eq_true q409
        have hcz47_0 : wr.cell? ⟨gb396, 0, none⟩ = some (.int .i64 t392) := (blk_cell BK396.out 0).trans rfl
        have hcz47_1 : wr.cell? ⟨gb396, 1, none⟩ = some (.slice Ao10 t393.length co10) := (blk_cell BK396.out 1).trans rfl
        have hfz47_0 := blk_frozen BK396.out 0
        have hfz47_1 := blk_frozen BK396.out 1
        go_wp2
        repeat (go_quiet (fail); try go_wp2)
        go_roundg k2
        case measure => have := HJ5.out; have := HK2.out; omega
        case rel => exact ⟨(false), (wrap64 (x10_2 + 1)), (by first | rfl | (simp; done) | (simp [*]; done)), (by first | rfl | (simp; done) | (simp [*]; done)), H', ⟨by have := HJ5.out; have := HK2.out; omega⟩, ⟨by (with_reducible repeat (first | apply Kd.S_alloc | apply Kd.S_drewN | apply Kd.S_drew)); exact HO_3.out⟩, ⟨by (with_reducible repeat (first | apply Kd.R_alloc | apply Kd.R_drewN | apply Kd.R_drew)); exact HO_397001.out⟩, ⟨by (with_reducible repeat (first | refine blk_drewN ?_ _ | refine blk_drew ?_ | refine blk_alloc ?_ _)); exact BK396.out⟩, ⟨by repeat (first | (with_reducible first | exact HB.out | apply below_alloc | apply pw_below_drewN | apply below_drew1 | refine below_set ?_ GE396.out) | exact HB.out)⟩⟩
       rw [if_neg c39] at H
       exact absurd H (by simp)
      replace c38 := Bool.eq_false_iff.mpr c38
      subst c38
      have H1 : (laws_FnPlanMakeAlone.l0 k2 t389 t400 false (wrap64 (x10_2 + 1)) t392 t393) = some r := by rw [if_neg (show ¬ (false = true) by decide)] at H; exact H
      clear H
      have H := H1
      clear H1
      have H' := Aside0.mk H
      clear H
      go_wp2
      repeat (go_quiet (fail); try go_wp2)
      go_roundg k2
      case measure => have := HJ5.out; have := HK2.out; omega
      case rel => exact ⟨(false), (wrap64 (x10_2 + 1)), (by first | rfl | (simp; done) | (simp [*]; done)), (by first | rfl | (simp; done) | (simp [*]; done)), H', ⟨by have := HJ5.out; have := HK2.out; omega⟩, ⟨by (with_reducible repeat (first | apply Kd.S_alloc | apply Kd.S_drewN | apply Kd.S_drew)); exact HO_3.out⟩, ⟨by (with_reducible repeat (first | apply Kd.R_alloc | apply Kd.R_drewN | apply Kd.R_drew)); exact HO_397001.out⟩, ⟨by (with_reducible repeat (first | refine blk_drewN ?_ _ | refine blk_drew ?_ | refine blk_alloc ?_ _)); exact BK396.out⟩, ⟨by repeat (first | (with_reducible first | exact HB.out | apply below_alloc | apply pw_below_drewN | apply below_drew1 | refine below_set ?_ GE396.out) | exact HB.out)⟩⟩
     rw [if_neg c37] at H
     have c37b0 : decide (x10_2 < (t389.length : Int)) = false := decide_eq_false c37
     clear c37
     obtain rfl := Option.some.inj H
     go_wp2
     repeat (go_quiet (fail); try go_wp2)
     go_ret
     exact ⟨by first | rfl | (simp [errW_none, errW_some] <;> rfl) | (simp [*, errW_none, errW_some] <;> rfl), by repeat (first | (with_reducible first | exact HB.out | apply below_alloc | apply pw_below_drewN | apply below_drew1 | refine below_set ?_ GE396.out) | exact HB.out)⟩

/-- THE ONE PURE STATEMENT of laws_FnPlanMakeAlone: yours. -/
def laws_FnPlanMakeAlone.Pure : Prop := ∀ (l0 : List Int), l0.length ≤ maxLen → l0.length * 1 ≤ 140737488351232 → (∀ x ∈ l0, (Lit.int .u8 x).wf = true) → ∃ k, laws_FnPlanMakeAlone.f k l0 = some true
theorem laws_FnPlanMakeAlone.walk (P : laws_FnPlanMakeAlone.Pure) (a0 : Option Addr) (len0 cap0 : Nat) (z0 : List Int) (w : World) (w0 : (a0 = none ∧ len0 = 0 ∧ cap0 = 0 ∧ z0 = []) ∨ ∃ x, a0 = some x ∧ len0 ≤ cap0 ∧ cap0 ≤ maxLen ∧ z0.length = cap0 ∧ (∀ i, i < z0.length → w.cell? (x.add i) = some (.int .u8 (z0.getD i 0))) ∧ ∀ n ∈ z0, (Lit.int .u8 n).wf = true) (y0 : len0 * 1 ≤ 140737488351232) :
    Calls Try.prog 4 #[.slice a0 len0 cap0] w fun e w' => e = .returned (.bool true) ∧ Below w.heap.size w w' := by
 obtain ⟨l0, rfl, hr0, hm0, hw0, hc0⟩ := ReadsInt.ofRowC w0
 obtain ⟨k, h⟩ := P l0 hm0 y0 hw0
 refine (laws_FnPlanMakeAlone.calls k _ _ l0 true w (Kd.C_of_reads (d := (0 : Int)) (h1 := fun _ => rfl) hr0) hc0 h).mono ?_
 rintro e w' ⟨rfl, hd⟩
 exact ⟨rfl, hd⟩

end Go.Proofs.Ytcglfapodhcfeaa.PPm
