/- Written by the session's own driver (wip/tools/gprint.sh) over the kit's printing program: the machine side of a group of laws. Not trusted: the kernel checks it. -/
import Derived.Test.YtcglfapodhcfeaaVdPPmx0
import Derived.Test.YtcglfapodhcfeaaVdPPmx2
import Derived.Test.YtcglfapodhcfeaaVdPPmx9
import Derived.Test.YtcglfapodhcfeaaVdPPmx13
import Derived.Test.YtcglfapodhcfeaaVdPPmx14
import Derived.Test.YtcglfapodhcfeaaVdPPmx16
import Derived.Test.YtcglfapodhcfeaaVdPPmx20
namespace Go.Proofs.Ytcglfapodhcfeaa.PPm
open Go.RowKit Go.Proofs.YtcglfapodhcfeaaW.PrintWords Go.Proofs.YtcglfapodhcfeaaW.PrintLast Go.Proofs.YtcglfapodhcfeaaW.PrintMore
attribute [local go_sem] max2_int min2_int max_two min_two max_three min_three max_four min_four   -- for this text's walks alone
set_option linter.unusedVariables false
set_option linter.unusedSimpArgs false

/-! ### laws_FnPlanMakeWork: function 6 -/
def laws_FnPlanMakeWork.j0 : Nat → List (S39) → List Int → Bool → List Int → Bool → Bool → Int → List Int → Option (Bool)
 | 0, _, _, _, _, _, _, _, _ => none
 | k + 1, x3, x5, x6, x7, x8, x41, x468000, x468001 => if x41 = true then (if (x6 == x8) = true then ((laws_sameInts.f k x5 x7).bind fun t477 => (some t477)) else (some false)) else ((impl_PlanEnd.f k x3 x5).bind fun t478 => ((impl_StepsWork.f k x3).bind fun t479 => (some (decide ((wrap64 (t478 * x468000)) ≥ t479)))))
def laws_FnPlanMakeWork.f (k : Nat) (l0 : List Int) : Option (Bool) := if (l0.length : Int) > 1048576 then (some true) else ((spec_DrawPlanMake.f k l0).bind fun bt460 => ((impl_PlanMake.f k bt460.1 bt460.2.1 bt460.2.2).bind fun bt468 => ((spec_PlanMake.f k bt460.1 bt460.2.1 bt460.2.2).bind fun bt472 => (if (bt468.2 != bt472.2) = true then (laws_FnPlanMakeWork.j0 k bt460.1 bt468.1 bt468.2 bt472.1 bt472.2 true bt460.2.1 bt460.2.2) else ((laws_sameInts.f k bt468.1 bt472.1).bind fun t476 => (if t476 = true then (laws_FnPlanMakeWork.j0 k bt460.1 bt468.1 bt468.2 bt472.1 bt472.2 (!bt468.2) bt460.2.1 bt460.2.2) else (laws_FnPlanMakeWork.j0 k bt460.1 bt468.1 bt468.2 bt472.1 bt472.2 true bt460.2.1 bt460.2.2)))))))
theorem laws_FnPlanMakeWork.mono_l : ∀ k, (∀ y0 y1 y2 y3 y4 y5 y6 y7, LeO (laws_FnPlanMakeWork.j0 k y0 y1 y2 y3 y4 y5 y6 y7) (laws_FnPlanMakeWork.j0 (k + 1) y0 y1 y2 y3 y4 y5 y6 y7))
 | 0 => fun _ _ _ _ _ _ _ _ r h => by simp [laws_FnPlanMakeWork.j0] at h
 | k + 1 => by
  have ih0 := laws_FnPlanMakeWork.mono_l k
  intro y0 y1 y2 y3 y4 y5 y6 y7
  unfold laws_FnPlanMakeWork.j0
  repeat' first
  | (with_reducible exact ih0 _ _ _ _ _ _ _ _)
  | (with_reducible exact impl_PlanEnd.mono _ _ _)
  | (with_reducible exact impl_PlanMake.mono _ _ _ _)
  | (with_reducible exact impl_StepsWork.mono _ _)
  | (with_reducible exact laws_sameInts.mono _ _ _)
  | (with_reducible exact spec_DrawPlanMake.mono _ _)
  | (with_reducible exact spec_PlanMake.mono _ _ _ _)
  | (with_reducible exact LeO.refl _)
  | (with_reducible exact LeO.none _)
  | (with_reducible refine LeO.ite ?_ ?_)
  | (with_reducible refine LeO.bind ?_ (fun _ => ?_))
  | exact ih0 _ _ _ _ _ _ _ _
  | exact impl_PlanEnd.mono _ _ _
  | exact impl_PlanMake.mono _ _ _ _
  | exact impl_StepsWork.mono _ _
  | exact laws_sameInts.mono _ _ _
  | exact spec_DrawPlanMake.mono _ _
  | exact spec_PlanMake.mono _ _ _ _
  | exact LeO.none _
  | refine LeO.ite ?_ ?_
  | refine LeO.bind ?_ (fun _ => ?_)
theorem laws_FnPlanMakeWork.mono : ∀ a0 k, LeO (laws_FnPlanMakeWork.f k a0) (laws_FnPlanMakeWork.f (k + 1) a0) := by
 intro a0 k
 have ih0 := laws_FnPlanMakeWork.mono_l k
 unfold laws_FnPlanMakeWork.f
 repeat' first
  | (with_reducible exact ih0 _ _ _ _ _ _ _ _)
  | (with_reducible exact impl_PlanEnd.mono _ _ _)
  | (with_reducible exact impl_PlanMake.mono _ _ _ _)
  | (with_reducible exact impl_StepsWork.mono _ _)
  | (with_reducible exact laws_sameInts.mono _ _ _)
  | (with_reducible exact spec_DrawPlanMake.mono _ _)
  | (with_reducible exact spec_PlanMake.mono _ _ _ _)
  | (with_reducible exact LeO.refl _)
  | (with_reducible exact LeO.none _)
  | (with_reducible refine LeO.ite ?_ ?_)
  | (with_reducible refine LeO.bind ?_ (fun _ => ?_))
  | exact ih0 _ _ _ _ _ _ _ _
  | exact impl_PlanEnd.mono _ _ _
  | exact impl_PlanMake.mono _ _ _ _
  | exact impl_StepsWork.mono _ _
  | exact laws_sameInts.mono _ _ _
  | exact spec_DrawPlanMake.mono _ _
  | exact spec_PlanMake.mono _ _ _ _
  | exact LeO.none _
  | refine LeO.ite ?_ ?_
  | refine LeO.bind ?_ (fun _ => ?_)
def laws_FnPlanMakeWork.T8 : Bool × List (List Nat × List Nat) := (true, [([], []), ([], []), ([0, 1], [0, 1]), ([], []), ([3], [3]), ([2, 4], [2, 4]), ([], []), ([6, 2], [6]), ([5, 7], [5, 7]), ([8, 7, 0, 1, 2, 3, 4, 5, 6, 7, 8], [8])])
def laws_FnPlanMakeWork.B8 : List Nat := [0, 0, 3, 0, 8, 31, 0, 71, 255, 511]
theorem laws_FnPlanMakeWork.tab8 : rtab .any (opsOf Try.f6 8) = laws_FnPlanMakeWork.T8 := by kernel_rfl
theorem laws_FnPlanMakeWork.bits8 : waitsOk laws_FnPlanMakeWork.T8.2 laws_FnPlanMakeWork.B8 = true := by kernel_rfl
set_option maxHeartbeats 8000000 in
set_option maxRecDepth 100000 in
theorem laws_FnPlanMakeWork.calls (k : Nat) (A0 : Option Addr) (c0 : Nat) (l0 : List Int) (r : Bool) (w : World) (hr0 : Kd.C (Kd.int .u8) w A0 l0.length l0) (hc0 : l0.length ≤ c0) (h : laws_FnPlanMakeWork.f k l0 = some r) :
    Calls Try.prog 6 #[.slice A0 l0.length c0] w fun e w' => e = .returned (.bool r) ∧ Below w.heap.size w w' := by
 have hu26 := Try.underlying26
 have HR0 := Aside0.mk hr0
 have HC0 := Aside0.mk hc0
 clear hr0 hc0
 have HB := Aside0.mk (Below.refl w.heap.size w)
 have H : (if (l0.length : Int) > 1048576 then (some true) else ((spec_DrawPlanMake.f k l0).bind fun bt460 => ((impl_PlanMake.f k bt460.1 bt460.2.1 bt460.2.2).bind fun bt468 => ((spec_PlanMake.f k bt460.1 bt460.2.1 bt460.2.2).bind fun bt472 => (if (bt468.2 != bt472.2) = true then (laws_FnPlanMakeWork.j0 k bt460.1 bt468.1 bt468.2 bt472.1 bt472.2 true bt460.2.1 bt460.2.2) else ((laws_sameInts.f k bt468.1 bt472.1).bind fun t476 => (if t476 = true then (laws_FnPlanMakeWork.j0 k bt460.1 bt468.1 bt468.2 bt472.1 bt472.2 (!bt468.2) bt460.2.1 bt460.2.2) else (laws_FnPlanMakeWork.j0 k bt460.1 bt468.1 bt468.2 bt472.1 bt472.2 true bt460.2.1 bt460.2.2)))))))) = some r := h
 clear h
 by_cases c2 : (l0.length : Int) > 1048576
 ·rw [if_pos c2] at H
  have c2b0 : decide (1048576 < (l0.length : Int)) = true := decide_eq_true c2
  have c2b1 : decide (1048576 < l0.length) = true := decide_eq_true (by omega)
  clear c2
  obtain rfl := Option.some.inj H
  go_enter Try.func6, Try.ntmps6
  go_wp2
  go_ret
  exact ⟨by first | rfl | (simp [errW_none, errW_some] <;> rfl) | (simp [*, errW_none, errW_some] <;> rfl), bel HB.out⟩
 rw [if_neg c2] at H
 have c2b0 : decide (1048576 < (l0.length : Int)) = false := decide_eq_false c2
 have c2b1 : decide (1048576 < l0.length) = false := decide_eq_false (by omega)
 clear c2
 replace H := Option.bind_eq_some_iff.mp H
 obtain ⟨⟨t460, t463, t464⟩, A30, H⟩ := H
 replace H : ((impl_PlanMake.f k t460 t463 t464).bind fun bt468 => ((spec_PlanMake.f k t460 t463 t464).bind fun bt472 => (if (bt468.2 != bt472.2) = true then (laws_FnPlanMakeWork.j0 k t460 bt468.1 bt468.2 bt472.1 bt472.2 true t463 t464) else ((laws_sameInts.f k bt468.1 bt472.1).bind fun t476 => (if t476 = true then (laws_FnPlanMakeWork.j0 k t460 bt468.1 bt468.2 bt472.1 bt472.2 (!bt468.2) t463 t464) else (laws_FnPlanMakeWork.j0 k t460 bt468.1 bt468.2 bt472.1 bt472.2 true t463 t464)))))) = some r := H
 have A3 := Aside0.mk A30
 clear A30
 replace H := Option.bind_eq_some_iff.mp H
 obtain ⟨⟨t468, t471⟩, A40, H⟩ := H
 replace H : ((spec_PlanMake.f k t460 t463 t464).bind fun bt472 => (if (t471 != bt472.2) = true then (laws_FnPlanMakeWork.j0 k t460 t468 t471 bt472.1 bt472.2 true t463 t464) else ((laws_sameInts.f k t468 bt472.1).bind fun t476 => (if t476 = true then (laws_FnPlanMakeWork.j0 k t460 t468 t471 bt472.1 bt472.2 (!t471) t463 t464) else (laws_FnPlanMakeWork.j0 k t460 t468 t471 bt472.1 bt472.2 true t463 t464))))) = some r := H
 have A4 := Aside0.mk A40
 clear A40
 replace H := Option.bind_eq_some_iff.mp H
 obtain ⟨⟨t472, t475⟩, A50, H⟩ := H
 replace H : (if (t471 != t475) = true then (laws_FnPlanMakeWork.j0 k t460 t468 t471 t472 t475 true t463 t464) else ((laws_sameInts.f k t468 t472).bind fun t476 => (if t476 = true then (laws_FnPlanMakeWork.j0 k t460 t468 t471 t472 t475 (!t471) t463 t464) else (laws_FnPlanMakeWork.j0 k t460 t468 t471 t472 t475 true t463 t464)))) = some r := H
 have A5 := Aside0.mk A50
 clear A50
 have HC6 := Aside0.mk H
 clear H
 go_enter Try.func6, Try.ntmps6
 go_upto_region 6 with (first | ((with_reducible refine gate_callee (f := 7) rfl ?_); refine goesL_ (some 14) rfl rfl Try.func7 (by kernel_rfl) rfl #[.slice A0 l0.length c0] rfl (by (try simp only [List.map_toArray, List.map_cons, List.map_nil]); first | done | rfl | (simp only [List.length_drop, List.length_take]; rfl)) ?_; (with_reducible refine (spec_DrawPlanMake.calls k _ _ l0 t460 t463 t464 _ ?side1 ?side2 A3.out).mono ?_); (case side1 => repeat (first | exact HR0.out | (with_reducible refine Kd.C_alloc ?_ _) | (with_reducible refine Kd.C_drewN ?_ _) | (with_reducible refine Kd.C_drew ?_))); (case side2 => exact HC0.out); rintro e w7 ⟨v461, v465, rfl, ho0, ho1, hb⟩; refine ⟨_, rfl, ?_⟩; have n0_ := Aside0.mk (Kd.S_lower ho0 (below_size (bel HB.out))); have n1_ := Aside0.mk (Kd.R_lower ho1 (below_size (bel HB.out))); have n2_ := Aside0.mk (below_step (bel HB.out) hb); clear HB; have HO462 := n0_; have HO466 := n1_; have HB := n2_; clear n0_ n1_ n2_; (try clear hb); (try clear hb2); (try clear hk); (try clear hi); (try clear ho0); (try clear ho1)) | ((with_reducible refine gate_dst (N := 4) rfl ?_); refine box_event ?hg (N := 4) ?hd (cs := #[.int .i64 0, .slice none 0 0]) (t := 26) ?hr ?_; (case hd => rfl); (case hg => rfl); (case hr => first | (go_simp; done) | (go_simp; rfl)); intro gb467 hg w8 hbox hb; have n0_ := Aside0.mk (Kd.S_below (by (with_reducible repeat (first | apply Kd.S_alloc | apply Kd.S_drewN | apply Kd.S_drew)); exact HO462.out) hb); have n1_ := Aside0.mk (Kd.R_below (rup HO466.out) hb); have n2_ := Aside0.mk (below_step (bel HB.out) hb); have n3_ := Aside0.mk (hbox); have n4_ := Aside0.mk ((by rw [hg]; exact (below_size (bel HB.out)) : w.heap.size ≤ gb467)); have n5_ := Aside0.mk ((by rw [hg]; exact (below_size (bel HB.out)) : w.heap.size ≤ gb467)); clear HO462; clear HO466; clear HB; have HO462 := n0_; have HO466 := n1_; have HB := n2_; have BK467 := n3_; have GW467 := n4_; have GE467 := n5_; clear n0_ n1_ n2_ n3_ n4_ n5_; clear hb hbox hg; have hcz9_0 : w8.cell? ⟨gb467, 0, none⟩ = some (.int .i64 0) := (blk_cell BK467.out 0).trans rfl; have hcz9_1 : w8.cell? ⟨gb467, 1, none⟩ = some (.slice none 0 0) := (blk_cell BK467.out 1).trans rfl; have hfz9_0 := blk_frozen BK467.out 0; have hfz9_1 := blk_frozen BK467.out 1; obtain ⟨Ao10, co10, eo10⟩ := Kd.R_slice HO466.out; subst eo10; obtain ⟨Ao11, co11, eo11⟩ := Kd.S_slice HO462.out; subst eo11) | ((with_reducible refine gate_callee (f := 8) rfl ?_); refine goesL_ (some 20) rfl rfl Try.func8 (by kernel_rfl) rfl #[.slice Ao11 t460.length co11, .agg #[.int .i64 t463, .slice Ao10 t464.length co10]] rfl (by (try simp only [List.map_toArray, List.map_cons, List.map_nil]); first | done | rfl | (simp only [List.length_drop, List.length_take]; rfl)) ?_; (with_reducible refine (impl_PlanMake.calls k _ _ t460 t463 _ _ t464 t468 t471 _ ?side1 ?side2 ?side3 ?side4 A4.out).mono ?_); (case side1 => refine (Kd.S_reads' (e := 39) (base := w.heap.size) (ok := fun k_ => some k_ ≠ (.slice Ao10 t464.length co10 : Value).ownBlock) (n := t460.length) (c := co11) ?_).2.2; exact (by (with_reducible repeat (first | apply Kd.S_alloc | apply Kd.S_drewN | apply Kd.S_drew)); exact (Kd.S_mono (Kd.S_far (p := ⟨gb467, 1, none⟩) (Kd.S_far (p := ⟨gb467, 0, none⟩) (Kd.S_types HO462.out BK467.out (by decide)) (fun _ hk => hk.2) (.int .i64 t463)) (fun _ hk => hk.2) (.slice Ao10 t464.length co10)) (fun _ h_ => h_.1)))); (case side2 => exact (Kd.S_reads' HO462.out).2.1); (case side3 => refine (Kd.R_reads' (e := 3) (base := w.heap.size) (ok := fun k_ => True) (n := t464.length) (c := co10) ?_).2.2; exact (by (with_reducible repeat (first | apply Kd.R_alloc | apply Kd.R_drewN | apply Kd.R_drew)); exact (Kd.R_mono (Kd.R_far (p := ⟨gb467, 1, none⟩) (Kd.R_far (p := ⟨gb467, 0, none⟩) (Kd.R_types HO466.out BK467.out (by decide)) (fun _ hk => hk.2) (.int .i64 t463)) (fun _ hk => hk.2) (.slice Ao10 t464.length co10)) (fun _ h_ => h_.1)))); (case side4 => exact (Kd.R_reads' HO466.out).2.1); rintro e w12 ⟨v469, rfl, ho0, hb⟩; refine ⟨_, rfl, ?_⟩; have n0_ := Aside0.mk (Kd.S_elder' (by (with_reducible repeat (first | apply Kd.S_alloc | apply Kd.S_drewN | apply Kd.S_drew)); exact (Kd.S_mono (Kd.S_far (p := ⟨gb467, 1, none⟩) (Kd.S_far (p := ⟨gb467, 0, none⟩) (Kd.S_types HO462.out BK467.out (by decide)) (fun _ hk => hk.2) (.int .i64 t463)) (fun _ hk => hk.2) (.slice Ao10 t464.length co10)) (fun _ h_ => h_.1))) (Kd.R_base ho0) hb); have n1_ := Aside0.mk (Kd.R_elder' (by (with_reducible repeat (first | apply Kd.R_alloc | apply Kd.R_drewN | apply Kd.R_drew)); exact (Kd.R_mono (Kd.R_far (p := ⟨gb467, 1, none⟩) (Kd.R_far (p := ⟨gb467, 0, none⟩) (Kd.R_types HO466.out BK467.out (by decide)) (fun _ hk => hk.2) (.int .i64 t463)) (fun _ hk => hk.2) (.slice Ao10 t464.length co10)) (fun _ h_ => h_.1))) (Kd.R_base ho0) hb); have n2_ := Aside0.mk (Kd.R_lower (Kd.R_new' ho0 (Kd.R_lt (by (with_reducible repeat (first | apply Kd.R_alloc | apply Kd.R_drewN | apply Kd.R_drew)); exact (Kd.R_mono (Kd.R_far (p := ⟨gb467, 1, none⟩) (Kd.R_far (p := ⟨gb467, 0, none⟩) (Kd.R_types HO466.out BK467.out (by decide)) (fun _ hk => hk.2) (.int .i64 t463)) (fun _ hk => hk.2) (.slice Ao10 t464.length co10)) (fun _ h_ => h_.1))))) (below_size (by repeat (first | (with_reducible first | exact HB.out | apply below_alloc | apply pw_below_drewN | apply below_drew1 | refine below_set ?_ GE467.out) | exact HB.out)))); have n3_ := Aside0.mk (blk_below (g := gb467) (o := .cells #[.int .i64 t463, .slice Ao10 t464.length co10] 26 (0, 0)) (by (with_reducible repeat (first | refine blk_drewN ?_ _ | refine blk_drew ?_ | refine blk_alloc ?_ _)); refine blk_put (cs := #[.int .i64 t463, .slice none 0 0]) ?_ 1 _ rfl; (with_reducible repeat (first | refine blk_drewN ?_ _ | refine blk_drew ?_ | refine blk_alloc ?_ _)); refine blk_put (cs := #[.int .i64 0, .slice none 0 0]) ?_ 0 _ rfl; (with_reducible repeat (first | refine blk_drewN ?_ _ | refine blk_drew ?_ | refine blk_alloc ?_ _)); exact BK467.out) hb); have n4_ := Aside0.mk (below_step (by repeat (first | (with_reducible first | exact HB.out | apply below_alloc | apply pw_below_drewN | apply below_drew1 | refine below_set ?_ GE467.out) | exact HB.out)) hb); clear HO462; clear HO466; clear BK467; clear HB; have HO462 := n0_; have HO466 := n1_; have HO470 := n2_; have BK467 := n3_; have HB := n4_; clear n0_ n1_ n2_ n3_ n4_; (try clear hb); (try clear hb2); (try clear hk); (try clear hi); (try clear ho0); have hcz13_0 : w12.cell? ⟨gb467, 0, none⟩ = some (.int .i64 t463) := (blk_cell BK467.out 0).trans rfl; have hcz13_1 : w12.cell? ⟨gb467, 1, none⟩ = some (.slice Ao10 t464.length co10) := (blk_cell BK467.out 1).trans rfl; have hfz13_0 := blk_frozen BK467.out 0; have hfz13_1 := blk_frozen BK467.out 1) | ((with_reducible refine gate_callee (f := 9) rfl ?_); refine goesL_ (some 26) rfl rfl Try.func9 (by kernel_rfl) rfl #[.slice Ao11 t460.length co11, .agg #[.int .i64 t463, .slice Ao10 t464.length co10]] rfl (by (try simp only [List.map_toArray, List.map_cons, List.map_nil]); first | done | rfl | (simp only [List.length_drop, List.length_take]; rfl)) ?_; (with_reducible refine (spec_PlanMake.calls k _ _ t460 t463 _ _ t464 t472 t475 _ ?side1 ?side2 ?side3 ?side4 A5.out).mono ?_); (case side1 => repeat (first | exact (Kd.S_reads' HO462.out).2.2 | (with_reducible refine Kd.C_alloc ?_ _) | (with_reducible refine Kd.C_drewN ?_ _) | (with_reducible refine Kd.C_drew ?_))); (case side2 => exact (Kd.S_reads' HO462.out).2.1); (case side3 => exact cup (Kd.R_reads' HO466.out).2.2); (case side4 => exact (Kd.R_reads' HO466.out).2.1); rintro e w14 ⟨v473, rfl, ho0, hb⟩; refine ⟨_, rfl, ?_⟩; have n0_ := Aside0.mk (Kd.S_elder' (by (with_reducible repeat (first | apply Kd.S_alloc | apply Kd.S_drewN | apply Kd.S_drew)); exact HO462.out) (Kd.R_base ho0) hb); have n1_ := Aside0.mk (Kd.R_elder' (rup HO466.out) (Kd.R_base ho0) hb); have n2_ := Aside0.mk (Kd.R_elder' (rup HO470.out) (Kd.R_base ho0) hb); have n3_ := Aside0.mk (Kd.R_lower (Kd.R_new' (Kd.R_new' ho0 (Kd.R_lt (rup HO466.out))) (Kd.R_lt (rup HO470.out))) (below_size (by repeat (first | (with_reducible first | exact HB.out | apply below_alloc | apply pw_below_drewN | apply below_drew1 | refine below_set ?_ GE467.out) | exact HB.out)))); have n4_ := Aside0.mk (blk_below (g := gb467) (o := .cells #[.int .i64 t463, .slice Ao10 t464.length co10] 26 (0, 0)) (bup BK467.out) hb); have n5_ := Aside0.mk (below_step (by repeat (first | (with_reducible first | exact HB.out | apply below_alloc | apply pw_below_drewN | apply below_drew1 | refine below_set ?_ GE467.out) | exact HB.out)) hb); clear HO462; clear HO466; clear HO470; clear BK467; clear HB; have HO462 := n0_; have HO466 := n1_; have HO470 := n2_; have HO474 := n3_; have BK467 := n4_; have HB := n5_; clear n0_ n1_ n2_ n3_ n4_ n5_; (try clear hb); (try clear hb2); (try clear hk); (try clear hi); (try clear ho0)))
 (try simp only [Act.put, List.setIfInBounds_toArray, List.set_cons_zero, List.set_cons_succ])
 go_cut [41] (fun v41 wc => ∃ (kq : Nat) (x41_5 : Bool), v41 = .bool x41_5 ∧ Aside0 (laws_FnPlanMakeWork.j0 kq t460 t468 t471 t472 t475 x41_5 t463 t464 = some r) ∧ Aside0 (kq ≤ k) ∧ Aside0 (Kd.S k39 39 wc w.heap.size (fun k_ => some k_ ≠ (v469 : Value).ownBlock ∧ some k_ ≠ (v473 : Value).ownBlock ∧ some k_ ≠ ((.slice Ao10 t464.length co10) : Value).ownBlock) (.slice Ao11 t460.length co11) t460) ∧ Aside0 (Kd.R (Kd.int .i64) 3 wc w.heap.size (fun k_ => some k_ ≠ (v473 : Value).ownBlock ∧ some k_ ≠ ((.slice Ao10 t464.length co10) : Value).ownBlock) v469 t468) ∧ Aside0 (Kd.R (Kd.int .i64) 3 wc w.heap.size (fun k_ => some k_ ≠ (v469 : Value).ownBlock ∧ some k_ ≠ ((.slice Ao10 t464.length co10) : Value).ownBlock) v473 t472) ∧ Aside0 (Kd.R (Kd.int .i64) 3 wc w.heap.size (fun k_ => some k_ ≠ (v469 : Value).ownBlock ∧ some k_ ≠ (v473 : Value).ownBlock) (.slice Ao10 t464.length co10) t464) ∧ Aside0 (wc.heap[gb467]? = some (.cells #[.int .i64 t463, (.slice Ao10 t464.length co10)] 26 (0, 0))) ∧ Aside0 (Below w.heap.size w wc))
 case first =>
  have H := HC6.out
  clear HC6
  by_cases c15 : (t471 != t475) = true
  ·rw [if_pos c15] at H
   have c15b0 : (t471 != t475) = true := c15
   (try (have c15b1 : decide (t471 = t475) = false := by simpa using c15))
   (try (have c15b2 : (t471 == t475) = false := by simpa using c15))
   (try (have c15b3 : ¬ (t471 = t475) := by simpa using c15))
   clear c15
   (first | rw [c15b0] | (simp only [i64_w, i32_w]; rw [c15b0]) | skip)
   have H' := Aside0.mk H
   clear H
   go_wp2
   go_meet
   case rel => exact ⟨_, (true), (by first | rfl | (simp; done) | (simp [*]; done)), H', ⟨by first | omega | exact Nat.le_refl _⟩, ⟨by (with_reducible repeat (first | apply Kd.S_alloc | apply Kd.S_drewN | apply Kd.S_drew)); exact Kd.S_mono HO462.out (fun _ hk => ⟨hk.1.2, ⟨hk.2, hk.1.1⟩⟩)⟩, ⟨by (with_reducible repeat (first | apply Kd.R_alloc | apply Kd.R_drewN | apply Kd.R_drew)); exact Kd.R_mono HO470.out (fun _ hk => ⟨hk.2, hk.1.2⟩)⟩, ⟨by (with_reducible repeat (first | apply Kd.R_alloc | apply Kd.R_drewN | apply Kd.R_drew)); exact Kd.R_mono HO474.out (fun _ hk => ⟨hk.2, hk.1.2⟩)⟩, ⟨by (with_reducible repeat (first | apply Kd.R_alloc | apply Kd.R_drewN | apply Kd.R_drew)); exact Kd.R_mono HO466.out (fun _ hk => ⟨hk.1.2, hk.2⟩)⟩, ⟨by (with_reducible repeat (first | refine blk_drewN ?_ _ | refine blk_drew ?_ | refine blk_alloc ?_ _)); exact BK467.out⟩, ⟨by repeat (first | (with_reducible first | exact HB.out | apply below_alloc | apply pw_below_drewN | apply below_drew1 | refine below_set ?_ GE467.out) | exact HB.out)⟩⟩
  rw [if_neg c15] at H
  have c15b0 : (t471 != t475) = false := by simpa using c15
  (try (have c15b1 : decide (t471 = t475) = true := by simpa using c15))
  (try (have c15b2 : (t471 == t475) = true := by simpa using c15))
  clear c15
  (first | rw [c15b0] | (simp only [i64_w, i32_w]; rw [c15b0]) | skip)
  replace H := Option.bind_eq_some_iff.mp H
  obtain ⟨t476, A160, H⟩ := H
  replace H : (if t476 = true then (laws_FnPlanMakeWork.j0 k t460 t468 t471 t472 t475 (!t471) t463 t464) else (laws_FnPlanMakeWork.j0 k t460 t468 t471 t472 t475 true t463 t464)) = some r := H
  have A16 := Aside0.mk A160
  clear A160
  by_cases c17 : t476 = true
  ·subst c17
   have H1 : (laws_FnPlanMakeWork.j0 k t460 t468 t471 t472 t475 (!t471) t463 t464) = some r := by rw [if_pos rfl] at H; exact H
   clear H
   have H := H1
   clear H1
   have H' := Aside0.mk H
   clear H
   obtain ⟨Ao18, co18, eo18⟩ := Kd.R_slice HO470.out
   subst eo18
   obtain ⟨Ao19, co19, eo19⟩ := Kd.R_slice HO474.out
   subst eo19
   go_wp2_with (first | (go_at_call 10; (with_reducible refine (laws_sameInts.calls k _ _ t468 _ _ t472 true _ ?side1 ?side2 ?side3 ?side4 A16.out).mono ?_); (case side1 => exact cup (Kd.R_reads' HO470.out).2.2); (case side2 => exact (Kd.R_reads' HO470.out).2.1); (case side3 => exact cup (Kd.R_reads' HO474.out).2.2); (case side4 => exact (Kd.R_reads' HO474.out).2.1); rintro e w' ⟨rfl, ⟨nd, rfl⟩⟩))
   go_meet
   case rel => exact ⟨_, (!t471), (by first | rfl | (simp; done) | (simp [*]; done)), H', ⟨by first | omega | exact Nat.le_refl _⟩, ⟨by (with_reducible repeat (first | apply Kd.S_alloc | apply Kd.S_drewN | apply Kd.S_drew)); exact Kd.S_mono HO462.out (fun _ hk => ⟨hk.1.2, ⟨hk.2, hk.1.1⟩⟩)⟩, ⟨by (with_reducible repeat (first | apply Kd.R_alloc | apply Kd.R_drewN | apply Kd.R_drew)); exact Kd.R_mono HO470.out (fun _ hk => ⟨hk.2, hk.1.2⟩)⟩, ⟨by (with_reducible repeat (first | apply Kd.R_alloc | apply Kd.R_drewN | apply Kd.R_drew)); exact Kd.R_mono HO474.out (fun _ hk => ⟨hk.2, hk.1.2⟩)⟩, ⟨by (with_reducible repeat (first | apply Kd.R_alloc | apply Kd.R_drewN | apply Kd.R_drew)); exact Kd.R_mono HO466.out (fun _ hk => ⟨hk.1.2, hk.2⟩)⟩, ⟨by (with_reducible repeat (first | refine blk_drewN ?_ _ | refine blk_drew ?_ | refine blk_alloc ?_ _)); exact BK467.out⟩, ⟨by repeat (first | (with_reducible first | exact HB.out | apply below_alloc | apply pw_below_drewN | apply below_drew1 | refine below_set ?_ GE467.out) | exact HB.out)⟩⟩
  replace c17 := Bool.eq_false_iff.mpr c17
  subst c17
  have H1 : (laws_FnPlanMakeWork.j0 k t460 t468 t471 t472 t475 true t463 t464) = some r := by rw [if_neg (show ¬ (false = true) by decide)] at H; exact H
  clear H
  have H := H1
  clear H1
  have H' := Aside0.mk H
  clear H
  obtain ⟨Ao20, co20, eo20⟩ := Kd.R_slice HO470.out
  subst eo20
  obtain ⟨Ao21, co21, eo21⟩ := Kd.R_slice HO474.out
  subst eo21
  go_wp2_with (first | (go_at_call 10; (with_reducible refine (laws_sameInts.calls k _ _ t468 _ _ t472 false _ ?side1 ?side2 ?side3 ?side4 A16.out).mono ?_); (case side1 => exact cup (Kd.R_reads' HO470.out).2.2); (case side2 => exact (Kd.R_reads' HO470.out).2.1); (case side3 => exact cup (Kd.R_reads' HO474.out).2.2); (case side4 => exact (Kd.R_reads' HO474.out).2.1); rintro e w' ⟨rfl, ⟨nd, rfl⟩⟩))
  go_meet
  case rel => exact ⟨_, (true), (by first | rfl | (simp; done) | (simp [*]; done)), H', ⟨by first | omega | exact Nat.le_refl _⟩, ⟨by (with_reducible repeat (first | apply Kd.S_alloc | apply Kd.S_drewN | apply Kd.S_drew)); exact Kd.S_mono HO462.out (fun _ hk => ⟨hk.1.2, ⟨hk.2, hk.1.1⟩⟩)⟩, ⟨by (with_reducible repeat (first | apply Kd.R_alloc | apply Kd.R_drewN | apply Kd.R_drew)); exact Kd.R_mono HO470.out (fun _ hk => ⟨hk.2, hk.1.2⟩)⟩, ⟨by (with_reducible repeat (first | apply Kd.R_alloc | apply Kd.R_drewN | apply Kd.R_drew)); exact Kd.R_mono HO474.out (fun _ hk => ⟨hk.2, hk.1.2⟩)⟩, ⟨by (with_reducible repeat (first | apply Kd.R_alloc | apply Kd.R_drewN | apply Kd.R_drew)); exact Kd.R_mono HO466.out (fun _ hk => ⟨hk.1.2, hk.2⟩)⟩, ⟨by (with_reducible repeat (first | refine blk_drewN ?_ _ | refine blk_drew ?_ | refine blk_alloc ?_ _)); exact BK467.out⟩, ⟨by repeat (first | (with_reducible first | exact HB.out | apply below_alloc | apply pw_below_drewN | apply below_drew1 | refine below_set ?_ GE467.out) | exact HB.out)⟩⟩
 case rest =>
  clear HC6
  try clear c1
  try clear c2
  try clear c2b0
  try clear c2b1
  try clear p2
  try clear c6
  try clear c7
  try clear c8
  try clear c9
  try clear c15
  try clear c15b0
  try clear c15b1
  try clear c15b2
  try clear c17
  try clear hcz13_0
  try clear hcz13_1
  try clear hcz9_0
  try clear hcz9_1
  try clear hfz13_0
  try clear hfz13_1
  try clear hfz9_0
  try clear hfz9_1
  obtain ⟨kq, x41_5, rfl, HA, HJ5, HO_3, HO_5, HO_7, HO_468001, BK467, HB⟩ := hcut
  cases kq with
  | zero => exact absurd HA.out (by simp [laws_FnPlanMakeWork.j0])
  | succ kj5 =>
   have H := HA.out
   clear HA
   simp only [laws_FnPlanMakeWork.j0] at H
   by_cases c22 : x41_5 = true
   ·subst c22
    have H1 : (if (t471 == t475) = true then ((laws_sameInts.f kj5 t468 t472).bind fun t477 => (some t477)) else (some false)) = some r := by rw [if_pos rfl] at H; exact H
    clear H
    have H := H1
    clear H1
    by_cases c23 : (t471 == t475) = true
    ·rw [if_pos c23] at H
     have c23b0 : (t471 == t475) = true := c23
     (try (have c23b1 : decide (t471 = t475) = true := by simpa using c23))
     (try (have c23b2 : (t471 == t475) = true := by simpa using c23))
     clear c23
     replace H := Option.bind_eq_some_iff.mp H
     obtain ⟨t477, A240, H⟩ := H
     replace H : (some t477) = some r := H
     have A24 := Aside0.mk A240
     clear A240
     obtain rfl := Option.some.inj H
     obtain ⟨Ao25, co25, eo25⟩ := Kd.R_slice HO_5.out
     subst eo25
     obtain ⟨Ao26, co26, eo26⟩ := Kd.R_slice HO_7.out
     subst eo26
     go_wp2_with (first | (go_at_call 10; (with_reducible refine (laws_sameInts.calls kj5 _ _ t468 _ _ t472 t477 _ ?side1 ?side2 ?side3 ?side4 A24.out).mono ?_); (case side1 => exact cup (Kd.R_reads' HO_5.out).2.2); (case side2 => exact (Kd.R_reads' HO_5.out).2.1); (case side3 => exact cup (Kd.R_reads' HO_7.out).2.2); (case side4 => exact (Kd.R_reads' HO_7.out).2.1); rintro e w' ⟨rfl, ⟨nd, rfl⟩⟩))
     go_ret
     exact ⟨by first | rfl | (simp [errW_none, errW_some] <;> rfl) | (simp [*, errW_none, errW_some] <;> rfl), by repeat (first | (with_reducible first | exact HB.out | apply below_alloc | apply pw_below_drewN | apply below_drew1 | refine below_set ?_ GE467.out) | exact HB.out)⟩
    rw [if_neg c23] at H
    have c23b0 : (t471 == t475) = false := by simpa using c23
    (try (have c23b1 : decide (t471 = t475) = false := by simpa using c23))
    (try (have c23b2 : (t471 == t475) = false := by simpa using c23))
    (try (have c23b3 : ¬ (t471 = t475) := by simpa using c23))
    clear c23
    obtain rfl := Option.some.inj H
    go_wp2
    go_ret
    exact ⟨by first | rfl | (simp [errW_none, errW_some] <;> rfl) | (simp [*, errW_none, errW_some] <;> rfl), by repeat (first | (with_reducible first | exact HB.out | apply below_alloc | apply pw_below_drewN | apply below_drew1 | refine below_set ?_ GE467.out) | exact HB.out)⟩
   replace c22 := Bool.eq_false_iff.mpr c22
   subst c22
   have H1 : ((impl_PlanEnd.f kj5 t460 t468).bind fun t478 => ((impl_StepsWork.f kj5 t460).bind fun t479 => (some (decide ((wrap64 (t478 * t463)) ≥ t479))))) = some r := by rw [if_neg (show ¬ (false = true) by decide)] at H; exact H
   clear H
   have H := H1
   clear H1
   replace H := Option.bind_eq_some_iff.mp H
   obtain ⟨t478, A270, H⟩ := H
   replace H : ((impl_StepsWork.f kj5 t460).bind fun t479 => (some (decide ((wrap64 (t478 * t463)) ≥ t479)))) = some r := H
   have A27 := Aside0.mk A270
   clear A270
   replace H := Option.bind_eq_some_iff.mp H
   obtain ⟨t479, A280, H⟩ := H
   replace H : (some (decide ((wrap64 (t478 * t463)) ≥ t479))) = some r := H
   have A28 := Aside0.mk A280
   clear A280
   obtain rfl := Option.some.inj H
   try go_wp2
   have n0_ := Aside0.mk (Kd.S_drew HO_3.out)
   have n1_ := Aside0.mk (Kd.R_drew HO_5.out)
   have n2_ := Aside0.mk (Kd.R_drew HO_7.out)
   have n3_ := Aside0.mk (Kd.R_drew HO_468001.out)
   have n4_ := Aside0.mk (blk_drew BK467.out)
   have n5_ := Aside0.mk (below_drew1 HB.out)
   clear HO_3
   clear HO_5
   clear HO_7
   clear HO_468001
   clear BK467
   clear HB
   have HO_3 := n0_
   have HO_5 := n1_
   have HO_7 := n2_
   have HO_468001 := n3_
   have BK467 := n4_
   have HB := n5_
   clear n0_ n1_ n2_ n3_ n4_ n5_
   obtain ⟨Ao30, co30, eo30⟩ := Kd.R_slice HO_5.out
   (first | subst eo30 | (injection eo30 with f1_ f2_ f3_; have f4_ := f1_.symm; have f5_ := f3_.symm; clear f1_ f2_ f3_; subst f4_; subst f5_))
   refine start_ (n := 10) (S := fun w' => w'.cell? ⟨gb467, 0, none⟩ = some (.int .i64 t463) ∧ w'.cell? ⟨gb467, 1, none⟩ = some (.slice Ao10 t464.length co10)) (ds := []) #[false, false, false, false, false, false, false, false, false, false] (by kernel_rfl) rfl rfl ⟨(blk_cell BK467.out 0).trans rfl, (blk_cell BK467.out 1).trans rfl⟩ (fun hHeld => ?_); refine with_tabW laws_FnPlanMakeWork.tab8 laws_FnPlanMakeWork.bits8 (fun HT_ HW_ => ?_)
   generalize wc.drew = w29 at HO_3 HO_5 HO_7 HO_468001 BK467 HB hHeld ⊢
   refine pure_ (i := 0) (N := some 50) (v := ?_) (a' := ?_) #[true, false, false, false, false, false, false, false, false, false] rfl rfl (any_of HT_.out (by kernel_rfl)) (fun _ _ _ h => h) (Or.inl ⟨by rfl, ?_⟩) ?_ ?_
   rotate_left
   ·intro w'
    go_simp
    with_reducible rfl
   rotate_left
   ·simp only [Act.put, List.setIfInBounds_toArray, List.set_cons_zero, List.set_cons_succ, i64_w, i32_w]
    rfl
   refine pure_ (i := 1) (N := some 51) (v := ?_) (a' := ?_) #[true, true, false, false, false, false, false, false, false, false] rfl rfl (any_of HT_.out (by kernel_rfl)) (fun _ _ _ h => h) (Or.inl ⟨by rfl, ?_⟩) ?_ ?_
   rotate_left
   ·intro w'
    go_simp
    with_reducible rfl
   rotate_left
   ·simp only [Act.put, List.setIfInBounds_toArray, List.set_cons_zero, List.set_cons_succ, i64_w, i32_w]
    rfl
   refine pure_ (i := 3) (N := some 53) (v := ?_) (a' := ?_) #[true, true, false, true, false, false, false, false, false, false] rfl rfl (any_of HT_.out (by kernel_rfl)) (fun _ _ _ h => h) (Or.inl ⟨by rfl, ?_⟩) ?_ ?_
   rotate_left
   ·intro w'
    go_simp
    with_reducible rfl
   rotate_left
   ·simp only [Act.put, List.setIfInBounds_toArray, List.set_cons_zero, List.set_cons_succ, i64_w, i32_w]
    rfl
   refine pure_ (i := 6) (N := some 56) (v := ?_) (a' := ?_) #[true, true, false, true, false, false, true, false, false, false] rfl rfl (any_of HT_.out (by kernel_rfl)) (fun _ _ _ h => h) (Or.inl ⟨by rfl, ?_⟩) ?_ ?_
   rotate_left
   ·intro w'
    go_simp
    with_reducible rfl
   rotate_left
   ·simp only [Act.put, List.setIfInBounds_toArray, List.set_cons_zero, List.set_cons_succ, i64_w, i32_w]
    rfl
   refine take_ (i := 4) (N := some 54) (v := ?_) (a' := ?_) #[true, true, false, true, true, false, true, false, false, false] rfl rfl (take_ofW HT_.out HW_.out (by kernel_rfl)) (fun _ _ _ h => h) (Or.inl ⟨by rfl, ?_⟩) hHeld ?_ ?_
   rotate_left
   ·rintro w' ⟨s0, s1⟩
    go_simp
    with_reducible rfl
   rotate_left
   ·simp only [Act.put, List.setIfInBounds_toArray, List.set_cons_zero, List.set_cons_succ, i64_w, i32_w]
    rfl
   refine one_ (i := 2) (N := some 52) #[true, true, true, true, true, false, true, false, false, false] rfl rfl (one_of HT_.out (by kernel_rfl)) (by decide) (fun K hK => ?_)
   refine goes_ Try.func12 (by kernel_rfl) rfl #[.slice Ao11 t460.length co11, .slice Ao30 t468.length co30] (by rfl) rfl rfl (by (try simp only [List.map_toArray, List.map_cons, List.map_nil]); first | done | rfl | (simp only [List.length_drop, List.length_take]; rfl)) ?_
   with_reducible refine (impl_PlanEnd.calls kj5 _ _ t460 _ _ t468 t478 _ ?side1 ?side2 ?side3 ?side4 A27.out).mono ?_
   (case side1 => repeat (first | exact (Kd.S_reads' HO_3.out).2.2 | (with_reducible refine Kd.C_alloc ?_ _) | (with_reducible refine Kd.C_drewN ?_ _) | (with_reducible refine Kd.C_drew ?_)))
   (case side2 => exact (Kd.S_reads' HO_3.out).2.1)
   (case side3 => exact cup (Kd.R_reads' HO_5.out).2.2)
   (case side4 => exact (Kd.R_reads' HO_5.out).2.1)
   rintro e w31 ⟨rfl, hb⟩
   refine ⟨_, rfl, ?_⟩
   have n0_ := Aside0.mk (Kd.S_below (by (with_reducible repeat (first | apply Kd.S_alloc | apply Kd.S_drewN | apply Kd.S_drew)); exact HO_3.out) hb)
   have n1_ := Aside0.mk (Kd.R_below (rup HO_5.out) hb)
   have n2_ := Aside0.mk (Kd.R_below (rup HO_7.out) hb)
   have n3_ := Aside0.mk (Kd.R_below (rup HO_468001.out) hb)
   have n4_ := Aside0.mk (blk_below (g := gb467) (o := .cells #[.int .i64 t463, .slice Ao10 t464.length co10] 26 (0, 0)) (bup BK467.out) hb)
   have n5_ := Aside0.mk (below_step (by repeat (first | (with_reducible first | exact HB.out | apply below_alloc | apply pw_below_drewN | apply below_drew1 | refine below_set ?_ GE467.out) | exact HB.out)) hb)
   clear HO_3
   clear HO_5
   clear HO_7
   clear HO_468001
   clear BK467
   clear HB
   have HO_3 := n0_
   have HO_5 := n1_
   have HO_7 := n2_
   have HO_468001 := n3_
   have BK467 := n4_
   have HB := n5_
   clear n0_ n1_ n2_ n3_ n4_ n5_
   (try clear hb)
   (try clear hb2)
   (try clear hk)
   (try clear hi)
   refine hK.out _ _ ⟨(blk_cell BK467.out 0).trans rfl, (blk_cell BK467.out 1).trans rfl⟩ (fun hHeld => ?_)
   clear hK K
   refine norm_ (a' := ?_) ?_ ?_
   rotate_left
   ·show Act.put _ (some 52) _ = _
    simp only [Act.put, List.setIfInBounds_toArray, List.set_cons_zero, List.set_cons_succ, i64_w, i32_w]
    rfl
   refine pure_ (i := 5) (N := some 55) (v := ?_) (a' := ?_) #[true, true, true, true, true, true, true, false, false, false] rfl rfl (any_of HT_.out (by kernel_rfl)) (fun _ _ _ h => h) (Or.inl ⟨by rfl, ?_⟩) ?_ ?_
   rotate_left
   ·intro w'
    go_simp
    with_reducible rfl
   rotate_left
   ·simp only [Act.put, List.setIfInBounds_toArray, List.set_cons_zero, List.set_cons_succ, i64_w, i32_w]
    rfl
   refine one_ (i := 7) (N := some 57) #[true, true, true, true, true, true, true, true, false, false] rfl rfl (one_of HT_.out (by kernel_rfl)) (by decide) (fun K hK => ?_)
   refine goes_ Try.func16 (by kernel_rfl) rfl #[.slice Ao11 t460.length co11] (by rfl) rfl rfl (by (try simp only [List.map_toArray, List.map_cons, List.map_nil]); first | done | rfl | (simp only [List.length_drop, List.length_take]; rfl)) ?_
   with_reducible refine (impl_StepsWork.calls kj5 _ _ t460 t479 _ ?side1 ?side2 A28.out).mono ?_
   (case side1 => repeat (first | exact (Kd.S_reads' HO_3.out).2.2 | (with_reducible refine Kd.C_alloc ?_ _) | (with_reducible refine Kd.C_drewN ?_ _) | (with_reducible refine Kd.C_drew ?_)))
   (case side2 => exact (Kd.S_reads' HO_3.out).2.1)
   rintro e w32 ⟨rfl, hb⟩
   refine ⟨_, rfl, ?_⟩
   have n0_ := Aside0.mk (Kd.S_below (by (with_reducible repeat (first | apply Kd.S_alloc | apply Kd.S_drewN | apply Kd.S_drew)); exact HO_3.out) hb)
   have n1_ := Aside0.mk (Kd.R_below (rup HO_5.out) hb)
   have n2_ := Aside0.mk (Kd.R_below (rup HO_7.out) hb)
   have n3_ := Aside0.mk (Kd.R_below (rup HO_468001.out) hb)
   have n4_ := Aside0.mk (blk_below (g := gb467) (o := .cells #[.int .i64 t463, .slice Ao10 t464.length co10] 26 (0, 0)) (bup BK467.out) hb)
   have n5_ := Aside0.mk (below_step (by repeat (first | (with_reducible first | exact HB.out | apply below_alloc | apply pw_below_drewN | apply below_drew1 | refine below_set ?_ GE467.out) | exact HB.out)) hb)
   clear HO_3
   clear HO_5
   clear HO_7
   clear HO_468001
   clear BK467
   clear HB
   have HO_3 := n0_
   have HO_5 := n1_
   have HO_7 := n2_
   have HO_468001 := n3_
   have BK467 := n4_
   have HB := n5_
   clear n0_ n1_ n2_ n3_ n4_ n5_
   (try clear hb)
   (try clear hb2)
   (try clear hk)
   (try clear hi)
   refine hK.out _ _ ⟨(blk_cell BK467.out 0).trans rfl, (blk_cell BK467.out 1).trans rfl⟩ (fun hHeld => ?_)
   clear hK K
   refine norm_ (a' := ?_) ?_ ?_
   rotate_left
   ·show Act.put _ (some 57) _ = _
    simp only [Act.put, List.setIfInBounds_toArray, List.set_cons_zero, List.set_cons_succ, i64_w, i32_w]
    rfl
   refine pure_ (i := 8) (N := some 58) (v := ?_) (a' := ?_) #[true, true, true, true, true, true, true, true, true, false] rfl rfl (any_of HT_.out (by kernel_rfl)) (fun _ _ _ h => h) (Or.inl ⟨by rfl, ?_⟩) ?_ ?_
   rotate_left
   ·intro w'
    go_simp
    with_reducible rfl
   rotate_left
   ·simp only [Act.put, List.setIfInBounds_toArray, List.set_cons_zero, List.set_cons_succ, i64_w, i32_w]
    rfl
   refine pure_ (i := 9) (N := some 2) (v := ?_) (a' := ?_) #[true, true, true, true, true, true, true, true, true, true] rfl rfl (any_of HT_.out (by kernel_rfl)) (fun _ _ _ h => h) (Or.inl ⟨by rfl, ?_⟩) ?_ ?_
   rotate_left
   ·intro w'
    go_simp
    with_reducible rfl
   rotate_left
   ·simp only [Act.put, List.setIfInBounds_toArray, List.set_cons_zero, List.set_cons_succ, i64_w, i32_w]
    rfl
   refine done_ (done_of HT_.out (by kernel_rfl)) ?_
   try go_wp2
   go_ret
   exact ⟨by first | rfl | (simp [errW_none, errW_some] <;> rfl) | (simp [*, errW_none, errW_some] <;> rfl), by repeat (first | (with_reducible first | exact HB.out | apply below_alloc | apply pw_below_drewN | apply below_drew1 | refine below_set ?_ GE467.out) | exact HB.out)⟩

/-- THE ONE PURE STATEMENT of laws_FnPlanMakeWork: yours. -/
def laws_FnPlanMakeWork.Pure : Prop := ∀ (l0 : List Int), l0.length ≤ maxLen → l0.length * 1 ≤ 140737488351232 → (∀ x ∈ l0, (Lit.int .u8 x).wf = true) → ∃ k, laws_FnPlanMakeWork.f k l0 = some true
theorem laws_FnPlanMakeWork.walk (P : laws_FnPlanMakeWork.Pure) (a0 : Option Addr) (len0 cap0 : Nat) (z0 : List Int) (w : World) (w0 : (a0 = none ∧ len0 = 0 ∧ cap0 = 0 ∧ z0 = []) ∨ ∃ x, a0 = some x ∧ len0 ≤ cap0 ∧ cap0 ≤ maxLen ∧ z0.length = cap0 ∧ (∀ i, i < z0.length → w.cell? (x.add i) = some (.int .u8 (z0.getD i 0))) ∧ ∀ n ∈ z0, (Lit.int .u8 n).wf = true) (y0 : len0 * 1 ≤ 140737488351232) :
    Calls Try.prog 6 #[.slice a0 len0 cap0] w fun e w' => e = .returned (.bool true) ∧ Below w.heap.size w w' := by
 obtain ⟨l0, rfl, hr0, hm0, hw0, hc0⟩ := ReadsInt.ofRowC w0
 obtain ⟨k, h⟩ := P l0 hm0 y0 hw0
 refine (laws_FnPlanMakeWork.calls k _ _ l0 true w (Kd.C_of_reads (d := (0 : Int)) (h1 := fun _ => rfl) hr0) hc0 h).mono ?_
 rintro e w' ⟨rfl, hd⟩
 exact ⟨rfl, hd⟩

end Go.Proofs.Ytcglfapodhcfeaa.PPm
