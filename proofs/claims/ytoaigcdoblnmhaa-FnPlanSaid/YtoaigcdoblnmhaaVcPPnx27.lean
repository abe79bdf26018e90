/- Written by the session's own driver (wip/tools/gprint.sh) over the kit's printing program: the machine side of a group of laws. Not trusted: the kernel checks it. -/
import Derived.Test.YtoaigcdoblnmhaaVcPPnx0
import Derived.Test.YtoaigcdoblnmhaaVcPPnx20
import Derived.Test.YtoaigcdoblnmhaaVcPPnx23
import Derived.Test.YtoaigcdoblnmhaaVcPPnx26
namespace Go.Proofs.Ytoaigcdoblnmhaa.PPn
open Go.RowKit Go.Proofs.YtoaigcdoblnmhaaW.PrintWords Go.Proofs.YtoaigcdoblnmhaaW.PrintLast Go.Proofs.YtoaigcdoblnmhaaW.PrintMore
attribute [local go_sem] max2_int min2_int max_two min_two max_three min_three max_four min_four   -- for this text's walks alone
set_option linter.unusedVariables false
set_option linter.unusedSimpArgs false

/-! ### laws_FnPlan: function 5 -/
mutual
def laws_FnPlan.j0 : Nat → List (S31) → List Int → Bool → Bool → Bool → Option (Bool)
 | 0, _, _, _, _, _ => none
 | k + 1, x3, x5, x6, x7, x34 => if x34 = true then (some (x6 == x7)) else (laws_FnPlan.l0 k x3 x5 0)
def laws_FnPlan.l0 : Nat → List (S31) → List Int → Int → Option (Bool)
 | 0, _, _, _ => none
 | k + 1, x3, x5, x8 => if x8 < (x3.length : Int) then (laws_FnPlan.l1 k x3 x5 x8 0) else (some ((x5.length : Int) == (x3.length : Int)))
def laws_FnPlan.l1 : Nat → List (S31) → List Int → Int → Int → Option (Bool)
 | 0, _, _, _, _ => none
 | k + 1, x3, x5, x8, x9 => if 0 ≤ x8 then (if x8 < (x3.length : Int) then (if x9 < (((rd_T31 x3 x8).f3).length : Int) then (if 0 ≤ x9 then (if 0 ≤ (rd ((rd_T31 x3 x8).f3) x9) then (if (rd ((rd_T31 x3 x8).f3) x9) < (x5.length : Int) then (if (rd ((rd_T31 x3 x8).f3) x9) < (x3.length : Int) then (if x8 < (x5.length : Int) then (if (wrap64 ((rd x5 (rd ((rd_T31 x3 x8).f3) x9)) + ((rd_T31 x3 (rd ((rd_T31 x3 x8).f3) x9)).f0))) > (rd x5 x8) then (some false) else (laws_FnPlan.l1 k x3 x5 x8 (wrap64 (x9 + 1)))) else (none)) else (none)) else (none)) else (none)) else (none)) else (laws_FnPlan.l0 k x3 x5 (wrap64 (x8 + 1)))) else (none)) else (none)
end
def laws_FnPlan.f (k : Nat) (l0 : List Int) : Option (Bool) := if (l0.length : Int) > 1048576 then (some true) else ((spec_DrawPlanValid.f k l0).bind fun bt634 => ((impl_PlanValid.f k bt634.1 bt634.2.1 bt634.2.2.1 bt634.2.2.2).bind fun t645 => ((spec_PlanValid.f k bt634.1 bt634.2.1 bt634.2.2.1 bt634.2.2.2).bind fun t646 => (if (t645 != t646) = true then (laws_FnPlan.j0 k bt634.1 bt634.2.2.2 t645 t646 true) else (laws_FnPlan.j0 k bt634.1 bt634.2.2.2 t645 t646 (!t645))))))
theorem laws_FnPlan.mono_l : ∀ k, (∀ y0 y1 y2 y3 y4, LeO (laws_FnPlan.j0 k y0 y1 y2 y3 y4) (laws_FnPlan.j0 (k + 1) y0 y1 y2 y3 y4)) ∧ (∀ y0 y1 y2, LeO (laws_FnPlan.l0 k y0 y1 y2) (laws_FnPlan.l0 (k + 1) y0 y1 y2)) ∧ (∀ y0 y1 y2 y3, LeO (laws_FnPlan.l1 k y0 y1 y2 y3) (laws_FnPlan.l1 (k + 1) y0 y1 y2 y3))
 | 0 => ⟨fun _ _ _ _ _ r h => by simp [laws_FnPlan.j0] at h, fun _ _ _ r h => by simp [laws_FnPlan.l0] at h, fun _ _ _ _ r h => by simp [laws_FnPlan.l1] at h⟩
 | k + 1 => by
  obtain ⟨ih0, ih1, ih2⟩ := laws_FnPlan.mono_l k
  refine ⟨?_, ?_, ?_⟩
  ·intro y0 y1 y2 y3 y4
   unfold laws_FnPlan.j0
   repeat' first
   | (with_reducible exact ih0 _ _ _ _ _)
   | (with_reducible exact ih1 _ _ _)
   | (with_reducible exact ih2 _ _ _ _)
   | (with_reducible exact impl_PlanValid.mono _ _ _ _ _)
   | (with_reducible exact spec_DrawPlanValid.mono _ _)
   | (with_reducible exact spec_PlanValid.mono _ _ _ _ _)
   | (with_reducible exact LeO.refl _)
   | (with_reducible exact LeO.none _)
   | (with_reducible refine LeO.ite ?_ ?_)
   | (with_reducible refine LeO.bind ?_ (fun _ => ?_))
   | exact ih0 _ _ _ _ _
   | exact ih1 _ _ _
   | exact ih2 _ _ _ _
   | exact impl_PlanValid.mono _ _ _ _ _
   | exact spec_DrawPlanValid.mono _ _
   | exact spec_PlanValid.mono _ _ _ _ _
   | exact LeO.none _
   | refine LeO.ite ?_ ?_
   | refine LeO.bind ?_ (fun _ => ?_)
  ·intro y0 y1 y2
   unfold laws_FnPlan.l0
   repeat' first
   | (with_reducible exact ih0 _ _ _ _ _)
   | (with_reducible exact ih1 _ _ _)
   | (with_reducible exact ih2 _ _ _ _)
   | (with_reducible exact impl_PlanValid.mono _ _ _ _ _)
   | (with_reducible exact spec_DrawPlanValid.mono _ _)
   | (with_reducible exact spec_PlanValid.mono _ _ _ _ _)
   | (with_reducible exact LeO.refl _)
   | (with_reducible exact LeO.none _)
   | (with_reducible refine LeO.ite ?_ ?_)
   | (with_reducible refine LeO.bind ?_ (fun _ => ?_))
   | exact ih0 _ _ _ _ _
   | exact ih1 _ _ _
   | exact ih2 _ _ _ _
   | exact impl_PlanValid.mono _ _ _ _ _
   | exact spec_DrawPlanValid.mono _ _
   | exact spec_PlanValid.mono _ _ _ _ _
   | exact LeO.none _
   | refine LeO.ite ?_ ?_
   | refine LeO.bind ?_ (fun _ => ?_)
  intro y0 y1 y2 y3
  unfold laws_FnPlan.l1
  repeat' first
  | (with_reducible exact ih0 _ _ _ _ _)
  | (with_reducible exact ih1 _ _ _)
  | (with_reducible exact ih2 _ _ _ _)
  | (with_reducible exact impl_PlanValid.mono _ _ _ _ _)
  | (with_reducible exact spec_DrawPlanValid.mono _ _)
  | (with_reducible exact spec_PlanValid.mono _ _ _ _ _)
  | (with_reducible exact LeO.refl _)
  | (with_reducible exact LeO.none _)
  | (with_reducible refine LeO.ite ?_ ?_)
  | (with_reducible refine LeO.bind ?_ (fun _ => ?_))
  | exact ih0 _ _ _ _ _
  | exact ih1 _ _ _
  | exact ih2 _ _ _ _
  | exact impl_PlanValid.mono _ _ _ _ _
  | exact spec_DrawPlanValid.mono _ _
  | exact spec_PlanValid.mono _ _ _ _ _
  | exact LeO.none _
  | refine LeO.ite ?_ ?_
  | refine LeO.bind ?_ (fun _ => ?_)
theorem laws_FnPlan.mono : ∀ a0 k, LeO (laws_FnPlan.f k a0) (laws_FnPlan.f (k + 1) a0) := by
 intro a0 k
 obtain ⟨ih0, ih1, ih2⟩ := laws_FnPlan.mono_l k
 unfold laws_FnPlan.f
 repeat' first
  | (with_reducible exact ih0 _ _ _ _ _)
  | (with_reducible exact ih1 _ _ _)
  | (with_reducible exact ih2 _ _ _ _)
  | (with_reducible exact impl_PlanValid.mono _ _ _ _ _)
  | (with_reducible exact spec_DrawPlanValid.mono _ _)
  | (with_reducible exact spec_PlanValid.mono _ _ _ _ _)
  | (with_reducible exact LeO.refl _)
  | (with_reducible exact LeO.none _)
  | (with_reducible refine LeO.ite ?_ ?_)
  | (with_reducible refine LeO.bind ?_ (fun _ => ?_))
  | exact ih0 _ _ _ _ _
  | exact ih1 _ _ _
  | exact ih2 _ _ _ _
  | exact impl_PlanValid.mono _ _ _ _ _
  | exact spec_DrawPlanValid.mono _ _
  | exact spec_PlanValid.mono _ _ _ _ _
  | exact LeO.none _
  | refine LeO.ite ?_ ?_
  | refine LeO.bind ?_ (fun _ => ?_)
set_option maxHeartbeats 8000000 in
set_option maxRecDepth 100000 in
theorem laws_FnPlan.calls (k : Nat) (A0 : Option Addr) (c0 : Nat) (l0 : List Int) (r : Bool) (w : World) (hr0 : Kd.C (Kd.int .u8) w A0 l0.length l0) (hc0 : l0.length ≤ c0) (h : laws_FnPlan.f k l0 = some r) :
    Calls Try.prog 5 #[.slice A0 l0.length c0] w fun e w' => e = .returned (.bool r) ∧ Below w.heap.size w w' := by
 have hu41 := Try.underlying41
 have HR0 := Aside0.mk hr0
 have HC0 := Aside0.mk hc0
 clear hr0 hc0
 have HB := Aside0.mk (Below.refl w.heap.size w)
 have H : (if (l0.length : Int) > 1048576 then (some true) else ((spec_DrawPlanValid.f k l0).bind fun bt634 => ((impl_PlanValid.f k bt634.1 bt634.2.1 bt634.2.2.1 bt634.2.2.2).bind fun t645 => ((spec_PlanValid.f k bt634.1 bt634.2.1 bt634.2.2.1 bt634.2.2.2).bind fun t646 => (if (t645 != t646) = true then (laws_FnPlan.j0 k bt634.1 bt634.2.2.2 t645 t646 true) else (laws_FnPlan.j0 k bt634.1 bt634.2.2.2 t645 t646 (!t645))))))) = some r := h
 clear h
 by_cases c2 : (l0.length : Int) > 1048576
 ·rw [if_pos c2] at H
  have c2b0 : decide (1048576 < (l0.length : Int)) = true := decide_eq_true c2
  have c2b1 : decide (1048576 < l0.length) = true := decide_eq_true (by omega)
  clear c2
  obtain rfl := Option.some.inj H
  go_enter Try.func5, Try.ntmps5
  go_wp2
  repeat (go_quiet (fail); try go_wp2)
  go_ret
  exact ⟨by first | rfl | (simp [errW_none, errW_some] <;> rfl) | (simp [*, errW_none, errW_some] <;> rfl), bel HB.out⟩
 rw [if_neg c2] at H
 have c2b0 : decide (1048576 < (l0.length : Int)) = false := decide_eq_false c2
 have c2b1 : decide (1048576 < l0.length) = false := decide_eq_false (by omega)
 clear c2
 replace H := Option.bind_eq_some_iff.mp H
 obtain ⟨⟨t634, t637, t638, t641⟩, A30, H⟩ := H
 replace H : ((impl_PlanValid.f k t634 t637 t638 t641).bind fun t645 => ((spec_PlanValid.f k t634 t637 t638 t641).bind fun t646 => (if (t645 != t646) = true then (laws_FnPlan.j0 k t634 t641 t645 t646 true) else (laws_FnPlan.j0 k t634 t641 t645 t646 (!t645))))) = some r := H
 have A3 := Aside0.mk A30
 clear A30
 replace H := Option.bind_eq_some_iff.mp H
 obtain ⟨t645, A40, H⟩ := H
 replace H : ((spec_PlanValid.f k t634 t637 t638 t641).bind fun t646 => (if (t645 != t646) = true then (laws_FnPlan.j0 k t634 t641 t645 t646 true) else (laws_FnPlan.j0 k t634 t641 t645 t646 (!t645)))) = some r := H
 have A4 := Aside0.mk A40
 clear A40
 replace H := Option.bind_eq_some_iff.mp H
 obtain ⟨t646, A50, H⟩ := H
 replace H : (if (t645 != t646) = true then (laws_FnPlan.j0 k t634 t641 t645 t646 true) else (laws_FnPlan.j0 k t634 t641 t645 t646 (!t645))) = some r := H
 have A5 := Aside0.mk A50
 clear A50
 have HC6 := Aside0.mk H
 clear H
 go_enter Try.func5, Try.ntmps5
 go_upto_region 6 with (first | (go_at_call 24; (with_reducible refine (spec_DrawPlanValid.calls k _ _ l0 t634 t637 t638 t641 _ ?side1 ?side2 A3.out).mono ?_); (case side1 => repeat (first | exact HR0.out | (with_reducible refine Kd.C_alloc ?_ _) | (with_reducible refine Kd.C_drewN ?_ _) | (with_reducible refine Kd.C_drew ?_))); (case side2 => exact HC0.out); rintro e w7 ⟨v635, v639, v642, rfl, ho0, ho1, ho2, hb⟩; have n0_ := Aside0.mk (Kd.S_lower ho0 (below_size (bel HB.out))); have n1_ := Aside0.mk (Kd.R_lower ho1 (below_size (bel HB.out))); have n2_ := Aside0.mk (Kd.Q_lower ho2 (below_size (bel HB.out))); have n3_ := Aside0.mk (below_step (bel HB.out) hb); clear HB; have HO636 := n0_; have HO640 := n1_; have HO643 := n2_; have HB := n3_; clear n0_ n1_ n2_ n3_; (try clear hb); (try clear hb2); (try clear hk); (try clear hi); (try clear ho0); (try clear ho1); (try clear ho2)) | ((with_reducible refine gate_dst (N := 4) rfl ?_); refine box_event ?hg (N := 4) ?hd (cs := #[.int .i64 0, .slice none 0 0]) (t := 41) ?hr ?_; (case hd => rfl); (case hg => rfl); (case hr => first | (go_simp; done) | (go_simp; rfl)); intro gb644 hg w8 hbox hb; have n0_ := Aside0.mk (Kd.S_below (by (with_reducible repeat (first | apply Kd.S_alloc | apply Kd.S_drewN | apply Kd.S_drew)); exact HO636.out) hb); have n1_ := Aside0.mk (Kd.R_below (rup HO640.out) hb); have n2_ := Aside0.mk (Kd.Q_below (by (with_reducible repeat (first | apply Kd.Q_alloc | apply Kd.Q_drewN | apply Kd.Q_drew)); exact HO643.out) hb); have n3_ := Aside0.mk (below_step (bel HB.out) hb); have n4_ := Aside0.mk (hbox); have n5_ := Aside0.mk ((by rw [hg]; exact (below_size (bel HB.out)) : w.heap.size ≤ gb644)); have n6_ := Aside0.mk ((by rw [hg]; exact (below_size (bel HB.out)) : w.heap.size ≤ gb644)); clear HO636; clear HO640; clear HO643; clear HB; have HO636 := n0_; have HO640 := n1_; have HO643 := n2_; have HB := n3_; have BK644 := n4_; have GW644 := n5_; have GE644 := n6_; clear n0_ n1_ n2_ n3_ n4_ n5_ n6_; clear hb hbox hg; have hcz9_0 : w8.cell? ⟨gb644, 0, none⟩ = some (.int .i64 0) := (blk_cell BK644.out 0).trans rfl; have hcz9_1 : w8.cell? ⟨gb644, 1, none⟩ = some (.slice none 0 0) := (blk_cell BK644.out 1).trans rfl; have hfz9_0 := blk_frozen BK644.out 0; have hfz9_1 := blk_frozen BK644.out 1; obtain ⟨Ao10, co10, eo10⟩ := Kd.R_slice HO640.out; subst eo10; obtain ⟨Ao11, co11, eo11⟩ := Kd.S_slice HO636.out; subst eo11; obtain ⟨Ao12, co12, eo12, _⟩ := Kd.Q_slice HO643.out; subst eo12) | (go_at_call 20; (with_reducible refine (impl_PlanValid.calls k _ _ t634 t637 _ _ t638 _ _ t641 t645 _ ?side1 ?side2 ?side3 ?side4 ?side5 ?side6 A4.out).mono ?_); (case side1 => refine (Kd.S_reads' (e := 31) (base := w.heap.size) (ok := fun k_ => (some k_ ≠ (.slice Ao10 t638.length co10 : Value).ownBlock ∧ some k_ ≠ (.slice Ao12 t641.length co12 : Value).ownBlock)) (n := t634.length) (c := co11) ?_).2.2; exact (by (with_reducible repeat (first | apply Kd.S_alloc | apply Kd.S_drewN | apply Kd.S_drew)); exact (Kd.S_mono (Kd.S_far (p := ⟨gb644, 1, none⟩) (Kd.S_far (p := ⟨gb644, 0, none⟩) (Kd.S_types HO636.out BK644.out (by decide)) (fun _ hk => hk.2) (.int .i64 t637)) (fun _ hk => hk.2) (.slice Ao10 t638.length co10)) (fun _ h_ => h_.1)))); (case side2 => exact (Kd.S_reads' HO636.out).2.1); (case side3 => refine (Kd.R_reads' (e := 3) (base := w.heap.size) (ok := fun k_ => some k_ ≠ (.slice Ao12 t641.length co12 : Value).ownBlock) (n := t638.length) (c := co10) ?_).2.2; exact (by (with_reducible repeat (first | apply Kd.R_alloc | apply Kd.R_drewN | apply Kd.R_drew)); exact (Kd.R_mono (Kd.R_far (p := ⟨gb644, 1, none⟩) (Kd.R_far (p := ⟨gb644, 0, none⟩) (Kd.R_types HO640.out BK644.out (by decide)) (fun _ hk => hk.2) (.int .i64 t637)) (fun _ hk => hk.2) (.slice Ao10 t638.length co10)) (fun _ h_ => h_.1)))); (case side4 => exact (Kd.R_reads' HO640.out).2.1); (case side5 => refine (Kd.Q_reads' (e := 3) (base := w.heap.size) (ok := fun k_ => some k_ ≠ (.slice Ao10 t638.length co10 : Value).ownBlock) (n := t641.length) (c := co12) ?_).2.2; exact (by (with_reducible repeat (first | apply Kd.Q_alloc | apply Kd.Q_drewN | apply Kd.Q_drew)); exact (Kd.Q_mono (Kd.Q_far (p := ⟨gb644, 1, none⟩) (Kd.Q_far (p := ⟨gb644, 0, none⟩) (Kd.Q_types HO643.out BK644.out (by decide)) (fun _ hk => hk.2) (.int .i64 t637)) (fun _ hk => hk.2) (.slice Ao10 t638.length co10)) (fun _ h_ => h_.1)))); (case side6 => exact (Kd.Q_reads' HO643.out).2.1); rintro e w13 ⟨rfl, hb⟩; have n0_ := Aside0.mk (Kd.S_below (by (with_reducible repeat (first | apply Kd.S_alloc | apply Kd.S_drewN | apply Kd.S_drew)); exact (Kd.S_mono (Kd.S_far (p := ⟨gb644, 1, none⟩) (Kd.S_far (p := ⟨gb644, 0, none⟩) (Kd.S_types HO636.out BK644.out (by decide)) (fun _ hk => hk.2) (.int .i64 t637)) (fun _ hk => hk.2) (.slice Ao10 t638.length co10)) (fun _ h_ => h_.1))) hb); have n1_ := Aside0.mk (Kd.R_below (by (with_reducible repeat (first | apply Kd.R_alloc | apply Kd.R_drewN | apply Kd.R_drew)); exact (Kd.R_mono (Kd.R_far (p := ⟨gb644, 1, none⟩) (Kd.R_far (p := ⟨gb644, 0, none⟩) (Kd.R_types HO640.out BK644.out (by decide)) (fun _ hk => hk.2) (.int .i64 t637)) (fun _ hk => hk.2) (.slice Ao10 t638.length co10)) (fun _ h_ => h_.1))) hb); have n2_ := Aside0.mk (Kd.Q_below (by (with_reducible repeat (first | apply Kd.Q_alloc | apply Kd.Q_drewN | apply Kd.Q_drew)); exact (Kd.Q_mono (Kd.Q_far (p := ⟨gb644, 1, none⟩) (Kd.Q_far (p := ⟨gb644, 0, none⟩) (Kd.Q_types HO643.out BK644.out (by decide)) (fun _ hk => hk.2) (.int .i64 t637)) (fun _ hk => hk.2) (.slice Ao10 t638.length co10)) (fun _ h_ => h_.1))) hb); have n3_ := Aside0.mk (blk_below (g := gb644) (o := .cells #[.int .i64 t637, .slice Ao10 t638.length co10] 41 (0, 0)) (by (with_reducible repeat (first | refine blk_drewN ?_ _ | refine blk_drew ?_ | refine blk_alloc ?_ _)); refine blk_put (cs := #[.int .i64 t637, .slice none 0 0]) ?_ 1 _ rfl; (with_reducible repeat (first | refine blk_drewN ?_ _ | refine blk_drew ?_ | refine blk_alloc ?_ _)); refine blk_put (cs := #[.int .i64 0, .slice none 0 0]) ?_ 0 _ rfl; (with_reducible repeat (first | refine blk_drewN ?_ _ | refine blk_drew ?_ | refine blk_alloc ?_ _)); exact BK644.out) hb); have n4_ := Aside0.mk (below_step (by repeat (first | (with_reducible first | exact HB.out | apply below_alloc | apply pw_below_drewN | apply below_drew1 | refine below_set ?_ GE644.out) | exact HB.out)) hb); clear HO636; clear HO640; clear HO643; clear BK644; clear HB; have HO636 := n0_; have HO640 := n1_; have HO643 := n2_; have BK644 := n3_; have HB := n4_; clear n0_ n1_ n2_ n3_ n4_; (try clear hb); (try clear hb2); (try clear hk); (try clear hi); have hcz14_0 : w13.cell? ⟨gb644, 0, none⟩ = some (.int .i64 t637) := (blk_cell BK644.out 0).trans rfl; have hcz14_1 : w13.cell? ⟨gb644, 1, none⟩ = some (.slice Ao10 t638.length co10) := (blk_cell BK644.out 1).trans rfl; have hfz14_0 := blk_frozen BK644.out 0; have hfz14_1 := blk_frozen BK644.out 1) | (go_at_call 16; (with_reducible refine (spec_PlanValid.calls k _ _ t634 t637 _ _ t638 _ _ t641 t646 _ ?side1 ?side2 ?side3 ?side4 ?side5 ?side6 A5.out).mono ?_); (case side1 => repeat (first | exact (Kd.S_reads' HO636.out).2.2 | (with_reducible refine Kd.C_alloc ?_ _) | (with_reducible refine Kd.C_drewN ?_ _) | (with_reducible refine Kd.C_drew ?_))); (case side2 => exact (Kd.S_reads' HO636.out).2.1); (case side3 => repeat (first | exact (Kd.R_reads' HO640.out).2.2 | (with_reducible refine Kd.C_alloc ?_ _) | (with_reducible refine Kd.C_drewN ?_ _) | (with_reducible refine Kd.C_drew ?_))); (case side4 => exact (Kd.R_reads' HO640.out).2.1); (case side5 => repeat (first | exact (Kd.Q_reads' HO643.out).2.2 | (with_reducible refine Kd.C_alloc ?_ _) | (with_reducible refine Kd.C_drewN ?_ _) | (with_reducible refine Kd.C_drew ?_))); (case side6 => exact (Kd.Q_reads' HO643.out).2.1); rintro e w15 ⟨rfl, hb⟩; have n0_ := Aside0.mk (Kd.S_below (by (with_reducible repeat (first | apply Kd.S_alloc | apply Kd.S_drewN | apply Kd.S_drew)); exact HO636.out) hb); have n1_ := Aside0.mk (Kd.R_below (rup HO640.out) hb); have n2_ := Aside0.mk (Kd.Q_below (by (with_reducible repeat (first | apply Kd.Q_alloc | apply Kd.Q_drewN | apply Kd.Q_drew)); exact HO643.out) hb); have n3_ := Aside0.mk (blk_below (g := gb644) (o := .cells #[.int .i64 t637, .slice Ao10 t638.length co10] 41 (0, 0)) (bup BK644.out) hb); have n4_ := Aside0.mk (below_step (by repeat (first | (with_reducible first | exact HB.out | apply below_alloc | apply pw_below_drewN | apply below_drew1 | refine below_set ?_ GE644.out) | exact HB.out)) hb); clear HO636; clear HO640; clear HO643; clear BK644; clear HB; have HO636 := n0_; have HO640 := n1_; have HO643 := n2_; have BK644 := n3_; have HB := n4_; clear n0_ n1_ n2_ n3_ n4_; (try clear hb); (try clear hb2); (try clear hk); (try clear hi)))
 repeat (go_quiet (first | (go_at_call 24; (with_reducible refine (spec_DrawPlanValid.calls k _ _ l0 t634 t637 t638 t641 _ ?side1 ?side2 A3.out).mono ?_); (case side1 => repeat (first | exact HR0.out | (with_reducible refine Kd.C_alloc ?_ _) | (with_reducible refine Kd.C_drewN ?_ _) | (with_reducible refine Kd.C_drew ?_))); (case side2 => exact HC0.out); rintro e w7 ⟨v635, v639, v642, rfl, ho0, ho1, ho2, hb⟩; have n0_ := Aside0.mk (Kd.S_lower ho0 (below_size (bel HB.out))); have n1_ := Aside0.mk (Kd.R_lower ho1 (below_size (bel HB.out))); have n2_ := Aside0.mk (Kd.Q_lower ho2 (below_size (bel HB.out))); have n3_ := Aside0.mk (below_step (bel HB.out) hb); clear HB; have HO636 := n0_; have HO640 := n1_; have HO643 := n2_; have HB := n3_; clear n0_ n1_ n2_ n3_; (try clear hb); (try clear hb2); (try clear hk); (try clear hi); (try clear ho0); (try clear ho1); (try clear ho2)) | ((with_reducible refine gate_dst (N := 4) rfl ?_); refine box_event ?hg (N := 4) ?hd (cs := #[.int .i64 0, .slice none 0 0]) (t := 41) ?hr ?_; (case hd => rfl); (case hg => rfl); (case hr => first | (go_simp; done) | (go_simp; rfl)); intro gb644 hg w8 hbox hb; have n0_ := Aside0.mk (Kd.S_below (by (with_reducible repeat (first | apply Kd.S_alloc | apply Kd.S_drewN | apply Kd.S_drew)); exact HO636.out) hb); have n1_ := Aside0.mk (Kd.R_below (rup HO640.out) hb); have n2_ := Aside0.mk (Kd.Q_below (by (with_reducible repeat (first | apply Kd.Q_alloc | apply Kd.Q_drewN | apply Kd.Q_drew)); exact HO643.out) hb); have n3_ := Aside0.mk (below_step (bel HB.out) hb); have n4_ := Aside0.mk (hbox); have n5_ := Aside0.mk ((by rw [hg]; exact (below_size (bel HB.out)) : w.heap.size ≤ gb644)); have n6_ := Aside0.mk ((by rw [hg]; exact (below_size (bel HB.out)) : w.heap.size ≤ gb644)); clear HO636; clear HO640; clear HO643; clear HB; have HO636 := n0_; have HO640 := n1_; have HO643 := n2_; have HB := n3_; have BK644 := n4_; have GW644 := n5_; have GE644 := n6_; clear n0_ n1_ n2_ n3_ n4_ n5_ n6_; clear hb hbox hg; have hcz9_0 : w8.cell? ⟨gb644, 0, none⟩ = some (.int .i64 0) := (blk_cell BK644.out 0).trans rfl; have hcz9_1 : w8.cell? ⟨gb644, 1, none⟩ = some (.slice none 0 0) := (blk_cell BK644.out 1).trans rfl; have hfz9_0 := blk_frozen BK644.out 0; have hfz9_1 := blk_frozen BK644.out 1; obtain ⟨Ao10, co10, eo10⟩ := Kd.R_slice HO640.out; subst eo10; obtain ⟨Ao11, co11, eo11⟩ := Kd.S_slice HO636.out; subst eo11; obtain ⟨Ao12, co12, eo12, _⟩ := Kd.Q_slice HO643.out; subst eo12) | (go_at_call 20; (with_reducible refine (impl_PlanValid.calls k _ _ t634 t637 _ _ t638 _ _ t641 t645 _ ?side1 ?side2 ?side3 ?side4 ?side5 ?side6 A4.out).mono ?_); (case side1 => refine (Kd.S_reads' (e := 31) (base := w.heap.size) (ok := fun k_ => (some k_ ≠ (.slice Ao10 t638.length co10 : Value).ownBlock ∧ some k_ ≠ (.slice Ao12 t641.length co12 : Value).ownBlock)) (n := t634.length) (c := co11) ?_).2.2; exact (by (with_reducible repeat (first | apply Kd.S_alloc | apply Kd.S_drewN | apply Kd.S_drew)); exact (Kd.S_mono (Kd.S_far (p := ⟨gb644, 1, none⟩) (Kd.S_far (p := ⟨gb644, 0, none⟩) (Kd.S_types HO636.out BK644.out (by decide)) (fun _ hk => hk.2) (.int .i64 t637)) (fun _ hk => hk.2) (.slice Ao10 t638.length co10)) (fun _ h_ => h_.1)))); (case side2 => exact (Kd.S_reads' HO636.out).2.1); (case side3 => refine (Kd.R_reads' (e := 3) (base := w.heap.size) (ok := fun k_ => some k_ ≠ (.slice Ao12 t641.length co12 : Value).ownBlock) (n := t638.length) (c := co10) ?_).2.2; exact (by (with_reducible repeat (first | apply Kd.R_alloc | apply Kd.R_drewN | apply Kd.R_drew)); exact (Kd.R_mono (Kd.R_far (p := ⟨gb644, 1, none⟩) (Kd.R_far (p := ⟨gb644, 0, none⟩) (Kd.R_types HO640.out BK644.out (by decide)) (fun _ hk => hk.2) (.int .i64 t637)) (fun _ hk => hk.2) (.slice Ao10 t638.length co10)) (fun _ h_ => h_.1)))); (case side4 => exact (Kd.R_reads' HO640.out).2.1); (case side5 => refine (Kd.Q_reads' (e := 3) (base := w.heap.size) (ok := fun k_ => some k_ ≠ (.slice Ao10 t638.length co10 : Value).ownBlock) (n := t641.length) (c := co12) ?_).2.2; exact (by (with_reducible repeat (first | apply Kd.Q_alloc | apply Kd.Q_drewN | apply Kd.Q_drew)); exact (Kd.Q_mono (Kd.Q_far (p := ⟨gb644, 1, none⟩) (Kd.Q_far (p := ⟨gb644, 0, none⟩) (Kd.Q_types HO643.out BK644.out (by decide)) (fun _ hk => hk.2) (.int .i64 t637)) (fun _ hk => hk.2) (.slice Ao10 t638.length co10)) (fun _ h_ => h_.1)))); (case side6 => exact (Kd.Q_reads' HO643.out).2.1); rintro e w13 ⟨rfl, hb⟩; have n0_ := Aside0.mk (Kd.S_below (by (with_reducible repeat (first | apply Kd.S_alloc | apply Kd.S_drewN | apply Kd.S_drew)); exact (Kd.S_mono (Kd.S_far (p := ⟨gb644, 1, none⟩) (Kd.S_far (p := ⟨gb644, 0, none⟩) (Kd.S_types HO636.out BK644.out (by decide)) (fun _ hk => hk.2) (.int .i64 t637)) (fun _ hk => hk.2) (.slice Ao10 t638.length co10)) (fun _ h_ => h_.1))) hb); have n1_ := Aside0.mk (Kd.R_below (by (with_reducible repeat (first | apply Kd.R_alloc | apply Kd.R_drewN | apply Kd.R_drew)); exact (Kd.R_mono (Kd.R_far (p := ⟨gb644, 1, none⟩) (Kd.R_far (p := ⟨gb644, 0, none⟩) (Kd.R_types HO640.out BK644.out (by decide)) (fun _ hk => hk.2) (.int .i64 t637)) (fun _ hk => hk.2) (.slice Ao10 t638.length co10)) (fun _ h_ => h_.1))) hb); have n2_ := Aside0.mk (Kd.Q_below (by (with_reducible repeat (first | apply Kd.Q_alloc | apply Kd.Q_drewN | apply Kd.Q_drew)); exact (Kd.Q_mono (Kd.Q_far (p := ⟨gb644, 1, none⟩) (Kd.Q_far (p := ⟨gb644, 0, none⟩) (Kd.Q_types HO643.out BK644.out (by decide)) (fun _ hk => hk.2) (.int .i64 t637)) (fun _ hk => hk.2) (.slice Ao10 t638.length co10)) (fun _ h_ => h_.1))) hb); have n3_ := Aside0.mk (blk_below (g := gb644) (o := .cells #[.int .i64 t637, .slice Ao10 t638.length co10] 41 (0, 0)) (by (with_reducible repeat (first | refine blk_drewN ?_ _ | refine blk_drew ?_ | refine blk_alloc ?_ _)); refine blk_put (cs := #[.int .i64 t637, .slice none 0 0]) ?_ 1 _ rfl; (with_reducible repeat (first | refine blk_drewN ?_ _ | refine blk_drew ?_ | refine blk_alloc ?_ _)); refine blk_put (cs := #[.int .i64 0, .slice none 0 0]) ?_ 0 _ rfl; (with_reducible repeat (first | refine blk_drewN ?_ _ | refine blk_drew ?_ | refine blk_alloc ?_ _)); exact BK644.out) hb); have n4_ := Aside0.mk (below_step (by repeat (first | (with_reducible first | exact HB.out | apply below_alloc | apply pw_below_drewN | apply below_drew1 | refine below_set ?_ GE644.out) | exact HB.out)) hb); clear HO636; clear HO640; clear HO643; clear BK644; clear HB; have HO636 := n0_; have HO640 := n1_; have HO643 := n2_; have BK644 := n3_; have HB := n4_; clear n0_ n1_ n2_ n3_ n4_; (try clear hb); (try clear hb2); (try clear hk); (try clear hi); have hcz14_0 : w13.cell? ⟨gb644, 0, none⟩ = some (.int .i64 t637) := (blk_cell BK644.out 0).trans rfl; have hcz14_1 : w13.cell? ⟨gb644, 1, none⟩ = some (.slice Ao10 t638.length co10) := (blk_cell BK644.out 1).trans rfl; have hfz14_0 := blk_frozen BK644.out 0; have hfz14_1 := blk_frozen BK644.out 1) | (go_at_call 16; (with_reducible refine (spec_PlanValid.calls k _ _ t634 t637 _ _ t638 _ _ t641 t646 _ ?side1 ?side2 ?side3 ?side4 ?side5 ?side6 A5.out).mono ?_); (case side1 => repeat (first | exact (Kd.S_reads' HO636.out).2.2 | (with_reducible refine Kd.C_alloc ?_ _) | (with_reducible refine Kd.C_drewN ?_ _) | (with_reducible refine Kd.C_drew ?_))); (case side2 => exact (Kd.S_reads' HO636.out).2.1); (case side3 => repeat (first | exact (Kd.R_reads' HO640.out).2.2 | (with_reducible refine Kd.C_alloc ?_ _) | (with_reducible refine Kd.C_drewN ?_ _) | (with_reducible refine Kd.C_drew ?_))); (case side4 => exact (Kd.R_reads' HO640.out).2.1); (case side5 => repeat (first | exact (Kd.Q_reads' HO643.out).2.2 | (with_reducible refine Kd.C_alloc ?_ _) | (with_reducible refine Kd.C_drewN ?_ _) | (with_reducible refine Kd.C_drew ?_))); (case side6 => exact (Kd.Q_reads' HO643.out).2.1); rintro e w15 ⟨rfl, hb⟩; have n0_ := Aside0.mk (Kd.S_below (by (with_reducible repeat (first | apply Kd.S_alloc | apply Kd.S_drewN | apply Kd.S_drew)); exact HO636.out) hb); have n1_ := Aside0.mk (Kd.R_below (rup HO640.out) hb); have n2_ := Aside0.mk (Kd.Q_below (by (with_reducible repeat (first | apply Kd.Q_alloc | apply Kd.Q_drewN | apply Kd.Q_drew)); exact HO643.out) hb); have n3_ := Aside0.mk (blk_below (g := gb644) (o := .cells #[.int .i64 t637, .slice Ao10 t638.length co10] 41 (0, 0)) (bup BK644.out) hb); have n4_ := Aside0.mk (below_step (by repeat (first | (with_reducible first | exact HB.out | apply below_alloc | apply pw_below_drewN | apply below_drew1 | refine below_set ?_ GE644.out) | exact HB.out)) hb); clear HO636; clear HO640; clear HO643; clear BK644; clear HB; have HO636 := n0_; have HO640 := n1_; have HO643 := n2_; have BK644 := n3_; have HB := n4_; clear n0_ n1_ n2_ n3_ n4_; (try clear hb); (try clear hb2); (try clear hk); (try clear hi))); go_upto_region 6 with (first | (go_at_call 24; (with_reducible refine (spec_DrawPlanValid.calls k _ _ l0 t634 t637 t638 t641 _ ?side1 ?side2 A3.out).mono ?_); (case side1 => repeat (first | exact HR0.out | (with_reducible refine Kd.C_alloc ?_ _) | (with_reducible refine Kd.C_drewN ?_ _) | (with_reducible refine Kd.C_drew ?_))); (case side2 => exact HC0.out); rintro e w7 ⟨v635, v639, v642, rfl, ho0, ho1, ho2, hb⟩; have n0_ := Aside0.mk (Kd.S_lower ho0 (below_size (bel HB.out))); have n1_ := Aside0.mk (Kd.R_lower ho1 (below_size (bel HB.out))); have n2_ := Aside0.mk (Kd.Q_lower ho2 (below_size (bel HB.out))); have n3_ := Aside0.mk (below_step (bel HB.out) hb); clear HB; have HO636 := n0_; have HO640 := n1_; have HO643 := n2_; have HB := n3_; clear n0_ n1_ n2_ n3_; (try clear hb); (try clear hb2); (try clear hk); (try clear hi); (try clear ho0); (try clear ho1); (try clear ho2)) | ((with_reducible refine gate_dst (N := 4) rfl ?_); refine box_event ?hg (N := 4) ?hd (cs := #[.int .i64 0, .slice none 0 0]) (t := 41) ?hr ?_; (case hd => rfl); (case hg => rfl); (case hr => first | (go_simp; done) | (go_simp; rfl)); intro gb644 hg w8 hbox hb; have n0_ := Aside0.mk (Kd.S_below (by (with_reducible repeat (first | apply Kd.S_alloc | apply Kd.S_drewN | apply Kd.S_drew)); exact HO636.out) hb); have n1_ := Aside0.mk (Kd.R_below (rup HO640.out) hb); have n2_ := Aside0.mk (Kd.Q_below (by (with_reducible repeat (first | apply Kd.Q_alloc | apply Kd.Q_drewN | apply Kd.Q_drew)); exact HO643.out) hb); have n3_ := Aside0.mk (below_step (bel HB.out) hb); have n4_ := Aside0.mk (hbox); have n5_ := Aside0.mk ((by rw [hg]; exact (below_size (bel HB.out)) : w.heap.size ≤ gb644)); have n6_ := Aside0.mk ((by rw [hg]; exact (below_size (bel HB.out)) : w.heap.size ≤ gb644)); clear HO636; clear HO640; clear HO643; clear HB; have HO636 := n0_; have HO640 := n1_; have HO643 := n2_; have HB := n3_; have BK644 := n4_; have GW644 := n5_; have GE644 := n6_; clear n0_ n1_ n2_ n3_ n4_ n5_ n6_; clear hb hbox hg; have hcz9_0 : w8.cell? ⟨gb644, 0, none⟩ = some (.int .i64 0) := (blk_cell BK644.out 0).trans rfl; have hcz9_1 : w8.cell? ⟨gb644, 1, none⟩ = some (.slice none 0 0) := (blk_cell BK644.out 1).trans rfl; have hfz9_0 := blk_frozen BK644.out 0; have hfz9_1 := blk_frozen BK644.out 1; obtain ⟨Ao10, co10, eo10⟩ := Kd.R_slice HO640.out; subst eo10; obtain ⟨Ao11, co11, eo11⟩ := Kd.S_slice HO636.out; subst eo11; obtain ⟨Ao12, co12, eo12, _⟩ := Kd.Q_slice HO643.out; subst eo12) | (go_at_call 20; (with_reducible refine (impl_PlanValid.calls k _ _ t634 t637 _ _ t638 _ _ t641 t645 _ ?side1 ?side2 ?side3 ?side4 ?side5 ?side6 A4.out).mono ?_); (case side1 => refine (Kd.S_reads' (e := 31) (base := w.heap.size) (ok := fun k_ => (some k_ ≠ (.slice Ao10 t638.length co10 : Value).ownBlock ∧ some k_ ≠ (.slice Ao12 t641.length co12 : Value).ownBlock)) (n := t634.length) (c := co11) ?_).2.2; exact (by (with_reducible repeat (first | apply Kd.S_alloc | apply Kd.S_drewN | apply Kd.S_drew)); exact (Kd.S_mono (Kd.S_far (p := ⟨gb644, 1, none⟩) (Kd.S_far (p := ⟨gb644, 0, none⟩) (Kd.S_types HO636.out BK644.out (by decide)) (fun _ hk => hk.2) (.int .i64 t637)) (fun _ hk => hk.2) (.slice Ao10 t638.length co10)) (fun _ h_ => h_.1)))); (case side2 => exact (Kd.S_reads' HO636.out).2.1); (case side3 => refine (Kd.R_reads' (e := 3) (base := w.heap.size) (ok := fun k_ => some k_ ≠ (.slice Ao12 t641.length co12 : Value).ownBlock) (n := t638.length) (c := co10) ?_).2.2; exact (by (with_reducible repeat (first | apply Kd.R_alloc | apply Kd.R_drewN | apply Kd.R_drew)); exact (Kd.R_mono (Kd.R_far (p := ⟨gb644, 1, none⟩) (Kd.R_far (p := ⟨gb644, 0, none⟩) (Kd.R_types HO640.out BK644.out (by decide)) (fun _ hk => hk.2) (.int .i64 t637)) (fun _ hk => hk.2) (.slice Ao10 t638.length co10)) (fun _ h_ => h_.1)))); (case side4 => exact (Kd.R_reads' HO640.out).2.1); (case side5 => refine (Kd.Q_reads' (e := 3) (base := w.heap.size) (ok := fun k_ => some k_ ≠ (.slice Ao10 t638.length co10 : Value).ownBlock) (n := t641.length) (c := co12) ?_).2.2; exact (by (with_reducible repeat (first | apply Kd.Q_alloc | apply Kd.Q_drewN | apply Kd.Q_drew)); exact (Kd.Q_mono (Kd.Q_far (p := ⟨gb644, 1, none⟩) (Kd.Q_far (p := ⟨gb644, 0, none⟩) (Kd.Q_types HO643.out BK644.out (by decide)) (fun _ hk => hk.2) (.int .i64 t637)) (fun _ hk => hk.2) (.slice Ao10 t638.length co10)) (fun _ h_ => h_.1)))); (case side6 => exact (Kd.Q_reads' HO643.out).2.1); rintro e w13 ⟨rfl, hb⟩; have n0_ := Aside0.mk (Kd.S_below (by (with_reducible repeat (first | apply Kd.S_alloc | apply Kd.S_drewN | apply Kd.S_drew)); exact (Kd.S_mono (Kd.S_far (p := ⟨gb644, 1, none⟩) (Kd.S_far (p := ⟨gb644, 0, none⟩) (Kd.S_types HO636.out BK644.out (by decide)) (fun _ hk => hk.2) (.int .i64 t637)) (fun _ hk => hk.2) (.slice Ao10 t638.length co10)) (fun _ h_ => h_.1))) hb); have n1_ := Aside0.mk (Kd.R_below (by (with_reducible repeat (first | apply Kd.R_alloc | apply Kd.R_drewN | apply Kd.R_drew)); exact (Kd.R_mono (Kd.R_far (p := ⟨gb644, 1, none⟩) (Kd.R_far (p := ⟨gb644, 0, none⟩) (Kd.R_types HO640.out BK644.out (by decide)) (fun _ hk => hk.2) (.int .i64 t637)) (fun _ hk => hk.2) (.slice Ao10 t638.length co10)) (fun _ h_ => h_.1))) hb); have n2_ := Aside0.mk (Kd.Q_below (by (with_reducible repeat (first | apply Kd.Q_alloc | apply Kd.Q_drewN | apply Kd.Q_drew)); exact (Kd.Q_mono (Kd.Q_far (p := ⟨gb644, 1, none⟩) (Kd.Q_far (p := ⟨gb644, 0, none⟩) (Kd.Q_types HO643.out BK644.out (by decide)) (fun _ hk => hk.2) (.int .i64 t637)) (fun _ hk => hk.2) (.slice Ao10 t638.length co10)) (fun _ h_ => h_.1))) hb); have n3_ := Aside0.mk (blk_below (g := gb644) (o := .cells #[.int .i64 t637, .slice Ao10 t638.length co10] 41 (0, 0)) (by (with_reducible repeat (first | refine blk_drewN ?_ _ | refine blk_drew ?_ | refine blk_alloc ?_ _)); refine blk_put (cs := #[.int .i64 t637, .slice none 0 0]) ?_ 1 _ rfl; (with_reducible repeat (first | refine blk_drewN ?_ _ | refine blk_drew ?_ | refine blk_alloc ?_ _)); refine blk_put (cs := #[.int .i64 0, .slice none 0 0]) ?_ 0 _ rfl; (with_reducible repeat (first | refine blk_drewN ?_ _ | refine blk_drew ?_ | refine blk_alloc ?_ _)); exact BK644.out) hb); have n4_ := Aside0.mk (below_step (by repeat (first | (with_reducible first | exact HB.out | apply below_alloc | apply pw_below_drewN | apply below_drew1 | refine below_set ?_ GE644.out) | exact HB.out)) hb); clear HO636; clear HO640; clear HO643; clear BK644; clear HB; have HO636 := n0_; have HO640 := n1_; have HO643 := n2_; have BK644 := n3_; have HB := n4_; clear n0_ n1_ n2_ n3_ n4_; (try clear hb); (try clear hb2); (try clear hk); (try clear hi); have hcz14_0 : w13.cell? ⟨gb644, 0, none⟩ = some (.int .i64 t637) := (blk_cell BK644.out 0).trans rfl; have hcz14_1 : w13.cell? ⟨gb644, 1, none⟩ = some (.slice Ao10 t638.length co10) := (blk_cell BK644.out 1).trans rfl; have hfz14_0 := blk_frozen BK644.out 0; have hfz14_1 := blk_frozen BK644.out 1) | (go_at_call 16; (with_reducible refine (spec_PlanValid.calls k _ _ t634 t637 _ _ t638 _ _ t641 t646 _ ?side1 ?side2 ?side3 ?side4 ?side5 ?side6 A5.out).mono ?_); (case side1 => repeat (first | exact (Kd.S_reads' HO636.out).2.2 | (with_reducible refine Kd.C_alloc ?_ _) | (with_reducible refine Kd.C_drewN ?_ _) | (with_reducible refine Kd.C_drew ?_))); (case side2 => exact (Kd.S_reads' HO636.out).2.1); (case side3 => repeat (first | exact (Kd.R_reads' HO640.out).2.2 | (with_reducible refine Kd.C_alloc ?_ _) | (with_reducible refine Kd.C_drewN ?_ _) | (with_reducible refine Kd.C_drew ?_))); (case side4 => exact (Kd.R_reads' HO640.out).2.1); (case side5 => repeat (first | exact (Kd.Q_reads' HO643.out).2.2 | (with_reducible refine Kd.C_alloc ?_ _) | (with_reducible refine Kd.C_drewN ?_ _) | (with_reducible refine Kd.C_drew ?_))); (case side6 => exact (Kd.Q_reads' HO643.out).2.1); rintro e w15 ⟨rfl, hb⟩; have n0_ := Aside0.mk (Kd.S_below (by (with_reducible repeat (first | apply Kd.S_alloc | apply Kd.S_drewN | apply Kd.S_drew)); exact HO636.out) hb); have n1_ := Aside0.mk (Kd.R_below (rup HO640.out) hb); have n2_ := Aside0.mk (Kd.Q_below (by (with_reducible repeat (first | apply Kd.Q_alloc | apply Kd.Q_drewN | apply Kd.Q_drew)); exact HO643.out) hb); have n3_ := Aside0.mk (blk_below (g := gb644) (o := .cells #[.int .i64 t637, .slice Ao10 t638.length co10] 41 (0, 0)) (bup BK644.out) hb); have n4_ := Aside0.mk (below_step (by repeat (first | (with_reducible first | exact HB.out | apply below_alloc | apply pw_below_drewN | apply below_drew1 | refine below_set ?_ GE644.out) | exact HB.out)) hb); clear HO636; clear HO640; clear HO643; clear BK644; clear HB; have HO636 := n0_; have HO640 := n1_; have HO643 := n2_; have BK644 := n3_; have HB := n4_; clear n0_ n1_ n2_ n3_ n4_; (try clear hb); (try clear hb2); (try clear hk); (try clear hi))))
 (try simp only [Act.put, List.setIfInBounds_toArray, List.set_cons_zero, List.set_cons_succ])
 go_cut [34] (fun v34 wc => ∃ (kq : Nat) (x34_5 : Bool), v34 = .bool x34_5 ∧ Aside0 (laws_FnPlan.j0 kq t634 t641 t645 t646 x34_5 = some r) ∧ Aside0 (kq ≤ k) ∧ Aside0 (Kd.S k31 31 wc w.heap.size (fun k_ => some k_ ≠ ((.slice Ao12 t641.length co12) : Value).ownBlock ∧ some k_ ≠ ((.slice Ao10 t638.length co10) : Value).ownBlock) (.slice Ao11 t634.length co11) t634) ∧ Aside0 (Kd.Q (Kd.int .i64) 3 wc w.heap.size (fun k_ => some k_ ≠ ((.slice Ao10 t638.length co10) : Value).ownBlock) (.slice Ao12 t641.length co12) t641) ∧ Aside0 (Kd.R (Kd.int .i64) 3 wc w.heap.size (fun k_ => some k_ ≠ ((.slice Ao12 t641.length co12) : Value).ownBlock) (.slice Ao10 t638.length co10) t638) ∧ Aside0 (wc.heap[gb644]? = some (.cells #[.int .i64 t637, (.slice Ao10 t638.length co10)] 41 (0, 0))) ∧ Aside0 (Below w.heap.size w wc))
 case first =>
  have H := HC6.out
  clear HC6
  by_cases c16 : (t645 != t646) = true
  ·rw [if_pos c16] at H
   have c16b0 : (t645 != t646) = true := c16
   (try (have c16b1 : decide (t645 = t646) = false := by simpa using c16))
   (try (have c16b2 : (t645 == t646) = false := by simpa using c16))
   (try (have c16b3 : ¬ (t645 = t646) := by simpa using c16))
   clear c16
   (first | rw [c16b0] | (simp only [i64_w, i32_w]; rw [c16b0]) | skip)
   have H' := Aside0.mk H
   clear H
   go_wp2
   repeat (go_quiet (fail); try go_wp2)
   go_meet
   case rel => exact ⟨_, (true), (by first | rfl | (simp; done) | (simp [*]; done)), H', ⟨by first | omega | exact Nat.le_refl _⟩, ⟨by (with_reducible repeat (first | apply Kd.S_alloc | apply Kd.S_drewN | apply Kd.S_drew)); exact Kd.S_mono HO636.out (fun _ hk => ⟨hk.2, hk.1⟩)⟩, ⟨by (with_reducible repeat (first | apply Kd.Q_alloc | apply Kd.Q_drewN | apply Kd.Q_drew)); exact HO643.out⟩, ⟨by (with_reducible repeat (first | apply Kd.R_alloc | apply Kd.R_drewN | apply Kd.R_drew)); exact HO640.out⟩, ⟨by (with_reducible repeat (first | refine blk_drewN ?_ _ | refine blk_drew ?_ | refine blk_alloc ?_ _)); exact BK644.out⟩, ⟨by repeat (first | (with_reducible first | exact HB.out | apply below_alloc | apply pw_below_drewN | apply below_drew1 | refine below_set ?_ GE644.out) | exact HB.out)⟩⟩
  rw [if_neg c16] at H
  have c16b0 : (t645 != t646) = false := by simpa using c16
  (try (have c16b1 : decide (t645 = t646) = true := by simpa using c16))
  (try (have c16b2 : (t645 == t646) = true := by simpa using c16))
  clear c16
  (first | rw [c16b0] | (simp only [i64_w, i32_w]; rw [c16b0]) | skip)
  have H' := Aside0.mk H
  clear H
  go_wp2
  repeat (go_quiet (fail); try go_wp2)
  go_meet
  case rel => exact ⟨_, (!t645), (by first | rfl | (simp; done) | (simp [*]; done)), H', ⟨by first | omega | exact Nat.le_refl _⟩, ⟨by (with_reducible repeat (first | apply Kd.S_alloc | apply Kd.S_drewN | apply Kd.S_drew)); exact Kd.S_mono HO636.out (fun _ hk => ⟨hk.2, hk.1⟩)⟩, ⟨by (with_reducible repeat (first | apply Kd.Q_alloc | apply Kd.Q_drewN | apply Kd.Q_drew)); exact HO643.out⟩, ⟨by (with_reducible repeat (first | apply Kd.R_alloc | apply Kd.R_drewN | apply Kd.R_drew)); exact HO640.out⟩, ⟨by (with_reducible repeat (first | refine blk_drewN ?_ _ | refine blk_drew ?_ | refine blk_alloc ?_ _)); exact BK644.out⟩, ⟨by repeat (first | (with_reducible first | exact HB.out | apply below_alloc | apply pw_below_drewN | apply below_drew1 | refine below_set ?_ GE644.out) | exact HB.out)⟩⟩
 case rest =>
  clear HC6
  try clear c1
  try clear c2
  try clear c2b0
  try clear c2b1
  try clear p2
  try clear c5
  try clear c16
  try clear c16b0
  try clear c16b1
  try clear c16b2
  try clear hcz14_0
  try clear hcz14_1
  try clear hcz9_0
  try clear hcz9_1
  try clear hfz14_0
  try clear hfz14_1
  try clear hfz9_0
  try clear hfz9_1
  obtain ⟨kq, x34_5, rfl, HA, HJ5, HO_3, HO_5, HO_645001, BK644, HB⟩ := hcut
  cases kq with
  | zero => exact absurd HA.out (by simp [laws_FnPlan.j0])
  | succ kj5 =>
   have H := HA.out
   clear HA
   simp only [laws_FnPlan.j0] at H
   by_cases c17 : x34_5 = true
   ·subst c17
    have H1 : (some (t645 == t646)) = some r := by rw [if_pos rfl] at H; exact H
    clear H
    have H := H1
    clear H1
    obtain rfl := Option.some.inj H
    go_wp2
    repeat (go_quiet (fail); try go_wp2)
    go_ret
    exact ⟨by first | rfl | (simp [errW_none, errW_some] <;> rfl) | (simp [*, errW_none, errW_some] <;> rfl), by repeat (first | (with_reducible first | exact HB.out | apply below_alloc | apply pw_below_drewN | apply below_drew1 | refine below_set ?_ GE644.out) | exact HB.out)⟩
   replace c17 := Bool.eq_false_iff.mpr c17
   subst c17
   have H1 : (laws_FnPlan.l0 kj5 t634 t641 0) = some r := by rw [if_neg (show ¬ (false = true) by decide)] at H; exact H
   clear H
   have H := H1
   clear H1
   have H' := Aside0.mk H
   clear H
   go_wp2
   repeat (go_quiet (fail); try go_wp2)
   go_loopg [8] kj5 (fun kq v8 w' => ∃ (x8_2 : Int), v8 = .int .i64 x8_2 ∧ Aside0 (laws_FnPlan.l0 kq t634 t641 x8_2 = some r) ∧ Aside0 (kq ≤ kj5) ∧ Aside0 (Kd.S k31 31 w' w.heap.size (fun k_ => some k_ ≠ ((.slice Ao12 t641.length co12) : Value).ownBlock ∧ some k_ ≠ ((.slice Ao10 t638.length co10) : Value).ownBlock) (.slice Ao11 t634.length co11) t634) ∧ Aside0 (Kd.Q (Kd.int .i64) 3 w' w.heap.size (fun k_ => some k_ ≠ ((.slice Ao10 t638.length co10) : Value).ownBlock) (.slice Ao12 t641.length co12) t641) ∧ Aside0 (Kd.R (Kd.int .i64) 3 w' w.heap.size (fun k_ => some k_ ≠ ((.slice Ao12 t641.length co12) : Value).ownBlock) (.slice Ao10 t638.length co10) t638) ∧ Aside0 (w'.heap[gb644]? = some (.cells #[.int .i64 t637, (.slice Ao10 t638.length co10)] 41 (0, 0))) ∧ Aside0 (Below w.heap.size w w'))
   case atStart => exact ⟨(0), (by first | rfl | (simp; done) | (simp [*]; done)), H', ⟨Nat.le_refl _⟩, ⟨by (with_reducible repeat (first | apply Kd.S_alloc | apply Kd.S_drewN | apply Kd.S_drew)); exact HO_3.out⟩, ⟨by (with_reducible repeat (first | apply Kd.Q_alloc | apply Kd.Q_drewN | apply Kd.Q_drew)); exact HO_5.out⟩, ⟨by (with_reducible repeat (first | apply Kd.R_alloc | apply Kd.R_drewN | apply Kd.R_drew)); exact HO_645001.out⟩, ⟨by (with_reducible repeat (first | refine blk_drewN ?_ _ | refine blk_drew ?_ | refine blk_alloc ?_ _)); exact BK644.out⟩, ⟨by repeat (first | (with_reducible first | exact HB.out | apply below_alloc | apply pw_below_drewN | apply below_drew1 | refine below_set ?_ GE644.out) | exact HB.out)⟩⟩
   case round =>
    clear H'
    try clear c1
    try clear c2
    try clear c2b0
    try clear c2b1
    try clear p2
    try clear c5
    try clear c16
    try clear c16b0
    try clear c16b1
    try clear c16b2
    try clear c17
    try clear hcz14_0
    try clear hcz14_1
    try clear hcz9_0
    try clear hcz9_1
    try clear hfz14_0
    try clear hfz14_1
    try clear hfz9_0
    try clear hfz9_1
    try clear p2
    obtain ⟨x8_2, rfl, HA, HK2, HO_3, HO_5, HO_645001, BK644, HB⟩ := hrel
    cases gk with
    | zero => exact absurd HA.out (by simp [laws_FnPlan.l0])
    | succ k2 =>
     have H := HA.out
     clear HA
     simp only [laws_FnPlan.l0] at H
     by_cases c18 : x8_2 < (t634.length : Int)
     ·rw [if_pos c18] at H
      have c18b0 : decide (x8_2 < (t634.length : Int)) = true := decide_eq_true c18
      clear c18
      have H' := Aside0.mk H
      clear H
      go_wp2
      repeat (go_quiet (fail); try go_wp2)
      go_loopg [9] k2 (fun kq v9 w' => ∃ (x9_3 : Int), v9 = .int .i64 x9_3 ∧ Aside0 (laws_FnPlan.l1 kq t634 t641 x8_2 x9_3 = some r) ∧ Aside0 (kq ≤ k2) ∧ Aside0 (Kd.S k31 31 w' w.heap.size (fun k_ => some k_ ≠ ((.slice Ao12 t641.length co12) : Value).ownBlock ∧ some k_ ≠ ((.slice Ao10 t638.length co10) : Value).ownBlock) (.slice Ao11 t634.length co11) t634) ∧ Aside0 (Kd.Q (Kd.int .i64) 3 w' w.heap.size (fun k_ => some k_ ≠ ((.slice Ao10 t638.length co10) : Value).ownBlock) (.slice Ao12 t641.length co12) t641) ∧ Aside0 (Kd.R (Kd.int .i64) 3 w' w.heap.size (fun k_ => some k_ ≠ ((.slice Ao12 t641.length co12) : Value).ownBlock) (.slice Ao10 t638.length co10) t638) ∧ Aside0 (w'.heap[gb644]? = some (.cells #[.int .i64 t637, (.slice Ao10 t638.length co10)] 41 (0, 0))) ∧ Aside0 (Below w.heap.size w w'))
      case atStart => exact ⟨(0), (by first | rfl | (simp; done) | (simp [*]; done)), H', ⟨Nat.le_refl _⟩, ⟨by (with_reducible repeat (first | apply Kd.S_alloc | apply Kd.S_drewN | apply Kd.S_drew)); exact HO_3.out⟩, ⟨by (with_reducible repeat (first | apply Kd.Q_alloc | apply Kd.Q_drewN | apply Kd.Q_drew)); exact HO_5.out⟩, ⟨by (with_reducible repeat (first | apply Kd.R_alloc | apply Kd.R_drewN | apply Kd.R_drew)); exact HO_645001.out⟩, ⟨by (with_reducible repeat (first | refine blk_drewN ?_ _ | refine blk_drew ?_ | refine blk_alloc ?_ _)); exact BK644.out⟩, ⟨by repeat (first | (with_reducible first | exact HB.out | apply below_alloc | apply pw_below_drewN | apply below_drew1 | refine below_set ?_ GE644.out) | exact HB.out)⟩⟩
      case round =>
       clear H'
       try clear c1
       try clear c2
       try clear c2b0
       try clear c2b1
       try clear p2
       try clear c5
       try clear c16
       try clear c16b0
       try clear c16b1
       try clear c16b2
       try clear c17
       try clear c18
       try clear c18b0
       try clear hcz14_0
       try clear hcz14_1
       try clear hcz9_0
       try clear hcz9_1
       try clear hfz14_0
       try clear hfz14_1
       try clear hfz9_0
       try clear hfz9_1
       try clear p2
       obtain ⟨x9_3, rfl, HA, HK3, HO_3, HO_5, HO_645001, BK644, HB⟩ := hrel
       cases gk with
       | zero => exact absurd HA.out (by simp [laws_FnPlan.l1])
       | succ k3 =>
        have H := HA.out
        clear HA
        simp only [laws_FnPlan.l1] at H
        by_cases c19 : 0 ≤ x8_2
        ·rw [if_pos c19] at H
         have c19b0 : decide (0 ≤ x8_2) = true := decide_eq_true c19
         clear c19
         by_cases c20 : x8_2 < (t634.length : Int)
         ·rw [if_pos c20] at H
          have c20b0 : decide (x8_2 < (t634.length : Int)) = true := decide_eq_true c20
          clear c20
          by_cases c21 : x9_3 < (((rd_T31 t634 x8_2).f3).length : Int)
          ·rw [if_pos c21] at H
           have c21b0 : decide (x9_3 < (((rd_T31 t634 x8_2).f3).length : Int)) = true := decide_eq_true c21
           clear c21
           by_cases c22 : 0 ≤ x9_3
           ·rw [if_pos c22] at H
            have c22b0 : decide (0 ≤ x9_3) = true := decide_eq_true c22
            clear c22
            by_cases c23 : 0 ≤ (rd ((rd_T31 t634 x8_2).f3) x9_3)
            ·rw [if_pos c23] at H
             have c23b0 : decide (0 ≤ (rd ((rd_T31 t634 x8_2).f3) x9_3)) = true := decide_eq_true c23
             clear c23
             by_cases c24 : (rd ((rd_T31 t634 x8_2).f3) x9_3) < (t641.length : Int)
             ·rw [if_pos c24] at H
              have c24b0 : decide ((rd ((rd_T31 t634 x8_2).f3) x9_3) < (t641.length : Int)) = true := decide_eq_true c24
              clear c24
              by_cases c25 : (rd ((rd_T31 t634 x8_2).f3) x9_3) < (t634.length : Int)
              ·rw [if_pos c25] at H
               have c25b0 : decide ((rd ((rd_T31 t634 x8_2).f3) x9_3) < (t634.length : Int)) = true := decide_eq_true c25
               clear c25
               by_cases c26 : x8_2 < (t641.length : Int)
               ·rw [if_pos c26] at H
                have c26b0 : decide (x8_2 < (t641.length : Int)) = true := decide_eq_true c26
                clear c26
                by_cases c27 : (wrap64 ((rd t641 (rd ((rd_T31 t634 x8_2).f3) x9_3)) + ((rd_T31 t634 (rd ((rd_T31 t634 x8_2).f3) x9_3)).f0))) > (rd t641 x8_2)
                ·rw [if_pos c27] at H
                 have c27b0 : decide ((rd t641 x8_2) < (wrap64 ((rd t641 (rd ((rd_T31 t634 x8_2).f3) x9_3)) + ((rd_T31 t634 (rd ((rd_T31 t634 x8_2).f3) x9_3)).f0)))) = true := decide_eq_true c27
                 clear c27
                 obtain rfl := Option.some.inj H
                 have p647 : 0 ≤ (x8_2 : Int) := of_decide_eq_true (by assumption)
                 have q647 : x8_2 < (t634.length : Int) := of_decide_eq_true (by assumption)
                 obtain ⟨ad647, A647_3, c647_3, e647, hx647_0, hx647_1, hx647_2, hx647_3, hl647_3, hi647_3⟩ := at_T31 (Kd.S_reads' HO_3.out).2.2 x8_2 p647 q647
                 cases e647
                 obtain ⟨ce647, hce647, hMe647, hcc647⟩ := Kd.S_get HO_3.out z31 x8_2 p647 (by first | exact q647 | exact of_decide_eq_true (by assumption) | (have e_ := (Kd.S_reads' HO_3.out).1; omega))
                 obtain ⟨ve647_3, rfl, ge647_3⟩ := k31_openM hMe647
                 have hv647_3 := hcc647 3 _ rfl
                 rw [add_field _ _ 3 (by omega)] at hv647_3
                 replace hv647_3 := Option.some.inj (hv647_3.symm.trans hx647_3)
                 rw [hv647_3] at ge647_3
                 have HL647_3 := Aside0.mk (show Kd.R (Kd.int .i64) 3 _ _ _ _ ((rd_T31 t634 x8_2).f3) from ge647_3)
                 clear hv647_3 ge647_3
                 clear hcc647 hce647
                 have HR647_3 := Aside0.mk hi647_3
                 have HC647_3 := Aside0.mk hl647_3
                 clear hi647_3 hl647_3
                 replace p647 := eq_true p647
                 replace q647 := eq_true q647
                 have p648 : 0 ≤ (x8_2 : Int) := of_decide_eq_true (by assumption)
                 have q648 : x8_2 < (t634.length : Int) := of_decide_eq_true (by assumption)
                 obtain ⟨ad648, A648_3, c648_3, e648, hx648_0, hx648_1, hx648_2, hx648_3, hl648_3, hi648_3⟩ := at_T31 (Kd.S_reads' HO_3.out).2.2 x8_2 p648 q648
                 obtain rfl : ad647 = ad648 := (by injection e648)
                 obtain ⟨ce648, hce648, hMe648, hcc648⟩ := Kd.S_get HO_3.out z31 x8_2 p648 (by first | exact q648 | exact of_decide_eq_true (by assumption) | (have e_ := (Kd.S_reads' HO_3.out).1; omega))
                 obtain ⟨ve648_3, rfl, ge648_3⟩ := k31_openM hMe648
                 have hv648_3 := hcc648 3 _ rfl
                 rw [add_field _ _ 3 (by omega)] at hv648_3
                 replace hv648_3 := Option.some.inj (hv648_3.symm.trans hx648_3)
                 rw [hv648_3] at ge648_3
                 have HL648_3 := Aside0.mk (show Kd.R (Kd.int .i64) 3 _ _ _ _ ((rd_T31 t634 x8_2).f3) from ge648_3)
                 clear hv648_3 ge648_3
                 clear hcc648 hce648
                 have HR648_3 := Aside0.mk hi648_3
                 have HC648_3 := Aside0.mk hl648_3
                 clear hi648_3 hl648_3
                 replace p648 := eq_true p648
                 replace q648 := eq_true q648
                 have ea_ := Option.some.inj (hx647_3.symm.trans hx648_3)
                 injection ea_ with ea_ en_ ec_
                 subst ea_
                 subst ec_
                 clear en_
                 have p649 : 0 ≤ (x9_3 : Int) := of_decide_eq_true (by assumption)
                 have q649 : x9_3 < (((rd_T31 t634 x8_2).f3).length : Int) := of_decide_eq_true (by assumption)
                 obtain ⟨ad649, e649, hx649_0⟩ := Kd.at_int (by repeat (first | (with_reducible exact HR648_3.out) | (with_reducible refine Kd.C_alloc ?_ _) | (with_reducible refine Kd.C_drewN ?_ _) | (with_reducible refine Kd.C_drew ?_) | exact HR648_3.out)) x9_3 p649 q649
                 cases e649
                 replace p649 := eq_true p649
                 replace q649 := eq_true q649
                 have p650 : 0 ≤ ((rd ((rd_T31 t634 x8_2).f3) x9_3) : Int) := of_decide_eq_true (by assumption)
                 have q650 : (rd ((rd_T31 t634 x8_2).f3) x9_3) < (t641.length : Int) := of_decide_eq_true (by assumption)
                 obtain ⟨ad650, e650, hx650_0⟩ := Kd.at_int (Kd.Q_reads' HO_5.out).2.2 (rd ((rd_T31 t634 x8_2).f3) x9_3) p650 q650
                 cases e650
                 replace p650 := eq_true p650
                 replace q650 := eq_true q650
                 have p651 : 0 ≤ ((rd ((rd_T31 t634 x8_2).f3) x9_3) : Int) := of_decide_eq_true (by assumption)
                 have q651 : (rd ((rd_T31 t634 x8_2).f3) x9_3) < (t634.length : Int) := of_decide_eq_true (by assumption)
                 obtain ⟨ad651, A651_3, c651_3, e651, hx651_0, hx651_1, hx651_2, hx651_3, hl651_3, hi651_3⟩ := at_T31 (Kd.S_reads' HO_3.out).2.2 (rd ((rd_T31 t634 x8_2).f3) x9_3) p651 q651
                 obtain rfl : ad647 = ad651 := (by injection e651)
                 obtain ⟨ce651, hce651, hMe651, hcc651⟩ := Kd.S_get HO_3.out z31 (rd ((rd_T31 t634 x8_2).f3) x9_3) p651 (by first | exact q651 | exact of_decide_eq_true (by assumption) | (have e_ := (Kd.S_reads' HO_3.out).1; omega))
                 obtain ⟨ve651_3, rfl, ge651_3⟩ := k31_openM hMe651
                 have hv651_3 := hcc651 3 _ rfl
                 rw [add_field _ _ 3 (by omega)] at hv651_3
                 replace hv651_3 := Option.some.inj (hv651_3.symm.trans hx651_3)
                 rw [hv651_3] at ge651_3
                 have HL651_3 := Aside0.mk (show Kd.R (Kd.int .i64) 3 _ _ _ _ ((rd_T31 t634 (rd ((rd_T31 t634 x8_2).f3) x9_3)).f3) from ge651_3)
                 clear hv651_3 ge651_3
                 clear hcc651 hce651
                 have HR651_3 := Aside0.mk hi651_3
                 have HC651_3 := Aside0.mk hl651_3
                 clear hi651_3 hl651_3
                 replace p651 := eq_true p651
                 replace q651 := eq_true q651
                 have p652 : 0 ≤ (x8_2 : Int) := of_decide_eq_true (by assumption)
                 have q652 : x8_2 < (t641.length : Int) := of_decide_eq_true (by assumption)
                 obtain ⟨ad652, e652, hx652_0⟩ := Kd.at_int (Kd.Q_reads' HO_5.out).2.2 x8_2 p652 q652
                 obtain rfl : ad650 = ad652 := (by injection e652)
                 replace p652 := eq_true p652
                 replace q652 := eq_true q652
                 go_wp2
                 repeat (go_quiet (fail); try go_wp2)
                 go_ret
                 exact ⟨by first | rfl | (simp [errW_none, errW_some] <;> rfl) | (simp [*, errW_none, errW_some] <;> rfl), by repeat (first | (with_reducible first | exact HB.out | apply below_alloc | apply pw_below_drewN | apply below_drew1 | refine below_set ?_ GE644.out) | exact HB.out)⟩
                rw [if_neg c27] at H
                have c27b0 : decide ((rd t641 x8_2) < (wrap64 ((rd t641 (rd ((rd_T31 t634 x8_2).f3) x9_3)) + ((rd_T31 t634 (rd ((rd_T31 t634 x8_2).f3) x9_3)).f0)))) = false := decide_eq_false c27
                clear c27
                have H' := Aside0.mk H
                clear H
                have p647 : 0 ≤ (x8_2 : Int) := of_decide_eq_true (by assumption)
                have q647 : x8_2 < (t634.length : Int) := of_decide_eq_true (by assumption)
                obtain ⟨ad647, A647_3, c647_3, e647, hx647_0, hx647_1, hx647_2, hx647_3, hl647_3, hi647_3⟩ := at_T31 (Kd.S_reads' HO_3.out).2.2 x8_2 p647 q647
                cases e647
                obtain ⟨ce647, hce647, hMe647, hcc647⟩ := Kd.S_get HO_3.out z31 x8_2 p647 (by first | exact q647 | exact of_decide_eq_true (by assumption) | (have e_ := (Kd.S_reads' HO_3.out).1; omega))
                obtain ⟨ve647_3, rfl, ge647_3⟩ := k31_openM hMe647
                have hv647_3 := hcc647 3 _ rfl
                rw [add_field _ _ 3 (by omega)] at hv647_3
                replace hv647_3 := Option.some.inj (hv647_3.symm.trans hx647_3)
                rw [hv647_3] at ge647_3
                have HL647_3 := Aside0.mk (show Kd.R (Kd.int .i64) 3 _ _ _ _ ((rd_T31 t634 x8_2).f3) from ge647_3)
                clear hv647_3 ge647_3
                clear hcc647 hce647
                have HR647_3 := Aside0.mk hi647_3
                have HC647_3 := Aside0.mk hl647_3
                clear hi647_3 hl647_3
                replace p647 := eq_true p647
                replace q647 := eq_true q647
                have p648 : 0 ≤ (x8_2 : Int) := of_decide_eq_true (by assumption)
                have q648 : x8_2 < (t634.length : Int) := of_decide_eq_true (by assumption)
                obtain ⟨ad648, A648_3, c648_3, e648, hx648_0, hx648_1, hx648_2, hx648_3, hl648_3, hi648_3⟩ := at_T31 (Kd.S_reads' HO_3.out).2.2 x8_2 p648 q648
                obtain rfl : ad647 = ad648 := (by injection e648)
                obtain ⟨ce648, hce648, hMe648, hcc648⟩ := Kd.S_get HO_3.out z31 x8_2 p648 (by first | exact q648 | exact of_decide_eq_true (by assumption) | (have e_ := (Kd.S_reads' HO_3.out).1; omega))
                obtain ⟨ve648_3, rfl, ge648_3⟩ := k31_openM hMe648
                have hv648_3 := hcc648 3 _ rfl
                rw [add_field _ _ 3 (by omega)] at hv648_3
                replace hv648_3 := Option.some.inj (hv648_3.symm.trans hx648_3)
                rw [hv648_3] at ge648_3
                have HL648_3 := Aside0.mk (show Kd.R (Kd.int .i64) 3 _ _ _ _ ((rd_T31 t634 x8_2).f3) from ge648_3)
                clear hv648_3 ge648_3
                clear hcc648 hce648
                have HR648_3 := Aside0.mk hi648_3
                have HC648_3 := Aside0.mk hl648_3
                clear hi648_3 hl648_3
                replace p648 := eq_true p648
                replace q648 := eq_true q648
                have ea_ := Option.some.inj (hx647_3.symm.trans hx648_3)
                injection ea_ with ea_ en_ ec_
                subst ea_
                subst ec_
                clear en_
                have p649 : 0 ≤ (x9_3 : Int) := of_decide_eq_true (by assumption)
                have q649 : x9_3 < (((rd_T31 t634 x8_2).f3).length : Int) := of_decide_eq_true (by assumption)
                obtain ⟨ad649, e649, hx649_0⟩ := Kd.at_int (by repeat (first | (with_reducible exact HR648_3.out) | (with_reducible refine Kd.C_alloc ?_ _) | (with_reducible refine Kd.C_drewN ?_ _) | (with_reducible refine Kd.C_drew ?_) | exact HR648_3.out)) x9_3 p649 q649
                cases e649
                replace p649 := eq_true p649
                replace q649 := eq_true q649
                have p650 : 0 ≤ ((rd ((rd_T31 t634 x8_2).f3) x9_3) : Int) := of_decide_eq_true (by assumption)
                have q650 : (rd ((rd_T31 t634 x8_2).f3) x9_3) < (t641.length : Int) := of_decide_eq_true (by assumption)
                obtain ⟨ad650, e650, hx650_0⟩ := Kd.at_int (Kd.Q_reads' HO_5.out).2.2 (rd ((rd_T31 t634 x8_2).f3) x9_3) p650 q650
                cases e650
                replace p650 := eq_true p650
                replace q650 := eq_true q650
                have p651 : 0 ≤ ((rd ((rd_T31 t634 x8_2).f3) x9_3) : Int) := of_decide_eq_true (by assumption)
                have q651 : (rd ((rd_T31 t634 x8_2).f3) x9_3) < (t634.length : Int) := of_decide_eq_true (by assumption)
                obtain ⟨ad651, A651_3, c651_3, e651, hx651_0, hx651_1, hx651_2, hx651_3, hl651_3, hi651_3⟩ := at_T31 (Kd.S_reads' HO_3.out).2.2 (rd ((rd_T31 t634 x8_2).f3) x9_3) p651 q651
                obtain rfl : ad647 = ad651 := (by injection e651)
                obtain ⟨ce651, hce651, hMe651, hcc651⟩ := Kd.S_get HO_3.out z31 (rd ((rd_T31 t634 x8_2).f3) x9_3) p651 (by first | exact q651 | exact of_decide_eq_true (by assumption) | (have e_ := (Kd.S_reads' HO_3.out).1; omega))
                obtain ⟨ve651_3, rfl, ge651_3⟩ := k31_openM hMe651
                have hv651_3 := hcc651 3 _ rfl
                rw [add_field _ _ 3 (by omega)] at hv651_3
                replace hv651_3 := Option.some.inj (hv651_3.symm.trans hx651_3)
                rw [hv651_3] at ge651_3
                have HL651_3 := Aside0.mk (show Kd.R (Kd.int .i64) 3 _ _ _ _ ((rd_T31 t634 (rd ((rd_T31 t634 x8_2).f3) x9_3)).f3) from ge651_3)
                clear hv651_3 ge651_3
                clear hcc651 hce651
                have HR651_3 := Aside0.mk hi651_3
                have HC651_3 := Aside0.mk hl651_3
                clear hi651_3 hl651_3
                replace p651 := eq_true p651
                replace q651 := eq_true q651
                have p652 : 0 ≤ (x8_2 : Int) := of_decide_eq_true (by assumption)
                have q652 : x8_2 < (t641.length : Int) := of_decide_eq_true (by assumption)
                obtain ⟨ad652, e652, hx652_0⟩ := Kd.at_int (Kd.Q_reads' HO_5.out).2.2 x8_2 p652 q652
                obtain rfl : ad650 = ad652 := (by injection e652)
                replace p652 := eq_true p652
                replace q652 := eq_true q652
                go_wp2
                repeat (go_quiet (fail); try go_wp2)
                go_roundg k3
                case measure => have := HJ5.out; have := HK2.out; have := HK3.out; omega
                case rel => exact ⟨(wrap64 (x9_3 + 1)), (by first | rfl | (simp; done) | (simp [*]; done)), H', ⟨by have := HJ5.out; have := HK2.out; have := HK3.out; omega⟩, ⟨by (with_reducible repeat (first | apply Kd.S_alloc | apply Kd.S_drewN | apply Kd.S_drew)); exact HO_3.out⟩, ⟨by (with_reducible repeat (first | apply Kd.Q_alloc | apply Kd.Q_drewN | apply Kd.Q_drew)); exact HO_5.out⟩, ⟨by (with_reducible repeat (first | apply Kd.R_alloc | apply Kd.R_drewN | apply Kd.R_drew)); exact HO_645001.out⟩, ⟨by (with_reducible repeat (first | refine blk_drewN ?_ _ | refine blk_drew ?_ | refine blk_alloc ?_ _)); exact BK644.out⟩, ⟨by repeat (first | (with_reducible first | exact HB.out | apply below_alloc | apply pw_below_drewN | apply below_drew1 | refine below_set ?_ GE644.out) | exact HB.out)⟩⟩
               rw [if_neg c26] at H
               exact absurd H (by simp)
              rw [if_neg c25] at H
              exact absurd H (by simp)
             rw [if_neg c24] at H
             exact absurd H (by simp)
            rw [if_neg c23] at H
            exact absurd H (by simp)
           rw [if_neg c22] at H
           exact absurd H (by simp)
          rw [if_neg c21] at H
          have c21b0 : decide (x9_3 < (((rd_T31 t634 x8_2).f3).length : Int)) = false := decide_eq_false c21
          clear c21
          have H' := Aside0.mk H
          clear H
          have p647 : 0 ≤ (x8_2 : Int) := of_decide_eq_true (by assumption)
          have q647 : x8_2 < (t634.length : Int) := of_decide_eq_true (by assumption)
          obtain ⟨ad647, A647_3, c647_3, e647, hx647_0, hx647_1, hx647_2, hx647_3, hl647_3, hi647_3⟩ := at_T31 (Kd.S_reads' HO_3.out).2.2 x8_2 p647 q647
          cases e647
          obtain ⟨ce647, hce647, hMe647, hcc647⟩ := Kd.S_get HO_3.out z31 x8_2 p647 (by first | exact q647 | exact of_decide_eq_true (by assumption) | (have e_ := (Kd.S_reads' HO_3.out).1; omega))
          obtain ⟨ve647_3, rfl, ge647_3⟩ := k31_openM hMe647
          have hv647_3 := hcc647 3 _ rfl
          rw [add_field _ _ 3 (by omega)] at hv647_3
          replace hv647_3 := Option.some.inj (hv647_3.symm.trans hx647_3)
          rw [hv647_3] at ge647_3
          have HL647_3 := Aside0.mk (show Kd.R (Kd.int .i64) 3 _ _ _ _ ((rd_T31 t634 x8_2).f3) from ge647_3)
          clear hv647_3 ge647_3
          clear hcc647 hce647
          have HR647_3 := Aside0.mk hi647_3
          have HC647_3 := Aside0.mk hl647_3
          clear hi647_3 hl647_3
          replace p647 := eq_true p647
          replace q647 := eq_true q647
          go_wp2
          repeat (go_quiet (fail); try go_wp2)
          go_roundg k3
          case measure => have := HJ5.out; have := HK2.out; have := HK3.out; omega
          case rel => exact ⟨(wrap64 (x8_2 + 1)), (by first | rfl | (simp; done) | (simp [*]; done)), H', ⟨by have := HJ5.out; have := HK2.out; have := HK3.out; omega⟩, ⟨by (with_reducible repeat (first | apply Kd.S_alloc | apply Kd.S_drewN | apply Kd.S_drew)); exact HO_3.out⟩, ⟨by (with_reducible repeat (first | apply Kd.Q_alloc | apply Kd.Q_drewN | apply Kd.Q_drew)); exact HO_5.out⟩, ⟨by (with_reducible repeat (first | apply Kd.R_alloc | apply Kd.R_drewN | apply Kd.R_drew)); exact HO_645001.out⟩, ⟨by (with_reducible repeat (first | refine blk_drewN ?_ _ | refine blk_drew ?_ | refine blk_alloc ?_ _)); exact BK644.out⟩, ⟨by repeat (first | (with_reducible first | exact HB.out | apply below_alloc | apply pw_below_drewN | apply below_drew1 | refine below_set ?_ GE644.out) | exact HB.out)⟩⟩
         rw [if_neg c20] at H
         exact absurd H (by simp)
        rw [if_neg c19] at H
        exact absurd H (by simp)
     rw [if_neg c18] at H
     have c18b0 : decide (x8_2 < (t634.length : Int)) = false := decide_eq_false c18
     clear c18
     obtain rfl := Option.some.inj H
     go_wp2
     repeat (go_quiet (fail); try go_wp2)
     go_ret
     exact ⟨by first | rfl | (simp [errW_none, errW_some] <;> rfl) | (simp [*, errW_none, errW_some] <;> rfl), by repeat (first | (with_reducible first | exact HB.out | apply below_alloc | apply pw_below_drewN | apply below_drew1 | refine below_set ?_ GE644.out) | exact HB.out)⟩

/-- THE ONE PURE STATEMENT of laws_FnPlan: yours. -/
def laws_FnPlan.Pure : Prop := ∀ (l0 : List Int), l0.length ≤ maxLen → l0.length * 1 ≤ 140737488351232 → (∀ x ∈ l0, (Lit.int .u8 x).wf = true) → ∃ k, laws_FnPlan.f k l0 = some true
theorem laws_FnPlan.walk (P : laws_FnPlan.Pure) (a0 : Option Addr) (len0 cap0 : Nat) (z0 : List Int) (w : World) (w0 : (a0 = none ∧ len0 = 0 ∧ cap0 = 0 ∧ z0 = []) ∨ ∃ x, a0 = some x ∧ len0 ≤ cap0 ∧ cap0 ≤ maxLen ∧ z0.length = cap0 ∧ (∀ i, i < z0.length → w.cell? (x.add i) = some (.int .u8 (z0.getD i 0))) ∧ ∀ n ∈ z0, (Lit.int .u8 n).wf = true) (y0 : len0 * 1 ≤ 140737488351232) :
    Calls Try.prog 5 #[.slice a0 len0 cap0] w fun e w' => e = .returned (.bool true) ∧ Below w.heap.size w w' := by
 obtain ⟨l0, rfl, hr0, hm0, hw0, hc0⟩ := ReadsInt.ofRowC w0
 obtain ⟨k, h⟩ := P l0 hm0 y0 hw0
 refine (laws_FnPlan.calls k _ _ l0 true w (Kd.C_of_reads (d := (0 : Int)) (h1 := fun _ => rfl) hr0) hc0 h).mono ?_
 rintro e w' ⟨rfl, hd⟩
 exact ⟨rfl, hd⟩

end Go.Proofs.Ytoaigcdoblnmhaa.PPn
