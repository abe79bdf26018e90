import Derived.Test.YtoaigcdoblnmhaaVePPnx0
import Derived.Test.YtoaigcdoblnmhaaVePPnx11
import Derived.Test.YtoaigcdoblnmhaaVePPnx20
import Derived.Test.YtoaigcdoblnmhaaVePPnx23
import Derived.Test.YtoaigcdoblnmhaaVePPnx26
import Derived.Test.YtoaigcdoblnmhaaVePPnx29
namespace Go.Proofs.Ytoaigcdoblnmhaa.PPn
open Go.RowKit Go.Proofs.YtoaigcdoblnmhaaW.PrintWords Go.Proofs.YtoaigcdoblnmhaaW.PrintLast Go.Proofs.YtoaigcdoblnmhaaW.PrintMore
attribute [local go_sem] max2_int min2_int max_two min_two max_three min_three max_four min_four
set_option linter.unusedVariables false
set_option linter.unusedSimpArgs false

mutual
def laws_FnPlanRoom.j0 : Nat → List (S31) → List Int → Bool → Bool → Bool → Int → List Int → Option (Bool)
 | 0, _, _, _, _, _, _, _ => none
 | k + 1, x3, x5, x6, x7, x36, x696000, x696001 => if x36 = true then (some (x6 == x7)) else ((impl_PlanEnd.f k x3 x5).bind fun t698 => (laws_FnPlanRoom.l0 k x3 x5 t698 0 x696000 x696001))
def laws_FnPlanRoom.l0 : Nat → List (S31) → List Int → Int → Int → Int → List Int → Option (Bool)
 | 0, _, _, _, _, _, _ => none
 | k + 1, x3, x5, x8, x9, x696000, x696001 => if x9 < x8 then ((impl_PlanUse.f k x3 x5 x9).bind fun bt699 => (if bt699.1 > x696000 then (laws_FnPlanRoom.j2 k x3 x5 x8 x9 bt699.2 true x696000 x696001) else (if bt699.1 < 0 then (laws_FnPlanRoom.j2 k x3 x5 x8 x9 bt699.2 true x696000 x696001) else (laws_FnPlanRoom.j2 k x3 x5 x8 x9 bt699.2 ((bt699.2.length : Int) != (x696001.length : Int)) x696000 x696001)))) else (some true)
def laws_FnPlanRoom.j2 : Nat → List (S31) → List Int → Int → Int → List Int → Bool → Int → List Int → Option (Bool)
 | 0, _, _, _, _, _, _, _, _ => none
 | k + 1, x3, x5, x8, x9, x11, x70, x696000, x696001 => if x70 = true then (some false) else (laws_FnPlanRoom.l1 k x3 x5 x8 x9 x11 0 x696000 x696001)
def laws_FnPlanRoom.l1 : Nat → List (S31) → List Int → Int → Int → List Int → Int → Int → List Int → Option (Bool)
 | 0, _, _, _, _, _, _, _, _ => none
 | k + 1, x3, x5, x8, x9, x11, x12, x696000, x696001 => if x12 < (x11.length : Int) then (if 0 ≤ x12 then (if x12 < (x696001.length : Int) then (if (rd x11 x12) > (rd x696001 x12) then (some false) else (laws_FnPlanRoom.l1 k x3 x5 x8 x9 x11 (wrap64 (x12 + 1)) x696000 x696001)) else (none)) else (none)) else (laws_FnPlanRoom.l0 k x3 x5 x8 (wrap64 (x9 + 1)) x696000 x696001)
end
def laws_FnPlanRoom.f (k : Nat) (l0 : List Int) : Option (Bool) := if (l0.length : Int) > 1048576 then (some true) else ((spec_DrawPlanValid.f k l0).bind fun bt685 => ((impl_PlanValid.f k bt685.1 bt685.2.1 bt685.2.2.1 bt685.2.2.2).bind fun t696 => ((spec_PlanValid.f k bt685.1 bt685.2.1 bt685.2.2.1 bt685.2.2.2).bind fun t697 => (if (t696 != t697) = true then (laws_FnPlanRoom.j0 k bt685.1 bt685.2.2.2 t696 t697 true bt685.2.1 bt685.2.2.1) else (laws_FnPlanRoom.j0 k bt685.1 bt685.2.2.2 t696 t697 (!t696) bt685.2.1 bt685.2.2.1)))))
theorem laws_FnPlanRoom.mono_l : ∀ k, (∀ y0 y1 y2 y3 y4 y5 y6, LeO (laws_FnPlanRoom.j0 k y0 y1 y2 y3 y4 y5 y6) (laws_FnPlanRoom.j0 (k + 1) y0 y1 y2 y3 y4 y5 y6)) ∧ (∀ y0 y1 y2 y3 y4 y5, LeO (laws_FnPlanRoom.l0 k y0 y1 y2 y3 y4 y5) (laws_FnPlanRoom.l0 (k + 1) y0 y1 y2 y3 y4 y5)) ∧ (∀ y0 y1 y2 y3 y4 y5 y6 y7, LeO (laws_FnPlanRoom.j2 k y0 y1 y2 y3 y4 y5 y6 y7) (laws_FnPlanRoom.j2 (k + 1) y0 y1 y2 y3 y4 y5 y6 y7)) ∧ (∀ y0 y1 y2 y3 y4 y5 y6 y7, LeO (laws_FnPlanRoom.l1 k y0 y1 y2 y3 y4 y5 y6 y7) (laws_FnPlanRoom.l1 (k + 1) y0 y1 y2 y3 y4 y5 y6 y7))
 | 0 => ⟨fun _ _ _ _ _ _ _ r h => by simp [laws_FnPlanRoom.j0] at h, fun _ _ _ _ _ _ r h => by simp [laws_FnPlanRoom.l0] at h, fun _ _ _ _ _ _ _ _ r h => by simp [laws_FnPlanRoom.j2] at h, fun _ _ _ _ _ _ _ _ r h => by simp [laws_FnPlanRoom.l1] at h⟩
 | k + 1 => by
  obtain ⟨ih0, ih1, ih2, ih3⟩ := laws_FnPlanRoom.mono_l k
  refine ⟨?_, ?_, ?_, ?_⟩
  ·intro y0 y1 y2 y3 y4 y5 y6
   unfold laws_FnPlanRoom.j0
   repeat' first
   | (with_reducible exact ih0 _ _ _ _ _ _ _)
   | (with_reducible exact ih1 _ _ _ _ _ _)
   | (with_reducible exact ih2 _ _ _ _ _ _ _ _)
   | (with_reducible exact ih3 _ _ _ _ _ _ _ _)
   | (with_reducible exact impl_PlanEnd.mono _ _ _)
   | (with_reducible exact impl_PlanUse.mono _ _ _ _)
   | (with_reducible exact impl_PlanValid.mono _ _ _ _ _)
   | (with_reducible exact spec_DrawPlanValid.mono _ _)
   | (with_reducible exact spec_PlanValid.mono _ _ _ _ _)
   | (with_reducible exact lR_q _)
   | (with_reducible exact lO_q _)
   | (with_reducible refine lI_q ?_ ?_)
   | (with_reducible refine lB_q ?_ (fun _ => ?_))
   | exact ih0 _ _ _ _ _ _ _
   | exact ih1 _ _ _ _ _ _
   | exact ih2 _ _ _ _ _ _ _ _
   | exact ih3 _ _ _ _ _ _ _ _
   | exact impl_PlanEnd.mono _ _ _
   | exact impl_PlanUse.mono _ _ _ _
   | exact impl_PlanValid.mono _ _ _ _ _
   | exact spec_DrawPlanValid.mono _ _
   | exact spec_PlanValid.mono _ _ _ _ _
   | exact lO_q _
   | refine lI_q ?_ ?_
   | refine lB_q ?_ (fun _ => ?_)
  ·intro y0 y1 y2 y3 y4 y5
   unfold laws_FnPlanRoom.l0
   repeat' first
   | (with_reducible exact ih0 _ _ _ _ _ _ _)
   | (with_reducible exact ih1 _ _ _ _ _ _)
   | (with_reducible exact ih2 _ _ _ _ _ _ _ _)
   | (with_reducible exact ih3 _ _ _ _ _ _ _ _)
   | (with_reducible exact impl_PlanEnd.mono _ _ _)
   | (with_reducible exact impl_PlanUse.mono _ _ _ _)
   | (with_reducible exact impl_PlanValid.mono _ _ _ _ _)
   | (with_reducible exact spec_DrawPlanValid.mono _ _)
   | (with_reducible exact spec_PlanValid.mono _ _ _ _ _)
   | (with_reducible exact lR_q _)
   | (with_reducible exact lO_q _)
   | (with_reducible refine lI_q ?_ ?_)
   | (with_reducible refine lB_q ?_ (fun _ => ?_))
   | exact ih0 _ _ _ _ _ _ _
   | exact ih1 _ _ _ _ _ _
   | exact ih2 _ _ _ _ _ _ _ _
   | exact ih3 _ _ _ _ _ _ _ _
   | exact impl_PlanEnd.mono _ _ _
   | exact impl_PlanUse.mono _ _ _ _
   | exact impl_PlanValid.mono _ _ _ _ _
   | exact spec_DrawPlanValid.mono _ _
   | exact spec_PlanValid.mono _ _ _ _ _
   | exact lO_q _
   | refine lI_q ?_ ?_
   | refine lB_q ?_ (fun _ => ?_)
  ·intro y0 y1 y2 y3 y4 y5 y6 y7
   unfold laws_FnPlanRoom.j2
   repeat' first
   | (with_reducible exact ih0 _ _ _ _ _ _ _)
   | (with_reducible exact ih1 _ _ _ _ _ _)
   | (with_reducible exact ih2 _ _ _ _ _ _ _ _)
   | (with_reducible exact ih3 _ _ _ _ _ _ _ _)
   | (with_reducible exact impl_PlanEnd.mono _ _ _)
   | (with_reducible exact impl_PlanUse.mono _ _ _ _)
   | (with_reducible exact impl_PlanValid.mono _ _ _ _ _)
   | (with_reducible exact spec_DrawPlanValid.mono _ _)
   | (with_reducible exact spec_PlanValid.mono _ _ _ _ _)
   | (with_reducible exact lR_q _)
   | (with_reducible exact lO_q _)
   | (with_reducible refine lI_q ?_ ?_)
   | (with_reducible refine lB_q ?_ (fun _ => ?_))
   | exact ih0 _ _ _ _ _ _ _
   | exact ih1 _ _ _ _ _ _
   | exact ih2 _ _ _ _ _ _ _ _
   | exact ih3 _ _ _ _ _ _ _ _
   | exact impl_PlanEnd.mono _ _ _
   | exact impl_PlanUse.mono _ _ _ _
   | exact impl_PlanValid.mono _ _ _ _ _
   | exact spec_DrawPlanValid.mono _ _
   | exact spec_PlanValid.mono _ _ _ _ _
   | exact lO_q _
   | refine lI_q ?_ ?_
   | refine lB_q ?_ (fun _ => ?_)
  intro y0 y1 y2 y3 y4 y5 y6 y7
  unfold laws_FnPlanRoom.l1
  repeat' first
  | (with_reducible exact ih0 _ _ _ _ _ _ _)
  | (with_reducible exact ih1 _ _ _ _ _ _)
  | (with_reducible exact ih2 _ _ _ _ _ _ _ _)
  | (with_reducible exact ih3 _ _ _ _ _ _ _ _)
  | (with_reducible exact impl_PlanEnd.mono _ _ _)
  | (with_reducible exact impl_PlanUse.mono _ _ _ _)
  | (with_reducible exact impl_PlanValid.mono _ _ _ _ _)
  | (with_reducible exact spec_DrawPlanValid.mono _ _)
  | (with_reducible exact spec_PlanValid.mono _ _ _ _ _)
  | (with_reducible exact lR_q _)
  | (with_reducible exact lO_q _)
  | (with_reducible refine lI_q ?_ ?_)
  | (with_reducible refine lB_q ?_ (fun _ => ?_))
  | exact ih0 _ _ _ _ _ _ _
  | exact ih1 _ _ _ _ _ _
  | exact ih2 _ _ _ _ _ _ _ _
  | exact ih3 _ _ _ _ _ _ _ _
  | exact impl_PlanEnd.mono _ _ _
  | exact impl_PlanUse.mono _ _ _ _
  | exact impl_PlanValid.mono _ _ _ _ _
  | exact spec_DrawPlanValid.mono _ _
  | exact spec_PlanValid.mono _ _ _ _ _
  | exact lO_q _
  | refine lI_q ?_ ?_
  | refine lB_q ?_ (fun _ => ?_)
theorem laws_FnPlanRoom.mono : ∀ a0 k, LeO (laws_FnPlanRoom.f k a0) (laws_FnPlanRoom.f (k + 1) a0) := by
 intro a0 k
 obtain ⟨ih0, ih1, ih2, ih3⟩ := laws_FnPlanRoom.mono_l k
 unfold laws_FnPlanRoom.f
 repeat' first
  | (with_reducible exact ih0 _ _ _ _ _ _ _)
  | (with_reducible exact ih1 _ _ _ _ _ _)
  | (with_reducible exact ih2 _ _ _ _ _ _ _ _)
  | (with_reducible exact ih3 _ _ _ _ _ _ _ _)
  | (with_reducible exact impl_PlanEnd.mono _ _ _)
  | (with_reducible exact impl_PlanUse.mono _ _ _ _)
  | (with_reducible exact impl_PlanValid.mono _ _ _ _ _)
  | (with_reducible exact spec_DrawPlanValid.mono _ _)
  | (with_reducible exact spec_PlanValid.mono _ _ _ _ _)
  | (with_reducible exact lR_q _)
  | (with_reducible exact lO_q _)
  | (with_reducible refine lI_q ?_ ?_)
  | (with_reducible refine lB_q ?_ (fun _ => ?_))
  | exact ih0 _ _ _ _ _ _ _
  | exact ih1 _ _ _ _ _ _
  | exact ih2 _ _ _ _ _ _ _ _
  | exact ih3 _ _ _ _ _ _ _ _
  | exact impl_PlanEnd.mono _ _ _
  | exact impl_PlanUse.mono _ _ _ _
  | exact impl_PlanValid.mono _ _ _ _ _
  | exact spec_DrawPlanValid.mono _ _
  | exact spec_PlanValid.mono _ _ _ _ _
  | exact lO_q _
  | refine lI_q ?_ ?_
  | refine lB_q ?_ (fun _ => ?_)
set_option maxHeartbeats 8000000 in
set_option maxRecDepth 100000 in
theorem laws_FnPlanRoom.calls (k : Nat) (A0 : Option Addr) (c0 : Nat) (l0 : List Int) (r : Bool) (w : World) (hr0 : Kd.C (Kd.int .u8) w A0 l0.length l0) (hc0 : l0.length ≤ c0) (h : laws_FnPlanRoom.f k l0 = some r) :
    Calls Try.prog 7 #[.slice A0 l0.length c0] w fun e w' => e = .returned (.bool r) ∧ Below w.heap.size w w' := by
 have hu41 := Try.underlying41
 have HR0 := Ae_q hr0
 have HC0 := Ae_q hc0
 clear hr0 hc0
 have HB := Ae_q (bR_q w.heap.size w)
 have H : (if (l0.length : Int) > 1048576 then (some true) else ((spec_DrawPlanValid.f k l0).bind fun bt685 => ((impl_PlanValid.f k bt685.1 bt685.2.1 bt685.2.2.1 bt685.2.2.2).bind fun t696 => ((spec_PlanValid.f k bt685.1 bt685.2.1 bt685.2.2.1 bt685.2.2.2).bind fun t697 => (if (t696 != t697) = true then (laws_FnPlanRoom.j0 k bt685.1 bt685.2.2.2 t696 t697 true bt685.2.1 bt685.2.2.1) else (laws_FnPlanRoom.j0 k bt685.1 bt685.2.2.2 t696 t697 (!t696) bt685.2.1 bt685.2.2.1)))))) = some r := h
 clear h
 by_cases c2 : (l0.length : Int) > 1048576
 ·rw [if_pos c2] at H
  have c2b0 : decide (1048576 < (l0.length : Int)) = true := dT_q c2
  have c2b1 : decide (1048576 < l0.length) = true := dT_q (by omega)
  clear c2
  obtain rfl := oI_q H
  go_enter Try.func7, Try.ntmps7
  go_wp2
  repeat (go_quiet (fail); try go_wp2)
  go_ret
  exact ⟨by first | rfl | (simp [eN_q, eS_q] <;> rfl) | (simp [*, eN_q, eS_q] <;> rfl), bel HB.out⟩
 rw [if_neg c2] at H
 have c2b0 : decide (1048576 < (l0.length : Int)) = false := dF_q c2
 have c2b1 : decide (1048576 < l0.length) = false := dF_q (by omega)
 clear c2
 replace H := oB_q.mp H
 obtain ⟨⟨t685, t688, t689, t692⟩, A30, H⟩ := H
 replace H : ((impl_PlanValid.f k t685 t688 t689 t692).bind fun t696 => ((spec_PlanValid.f k t685 t688 t689 t692).bind fun t697 => (if (t696 != t697) = true then (laws_FnPlanRoom.j0 k t685 t692 t696 t697 true t688 t689) else (laws_FnPlanRoom.j0 k t685 t692 t696 t697 (!t696) t688 t689)))) = some r := H
 have A3 := Ae_q A30
 clear A30
 replace H := oB_q.mp H
 obtain ⟨t696, A40, H⟩ := H
 replace H : ((spec_PlanValid.f k t685 t688 t689 t692).bind fun t697 => (if (t696 != t697) = true then (laws_FnPlanRoom.j0 k t685 t692 t696 t697 true t688 t689) else (laws_FnPlanRoom.j0 k t685 t692 t696 t697 (!t696) t688 t689))) = some r := H
 have A4 := Ae_q A40
 clear A40
 replace H := oB_q.mp H
 obtain ⟨t697, A50, H⟩ := H
 replace H : (if (t696 != t697) = true then (laws_FnPlanRoom.j0 k t685 t692 t696 t697 true t688 t689) else (laws_FnPlanRoom.j0 k t685 t692 t696 t697 (!t696) t688 t689)) = some r := H
 have A5 := Ae_q A50
 clear A50
 have HC6 := Ae_q H
 clear H
 go_enter Try.func7, Try.ntmps7
 go_upto_region 6 with (first | (go_at_call 24; (with_reducible refine (spec_DrawPlanValid.calls k _ _ l0 t685 t688 t689 t692 _ ?side1 ?side2 A3.out).mono ?_); (case side1 => repeat (first | exact HR0.out | (with_reducible refine cA_q ?_ _) | (with_reducible refine cN_q ?_ _) | (with_reducible refine cD_q ?_))); (case side2 => exact HC0.out); rintro e w7 ⟨v686, v690, v693, rfl, ho0, ho1, ho2, hb⟩; have n0_ := Ae_q (Kd.S_lower ho0 (bZ_q (bel HB.out))); have n1_ := Ae_q (rL_q ho1 (bZ_q (bel HB.out))); have n2_ := Ae_q (Kd.Q_lower ho2 (bZ_q (bel HB.out))); have n3_ := Ae_q (bT_q (bel HB.out) hb); clear HB; have HO687 := n0_; have HO691 := n1_; have HO694 := n2_; have HB := n3_; clear n0_ n1_ n2_ n3_; (try clear hb); (try clear hb2); (try clear hk); (try clear hi); (try clear ho0); (try clear ho1); (try clear ho2)) | ((with_reducible refine gD_q (N := 4) rfl ?_); (try (refine gate_guard (by rfl) ?_; dsimp only)); refine bE_q ?hg (N := 4) ?hd (cs := #[.int .i64 0, .slice none 0 0]) (t := 41) ?hr ?_; (case hd => rfl); (case hg => rfl); (case hr => first | (go_simp; done) | (go_simp; rfl)); intro gb695 hg w8 hbox hb; have n0_ := Ae_q (Kd.S_below (by (with_reducible repeat (first | apply tA_q | apply tN_q | apply tD_q)); exact HO687.out) hb); have n1_ := Ae_q (rO_q (rup HO691.out) hb); have n2_ := Ae_q (Kd.Q_below (by (with_reducible repeat (first | apply Kd.Q_alloc | apply Kd.Q_drewN | apply Kd.Q_drew)); exact HO694.out) hb); have n3_ := Ae_q (bT_q (bel HB.out) hb); have n4_ := Ae_q (hbox); have n5_ := Ae_q ((by rw [hg]; exact (bZ_q (bel HB.out)) : w.heap.size ≤ gb695)); have n6_ := Ae_q ((by rw [hg]; exact (bZ_q (bel HB.out)) : w.heap.size ≤ gb695)); clear HO687; clear HO691; clear HO694; clear HB; have HO687 := n0_; have HO691 := n1_; have HO694 := n2_; have HB := n3_; have BK695 := n4_; have GW695 := n5_; have GE695 := n6_; clear n0_ n1_ n2_ n3_ n4_ n5_ n6_; clear hb hbox hg; have hcz9_0 : w8.cell? ⟨gb695, 0, none⟩ = some (.int .i64 0) := (bC_q BK695.out 0).trans rfl; have hcz9_1 : w8.cell? ⟨gb695, 1, none⟩ = some (.slice none 0 0) := (bC_q BK695.out 1).trans rfl; have hfz9_0 := bF_q BK695.out 0; have hfz9_1 := bF_q BK695.out 1; obtain ⟨Ao10, co10, eo10⟩ := rS_q HO691.out; subst eo10; obtain ⟨Ao11, co11, eo11⟩ := Kd.S_slice HO687.out; subst eo11; obtain ⟨Ao12, co12, eo12, _⟩ := Kd.Q_slice HO694.out; subst eo12) | (go_at_call 20; (with_reducible refine (impl_PlanValid.calls k _ _ t685 t688 _ _ t689 _ _ t692 t696 _ ?side1 ?side2 ?side3 ?side4 ?side5 ?side6 A4.out).mono ?_); (case side1 => refine (Kd.S_reads' (e := 31) (base := w.heap.size) (ok := fun k_ => (some k_ ≠ (.slice Ao10 t689.length co10 : Value).ownBlock ∧ some k_ ≠ (.slice Ao12 t692.length co12 : Value).ownBlock)) (n := t685.length) (c := co11) ?_).2.2; exact (by (with_reducible repeat (first | apply tA_q | apply tN_q | apply tD_q)); exact (Kd.S_mono (Kd.S_far (p := ⟨gb695, 1, none⟩) (Kd.S_far (p := ⟨gb695, 0, none⟩) (Kd.S_types HO687.out BK695.out (by decide)) (fun _ hk => hk.2) (.int .i64 t688)) (fun _ hk => hk.2) (.slice Ao10 t689.length co10)) (fun _ h_ => h_.1)))); (case side2 => exact (Kd.S_reads' HO687.out).2.1); (case side3 => refine (rR_q (e := 3) (base := w.heap.size) (ok := fun k_ => some k_ ≠ (.slice Ao12 t692.length co12 : Value).ownBlock) (n := t689.length) (c := co10) ?_).2.2; exact (by (with_reducible repeat (first | apply rA_q | apply rN_q | apply rD_q)); exact (rM_q (Kd.R_far (p := ⟨gb695, 1, none⟩) (Kd.R_far (p := ⟨gb695, 0, none⟩) (Kd.R_types HO691.out BK695.out (by decide)) (fun _ hk => hk.2) (.int .i64 t688)) (fun _ hk => hk.2) (.slice Ao10 t689.length co10)) (fun _ h_ => h_.1)))); (case side4 => exact (rR_q HO691.out).2.1); (case side5 => refine (Kd.Q_reads' (e := 3) (base := w.heap.size) (ok := fun k_ => some k_ ≠ (.slice Ao10 t689.length co10 : Value).ownBlock) (n := t692.length) (c := co12) ?_).2.2; exact (by (with_reducible repeat (first | apply Kd.Q_alloc | apply Kd.Q_drewN | apply Kd.Q_drew)); exact (Kd.Q_mono (Kd.Q_far (p := ⟨gb695, 1, none⟩) (Kd.Q_far (p := ⟨gb695, 0, none⟩) (Kd.Q_types HO694.out BK695.out (by decide)) (fun _ hk => hk.2) (.int .i64 t688)) (fun _ hk => hk.2) (.slice Ao10 t689.length co10)) (fun _ h_ => h_.1)))); (case side6 => exact (Kd.Q_reads' HO694.out).2.1); rintro e w13 ⟨rfl, hb⟩; have n0_ := Ae_q (Kd.S_below (by (with_reducible repeat (first | apply tA_q | apply tN_q | apply tD_q)); exact (Kd.S_mono (Kd.S_far (p := ⟨gb695, 1, none⟩) (Kd.S_far (p := ⟨gb695, 0, none⟩) (Kd.S_types HO687.out BK695.out (by decide)) (fun _ hk => hk.2) (.int .i64 t688)) (fun _ hk => hk.2) (.slice Ao10 t689.length co10)) (fun _ h_ => h_.1))) hb); have n1_ := Ae_q (rO_q (by (with_reducible repeat (first | apply rA_q | apply rN_q | apply rD_q)); exact (rM_q (Kd.R_far (p := ⟨gb695, 1, none⟩) (Kd.R_far (p := ⟨gb695, 0, none⟩) (Kd.R_types HO691.out BK695.out (by decide)) (fun _ hk => hk.2) (.int .i64 t688)) (fun _ hk => hk.2) (.slice Ao10 t689.length co10)) (fun _ h_ => h_.1))) hb); have n2_ := Ae_q (Kd.Q_below (by (with_reducible repeat (first | apply Kd.Q_alloc | apply Kd.Q_drewN | apply Kd.Q_drew)); exact (Kd.Q_mono (Kd.Q_far (p := ⟨gb695, 1, none⟩) (Kd.Q_far (p := ⟨gb695, 0, none⟩) (Kd.Q_types HO694.out BK695.out (by decide)) (fun _ hk => hk.2) (.int .i64 t688)) (fun _ hk => hk.2) (.slice Ao10 t689.length co10)) (fun _ h_ => h_.1))) hb); have n3_ := Ae_q (bB_q (g := gb695) (o := .cells #[.int .i64 t688, .slice Ao10 t689.length co10] 41 (0, 0)) (by (with_reducible repeat (first | refine bN_q ?_ _ | refine bW_q ?_ | refine bL_q ?_ _)); refine blk_put (cs := #[.int .i64 t688, .slice none 0 0]) ?_ 1 _ rfl; (with_reducible repeat (first | refine bN_q ?_ _ | refine bW_q ?_ | refine bL_q ?_ _)); refine blk_put (cs := #[.int .i64 0, .slice none 0 0]) ?_ 0 _ rfl; (with_reducible repeat (first | refine bN_q ?_ _ | refine bW_q ?_ | refine bL_q ?_ _)); exact BK695.out) hb); have n4_ := Ae_q (bT_q (by repeat (first | (with_reducible first | exact HB.out | apply bA_q | apply pB_q | apply bD_q | refine bS_q ?_ GE695.out) | exact HB.out)) hb); clear HO687; clear HO691; clear HO694; clear BK695; clear HB; have HO687 := n0_; have HO691 := n1_; have HO694 := n2_; have BK695 := n3_; have HB := n4_; clear n0_ n1_ n2_ n3_ n4_; (try clear hb); (try clear hb2); (try clear hk); (try clear hi); have hcz14_0 : w13.cell? ⟨gb695, 0, none⟩ = some (.int .i64 t688) := (bC_q BK695.out 0).trans rfl; have hcz14_1 : w13.cell? ⟨gb695, 1, none⟩ = some (.slice Ao10 t689.length co10) := (bC_q BK695.out 1).trans rfl; have hfz14_0 := bF_q BK695.out 0; have hfz14_1 := bF_q BK695.out 1) | (go_at_call 16; (with_reducible refine (spec_PlanValid.calls k _ _ t685 t688 _ _ t689 _ _ t692 t697 _ ?side1 ?side2 ?side3 ?side4 ?side5 ?side6 A5.out).mono ?_); (case side1 => repeat (first | exact (Kd.S_reads' HO687.out).2.2 | (with_reducible refine cA_q ?_ _) | (with_reducible refine cN_q ?_ _) | (with_reducible refine cD_q ?_))); (case side2 => exact (Kd.S_reads' HO687.out).2.1); (case side3 => repeat (first | exact (rR_q HO691.out).2.2 | (with_reducible refine cA_q ?_ _) | (with_reducible refine cN_q ?_ _) | (with_reducible refine cD_q ?_))); (case side4 => exact (rR_q HO691.out).2.1); (case side5 => repeat (first | exact (Kd.Q_reads' HO694.out).2.2 | (with_reducible refine cA_q ?_ _) | (with_reducible refine cN_q ?_ _) | (with_reducible refine cD_q ?_))); (case side6 => exact (Kd.Q_reads' HO694.out).2.1); rintro e w15 ⟨rfl, hb⟩; have n0_ := Ae_q (Kd.S_below (by (with_reducible repeat (first | apply tA_q | apply tN_q | apply tD_q)); exact HO687.out) hb); have n1_ := Ae_q (rO_q (rup HO691.out) hb); have n2_ := Ae_q (Kd.Q_below (by (with_reducible repeat (first | apply Kd.Q_alloc | apply Kd.Q_drewN | apply Kd.Q_drew)); exact HO694.out) hb); have n3_ := Ae_q (bB_q (g := gb695) (o := .cells #[.int .i64 t688, .slice Ao10 t689.length co10] 41 (0, 0)) (bup BK695.out) hb); have n4_ := Ae_q (bT_q (by repeat (first | (with_reducible first | exact HB.out | apply bA_q | apply pB_q | apply bD_q | refine bS_q ?_ GE695.out) | exact HB.out)) hb); clear HO687; clear HO691; clear HO694; clear BK695; clear HB; have HO687 := n0_; have HO691 := n1_; have HO694 := n2_; have BK695 := n3_; have HB := n4_; clear n0_ n1_ n2_ n3_ n4_; (try clear hb); (try clear hb2); (try clear hk); (try clear hi)))
 repeat (go_quiet (first | (go_at_call 24; (with_reducible refine (spec_DrawPlanValid.calls k _ _ l0 t685 t688 t689 t692 _ ?side1 ?side2 A3.out).mono ?_); (case side1 => repeat (first | exact HR0.out | (with_reducible refine cA_q ?_ _) | (with_reducible refine cN_q ?_ _) | (with_reducible refine cD_q ?_))); (case side2 => exact HC0.out); rintro e w7 ⟨v686, v690, v693, rfl, ho0, ho1, ho2, hb⟩; have n0_ := Ae_q (Kd.S_lower ho0 (bZ_q (bel HB.out))); have n1_ := Ae_q (rL_q ho1 (bZ_q (bel HB.out))); have n2_ := Ae_q (Kd.Q_lower ho2 (bZ_q (bel HB.out))); have n3_ := Ae_q (bT_q (bel HB.out) hb); clear HB; have HO687 := n0_; have HO691 := n1_; have HO694 := n2_; have HB := n3_; clear n0_ n1_ n2_ n3_; (try clear hb); (try clear hb2); (try clear hk); (try clear hi); (try clear ho0); (try clear ho1); (try clear ho2)) | ((with_reducible refine gD_q (N := 4) rfl ?_); (try (refine gate_guard (by rfl) ?_; dsimp only)); refine bE_q ?hg (N := 4) ?hd (cs := #[.int .i64 0, .slice none 0 0]) (t := 41) ?hr ?_; (case hd => rfl); (case hg => rfl); (case hr => first | (go_simp; done) | (go_simp; rfl)); intro gb695 hg w8 hbox hb; have n0_ := Ae_q (Kd.S_below (by (with_reducible repeat (first | apply tA_q | apply tN_q | apply tD_q)); exact HO687.out) hb); have n1_ := Ae_q (rO_q (rup HO691.out) hb); have n2_ := Ae_q (Kd.Q_below (by (with_reducible repeat (first | apply Kd.Q_alloc | apply Kd.Q_drewN | apply Kd.Q_drew)); exact HO694.out) hb); have n3_ := Ae_q (bT_q (bel HB.out) hb); have n4_ := Ae_q (hbox); have n5_ := Ae_q ((by rw [hg]; exact (bZ_q (bel HB.out)) : w.heap.size ≤ gb695)); have n6_ := Ae_q ((by rw [hg]; exact (bZ_q (bel HB.out)) : w.heap.size ≤ gb695)); clear HO687; clear HO691; clear HO694; clear HB; have HO687 := n0_; have HO691 := n1_; have HO694 := n2_; have HB := n3_; have BK695 := n4_; have GW695 := n5_; have GE695 := n6_; clear n0_ n1_ n2_ n3_ n4_ n5_ n6_; clear hb hbox hg; have hcz9_0 : w8.cell? ⟨gb695, 0, none⟩ = some (.int .i64 0) := (bC_q BK695.out 0).trans rfl; have hcz9_1 : w8.cell? ⟨gb695, 1, none⟩ = some (.slice none 0 0) := (bC_q BK695.out 1).trans rfl; have hfz9_0 := bF_q BK695.out 0; have hfz9_1 := bF_q BK695.out 1; obtain ⟨Ao10, co10, eo10⟩ := rS_q HO691.out; subst eo10; obtain ⟨Ao11, co11, eo11⟩ := Kd.S_slice HO687.out; subst eo11; obtain ⟨Ao12, co12, eo12, _⟩ := Kd.Q_slice HO694.out; subst eo12) | (go_at_call 20; (with_reducible refine (impl_PlanValid.calls k _ _ t685 t688 _ _ t689 _ _ t692 t696 _ ?side1 ?side2 ?side3 ?side4 ?side5 ?side6 A4.out).mono ?_); (case side1 => refine (Kd.S_reads' (e := 31) (base := w.heap.size) (ok := fun k_ => (some k_ ≠ (.slice Ao10 t689.length co10 : Value).ownBlock ∧ some k_ ≠ (.slice Ao12 t692.length co12 : Value).ownBlock)) (n := t685.length) (c := co11) ?_).2.2; exact (by (with_reducible repeat (first | apply tA_q | apply tN_q | apply tD_q)); exact (Kd.S_mono (Kd.S_far (p := ⟨gb695, 1, none⟩) (Kd.S_far (p := ⟨gb695, 0, none⟩) (Kd.S_types HO687.out BK695.out (by decide)) (fun _ hk => hk.2) (.int .i64 t688)) (fun _ hk => hk.2) (.slice Ao10 t689.length co10)) (fun _ h_ => h_.1)))); (case side2 => exact (Kd.S_reads' HO687.out).2.1); (case side3 => refine (rR_q (e := 3) (base := w.heap.size) (ok := fun k_ => some k_ ≠ (.slice Ao12 t692.length co12 : Value).ownBlock) (n := t689.length) (c := co10) ?_).2.2; exact (by (with_reducible repeat (first | apply rA_q | apply rN_q | apply rD_q)); exact (rM_q (Kd.R_far (p := ⟨gb695, 1, none⟩) (Kd.R_far (p := ⟨gb695, 0, none⟩) (Kd.R_types HO691.out BK695.out (by decide)) (fun _ hk => hk.2) (.int .i64 t688)) (fun _ hk => hk.2) (.slice Ao10 t689.length co10)) (fun _ h_ => h_.1)))); (case side4 => exact (rR_q HO691.out).2.1); (case side5 => refine (Kd.Q_reads' (e := 3) (base := w.heap.size) (ok := fun k_ => some k_ ≠ (.slice Ao10 t689.length co10 : Value).ownBlock) (n := t692.length) (c := co12) ?_).2.2; exact (by (with_reducible repeat (first | apply Kd.Q_alloc | apply Kd.Q_drewN | apply Kd.Q_drew)); exact (Kd.Q_mono (Kd.Q_far (p := ⟨gb695, 1, none⟩) (Kd.Q_far (p := ⟨gb695, 0, none⟩) (Kd.Q_types HO694.out BK695.out (by decide)) (fun _ hk => hk.2) (.int .i64 t688)) (fun _ hk => hk.2) (.slice Ao10 t689.length co10)) (fun _ h_ => h_.1)))); (case side6 => exact (Kd.Q_reads' HO694.out).2.1); rintro e w13 ⟨rfl, hb⟩; have n0_ := Ae_q (Kd.S_below (by (with_reducible repeat (first | apply tA_q | apply tN_q | apply tD_q)); exact (Kd.S_mono (Kd.S_far (p := ⟨gb695, 1, none⟩) (Kd.S_far (p := ⟨gb695, 0, none⟩) (Kd.S_types HO687.out BK695.out (by decide)) (fun _ hk => hk.2) (.int .i64 t688)) (fun _ hk => hk.2) (.slice Ao10 t689.length co10)) (fun _ h_ => h_.1))) hb); have n1_ := Ae_q (rO_q (by (with_reducible repeat (first | apply rA_q | apply rN_q | apply rD_q)); exact (rM_q (Kd.R_far (p := ⟨gb695, 1, none⟩) (Kd.R_far (p := ⟨gb695, 0, none⟩) (Kd.R_types HO691.out BK695.out (by decide)) (fun _ hk => hk.2) (.int .i64 t688)) (fun _ hk => hk.2) (.slice Ao10 t689.length co10)) (fun _ h_ => h_.1))) hb); have n2_ := Ae_q (Kd.Q_below (by (with_reducible repeat (first | apply Kd.Q_alloc | apply Kd.Q_drewN | apply Kd.Q_drew)); exact (Kd.Q_mono (Kd.Q_far (p := ⟨gb695, 1, none⟩) (Kd.Q_far (p := ⟨gb695, 0, none⟩) (Kd.Q_types HO694.out BK695.out (by decide)) (fun _ hk => hk.2) (.int .i64 t688)) (fun _ hk => hk.2) (.slice Ao10 t689.length co10)) (fun _ h_ => h_.1))) hb); have n3_ := Ae_q (bB_q (g := gb695) (o := .cells #[.int .i64 t688, .slice Ao10 t689.length co10] 41 (0, 0)) (by (with_reducible repeat (first | refine bN_q ?_ _ | refine bW_q ?_ | refine bL_q ?_ _)); refine blk_put (cs := #[.int .i64 t688, .slice none 0 0]) ?_ 1 _ rfl; (with_reducible repeat (first | refine bN_q ?_ _ | refine bW_q ?_ | refine bL_q ?_ _)); refine blk_put (cs := #[.int .i64 0, .slice none 0 0]) ?_ 0 _ rfl; (with_reducible repeat (first | refine bN_q ?_ _ | refine bW_q ?_ | refine bL_q ?_ _)); exact BK695.out) hb); have n4_ := Ae_q (bT_q (by repeat (first | (with_reducible first | exact HB.out | apply bA_q | apply pB_q | apply bD_q | refine bS_q ?_ GE695.out) | exact HB.out)) hb); clear HO687; clear HO691; clear HO694; clear BK695; clear HB; have HO687 := n0_; have HO691 := n1_; have HO694 := n2_; have BK695 := n3_; have HB := n4_; clear n0_ n1_ n2_ n3_ n4_; (try clear hb); (try clear hb2); (try clear hk); (try clear hi); have hcz14_0 : w13.cell? ⟨gb695, 0, none⟩ = some (.int .i64 t688) := (bC_q BK695.out 0).trans rfl; have hcz14_1 : w13.cell? ⟨gb695, 1, none⟩ = some (.slice Ao10 t689.length co10) := (bC_q BK695.out 1).trans rfl; have hfz14_0 := bF_q BK695.out 0; have hfz14_1 := bF_q BK695.out 1) | (go_at_call 16; (with_reducible refine (spec_PlanValid.calls k _ _ t685 t688 _ _ t689 _ _ t692 t697 _ ?side1 ?side2 ?side3 ?side4 ?side5 ?side6 A5.out).mono ?_); (case side1 => repeat (first | exact (Kd.S_reads' HO687.out).2.2 | (with_reducible refine cA_q ?_ _) | (with_reducible refine cN_q ?_ _) | (with_reducible refine cD_q ?_))); (case side2 => exact (Kd.S_reads' HO687.out).2.1); (case side3 => repeat (first | exact (rR_q HO691.out).2.2 | (with_reducible refine cA_q ?_ _) | (with_reducible refine cN_q ?_ _) | (with_reducible refine cD_q ?_))); (case side4 => exact (rR_q HO691.out).2.1); (case side5 => repeat (first | exact (Kd.Q_reads' HO694.out).2.2 | (with_reducible refine cA_q ?_ _) | (with_reducible refine cN_q ?_ _) | (with_reducible refine cD_q ?_))); (case side6 => exact (Kd.Q_reads' HO694.out).2.1); rintro e w15 ⟨rfl, hb⟩; have n0_ := Ae_q (Kd.S_below (by (with_reducible repeat (first | apply tA_q | apply tN_q | apply tD_q)); exact HO687.out) hb); have n1_ := Ae_q (rO_q (rup HO691.out) hb); have n2_ := Ae_q (Kd.Q_below (by (with_reducible repeat (first | apply Kd.Q_alloc | apply Kd.Q_drewN | apply Kd.Q_drew)); exact HO694.out) hb); have n3_ := Ae_q (bB_q (g := gb695) (o := .cells #[.int .i64 t688, .slice Ao10 t689.length co10] 41 (0, 0)) (bup BK695.out) hb); have n4_ := Ae_q (bT_q (by repeat (first | (with_reducible first | exact HB.out | apply bA_q | apply pB_q | apply bD_q | refine bS_q ?_ GE695.out) | exact HB.out)) hb); clear HO687; clear HO691; clear HO694; clear BK695; clear HB; have HO687 := n0_; have HO691 := n1_; have HO694 := n2_; have BK695 := n3_; have HB := n4_; clear n0_ n1_ n2_ n3_ n4_; (try clear hb); (try clear hb2); (try clear hk); (try clear hi))); go_upto_region 6 with (first | (go_at_call 24; (with_reducible refine (spec_DrawPlanValid.calls k _ _ l0 t685 t688 t689 t692 _ ?side1 ?side2 A3.out).mono ?_); (case side1 => repeat (first | exact HR0.out | (with_reducible refine cA_q ?_ _) | (with_reducible refine cN_q ?_ _) | (with_reducible refine cD_q ?_))); (case side2 => exact HC0.out); rintro e w7 ⟨v686, v690, v693, rfl, ho0, ho1, ho2, hb⟩; have n0_ := Ae_q (Kd.S_lower ho0 (bZ_q (bel HB.out))); have n1_ := Ae_q (rL_q ho1 (bZ_q (bel HB.out))); have n2_ := Ae_q (Kd.Q_lower ho2 (bZ_q (bel HB.out))); have n3_ := Ae_q (bT_q (bel HB.out) hb); clear HB; have HO687 := n0_; have HO691 := n1_; have HO694 := n2_; have HB := n3_; clear n0_ n1_ n2_ n3_; (try clear hb); (try clear hb2); (try clear hk); (try clear hi); (try clear ho0); (try clear ho1); (try clear ho2)) | ((with_reducible refine gD_q (N := 4) rfl ?_); (try (refine gate_guard (by rfl) ?_; dsimp only)); refine bE_q ?hg (N := 4) ?hd (cs := #[.int .i64 0, .slice none 0 0]) (t := 41) ?hr ?_; (case hd => rfl); (case hg => rfl); (case hr => first | (go_simp; done) | (go_simp; rfl)); intro gb695 hg w8 hbox hb; have n0_ := Ae_q (Kd.S_below (by (with_reducible repeat (first | apply tA_q | apply tN_q | apply tD_q)); exact HO687.out) hb); have n1_ := Ae_q (rO_q (rup HO691.out) hb); have n2_ := Ae_q (Kd.Q_below (by (with_reducible repeat (first | apply Kd.Q_alloc | apply Kd.Q_drewN | apply Kd.Q_drew)); exact HO694.out) hb); have n3_ := Ae_q (bT_q (bel HB.out) hb); have n4_ := Ae_q (hbox); have n5_ := Ae_q ((by rw [hg]; exact (bZ_q (bel HB.out)) : w.heap.size ≤ gb695)); have n6_ := Ae_q ((by rw [hg]; exact (bZ_q (bel HB.out)) : w.heap.size ≤ gb695)); clear HO687; clear HO691; clear HO694; clear HB; have HO687 := n0_; have HO691 := n1_; have HO694 := n2_; have HB := n3_; have BK695 := n4_; have GW695 := n5_; have GE695 := n6_; clear n0_ n1_ n2_ n3_ n4_ n5_ n6_; clear hb hbox hg; have hcz9_0 : w8.cell? ⟨gb695, 0, none⟩ = some (.int .i64 0) := (bC_q BK695.out 0).trans rfl; have hcz9_1 : w8.cell? ⟨gb695, 1, none⟩ = some (.slice none 0 0) := (bC_q BK695.out 1).trans rfl; have hfz9_0 := bF_q BK695.out 0; have hfz9_1 := bF_q BK695.out 1; obtain ⟨Ao10, co10, eo10⟩ := rS_q HO691.out; subst eo10; obtain ⟨Ao11, co11, eo11⟩ := Kd.S_slice HO687.out; subst eo11; obtain ⟨Ao12, co12, eo12, _⟩ := Kd.Q_slice HO694.out; subst eo12) | (go_at_call 20; (with_reducible refine (impl_PlanValid.calls k _ _ t685 t688 _ _ t689 _ _ t692 t696 _ ?side1 ?side2 ?side3 ?side4 ?side5 ?side6 A4.out).mono ?_); (case side1 => refine (Kd.S_reads' (e := 31) (base := w.heap.size) (ok := fun k_ => (some k_ ≠ (.slice Ao10 t689.length co10 : Value).ownBlock ∧ some k_ ≠ (.slice Ao12 t692.length co12 : Value).ownBlock)) (n := t685.length) (c := co11) ?_).2.2; exact (by (with_reducible repeat (first | apply tA_q | apply tN_q | apply tD_q)); exact (Kd.S_mono (Kd.S_far (p := ⟨gb695, 1, none⟩) (Kd.S_far (p := ⟨gb695, 0, none⟩) (Kd.S_types HO687.out BK695.out (by decide)) (fun _ hk => hk.2) (.int .i64 t688)) (fun _ hk => hk.2) (.slice Ao10 t689.length co10)) (fun _ h_ => h_.1)))); (case side2 => exact (Kd.S_reads' HO687.out).2.1); (case side3 => refine (rR_q (e := 3) (base := w.heap.size) (ok := fun k_ => some k_ ≠ (.slice Ao12 t692.length co12 : Value).ownBlock) (n := t689.length) (c := co10) ?_).2.2; exact (by (with_reducible repeat (first | apply rA_q | apply rN_q | apply rD_q)); exact (rM_q (Kd.R_far (p := ⟨gb695, 1, none⟩) (Kd.R_far (p := ⟨gb695, 0, none⟩) (Kd.R_types HO691.out BK695.out (by decide)) (fun _ hk => hk.2) (.int .i64 t688)) (fun _ hk => hk.2) (.slice Ao10 t689.length co10)) (fun _ h_ => h_.1)))); (case side4 => exact (rR_q HO691.out).2.1); (case side5 => refine (Kd.Q_reads' (e := 3) (base := w.heap.size) (ok := fun k_ => some k_ ≠ (.slice Ao10 t689.length co10 : Value).ownBlock) (n := t692.length) (c := co12) ?_).2.2; exact (by (with_reducible repeat (first | apply Kd.Q_alloc | apply Kd.Q_drewN | apply Kd.Q_drew)); exact (Kd.Q_mono (Kd.Q_far (p := ⟨gb695, 1, none⟩) (Kd.Q_far (p := ⟨gb695, 0, none⟩) (Kd.Q_types HO694.out BK695.out (by decide)) (fun _ hk => hk.2) (.int .i64 t688)) (fun _ hk => hk.2) (.slice Ao10 t689.length co10)) (fun _ h_ => h_.1)))); (case side6 => exact (Kd.Q_reads' HO694.out).2.1); rintro e w13 ⟨rfl, hb⟩; have n0_ := Ae_q (Kd.S_below (by (with_reducible repeat (first | apply tA_q | apply tN_q | apply tD_q)); exact (Kd.S_mono (Kd.S_far (p := ⟨gb695, 1, none⟩) (Kd.S_far (p := ⟨gb695, 0, none⟩) (Kd.S_types HO687.out BK695.out (by decide)) (fun _ hk => hk.2) (.int .i64 t688)) (fun _ hk => hk.2) (.slice Ao10 t689.length co10)) (fun _ h_ => h_.1))) hb); have n1_ := Ae_q (rO_q (by (with_reducible repeat (first | apply rA_q | apply rN_q | apply rD_q)); exact (rM_q (Kd.R_far (p := ⟨gb695, 1, none⟩) (Kd.R_far (p := ⟨gb695, 0, none⟩) (Kd.R_types HO691.out BK695.out (by decide)) (fun _ hk => hk.2) (.int .i64 t688)) (fun _ hk => hk.2) (.slice Ao10 t689.length co10)) (fun _ h_ => h_.1))) hb); have n2_ := Ae_q (Kd.Q_below (by (with_reducible repeat (first | apply Kd.Q_alloc | apply Kd.Q_drewN | apply Kd.Q_drew)); exact (Kd.Q_mono (Kd.Q_far (p := ⟨gb695, 1, none⟩) (Kd.Q_far (p := ⟨gb695, 0, none⟩) (Kd.Q_types HO694.out BK695.out (by decide)) (fun _ hk => hk.2) (.int .i64 t688)) (fun _ hk => hk.2) (.slice Ao10 t689.length co10)) (fun _ h_ => h_.1))) hb); have n3_ := Ae_q (bB_q (g := gb695) (o := .cells #[.int .i64 t688, .slice Ao10 t689.length co10] 41 (0, 0)) (by (with_reducible repeat (first | refine bN_q ?_ _ | refine bW_q ?_ | refine bL_q ?_ _)); refine blk_put (cs := #[.int .i64 t688, .slice none 0 0]) ?_ 1 _ rfl; (with_reducible repeat (first | refine bN_q ?_ _ | refine bW_q ?_ | refine bL_q ?_ _)); refine blk_put (cs := #[.int .i64 0, .slice none 0 0]) ?_ 0 _ rfl; (with_reducible repeat (first | refine bN_q ?_ _ | refine bW_q ?_ | refine bL_q ?_ _)); exact BK695.out) hb); have n4_ := Ae_q (bT_q (by repeat (first | (with_reducible first | exact HB.out | apply bA_q | apply pB_q | apply bD_q | refine bS_q ?_ GE695.out) | exact HB.out)) hb); clear HO687; clear HO691; clear HO694; clear BK695; clear HB; have HO687 := n0_; have HO691 := n1_; have HO694 := n2_; have BK695 := n3_; have HB := n4_; clear n0_ n1_ n2_ n3_ n4_; (try clear hb); (try clear hb2); (try clear hk); (try clear hi); have hcz14_0 : w13.cell? ⟨gb695, 0, none⟩ = some (.int .i64 t688) := (bC_q BK695.out 0).trans rfl; have hcz14_1 : w13.cell? ⟨gb695, 1, none⟩ = some (.slice Ao10 t689.length co10) := (bC_q BK695.out 1).trans rfl; have hfz14_0 := bF_q BK695.out 0; have hfz14_1 := bF_q BK695.out 1) | (go_at_call 16; (with_reducible refine (spec_PlanValid.calls k _ _ t685 t688 _ _ t689 _ _ t692 t697 _ ?side1 ?side2 ?side3 ?side4 ?side5 ?side6 A5.out).mono ?_); (case side1 => repeat (first | exact (Kd.S_reads' HO687.out).2.2 | (with_reducible refine cA_q ?_ _) | (with_reducible refine cN_q ?_ _) | (with_reducible refine cD_q ?_))); (case side2 => exact (Kd.S_reads' HO687.out).2.1); (case side3 => repeat (first | exact (rR_q HO691.out).2.2 | (with_reducible refine cA_q ?_ _) | (with_reducible refine cN_q ?_ _) | (with_reducible refine cD_q ?_))); (case side4 => exact (rR_q HO691.out).2.1); (case side5 => repeat (first | exact (Kd.Q_reads' HO694.out).2.2 | (with_reducible refine cA_q ?_ _) | (with_reducible refine cN_q ?_ _) | (with_reducible refine cD_q ?_))); (case side6 => exact (Kd.Q_reads' HO694.out).2.1); rintro e w15 ⟨rfl, hb⟩; have n0_ := Ae_q (Kd.S_below (by (with_reducible repeat (first | apply tA_q | apply tN_q | apply tD_q)); exact HO687.out) hb); have n1_ := Ae_q (rO_q (rup HO691.out) hb); have n2_ := Ae_q (Kd.Q_below (by (with_reducible repeat (first | apply Kd.Q_alloc | apply Kd.Q_drewN | apply Kd.Q_drew)); exact HO694.out) hb); have n3_ := Ae_q (bB_q (g := gb695) (o := .cells #[.int .i64 t688, .slice Ao10 t689.length co10] 41 (0, 0)) (bup BK695.out) hb); have n4_ := Ae_q (bT_q (by repeat (first | (with_reducible first | exact HB.out | apply bA_q | apply pB_q | apply bD_q | refine bS_q ?_ GE695.out) | exact HB.out)) hb); clear HO687; clear HO691; clear HO694; clear BK695; clear HB; have HO687 := n0_; have HO691 := n1_; have HO694 := n2_; have BK695 := n3_; have HB := n4_; clear n0_ n1_ n2_ n3_ n4_; (try clear hb); (try clear hb2); (try clear hk); (try clear hi))))
 (try simp only [Act.put, sA_q, sZ_q, sS_q])
 go_cut [36] (fun v36 wc => ∃ (kq : Nat) (x36_5 : Bool), v36 = .bool x36_5 ∧ Aside0 (laws_FnPlanRoom.j0 kq t685 t692 t696 t697 x36_5 t688 t689 = some r) ∧ Aside0 (kq ≤ k) ∧ Aside0 (Kd.S k31 31 wc w.heap.size (fun k_ => some k_ ≠ ((.slice Ao12 t692.length co12) : Value).ownBlock ∧ some k_ ≠ ((.slice Ao10 t689.length co10) : Value).ownBlock) (.slice Ao11 t685.length co11) t685) ∧ Aside0 (Kd.Q kI_q 3 wc w.heap.size (fun k_ => some k_ ≠ ((.slice Ao10 t689.length co10) : Value).ownBlock) (.slice Ao12 t692.length co12) t692) ∧ Aside0 (Kd.R kI_q 3 wc w.heap.size (fun k_ => some k_ ≠ ((.slice Ao12 t692.length co12) : Value).ownBlock) (.slice Ao10 t689.length co10) t689) ∧ Aside0 (wc.heap[gb695]? = some (.cells #[.int .i64 t688, (.slice Ao10 t689.length co10)] 41 (0, 0))) ∧ Aside0 (Below w.heap.size w wc))
 case first =>
  have H := HC6.out
  clear HC6
  by_cases c16 : (t696 != t697) = true
  ·rw [if_pos c16] at H
   have c16b0 : (t696 != t697) = true := c16
   (try (have c16b1 : decide (t696 = t697) = false := by simpa using c16))
   (try (have c16b2 : (t696 == t697) = false := by simpa using c16))
   (try (have c16b3 : ¬ (t696 = t697) := by simpa using c16))
   clear c16
   (first | rw [c16b0] | (simp only [i64_w, i32_w]; rw [c16b0]) | skip)
   have H' := Ae_q H
   clear H
   go_wp2
   repeat (go_quiet (fail); try go_wp2)
   go_meet
   case rel => exact ⟨_, (true), (by first | rfl | (simp; done) | (simp [*]; done)), H', ⟨by first | omega | exact nR_q _⟩, ⟨by (with_reducible repeat (first | apply tA_q | apply tN_q | apply tD_q)); exact Kd.S_mono HO687.out (fun _ hk => ⟨hk.2, hk.1⟩)⟩, ⟨by (with_reducible repeat (first | apply Kd.Q_alloc | apply Kd.Q_drewN | apply Kd.Q_drew)); exact HO694.out⟩, ⟨by (with_reducible repeat (first | apply rA_q | apply rN_q | apply rD_q)); exact HO691.out⟩, ⟨by (with_reducible repeat (first | refine bN_q ?_ _ | refine bW_q ?_ | refine bL_q ?_ _)); exact BK695.out⟩, ⟨by repeat (first | (with_reducible first | exact HB.out | apply bA_q | apply pB_q | apply bD_q | refine bS_q ?_ GE695.out) | exact HB.out)⟩⟩
  rw [if_neg c16] at H
  have c16b0 : (t696 != t697) = false := by simpa using c16
  (try (have c16b1 : decide (t696 = t697) = true := by simpa using c16))
  (try (have c16b2 : (t696 == t697) = true := by simpa using c16))
  clear c16
  (first | rw [c16b0] | (simp only [i64_w, i32_w]; rw [c16b0]) | skip)
  have H' := Ae_q H
  clear H
  go_wp2
  repeat (go_quiet (fail); try go_wp2)
  go_meet
  case rel => exact ⟨_, (!t696), (by first | rfl | (simp; done) | (simp [*]; done)), H', ⟨by first | omega | exact nR_q _⟩, ⟨by (with_reducible repeat (first | apply tA_q | apply tN_q | apply tD_q)); exact Kd.S_mono HO687.out (fun _ hk => ⟨hk.2, hk.1⟩)⟩, ⟨by (with_reducible repeat (first | apply Kd.Q_alloc | apply Kd.Q_drewN | apply Kd.Q_drew)); exact HO694.out⟩, ⟨by (with_reducible repeat (first | apply rA_q | apply rN_q | apply rD_q)); exact HO691.out⟩, ⟨by (with_reducible repeat (first | refine bN_q ?_ _ | refine bW_q ?_ | refine bL_q ?_ _)); exact BK695.out⟩, ⟨by repeat (first | (with_reducible first | exact HB.out | apply bA_q | apply pB_q | apply bD_q | refine bS_q ?_ GE695.out) | exact HB.out)⟩⟩
 case rest =>
  clear HC6
  try clear c1
  try clear c2
  try clear c2b0
  try clear c2b1
  try clear p2
  try clear c7
  try clear c16
  try clear c16b0
  try clear c16b1
  try clear c16b2
  try clear hcz14_0
  try clear hcz14_1
  try clear hcz9_0
  try clear hcz9_1
  try clear hfz14_0
  try clear hfz14_1
  try clear hfz9_0
  try clear hfz9_1
  obtain ⟨kq, x36_5, rfl, HA, HJ5, HO_3, HO_5, HO_696001, BK695, HB⟩ := hcut
  cases kq with
  | zero => exact absurd HA.out (by simp [laws_FnPlanRoom.j0])
  | succ kj5 =>
   have H := HA.out
   clear HA
   simp only [laws_FnPlanRoom.j0] at H
   by_cases c17 : x36_5 = true
   ·subst c17
    have H1 : (some (t696 == t697)) = some r := by rw [if_pos rfl] at H; exact H
    clear H
    have H := H1
    clear H1
    obtain rfl := oI_q H
    go_wp2
    repeat (go_quiet (fail); try go_wp2)
    go_ret
    exact ⟨by first | rfl | (simp [eN_q, eS_q] <;> rfl) | (simp [*, eN_q, eS_q] <;> rfl), by repeat (first | (with_reducible first | exact HB.out | apply bA_q | apply pB_q | apply bD_q | refine bS_q ?_ GE695.out) | exact HB.out)⟩
   replace c17 := fM_q.mpr c17
   subst c17
   have H1 : ((impl_PlanEnd.f kj5 t685 t692).bind fun t698 => (laws_FnPlanRoom.l0 kj5 t685 t692 t698 0 t688 t689)) = some r := by rw [if_neg (show ¬ (false = true) by decide)] at H; exact H
   clear H
   have H := H1
   clear H1
   replace H := oB_q.mp H
   obtain ⟨t698, A180, H⟩ := H
   replace H : (laws_FnPlanRoom.l0 kj5 t685 t692 t698 0 t688 t689) = some r := H
   have A18 := Ae_q A180
   clear A180
   have H' := Ae_q H
   clear H
   go_wp2_with (first | (go_at_call 27; (with_reducible refine (impl_PlanEnd.calls kj5 _ _ t685 _ _ t692 t698 _ ?side1 ?side2 ?side3 ?side4 A18.out).mono ?_); (case side1 => repeat (first | exact (Kd.S_reads' HO_3.out).2.2 | (with_reducible refine cA_q ?_ _) | (with_reducible refine cN_q ?_ _) | (with_reducible refine cD_q ?_))); (case side2 => exact (Kd.S_reads' HO_3.out).2.1); (case side3 => repeat (first | exact (Kd.Q_reads' HO_5.out).2.2 | (with_reducible refine cA_q ?_ _) | (with_reducible refine cN_q ?_ _) | (with_reducible refine cD_q ?_))); (case side4 => exact (Kd.Q_reads' HO_5.out).2.1); rintro e w19 ⟨rfl, hb⟩; have n0_ := Ae_q (Kd.S_below (by (with_reducible repeat (first | apply tA_q | apply tN_q | apply tD_q)); exact HO_3.out) hb); have n1_ := Ae_q (Kd.Q_below (by (with_reducible repeat (first | apply Kd.Q_alloc | apply Kd.Q_drewN | apply Kd.Q_drew)); exact HO_5.out) hb); have n2_ := Ae_q (rO_q (rup HO_696001.out) hb); have n3_ := Ae_q (bB_q (g := gb695) (o := .cells #[.int .i64 t688, .slice Ao10 t689.length co10] 41 (0, 0)) (bup BK695.out) hb); have n4_ := Ae_q (bT_q (by repeat (first | (with_reducible first | exact HB.out | apply bA_q | apply pB_q | apply bD_q | refine bS_q ?_ GE695.out) | exact HB.out)) hb); clear HO_3; clear HO_5; clear HO_696001; clear BK695; clear HB; have HO_3 := n0_; have HO_5 := n1_; have HO_696001 := n2_; have BK695 := n3_; have HB := n4_; clear n0_ n1_ n2_ n3_ n4_; (try clear hb); (try clear hb2); (try clear hk); (try clear hi)))
   repeat (go_quiet (first | (go_at_call 27; (with_reducible refine (impl_PlanEnd.calls kj5 _ _ t685 _ _ t692 t698 _ ?side1 ?side2 ?side3 ?side4 A18.out).mono ?_); (case side1 => repeat (first | exact (Kd.S_reads' HO_3.out).2.2 | (with_reducible refine cA_q ?_ _) | (with_reducible refine cN_q ?_ _) | (with_reducible refine cD_q ?_))); (case side2 => exact (Kd.S_reads' HO_3.out).2.1); (case side3 => repeat (first | exact (Kd.Q_reads' HO_5.out).2.2 | (with_reducible refine cA_q ?_ _) | (with_reducible refine cN_q ?_ _) | (with_reducible refine cD_q ?_))); (case side4 => exact (Kd.Q_reads' HO_5.out).2.1); rintro e w19 ⟨rfl, hb⟩; have n0_ := Ae_q (Kd.S_below (by (with_reducible repeat (first | apply tA_q | apply tN_q | apply tD_q)); exact HO_3.out) hb); have n1_ := Ae_q (Kd.Q_below (by (with_reducible repeat (first | apply Kd.Q_alloc | apply Kd.Q_drewN | apply Kd.Q_drew)); exact HO_5.out) hb); have n2_ := Ae_q (rO_q (rup HO_696001.out) hb); have n3_ := Ae_q (bB_q (g := gb695) (o := .cells #[.int .i64 t688, .slice Ao10 t689.length co10] 41 (0, 0)) (bup BK695.out) hb); have n4_ := Ae_q (bT_q (by repeat (first | (with_reducible first | exact HB.out | apply bA_q | apply pB_q | apply bD_q | refine bS_q ?_ GE695.out) | exact HB.out)) hb); clear HO_3; clear HO_5; clear HO_696001; clear BK695; clear HB; have HO_3 := n0_; have HO_5 := n1_; have HO_696001 := n2_; have BK695 := n3_; have HB := n4_; clear n0_ n1_ n2_ n3_ n4_; (try clear hb); (try clear hb2); (try clear hk); (try clear hi))); try go_wp2_with (first | (go_at_call 27; (with_reducible refine (impl_PlanEnd.calls kj5 _ _ t685 _ _ t692 t698 _ ?side1 ?side2 ?side3 ?side4 A18.out).mono ?_); (case side1 => repeat (first | exact (Kd.S_reads' HO_3.out).2.2 | (with_reducible refine cA_q ?_ _) | (with_reducible refine cN_q ?_ _) | (with_reducible refine cD_q ?_))); (case side2 => exact (Kd.S_reads' HO_3.out).2.1); (case side3 => repeat (first | exact (Kd.Q_reads' HO_5.out).2.2 | (with_reducible refine cA_q ?_ _) | (with_reducible refine cN_q ?_ _) | (with_reducible refine cD_q ?_))); (case side4 => exact (Kd.Q_reads' HO_5.out).2.1); rintro e w19 ⟨rfl, hb⟩; have n0_ := Ae_q (Kd.S_below (by (with_reducible repeat (first | apply tA_q | apply tN_q | apply tD_q)); exact HO_3.out) hb); have n1_ := Ae_q (Kd.Q_below (by (with_reducible repeat (first | apply Kd.Q_alloc | apply Kd.Q_drewN | apply Kd.Q_drew)); exact HO_5.out) hb); have n2_ := Ae_q (rO_q (rup HO_696001.out) hb); have n3_ := Ae_q (bB_q (g := gb695) (o := .cells #[.int .i64 t688, .slice Ao10 t689.length co10] 41 (0, 0)) (bup BK695.out) hb); have n4_ := Ae_q (bT_q (by repeat (first | (with_reducible first | exact HB.out | apply bA_q | apply pB_q | apply bD_q | refine bS_q ?_ GE695.out) | exact HB.out)) hb); clear HO_3; clear HO_5; clear HO_696001; clear BK695; clear HB; have HO_3 := n0_; have HO_5 := n1_; have HO_696001 := n2_; have BK695 := n3_; have HB := n4_; clear n0_ n1_ n2_ n3_ n4_; (try clear hb); (try clear hb2); (try clear hk); (try clear hi))))
   go_loopg [9] kj5 (fun kq v9 w' => ∃ (x9_2 : Int), v9 = .int .i64 x9_2 ∧ Aside0 (laws_FnPlanRoom.l0 kq t685 t692 t698 x9_2 t688 t689 = some r) ∧ Aside0 (kq ≤ kj5) ∧ Aside0 (Kd.S k31 31 w' w.heap.size (fun k_ => some k_ ≠ ((.slice Ao12 t692.length co12) : Value).ownBlock ∧ some k_ ≠ ((.slice Ao10 t689.length co10) : Value).ownBlock) (.slice Ao11 t685.length co11) t685) ∧ Aside0 (Kd.Q kI_q 3 w' w.heap.size (fun k_ => some k_ ≠ ((.slice Ao10 t689.length co10) : Value).ownBlock) (.slice Ao12 t692.length co12) t692) ∧ Aside0 (Kd.R kI_q 3 w' w.heap.size (fun k_ => some k_ ≠ ((.slice Ao12 t692.length co12) : Value).ownBlock) (.slice Ao10 t689.length co10) t689) ∧ Aside0 (w'.heap[gb695]? = some (.cells #[.int .i64 t688, (.slice Ao10 t689.length co10)] 41 (0, 0))) ∧ Aside0 (Below w.heap.size w w'))
   case atStart => exact ⟨(0), (by first | rfl | (simp; done) | (simp [*]; done)), H', ⟨nR_q _⟩, ⟨by (with_reducible repeat (first | apply tA_q | apply tN_q | apply tD_q)); exact HO_3.out⟩, ⟨by (with_reducible repeat (first | apply Kd.Q_alloc | apply Kd.Q_drewN | apply Kd.Q_drew)); exact HO_5.out⟩, ⟨by (with_reducible repeat (first | apply rA_q | apply rN_q | apply rD_q)); exact HO_696001.out⟩, ⟨by (with_reducible repeat (first | refine bN_q ?_ _ | refine bW_q ?_ | refine bL_q ?_ _)); exact BK695.out⟩, ⟨by repeat (first | (with_reducible first | exact HB.out | apply bA_q | apply pB_q | apply bD_q | refine bS_q ?_ GE695.out) | exact HB.out)⟩⟩
   case round =>
    clear H'
    try clear c1
    try clear c2
    try clear c2b0
    try clear c2b1
    try clear p2
    try clear c7
    try clear c16
    try clear c16b0
    try clear c16b1
    try clear c16b2
    try clear c17
    try clear hcz14_0
    try clear hcz14_1
    try clear hcz9_0
    try clear hcz9_1
    try clear hfz14_0
    try clear hfz14_1
    try clear hfz9_0
    try clear hfz9_1
    try clear p2
    obtain ⟨x9_2, rfl, HA, HK2, HO_3, HO_5, HO_696001, BK695, HB⟩ := hrel
    cases gk with
    | zero => exact absurd HA.out (by simp [laws_FnPlanRoom.l0])
    | succ k2 =>
     have H := HA.out
     clear HA
     simp only [laws_FnPlanRoom.l0] at H
     by_cases c20 : x9_2 < t698
     ·rw [if_pos c20] at H
      have c20b0 : decide (x9_2 < t698) = true := dT_q c20
      clear c20
      replace H := oB_q.mp H
      obtain ⟨⟨t699, t700⟩, A210, H⟩ := H
      replace H : (if t699 > t688 then (laws_FnPlanRoom.j2 k2 t685 t692 t698 x9_2 t700 true t688 t689) else (if t699 < 0 then (laws_FnPlanRoom.j2 k2 t685 t692 t698 x9_2 t700 true t688 t689) else (laws_FnPlanRoom.j2 k2 t685 t692 t698 x9_2 t700 ((t700.length : Int) != (t689.length : Int)) t688 t689))) = some r := H
      have A21 := Ae_q A210
      clear A210
      have HC22 := Ae_q H
      clear H
      go_upto_region 13 with (first | (go_at_call 10; (with_reducible refine (impl_PlanUse.calls k2 _ _ t685 _ _ t692 x9_2 t699 t700 _ ?side1 ?side2 ?side3 ?side4 A21.out).mono ?_); (case side1 => repeat (first | exact (Kd.S_reads' HO_3.out).2.2 | (with_reducible refine cA_q ?_ _) | (with_reducible refine cN_q ?_ _) | (with_reducible refine cD_q ?_))); (case side2 => exact (Kd.S_reads' HO_3.out).2.1); (case side3 => repeat (first | exact (Kd.Q_reads' HO_5.out).2.2 | (with_reducible refine cA_q ?_ _) | (with_reducible refine cN_q ?_ _) | (with_reducible refine cD_q ?_))); (case side4 => exact (Kd.Q_reads' HO_5.out).2.1); rintro e w23 ⟨v701, rfl, ho0, hb⟩; have n0_ := Ae_q (Kd.S_elder' (by (with_reducible repeat (first | apply tA_q | apply tN_q | apply tD_q)); exact HO_3.out) (rB_q ho0) hb); have n1_ := Ae_q (Kd.Q_elder' (by (with_reducible repeat (first | apply Kd.Q_alloc | apply Kd.Q_drewN | apply Kd.Q_drew)); exact HO_5.out) (rB_q ho0) hb); have n2_ := Ae_q (rE_q (rup HO_696001.out) (rB_q ho0) hb); have n3_ := Ae_q (rL_q (rW_q (rW_q ho0 (Kd.Q_lt (by (with_reducible repeat (first | apply Kd.Q_alloc | apply Kd.Q_drewN | apply Kd.Q_drew)); exact HO_5.out))) (rT_q (rup HO_696001.out))) (bZ_q (by repeat (first | (with_reducible first | exact HB.out | apply bA_q | apply pB_q | apply bD_q | refine bS_q ?_ GE695.out) | exact HB.out)))); have n4_ := Ae_q (bB_q (g := gb695) (o := .cells #[.int .i64 t688, .slice Ao10 t689.length co10] 41 (0, 0)) (bup BK695.out) hb); have n5_ := Ae_q (bT_q (by repeat (first | (with_reducible first | exact HB.out | apply bA_q | apply pB_q | apply bD_q | refine bS_q ?_ GE695.out) | exact HB.out)) hb); clear HO_3; clear HO_5; clear HO_696001; clear BK695; clear HB; have HO_3 := n0_; have HO_5 := n1_; have HO_696001 := n2_; have HO702 := n3_; have BK695 := n4_; have HB := n5_; clear n0_ n1_ n2_ n3_ n4_ n5_; (try clear hb); (try clear hb2); (try clear hk); (try clear hi); (try clear ho0)))
      repeat (go_quiet (first | (go_at_call 10; (with_reducible refine (impl_PlanUse.calls k2 _ _ t685 _ _ t692 x9_2 t699 t700 _ ?side1 ?side2 ?side3 ?side4 A21.out).mono ?_); (case side1 => repeat (first | exact (Kd.S_reads' HO_3.out).2.2 | (with_reducible refine cA_q ?_ _) | (with_reducible refine cN_q ?_ _) | (with_reducible refine cD_q ?_))); (case side2 => exact (Kd.S_reads' HO_3.out).2.1); (case side3 => repeat (first | exact (Kd.Q_reads' HO_5.out).2.2 | (with_reducible refine cA_q ?_ _) | (with_reducible refine cN_q ?_ _) | (with_reducible refine cD_q ?_))); (case side4 => exact (Kd.Q_reads' HO_5.out).2.1); rintro e w23 ⟨v701, rfl, ho0, hb⟩; have n0_ := Ae_q (Kd.S_elder' (by (with_reducible repeat (first | apply tA_q | apply tN_q | apply tD_q)); exact HO_3.out) (rB_q ho0) hb); have n1_ := Ae_q (Kd.Q_elder' (by (with_reducible repeat (first | apply Kd.Q_alloc | apply Kd.Q_drewN | apply Kd.Q_drew)); exact HO_5.out) (rB_q ho0) hb); have n2_ := Ae_q (rE_q (rup HO_696001.out) (rB_q ho0) hb); have n3_ := Ae_q (rL_q (rW_q (rW_q ho0 (Kd.Q_lt (by (with_reducible repeat (first | apply Kd.Q_alloc | apply Kd.Q_drewN | apply Kd.Q_drew)); exact HO_5.out))) (rT_q (rup HO_696001.out))) (bZ_q (by repeat (first | (with_reducible first | exact HB.out | apply bA_q | apply pB_q | apply bD_q | refine bS_q ?_ GE695.out) | exact HB.out)))); have n4_ := Ae_q (bB_q (g := gb695) (o := .cells #[.int .i64 t688, .slice Ao10 t689.length co10] 41 (0, 0)) (bup BK695.out) hb); have n5_ := Ae_q (bT_q (by repeat (first | (with_reducible first | exact HB.out | apply bA_q | apply pB_q | apply bD_q | refine bS_q ?_ GE695.out) | exact HB.out)) hb); clear HO_3; clear HO_5; clear HO_696001; clear BK695; clear HB; have HO_3 := n0_; have HO_5 := n1_; have HO_696001 := n2_; have HO702 := n3_; have BK695 := n4_; have HB := n5_; clear n0_ n1_ n2_ n3_ n4_ n5_; (try clear hb); (try clear hb2); (try clear hk); (try clear hi); (try clear ho0))); go_upto_region 13 with (first | (go_at_call 10; (with_reducible refine (impl_PlanUse.calls k2 _ _ t685 _ _ t692 x9_2 t699 t700 _ ?side1 ?side2 ?side3 ?side4 A21.out).mono ?_); (case side1 => repeat (first | exact (Kd.S_reads' HO_3.out).2.2 | (with_reducible refine cA_q ?_ _) | (with_reducible refine cN_q ?_ _) | (with_reducible refine cD_q ?_))); (case side2 => exact (Kd.S_reads' HO_3.out).2.1); (case side3 => repeat (first | exact (Kd.Q_reads' HO_5.out).2.2 | (with_reducible refine cA_q ?_ _) | (with_reducible refine cN_q ?_ _) | (with_reducible refine cD_q ?_))); (case side4 => exact (Kd.Q_reads' HO_5.out).2.1); rintro e w23 ⟨v701, rfl, ho0, hb⟩; have n0_ := Ae_q (Kd.S_elder' (by (with_reducible repeat (first | apply tA_q | apply tN_q | apply tD_q)); exact HO_3.out) (rB_q ho0) hb); have n1_ := Ae_q (Kd.Q_elder' (by (with_reducible repeat (first | apply Kd.Q_alloc | apply Kd.Q_drewN | apply Kd.Q_drew)); exact HO_5.out) (rB_q ho0) hb); have n2_ := Ae_q (rE_q (rup HO_696001.out) (rB_q ho0) hb); have n3_ := Ae_q (rL_q (rW_q (rW_q ho0 (Kd.Q_lt (by (with_reducible repeat (first | apply Kd.Q_alloc | apply Kd.Q_drewN | apply Kd.Q_drew)); exact HO_5.out))) (rT_q (rup HO_696001.out))) (bZ_q (by repeat (first | (with_reducible first | exact HB.out | apply bA_q | apply pB_q | apply bD_q | refine bS_q ?_ GE695.out) | exact HB.out)))); have n4_ := Ae_q (bB_q (g := gb695) (o := .cells #[.int .i64 t688, .slice Ao10 t689.length co10] 41 (0, 0)) (bup BK695.out) hb); have n5_ := Ae_q (bT_q (by repeat (first | (with_reducible first | exact HB.out | apply bA_q | apply pB_q | apply bD_q | refine bS_q ?_ GE695.out) | exact HB.out)) hb); clear HO_3; clear HO_5; clear HO_696001; clear BK695; clear HB; have HO_3 := n0_; have HO_5 := n1_; have HO_696001 := n2_; have HO702 := n3_; have BK695 := n4_; have HB := n5_; clear n0_ n1_ n2_ n3_ n4_ n5_; (try clear hb); (try clear hb2); (try clear hk); (try clear hi); (try clear ho0))))
      (try simp only [Act.put, sA_q, sZ_q, sS_q])
      go_cut [70] (fun v70 wc => ∃ (kq : Nat) (x70_21 : Bool), v70 = .bool x70_21 ∧ Aside0 (laws_FnPlanRoom.j2 kq t685 t692 t698 x9_2 t700 x70_21 t688 t689 = some r) ∧ Aside0 (kq ≤ k2) ∧ Aside0 (Kd.S k31 31 wc w.heap.size (fun k_ => some k_ ≠ ((.slice Ao12 t692.length co12) : Value).ownBlock ∧ some k_ ≠ (v701 : Value).ownBlock ∧ some k_ ≠ ((.slice Ao10 t689.length co10) : Value).ownBlock) (.slice Ao11 t685.length co11) t685) ∧ Aside0 (Kd.Q kI_q 3 wc w.heap.size (fun k_ => some k_ ≠ (v701 : Value).ownBlock ∧ some k_ ≠ ((.slice Ao10 t689.length co10) : Value).ownBlock) (.slice Ao12 t692.length co12) t692) ∧ Aside0 (Kd.R kI_q 3 wc w.heap.size (fun k_ => some k_ ≠ ((.slice Ao12 t692.length co12) : Value).ownBlock ∧ some k_ ≠ ((.slice Ao10 t689.length co10) : Value).ownBlock) v701 t700) ∧ Aside0 (Kd.R kI_q 3 wc w.heap.size (fun k_ => some k_ ≠ ((.slice Ao12 t692.length co12) : Value).ownBlock ∧ some k_ ≠ (v701 : Value).ownBlock) (.slice Ao10 t689.length co10) t689) ∧ Aside0 (wc.heap[gb695]? = some (.cells #[.int .i64 t688, (.slice Ao10 t689.length co10)] 41 (0, 0))) ∧ Aside0 (Below w.heap.size w wc))
      case first =>
       have H := HC22.out
       clear HC22
       by_cases c24 : t699 > t688
       ·rw [if_pos c24] at H
        have c24b0 : decide (t688 < t699) = true := dT_q c24
        clear c24
        (first | rw [c24b0] | (simp only [i64_w, i32_w]; rw [c24b0]) | skip)
        have H' := Ae_q H
        clear H
        have hcz25_0 : w23.cell? ⟨gb695, 0, none⟩ = some (.int .i64 t688) := (bC_q BK695.out 0).trans rfl
        have hcz25_1 : w23.cell? ⟨gb695, 1, none⟩ = some (.slice Ao10 t689.length co10) := (bC_q BK695.out 1).trans rfl
        have hfz25_0 := bF_q BK695.out 0
        have hfz25_1 := bF_q BK695.out 1
        go_wp2
        repeat (go_quiet (fail); try go_wp2)
        go_meet
        case rel => exact ⟨_, (true), (by first | rfl | (simp; done) | (simp [*]; done)), H', ⟨by have := HJ5.out; have := HK2.out; first | omega | exact nR_q _⟩, ⟨by (with_reducible repeat (first | apply tA_q | apply tN_q | apply tD_q)); exact Kd.S_mono HO_3.out (fun _ hk => ⟨hk.1.1, ⟨hk.2, hk.1.2⟩⟩)⟩, ⟨by (with_reducible repeat (first | apply Kd.Q_alloc | apply Kd.Q_drewN | apply Kd.Q_drew)); exact Kd.Q_mono HO_5.out (fun _ hk => ⟨hk.2, hk.1⟩)⟩, ⟨by (with_reducible repeat (first | apply rA_q | apply rN_q | apply rD_q)); exact rM_q HO702.out (fun _ hk => ⟨hk.1.2, hk.2⟩)⟩, ⟨by (with_reducible repeat (first | apply rA_q | apply rN_q | apply rD_q)); exact HO_696001.out⟩, ⟨by (with_reducible repeat (first | refine bN_q ?_ _ | refine bW_q ?_ | refine bL_q ?_ _)); exact BK695.out⟩, ⟨by repeat (first | (with_reducible first | exact HB.out | apply bA_q | apply pB_q | apply bD_q | refine bS_q ?_ GE695.out) | exact HB.out)⟩⟩
       rw [if_neg c24] at H
       have c24b0 : decide (t688 < t699) = false := dF_q c24
       clear c24
       (first | rw [c24b0] | (simp only [i64_w, i32_w]; rw [c24b0]) | skip)
       by_cases c26 : t699 < 0
       ·rw [if_pos c26] at H
        have c26b0 : decide (t699 < 0) = true := dT_q c26
        clear c26
        have H' := Ae_q H
        clear H
        have hcz27_0 : w23.cell? ⟨gb695, 0, none⟩ = some (.int .i64 t688) := (bC_q BK695.out 0).trans rfl
        have hcz27_1 : w23.cell? ⟨gb695, 1, none⟩ = some (.slice Ao10 t689.length co10) := (bC_q BK695.out 1).trans rfl
        have hfz27_0 := bF_q BK695.out 0
        have hfz27_1 := bF_q BK695.out 1
        go_wp2
        repeat (go_quiet (fail); try go_wp2)
        go_meet
        case rel => exact ⟨_, (true), (by first | rfl | (simp; done) | (simp [*]; done)), H', ⟨by have := HJ5.out; have := HK2.out; first | omega | exact nR_q _⟩, ⟨by (with_reducible repeat (first | apply tA_q | apply tN_q | apply tD_q)); exact Kd.S_mono HO_3.out (fun _ hk => ⟨hk.1.1, ⟨hk.2, hk.1.2⟩⟩)⟩, ⟨by (with_reducible repeat (first | apply Kd.Q_alloc | apply Kd.Q_drewN | apply Kd.Q_drew)); exact Kd.Q_mono HO_5.out (fun _ hk => ⟨hk.2, hk.1⟩)⟩, ⟨by (with_reducible repeat (first | apply rA_q | apply rN_q | apply rD_q)); exact rM_q HO702.out (fun _ hk => ⟨hk.1.2, hk.2⟩)⟩, ⟨by (with_reducible repeat (first | apply rA_q | apply rN_q | apply rD_q)); exact HO_696001.out⟩, ⟨by (with_reducible repeat (first | refine bN_q ?_ _ | refine bW_q ?_ | refine bL_q ?_ _)); exact BK695.out⟩, ⟨by repeat (first | (with_reducible first | exact HB.out | apply bA_q | apply pB_q | apply bD_q | refine bS_q ?_ GE695.out) | exact HB.out)⟩⟩
       rw [if_neg c26] at H
       have c26b0 : decide (t699 < 0) = false := dF_q c26
       clear c26
       have H' := Ae_q H
       clear H
       have hcz28_0 : w23.cell? ⟨gb695, 0, none⟩ = some (.int .i64 t688) := (bC_q BK695.out 0).trans rfl
       have hcz28_1 : w23.cell? ⟨gb695, 1, none⟩ = some (.slice Ao10 t689.length co10) := (bC_q BK695.out 1).trans rfl
       have hfz28_0 := bF_q BK695.out 0
       have hfz28_1 := bF_q BK695.out 1
       obtain ⟨Ao29, co29, eo29⟩ := rS_q HO702.out
       subst eo29
       go_wp2
       repeat (go_quiet (fail); try go_wp2)
       go_meet
       case rel => exact ⟨_, (((t700.length : Int) != (t689.length : Int))), (by first | rfl | (simp; done) | (simp [*]; done)), H', ⟨by have := HJ5.out; have := HK2.out; first | omega | exact nR_q _⟩, ⟨by (with_reducible repeat (first | apply tA_q | apply tN_q | apply tD_q)); exact Kd.S_mono HO_3.out (fun _ hk => ⟨hk.1.1, ⟨hk.2, hk.1.2⟩⟩)⟩, ⟨by (with_reducible repeat (first | apply Kd.Q_alloc | apply Kd.Q_drewN | apply Kd.Q_drew)); exact Kd.Q_mono HO_5.out (fun _ hk => ⟨hk.2, hk.1⟩)⟩, ⟨by (with_reducible repeat (first | apply rA_q | apply rN_q | apply rD_q)); exact rM_q HO702.out (fun _ hk => ⟨hk.1.2, hk.2⟩)⟩, ⟨by (with_reducible repeat (first | apply rA_q | apply rN_q | apply rD_q)); exact HO_696001.out⟩, ⟨by (with_reducible repeat (first | refine bN_q ?_ _ | refine bW_q ?_ | refine bL_q ?_ _)); exact BK695.out⟩, ⟨by repeat (first | (with_reducible first | exact HB.out | apply bA_q | apply pB_q | apply bD_q | refine bS_q ?_ GE695.out) | exact HB.out)⟩⟩
      case rest =>
       clear HC22
       try clear c1
       try clear c2
       try clear c2b0
       try clear c2b1
       try clear p2
       try clear c7
       try clear c16
       try clear c16b0
       try clear c16b1
       try clear c16b2
       try clear c17
       try clear c20
       try clear c20b0
       try clear c24
       try clear c24b0
       try clear c26
       try clear c26b0
       try clear hcz14_0
       try clear hcz14_1
       try clear hcz25_0
       try clear hcz25_1
       try clear hcz27_0
       try clear hcz27_1
       try clear hcz28_0
       try clear hcz28_1
       try clear hcz9_0
       try clear hcz9_1
       try clear hfz14_0
       try clear hfz14_1
       try clear hfz25_0
       try clear hfz25_1
       try clear hfz27_0
       try clear hfz27_1
       try clear hfz28_0
       try clear hfz28_1
       try clear hfz9_0
       try clear hfz9_1
       try clear p2
       obtain ⟨kq, x70_21, rfl, HA, HJ21, HO_3, HO_5, HO_11, HO_696001, BK695, HB⟩ := hcut
       cases kq with
       | zero => exact absurd HA.out (by simp [laws_FnPlanRoom.j2])
       | succ kj21 =>
        have H := HA.out
        clear HA
        simp only [laws_FnPlanRoom.j2] at H
        by_cases c30 : x70_21 = true
        ·subst c30
         have H1 : (some false) = some r := by rw [if_pos rfl] at H; exact H
         clear H
         have H := H1
         clear H1
         obtain rfl := oI_q H
         go_wp2
         repeat (go_quiet (fail); try go_wp2)
         go_ret
         exact ⟨by first | rfl | (simp [eN_q, eS_q] <;> rfl) | (simp [*, eN_q, eS_q] <;> rfl), by repeat (first | (with_reducible first | exact HB.out | apply bA_q | apply pB_q | apply bD_q | refine bS_q ?_ GE695.out) | exact HB.out)⟩
        replace c30 := fM_q.mpr c30
        subst c30
        have H1 : (laws_FnPlanRoom.l1 kj21 t685 t692 t698 x9_2 t700 0 t688 t689) = some r := by rw [if_neg (show ¬ (false = true) by decide)] at H; exact H
        clear H
        have H := H1
        clear H1
        have H' := Ae_q H
        clear H
        go_wp2
        repeat (go_quiet (fail); try go_wp2)
        go_loopg [12] kj21 (fun kq v12 w' => ∃ (x12_4 : Int), v12 = .int .i64 x12_4 ∧ Aside0 (laws_FnPlanRoom.l1 kq t685 t692 t698 x9_2 t700 x12_4 t688 t689 = some r) ∧ Aside0 (kq ≤ kj21) ∧ Aside0 (Kd.S k31 31 w' w.heap.size (fun k_ => some k_ ≠ ((.slice Ao12 t692.length co12) : Value).ownBlock ∧ some k_ ≠ (v701 : Value).ownBlock ∧ some k_ ≠ ((.slice Ao10 t689.length co10) : Value).ownBlock) (.slice Ao11 t685.length co11) t685) ∧ Aside0 (Kd.Q kI_q 3 w' w.heap.size (fun k_ => some k_ ≠ (v701 : Value).ownBlock ∧ some k_ ≠ ((.slice Ao10 t689.length co10) : Value).ownBlock) (.slice Ao12 t692.length co12) t692) ∧ Aside0 (Kd.R kI_q 3 w' w.heap.size (fun k_ => some k_ ≠ ((.slice Ao12 t692.length co12) : Value).ownBlock ∧ some k_ ≠ ((.slice Ao10 t689.length co10) : Value).ownBlock) v701 t700) ∧ Aside0 (Kd.R kI_q 3 w' w.heap.size (fun k_ => some k_ ≠ ((.slice Ao12 t692.length co12) : Value).ownBlock ∧ some k_ ≠ (v701 : Value).ownBlock) (.slice Ao10 t689.length co10) t689) ∧ Aside0 (w'.heap[gb695]? = some (.cells #[.int .i64 t688, (.slice Ao10 t689.length co10)] 41 (0, 0))) ∧ Aside0 (Below w.heap.size w w'))
        case atStart => exact ⟨(0), (by first | rfl | (simp; done) | (simp [*]; done)), H', ⟨nR_q _⟩, ⟨by (with_reducible repeat (first | apply tA_q | apply tN_q | apply tD_q)); exact HO_3.out⟩, ⟨by (with_reducible repeat (first | apply Kd.Q_alloc | apply Kd.Q_drewN | apply Kd.Q_drew)); exact HO_5.out⟩, ⟨by (with_reducible repeat (first | apply rA_q | apply rN_q | apply rD_q)); exact HO_11.out⟩, ⟨by (with_reducible repeat (first | apply rA_q | apply rN_q | apply rD_q)); exact HO_696001.out⟩, ⟨by (with_reducible repeat (first | refine bN_q ?_ _ | refine bW_q ?_ | refine bL_q ?_ _)); exact BK695.out⟩, ⟨by repeat (first | (with_reducible first | exact HB.out | apply bA_q | apply pB_q | apply bD_q | refine bS_q ?_ GE695.out) | exact HB.out)⟩⟩
        case round =>
         clear H'
         try clear c1
         try clear c2
         try clear c2b0
         try clear c2b1
         try clear p2
         try clear c3
         try clear c7
         try clear c16
         try clear c16b0
         try clear c16b1
         try clear c16b2
         try clear c17
         try clear c20
         try clear c20b0
         try clear c24
         try clear c24b0
         try clear c26
         try clear c26b0
         try clear c30
         try clear hcz14_0
         try clear hcz14_1
         try clear hcz25_0
         try clear hcz25_1
         try clear hcz27_0
         try clear hcz27_1
         try clear hcz28_0
         try clear hcz28_1
         try clear hcz9_0
         try clear hcz9_1
         try clear hfz14_0
         try clear hfz14_1
         try clear hfz25_0
         try clear hfz25_1
         try clear hfz27_0
         try clear hfz27_1
         try clear hfz28_0
         try clear hfz28_1
         try clear hfz9_0
         try clear hfz9_1
         try clear p2
         obtain ⟨x12_4, rfl, HA, HK4, HO_3, HO_5, HO_11, HO_696001, BK695, HB⟩ := hrel
         cases gk with
         | zero => exact absurd HA.out (by simp [laws_FnPlanRoom.l1])
         | succ k4 =>
          have H := HA.out
          clear HA
          simp only [laws_FnPlanRoom.l1] at H
          by_cases c31 : x12_4 < (t700.length : Int)
          ·rw [if_pos c31] at H
           have c31b0 : decide (x12_4 < (t700.length : Int)) = true := dT_q c31
           clear c31
           by_cases c32 : 0 ≤ x12_4
           ·rw [if_pos c32] at H
            have c32b0 : decide (0 ≤ x12_4) = true := dT_q c32
            clear c32
            by_cases c33 : x12_4 < (t689.length : Int)
            ·rw [if_pos c33] at H
             have c33b0 : decide (x12_4 < (t689.length : Int)) = true := dT_q c33
             clear c33
             by_cases c34 : (rd t700 x12_4) > (rd t689 x12_4)
             ·rw [if_pos c34] at H
              have c34b0 : decide ((rd t689 x12_4) < (rd t700 x12_4)) = true := dT_q c34
              clear c34
              obtain rfl := oI_q H
              obtain ⟨Ao35, co35, eo35⟩ := rS_q HO_11.out
              subst eo35
              have p703 : 0 ≤ (x12_4 : Int) := oD_q (by assumption)
              have q703 : x12_4 < (t700.length : Int) := oD_q (by assumption)
              obtain ⟨ad703, e703, hx703_0⟩ := aI_q (rR_q HO_11.out).2.2 x12_4 p703 q703
              cases e703
              replace p703 := eq_true p703
              replace q703 := eq_true q703
              have hcz36_0 : wr.cell? ⟨gb695, 0, none⟩ = some (.int .i64 t688) := (bC_q BK695.out 0).trans rfl
              have hcz36_1 : wr.cell? ⟨gb695, 1, none⟩ = some (.slice Ao10 t689.length co10) := (bC_q BK695.out 1).trans rfl
              have hfz36_0 := bF_q BK695.out 0
              have hfz36_1 := bF_q BK695.out 1
              have p704 : 0 ≤ (x12_4 : Int) := oD_q (by assumption)
              have q704 : x12_4 < (t689.length : Int) := oD_q (by assumption)
              obtain ⟨ad704, e704, hx704_0⟩ := aI_q (rR_q HO_696001.out).2.2 x12_4 p704 q704
              cases e704
              replace p704 := eq_true p704
              replace q704 := eq_true q704
              go_wp2
              repeat (go_quiet (fail); try go_wp2)
              go_ret
              exact ⟨by first | rfl | (simp [eN_q, eS_q] <;> rfl) | (simp [*, eN_q, eS_q] <;> rfl), by repeat (first | (with_reducible first | exact HB.out | apply bA_q | apply pB_q | apply bD_q | refine bS_q ?_ GE695.out) | exact HB.out)⟩
             rw [if_neg c34] at H
             have c34b0 : decide ((rd t689 x12_4) < (rd t700 x12_4)) = false := dF_q c34
             clear c34
             have H' := Ae_q H
             clear H
             obtain ⟨Ao37, co37, eo37⟩ := rS_q HO_11.out
             subst eo37
             have p703 : 0 ≤ (x12_4 : Int) := oD_q (by assumption)
             have q703 : x12_4 < (t700.length : Int) := oD_q (by assumption)
             obtain ⟨ad703, e703, hx703_0⟩ := aI_q (rR_q HO_11.out).2.2 x12_4 p703 q703
             cases e703
             replace p703 := eq_true p703
             replace q703 := eq_true q703
             have hcz38_0 : wr.cell? ⟨gb695, 0, none⟩ = some (.int .i64 t688) := (bC_q BK695.out 0).trans rfl
             have hcz38_1 : wr.cell? ⟨gb695, 1, none⟩ = some (.slice Ao10 t689.length co10) := (bC_q BK695.out 1).trans rfl
             have hfz38_0 := bF_q BK695.out 0
             have hfz38_1 := bF_q BK695.out 1
             have p704 : 0 ≤ (x12_4 : Int) := oD_q (by assumption)
             have q704 : x12_4 < (t689.length : Int) := oD_q (by assumption)
             obtain ⟨ad704, e704, hx704_0⟩ := aI_q (rR_q HO_696001.out).2.2 x12_4 p704 q704
             cases e704
             replace p704 := eq_true p704
             replace q704 := eq_true q704
             go_wp2
             repeat (go_quiet (fail); try go_wp2)
             go_roundg k4
             case measure => have := HJ5.out; have := HK2.out; have := HJ21.out; have := HK4.out; omega
             case rel => exact ⟨(wrap64 (x12_4 + 1)), (by first | rfl | (simp; done) | (simp [*]; done)), H', ⟨by have := HJ5.out; have := HK2.out; have := HJ21.out; have := HK4.out; omega⟩, ⟨by (with_reducible repeat (first | apply tA_q | apply tN_q | apply tD_q)); exact HO_3.out⟩, ⟨by (with_reducible repeat (first | apply Kd.Q_alloc | apply Kd.Q_drewN | apply Kd.Q_drew)); exact HO_5.out⟩, ⟨by (with_reducible repeat (first | apply rA_q | apply rN_q | apply rD_q)); exact HO_11.out⟩, ⟨by (with_reducible repeat (first | apply rA_q | apply rN_q | apply rD_q)); exact HO_696001.out⟩, ⟨by (with_reducible repeat (first | refine bN_q ?_ _ | refine bW_q ?_ | refine bL_q ?_ _)); exact BK695.out⟩, ⟨by repeat (first | (with_reducible first | exact HB.out | apply bA_q | apply pB_q | apply bD_q | refine bS_q ?_ GE695.out) | exact HB.out)⟩⟩
            rw [if_neg c33] at H
            exact absurd H (by simp)
           rw [if_neg c32] at H
           exact absurd H (by simp)
          rw [if_neg c31] at H
          have c31b0 : decide (x12_4 < (t700.length : Int)) = false := dF_q c31
          clear c31
          have H' := Ae_q H
          clear H
          obtain ⟨Ao39, co39, eo39⟩ := rS_q HO_11.out
          subst eo39
          go_wp2
          repeat (go_quiet (fail); try go_wp2)
          go_roundg k4
          case measure => have := HJ5.out; have := HK2.out; have := HJ21.out; have := HK4.out; omega
          case rel => exact ⟨(wrap64 (x9_2 + 1)), (by first | rfl | (simp; done) | (simp [*]; done)), H', ⟨by have := HJ5.out; have := HK2.out; have := HJ21.out; have := HK4.out; omega⟩, ⟨by (with_reducible repeat (first | apply tA_q | apply tN_q | apply tD_q)); exact Kd.S_mono HO_3.out (fun _ hk => ⟨hk.1, hk.2.2⟩)⟩, ⟨by (with_reducible repeat (first | apply Kd.Q_alloc | apply Kd.Q_drewN | apply Kd.Q_drew)); exact Kd.Q_mono HO_5.out (fun _ hk => hk.2)⟩, ⟨by (with_reducible repeat (first | apply rA_q | apply rN_q | apply rD_q)); exact rM_q HO_696001.out (fun _ hk => hk.1)⟩, ⟨by (with_reducible repeat (first | refine bN_q ?_ _ | refine bW_q ?_ | refine bL_q ?_ _)); exact BK695.out⟩, ⟨by repeat (first | (with_reducible first | exact HB.out | apply bA_q | apply pB_q | apply bD_q | refine bS_q ?_ GE695.out) | exact HB.out)⟩⟩
     rw [if_neg c20] at H
     have c20b0 : decide (x9_2 < t698) = false := dF_q c20
     clear c20
     obtain rfl := oI_q H
     go_wp2
     repeat (go_quiet (fail); try go_wp2)
     go_ret
     exact ⟨by first | rfl | (simp [eN_q, eS_q] <;> rfl) | (simp [*, eN_q, eS_q] <;> rfl), by repeat (first | (with_reducible first | exact HB.out | apply bA_q | apply pB_q | apply bD_q | refine bS_q ?_ GE695.out) | exact HB.out)⟩

def laws_FnPlanRoom.Pure : Prop := ∀ (l0 : List Int), l0.length ≤ maxLen → l0.length * 1 ≤ 140737488351232 → (∀ x ∈ l0, (Lit.int .u8 x).wf = true) → ∃ k, laws_FnPlanRoom.f k l0 = some true
theorem laws_FnPlanRoom.walk (P : laws_FnPlanRoom.Pure) (a0 : Option Addr) (len0 cap0 : Nat) (z0 : List Int) (w : World) (w0 : (a0 = none ∧ len0 = 0 ∧ cap0 = 0 ∧ z0 = []) ∨ ∃ x, a0 = some x ∧ len0 ≤ cap0 ∧ cap0 ≤ maxLen ∧ z0.length = cap0 ∧ (∀ i, i < z0.length → w.cell? (x.add i) = some (.int .u8 (z0.getD i 0))) ∧ ∀ n ∈ z0, (Lit.int .u8 n).wf = true) (y0 : len0 * 1 ≤ 140737488351232) :
    Calls Try.prog 7 #[.slice a0 len0 cap0] w fun e w' => e = .returned (.bool true) ∧ Below w.heap.size w w' := by
 obtain ⟨l0, rfl, hr0, hm0, hw0, hc0⟩ := ReadsInt.ofRowC w0
 obtain ⟨k, h⟩ := P l0 hm0 y0 hw0
 refine (laws_FnPlanRoom.calls k _ _ l0 true w (Kd.C_of_reads (d := (0 : Int)) (h1 := fun _ => rfl) hr0) hc0 h).mono ?_
 rintro e w' ⟨rfl, hd⟩
 exact ⟨rfl, hd⟩

end Go.Proofs.Ytoaigcdoblnmhaa.PPn
