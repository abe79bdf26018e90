import Derived.Test.YtjnagefogjkbbaaVaPPlx0
import Derived.Test.YtjnagefogjkbbaaVaPPlx1
import Derived.Test.YtjnagefogjkbbaaVaPPlx3
import Derived.Test.YtjnagefogjkbbaaVaPPlx16
namespace Go.Proofs.Ytjnagefogjkbbaa.PPl
open Go.RowKit Go.Proofs.YtjnagefogjkbbaaW.PrintWords Go.Proofs.YtjnagefogjkbbaaW.PrintLast Go.Proofs.YtjnagefogjkbbaaW.PrintMore
attribute [local go_sem] max2_int min2_int max_two min_two max_three min_three max_four min_four
set_option linter.unusedVariables false
set_option linter.unusedSimpArgs false

mutual
def laws_FnDelay.j0 : Nat → List Int → List Int → Int → Int → Bool → Option (Bool)
 | 0, _, _, _, _, _ => none
 | k + 1, x3, x4, x5, x6, x29 => if x29 = true then (some (x5 == x6)) else (laws_FnDelay.l0 k x3 x4 x5 0 0)
def laws_FnDelay.l0 : Nat → List Int → List Int → Int → Int → Int → Option (Bool)
 | 0, _, _, _, _, _ => none
 | k + 1, x3, x4, x5, x7, x8 => if x8 < (x3.length : Int) then (if 0 ≤ x8 then (if x8 < (x4.length : Int) then (laws_FnDelay.l0 k x3 x4 x5 (wrap64 ((wrap64 (x7 + (rd x4 x8))) - (rd x3 x8))) (wrap64 (x8 + 1))) else (none)) else (none)) else (if x7 = x5 then ((impl_PlanMoved.f k x3 x4).bind fun t533 => (some ((x5 == 0) == ((t533.length : Int) == 0)))) else (some false))
end
def laws_FnDelay.f (k : Nat) (l0 : List Int) : Option (Bool) := if (l0.length : Int) > 1048576 then (some true) else ((spec_DrawPlanDelay.f k l0).bind fun bt523 => ((impl_PlanDelay.f k bt523.1 bt523.2).bind fun t529 => ((spec_PlanDelay.f k bt523.1 bt523.2).bind fun t530 => (if t529 = t530 then (laws_FnDelay.j0 k bt523.1 bt523.2 t529 t530 (decide (t530 < 0))) else (laws_FnDelay.j0 k bt523.1 bt523.2 t529 t530 true)))))
theorem laws_FnDelay.mono_l : ∀ k, (∀ y0 y1 y2 y3 y4, LeO (laws_FnDelay.j0 k y0 y1 y2 y3 y4) (laws_FnDelay.j0 (k + 1) y0 y1 y2 y3 y4)) ∧ (∀ y0 y1 y2 y3 y4, LeO (laws_FnDelay.l0 k y0 y1 y2 y3 y4) (laws_FnDelay.l0 (k + 1) y0 y1 y2 y3 y4))
 | 0 => ⟨fun _ _ _ _ _ r h => by simp [laws_FnDelay.j0] at h, fun _ _ _ _ _ r h => by simp [laws_FnDelay.l0] at h⟩
 | k + 1 => by
  obtain ⟨ih0, ih1⟩ := laws_FnDelay.mono_l k
  refine ⟨?_, ?_⟩
  ·intro y0 y1 y2 y3 y4
   unfold laws_FnDelay.j0
   repeat' first
   | (with_reducible exact ih0 _ _ _ _ _)
   | (with_reducible exact ih1 _ _ _ _ _)
   | (with_reducible exact impl_PlanDelay.mono _ _ _)
   | (with_reducible exact impl_PlanMoved.mono _ _ _)
   | (with_reducible exact spec_DrawPlanDelay.mono _ _)
   | (with_reducible exact spec_PlanDelay.mono _ _ _)
   | (with_reducible exact lR_q _)
   | (with_reducible exact lO_q _)
   | (with_reducible refine lI_q ?_ ?_)
   | (with_reducible refine lB_q ?_ (fun _ => ?_))
   | exact ih0 _ _ _ _ _
   | exact ih1 _ _ _ _ _
   | exact impl_PlanDelay.mono _ _ _
   | exact impl_PlanMoved.mono _ _ _
   | exact spec_DrawPlanDelay.mono _ _
   | exact spec_PlanDelay.mono _ _ _
   | exact lO_q _
   | refine lI_q ?_ ?_
   | refine lB_q ?_ (fun _ => ?_)
  intro y0 y1 y2 y3 y4
  unfold laws_FnDelay.l0
  repeat' first
  | (with_reducible exact ih0 _ _ _ _ _)
  | (with_reducible exact ih1 _ _ _ _ _)
  | (with_reducible exact impl_PlanDelay.mono _ _ _)
  | (with_reducible exact impl_PlanMoved.mono _ _ _)
  | (with_reducible exact spec_DrawPlanDelay.mono _ _)
  | (with_reducible exact spec_PlanDelay.mono _ _ _)
  | (with_reducible exact lR_q _)
  | (with_reducible exact lO_q _)
  | (with_reducible refine lI_q ?_ ?_)
  | (with_reducible refine lB_q ?_ (fun _ => ?_))
  | exact ih0 _ _ _ _ _
  | exact ih1 _ _ _ _ _
  | exact impl_PlanDelay.mono _ _ _
  | exact impl_PlanMoved.mono _ _ _
  | exact spec_DrawPlanDelay.mono _ _
  | exact spec_PlanDelay.mono _ _ _
  | exact lO_q _
  | refine lI_q ?_ ?_
  | refine lB_q ?_ (fun _ => ?_)
theorem laws_FnDelay.mono : ∀ a0 k, LeO (laws_FnDelay.f k a0) (laws_FnDelay.f (k + 1) a0) := by
 intro a0 k
 obtain ⟨ih0, ih1⟩ := laws_FnDelay.mono_l k
 unfold laws_FnDelay.f
 repeat' first
  | (with_reducible exact ih0 _ _ _ _ _)
  | (with_reducible exact ih1 _ _ _ _ _)
  | (with_reducible exact impl_PlanDelay.mono _ _ _)
  | (with_reducible exact impl_PlanMoved.mono _ _ _)
  | (with_reducible exact spec_DrawPlanDelay.mono _ _)
  | (with_reducible exact spec_PlanDelay.mono _ _ _)
  | (with_reducible exact lR_q _)
  | (with_reducible exact lO_q _)
  | (with_reducible refine lI_q ?_ ?_)
  | (with_reducible refine lB_q ?_ (fun _ => ?_))
  | exact ih0 _ _ _ _ _
  | exact ih1 _ _ _ _ _
  | exact impl_PlanDelay.mono _ _ _
  | exact impl_PlanMoved.mono _ _ _
  | exact spec_DrawPlanDelay.mono _ _
  | exact spec_PlanDelay.mono _ _ _
  | exact lO_q _
  | refine lI_q ?_ ?_
  | refine lB_q ?_ (fun _ => ?_)
set_option maxHeartbeats 8000000 in
set_option maxRecDepth 100000 in
theorem laws_FnDelay.calls (k : Nat) (A0 : Option Addr) (c0 : Nat) (l0 : List Int) (r : Bool) (w : World) (hr0 : Kd.C (Kd.int .u8) w A0 l0.length l0) (hc0 : l0.length ≤ c0) (h : laws_FnDelay.f k l0 = some r) :
    Calls Try.prog 5 #[.slice A0 l0.length c0] w fun e w' => e = .returned (.bool r) ∧ Below w.heap.size w w' := by
 have HR0 := Ae_q hr0
 have HC0 := Ae_q hc0
 clear hr0 hc0
 have HB := Ae_q (bR_q w.heap.size w)
 have H : (if (l0.length : Int) > 1048576 then (some true) else ((spec_DrawPlanDelay.f k l0).bind fun bt523 => ((impl_PlanDelay.f k bt523.1 bt523.2).bind fun t529 => ((spec_PlanDelay.f k bt523.1 bt523.2).bind fun t530 => (if t529 = t530 then (laws_FnDelay.j0 k bt523.1 bt523.2 t529 t530 (decide (t530 < 0))) else (laws_FnDelay.j0 k bt523.1 bt523.2 t529 t530 true)))))) = some r := h
 clear h
 by_cases c2 : (l0.length : Int) > 1048576
 ·rw [if_pos c2] at H
  have c2b0 : decide (1048576 < (l0.length : Int)) = true := dT_q c2
  have c2b1 : decide (1048576 < l0.length) = true := dT_q (by omega)
  clear c2
  obtain rfl := oI_q H
  go_enter Try.func5, Try.ntmps5
  go_wp2
  repeat (go_quiet (fail); try go_wp2)
  go_ret
  exact ⟨by first | rfl | (simp [eN_q, eS_q] <;> rfl) | (simp [*, eN_q, eS_q] <;> rfl), bel HB.out⟩
 rw [if_neg c2] at H
 have c2b0 : decide (1048576 < (l0.length : Int)) = false := dF_q c2
 have c2b1 : decide (1048576 < l0.length) = false := dF_q (by omega)
 clear c2
 replace H := oB_q.mp H
 obtain ⟨⟨t523, t524⟩, A30, H⟩ := H
 replace H : ((impl_PlanDelay.f k t523 t524).bind fun t529 => ((spec_PlanDelay.f k t523 t524).bind fun t530 => (if t529 = t530 then (laws_FnDelay.j0 k t523 t524 t529 t530 (decide (t530 < 0))) else (laws_FnDelay.j0 k t523 t524 t529 t530 true)))) = some r := H
 have A3 := Ae_q A30
 clear A30
 replace H := oB_q.mp H
 obtain ⟨t529, A40, H⟩ := H
 replace H : ((spec_PlanDelay.f k t523 t524).bind fun t530 => (if t529 = t530 then (laws_FnDelay.j0 k t523 t524 t529 t530 (decide (t530 < 0))) else (laws_FnDelay.j0 k t523 t524 t529 t530 true))) = some r := H
 have A4 := Ae_q A40
 clear A40
 replace H := oB_q.mp H
 obtain ⟨t530, A50, H⟩ := H
 replace H : (if t529 = t530 then (laws_FnDelay.j0 k t523 t524 t529 t530 (decide (t530 < 0))) else (laws_FnDelay.j0 k t523 t524 t529 t530 true)) = some r := H
 have A5 := Ae_q A50
 clear A50
 have HC6 := Ae_q H
 clear H
 go_enter Try.func5, Try.ntmps5
 go_upto_region 6 with (first | (go_at_call 15; (with_reducible refine (spec_DrawPlanDelay.calls k _ _ l0 t523 t524 _ ?side1 ?side2 A3.out).mono ?_); (case side1 => repeat (first | exact HR0.out | (with_reducible refine cA_q ?_ _) | (with_reducible refine cN_q ?_ _) | (with_reducible refine cD_q ?_))); (case side2 => exact HC0.out); rintro e w7 ⟨v525, v527, rfl, ho0, ho1, hb⟩; have n0_ := Ae_q (rL_q ho0 (bZ_q (bel HB.out))); have n1_ := Ae_q (Kd.Q_lower ho1 (bZ_q (bel HB.out))); have n2_ := Ae_q (bT_q (bel HB.out) hb); clear HB; have HO526 := n0_; have HO528 := n1_; have HB := n2_; clear n0_ n1_ n2_; (try clear hb); (try clear hb2); (try clear hk); (try clear hi); (try clear ho0); (try clear ho1); obtain ⟨Ao8, co8, eo8⟩ := rS_q HO526.out; subst eo8; obtain ⟨Ao9, co9, eo9, _⟩ := Kd.Q_slice HO528.out; subst eo9) | (go_at_call 9; (with_reducible refine (impl_PlanDelay.calls k _ _ t523 _ _ t524 t529 _ ?side1 ?side2 ?side3 ?side4 A4.out).mono ?_); (case side1 => exact cup (rR_q HO526.out).2.2); (case side2 => exact (rR_q HO526.out).2.1); (case side3 => repeat (first | exact (Kd.Q_reads' HO528.out).2.2 | (with_reducible refine cA_q ?_ _) | (with_reducible refine cN_q ?_ _) | (with_reducible refine cD_q ?_))); (case side4 => exact (Kd.Q_reads' HO528.out).2.1); rintro e w' ⟨rfl, ⟨nd, rfl⟩⟩; (try first | exact ⟨rfl, _, wD_q _ _ _⟩ | exact ⟨rfl, _, Eq.trans (wD_q _ _ _) (congrArg (World.drewN _) (nA_q _ _ _))⟩)) | (go_at_call 7; (with_reducible refine (spec_PlanDelay.calls k _ _ t523 _ _ t524 t530 _ ?side1 ?side2 ?side3 ?side4 A5.out).mono ?_); (case side1 => exact cup (rR_q HO526.out).2.2); (case side2 => exact (rR_q HO526.out).2.1); (case side3 => repeat (first | exact (Kd.Q_reads' HO528.out).2.2 | (with_reducible refine cA_q ?_ _) | (with_reducible refine cN_q ?_ _) | (with_reducible refine cD_q ?_))); (case side4 => exact (Kd.Q_reads' HO528.out).2.1); rintro e w' ⟨rfl, ⟨nd, rfl⟩⟩; (try first | exact ⟨rfl, _, wD_q _ _ _⟩ | exact ⟨rfl, _, Eq.trans (wD_q _ _ _) (congrArg (World.drewN _) (nA_q _ _ _))⟩)))
 repeat (go_quiet (first | (go_at_call 15; (with_reducible refine (spec_DrawPlanDelay.calls k _ _ l0 t523 t524 _ ?side1 ?side2 A3.out).mono ?_); (case side1 => repeat (first | exact HR0.out | (with_reducible refine cA_q ?_ _) | (with_reducible refine cN_q ?_ _) | (with_reducible refine cD_q ?_))); (case side2 => exact HC0.out); rintro e w7 ⟨v525, v527, rfl, ho0, ho1, hb⟩; have n0_ := Ae_q (rL_q ho0 (bZ_q (bel HB.out))); have n1_ := Ae_q (Kd.Q_lower ho1 (bZ_q (bel HB.out))); have n2_ := Ae_q (bT_q (bel HB.out) hb); clear HB; have HO526 := n0_; have HO528 := n1_; have HB := n2_; clear n0_ n1_ n2_; (try clear hb); (try clear hb2); (try clear hk); (try clear hi); (try clear ho0); (try clear ho1); obtain ⟨Ao8, co8, eo8⟩ := rS_q HO526.out; subst eo8; obtain ⟨Ao9, co9, eo9, _⟩ := Kd.Q_slice HO528.out; subst eo9) | (go_at_call 9; (with_reducible refine (impl_PlanDelay.calls k _ _ t523 _ _ t524 t529 _ ?side1 ?side2 ?side3 ?side4 A4.out).mono ?_); (case side1 => exact cup (rR_q HO526.out).2.2); (case side2 => exact (rR_q HO526.out).2.1); (case side3 => repeat (first | exact (Kd.Q_reads' HO528.out).2.2 | (with_reducible refine cA_q ?_ _) | (with_reducible refine cN_q ?_ _) | (with_reducible refine cD_q ?_))); (case side4 => exact (Kd.Q_reads' HO528.out).2.1); rintro e w' ⟨rfl, ⟨nd, rfl⟩⟩; (try first | exact ⟨rfl, _, wD_q _ _ _⟩ | exact ⟨rfl, _, Eq.trans (wD_q _ _ _) (congrArg (World.drewN _) (nA_q _ _ _))⟩)) | (go_at_call 7; (with_reducible refine (spec_PlanDelay.calls k _ _ t523 _ _ t524 t530 _ ?side1 ?side2 ?side3 ?side4 A5.out).mono ?_); (case side1 => exact cup (rR_q HO526.out).2.2); (case side2 => exact (rR_q HO526.out).2.1); (case side3 => repeat (first | exact (Kd.Q_reads' HO528.out).2.2 | (with_reducible refine cA_q ?_ _) | (with_reducible refine cN_q ?_ _) | (with_reducible refine cD_q ?_))); (case side4 => exact (Kd.Q_reads' HO528.out).2.1); rintro e w' ⟨rfl, ⟨nd, rfl⟩⟩; (try first | exact ⟨rfl, _, wD_q _ _ _⟩ | exact ⟨rfl, _, Eq.trans (wD_q _ _ _) (congrArg (World.drewN _) (nA_q _ _ _))⟩))); go_upto_region 6 with (first | (go_at_call 15; (with_reducible refine (spec_DrawPlanDelay.calls k _ _ l0 t523 t524 _ ?side1 ?side2 A3.out).mono ?_); (case side1 => repeat (first | exact HR0.out | (with_reducible refine cA_q ?_ _) | (with_reducible refine cN_q ?_ _) | (with_reducible refine cD_q ?_))); (case side2 => exact HC0.out); rintro e w7 ⟨v525, v527, rfl, ho0, ho1, hb⟩; have n0_ := Ae_q (rL_q ho0 (bZ_q (bel HB.out))); have n1_ := Ae_q (Kd.Q_lower ho1 (bZ_q (bel HB.out))); have n2_ := Ae_q (bT_q (bel HB.out) hb); clear HB; have HO526 := n0_; have HO528 := n1_; have HB := n2_; clear n0_ n1_ n2_; (try clear hb); (try clear hb2); (try clear hk); (try clear hi); (try clear ho0); (try clear ho1); obtain ⟨Ao8, co8, eo8⟩ := rS_q HO526.out; subst eo8; obtain ⟨Ao9, co9, eo9, _⟩ := Kd.Q_slice HO528.out; subst eo9) | (go_at_call 9; (with_reducible refine (impl_PlanDelay.calls k _ _ t523 _ _ t524 t529 _ ?side1 ?side2 ?side3 ?side4 A4.out).mono ?_); (case side1 => exact cup (rR_q HO526.out).2.2); (case side2 => exact (rR_q HO526.out).2.1); (case side3 => repeat (first | exact (Kd.Q_reads' HO528.out).2.2 | (with_reducible refine cA_q ?_ _) | (with_reducible refine cN_q ?_ _) | (with_reducible refine cD_q ?_))); (case side4 => exact (Kd.Q_reads' HO528.out).2.1); rintro e w' ⟨rfl, ⟨nd, rfl⟩⟩; (try first | exact ⟨rfl, _, wD_q _ _ _⟩ | exact ⟨rfl, _, Eq.trans (wD_q _ _ _) (congrArg (World.drewN _) (nA_q _ _ _))⟩)) | (go_at_call 7; (with_reducible refine (spec_PlanDelay.calls k _ _ t523 _ _ t524 t530 _ ?side1 ?side2 ?side3 ?side4 A5.out).mono ?_); (case side1 => exact cup (rR_q HO526.out).2.2); (case side2 => exact (rR_q HO526.out).2.1); (case side3 => repeat (first | exact (Kd.Q_reads' HO528.out).2.2 | (with_reducible refine cA_q ?_ _) | (with_reducible refine cN_q ?_ _) | (with_reducible refine cD_q ?_))); (case side4 => exact (Kd.Q_reads' HO528.out).2.1); rintro e w' ⟨rfl, ⟨nd, rfl⟩⟩; (try first | exact ⟨rfl, _, wD_q _ _ _⟩ | exact ⟨rfl, _, Eq.trans (wD_q _ _ _) (congrArg (World.drewN _) (nA_q _ _ _))⟩))))
 (try simp only [Act.put, sA_q, sZ_q, sS_q])
 go_cut [29] (fun v29 wc => ∃ (kq : Nat) (x29_5 : Bool), v29 = .bool x29_5 ∧ Aside0 (laws_FnDelay.j0 kq t523 t524 t529 t530 x29_5 = some r) ∧ Aside0 (kq ≤ k) ∧ Aside0 (Kd.R kI_q 3 wc w.heap.size (fun k_ => some k_ ≠ ((.slice Ao9 t524.length co9) : Value).ownBlock) (.slice Ao8 t523.length co8) t523) ∧ Aside0 (Kd.Q kI_q 3 wc w.heap.size (fun k_ => some k_ ≠ ((.slice Ao8 t523.length co8) : Value).ownBlock) (.slice Ao9 t524.length co9) t524) ∧ Aside0 (Below w.heap.size w wc))
 case first =>
  have H := HC6.out
  clear HC6
  by_cases c10 : t529 = t530
  ·rw [if_pos c10] at H
   have c10b0 : (t529 == t530) = true := beq_iff_eq.mpr c10
   have c10b1 : (t529 != t530) = false := nE_q.mpr c10
   clear c10
   (first | rw [c10b0] | (simp only [i64_w, i32_w]; rw [c10b0]) | skip)
   have H' := Ae_q H
   clear H
   go_wp2
   repeat (go_quiet (fail); try go_wp2)
   go_meet
   case rel => exact ⟨_, (decide (t530 < 0)), (by first | rfl | (simp; done) | (simp [*]; done)), H', ⟨by first | omega | exact nR_q _⟩, ⟨by (with_reducible repeat (first | apply rA_q | apply rN_q | apply rD_q)); exact HO526.out⟩, ⟨by (with_reducible repeat (first | apply Kd.Q_alloc | apply Kd.Q_drewN | apply Kd.Q_drew)); exact HO528.out⟩, ⟨bel HB.out⟩⟩
  rw [if_neg c10] at H
  have c10b0 : (t529 == t530) = false := fN_q.mpr c10
  have c10b1 : (t529 != t530) = true := nI_q.mpr c10
  (first | rw [c10b0] | (simp only [i64_w, i32_w]; rw [c10b0]) | skip)
  have H' := Ae_q H
  clear H
  go_wp2
  repeat (go_quiet (fail); try go_wp2)
  go_meet
  case rel => exact ⟨_, (true), (by first | rfl | (simp; done) | (simp [*]; done)), H', ⟨by first | omega | exact nR_q _⟩, ⟨by (with_reducible repeat (first | apply rA_q | apply rN_q | apply rD_q)); exact HO526.out⟩, ⟨by (with_reducible repeat (first | apply Kd.Q_alloc | apply Kd.Q_drewN | apply Kd.Q_drew)); exact HO528.out⟩, ⟨bel HB.out⟩⟩
 case rest =>
  clear HC6
  try clear c1
  try clear c2
  try clear c2b0
  try clear c2b1
  try clear p2
  try clear c5
  try clear c10
  try clear c10b0
  try clear c10b1
  obtain ⟨kq, x29_5, rfl, HA, HJ5, HO_3, HO_4, HB⟩ := hcut
  cases kq with
  | zero => exact absurd HA.out (by simp [laws_FnDelay.j0])
  | succ kj5 =>
   have H := HA.out
   clear HA
   simp only [laws_FnDelay.j0] at H
   by_cases c11 : x29_5 = true
   ·subst c11
    have H1 : (some (t529 == t530)) = some r := by rw [if_pos rfl] at H; exact H
    clear H
    have H := H1
    clear H1
    obtain rfl := oI_q H
    go_wp2
    repeat (go_quiet (fail); try go_wp2)
    go_ret
    exact ⟨by first | rfl | (simp [eN_q, eS_q] <;> rfl) | (simp [*, eN_q, eS_q] <;> rfl), bel HB.out⟩
   replace c11 := fM_q.mpr c11
   subst c11
   have H1 : (laws_FnDelay.l0 kj5 t523 t524 t529 0 0) = some r := by rw [if_neg (show ¬ (false = true) by decide)] at H; exact H
   clear H
   have H := H1
   clear H1
   have H' := Ae_q H
   clear H
   go_wp2
   repeat (go_quiet (fail); try go_wp2)
   go_loopg [7, 8] kj5 (fun kq v7 v8 w' => ∃ (x7_2 : Int) (x8_2 : Int), v7 = .int .i64 x7_2 ∧ v8 = .int .i64 x8_2 ∧ Aside0 (laws_FnDelay.l0 kq t523 t524 t529 x7_2 x8_2 = some r) ∧ Aside0 (kq ≤ kj5) ∧ Aside0 (Kd.R kI_q 3 w' w.heap.size (fun k_ => some k_ ≠ ((.slice Ao9 t524.length co9) : Value).ownBlock) (.slice Ao8 t523.length co8) t523) ∧ Aside0 (Kd.Q kI_q 3 w' w.heap.size (fun k_ => some k_ ≠ ((.slice Ao8 t523.length co8) : Value).ownBlock) (.slice Ao9 t524.length co9) t524) ∧ Aside0 (Below w.heap.size w w'))
   case atStart => exact ⟨(0), (0), (by first | rfl | (simp; done) | (simp [*]; done)), (by first | rfl | (simp; done) | (simp [*]; done)), H', ⟨nR_q _⟩, ⟨by (with_reducible repeat (first | apply rA_q | apply rN_q | apply rD_q)); exact HO_3.out⟩, ⟨by (with_reducible repeat (first | apply Kd.Q_alloc | apply Kd.Q_drewN | apply Kd.Q_drew)); exact HO_4.out⟩, ⟨bel HB.out⟩⟩
   case round =>
    clear H'
    try clear c1
    try clear c2
    try clear c2b0
    try clear c2b1
    try clear p2
    try clear c5
    try clear c10
    try clear c10b0
    try clear c10b1
    try clear c11
    try clear p2
    obtain ⟨x7_2, x8_2, rfl, rfl, HA, HK2, HO_3, HO_4, HB⟩ := hrel
    cases gk with
    | zero => exact absurd HA.out (by simp [laws_FnDelay.l0])
    | succ k2 =>
     have H := HA.out
     clear HA
     simp only [laws_FnDelay.l0] at H
     by_cases c12 : x8_2 < (t523.length : Int)
     ·rw [if_pos c12] at H
      have c12b0 : decide (x8_2 < (t523.length : Int)) = true := dT_q c12
      clear c12
      by_cases c13 : 0 ≤ x8_2
      ·rw [if_pos c13] at H
       have c13b0 : decide (0 ≤ x8_2) = true := dT_q c13
       clear c13
       by_cases c14 : x8_2 < (t524.length : Int)
       ·rw [if_pos c14] at H
        have c14b0 : decide (x8_2 < (t524.length : Int)) = true := dT_q c14
        clear c14
        have H' := Ae_q H
        clear H
        have p531 : 0 ≤ (x8_2 : Int) := oD_q (by assumption)
        have q531 : x8_2 < (t524.length : Int) := oD_q (by assumption)
        obtain ⟨ad531, e531, hx531_0⟩ := aI_q (Kd.Q_reads' HO_4.out).2.2 x8_2 p531 q531
        cases e531
        replace p531 := eq_true p531
        replace q531 := eq_true q531
        have p532 : 0 ≤ (x8_2 : Int) := oD_q (by assumption)
        have q532 : x8_2 < (t523.length : Int) := oD_q (by assumption)
        obtain ⟨ad532, e532, hx532_0⟩ := aI_q (rR_q HO_3.out).2.2 x8_2 p532 q532
        cases e532
        replace p532 := eq_true p532
        replace q532 := eq_true q532
        go_wp2
        repeat (go_quiet (fail); try go_wp2)
        go_roundg k2
        case measure => have := HJ5.out; have := HK2.out; omega
        case rel => exact ⟨(wrap64 ((wrap64 (x7_2 + (rd t524 x8_2))) - (rd t523 x8_2))), (wrap64 (x8_2 + 1)), (by first | rfl | (simp; done) | (simp [*]; done)), (by first | rfl | (simp; done) | (simp [*]; done)), H', ⟨by have := HJ5.out; have := HK2.out; omega⟩, ⟨by (with_reducible repeat (first | apply rA_q | apply rN_q | apply rD_q)); exact HO_3.out⟩, ⟨by (with_reducible repeat (first | apply Kd.Q_alloc | apply Kd.Q_drewN | apply Kd.Q_drew)); exact HO_4.out⟩, ⟨bel HB.out⟩⟩
       rw [if_neg c14] at H
       exact absurd H (by simp)
      rw [if_neg c13] at H
      exact absurd H (by simp)
     rw [if_neg c12] at H
     have c12b0 : decide (x8_2 < (t523.length : Int)) = false := dF_q c12
     clear c12
     by_cases c15 : x7_2 = t529
     ·rw [if_pos c15] at H
      have c15b0 : (x7_2 == t529) = true := beq_iff_eq.mpr c15
      have c15b1 : (x7_2 != t529) = false := nE_q.mpr c15
      clear c15
      replace H := oB_q.mp H
      obtain ⟨t533, A160, H⟩ := H
      replace H : (some ((t529 == 0) == ((t533.length : Int) == 0))) = some r := H
      have A16 := Ae_q A160
      clear A160
      obtain rfl := oI_q H
      go_wp2_with (first | (go_at_call 12; (with_reducible refine (impl_PlanMoved.calls k2 _ _ t523 _ _ t524 t533 _ ?side1 ?side2 ?side3 ?side4 A16.out).mono ?_); (case side1 => exact cup (rR_q HO_3.out).2.2); (case side2 => exact (rR_q HO_3.out).2.1); (case side3 => repeat (first | exact (Kd.Q_reads' HO_4.out).2.2 | (with_reducible refine cA_q ?_ _) | (with_reducible refine cN_q ?_ _) | (with_reducible refine cD_q ?_))); (case side4 => exact (Kd.Q_reads' HO_4.out).2.1); rintro e w17 ⟨v534, rfl, ho0, hb⟩; have n0_ := Ae_q (rE_q (rup HO_3.out) (rB_q ho0) hb); have n1_ := Ae_q (Kd.Q_elder' (by (with_reducible repeat (first | apply Kd.Q_alloc | apply Kd.Q_drewN | apply Kd.Q_drew)); exact HO_4.out) (rB_q ho0) hb); have n2_ := Ae_q (rL_q (rW_q (rW_q ho0 (rT_q (rup HO_3.out))) (Kd.Q_lt (by (with_reducible repeat (first | apply Kd.Q_alloc | apply Kd.Q_drewN | apply Kd.Q_drew)); exact HO_4.out))) (bZ_q (bel HB.out))); have n3_ := Ae_q (bT_q (bel HB.out) hb); clear HO_3; clear HO_4; clear HB; have HO_3 := n0_; have HO_4 := n1_; have HO535 := n2_; have HB := n3_; clear n0_ n1_ n2_ n3_; (try clear hb); (try clear hb2); (try clear hk); (try clear hi); (try clear ho0); obtain ⟨Ao18, co18, eo18⟩ := rS_q HO535.out; subst eo18))
      repeat (go_quiet (first | (go_at_call 12; (with_reducible refine (impl_PlanMoved.calls k2 _ _ t523 _ _ t524 t533 _ ?side1 ?side2 ?side3 ?side4 A16.out).mono ?_); (case side1 => exact cup (rR_q HO_3.out).2.2); (case side2 => exact (rR_q HO_3.out).2.1); (case side3 => repeat (first | exact (Kd.Q_reads' HO_4.out).2.2 | (with_reducible refine cA_q ?_ _) | (with_reducible refine cN_q ?_ _) | (with_reducible refine cD_q ?_))); (case side4 => exact (Kd.Q_reads' HO_4.out).2.1); rintro e w17 ⟨v534, rfl, ho0, hb⟩; have n0_ := Ae_q (rE_q (rup HO_3.out) (rB_q ho0) hb); have n1_ := Ae_q (Kd.Q_elder' (by (with_reducible repeat (first | apply Kd.Q_alloc | apply Kd.Q_drewN | apply Kd.Q_drew)); exact HO_4.out) (rB_q ho0) hb); have n2_ := Ae_q (rL_q (rW_q (rW_q ho0 (rT_q (rup HO_3.out))) (Kd.Q_lt (by (with_reducible repeat (first | apply Kd.Q_alloc | apply Kd.Q_drewN | apply Kd.Q_drew)); exact HO_4.out))) (bZ_q (bel HB.out))); have n3_ := Ae_q (bT_q (bel HB.out) hb); clear HO_3; clear HO_4; clear HB; have HO_3 := n0_; have HO_4 := n1_; have HO535 := n2_; have HB := n3_; clear n0_ n1_ n2_ n3_; (try clear hb); (try clear hb2); (try clear hk); (try clear hi); (try clear ho0); obtain ⟨Ao18, co18, eo18⟩ := rS_q HO535.out; subst eo18)); try go_wp2_with (first | (go_at_call 12; (with_reducible refine (impl_PlanMoved.calls k2 _ _ t523 _ _ t524 t533 _ ?side1 ?side2 ?side3 ?side4 A16.out).mono ?_); (case side1 => exact cup (rR_q HO_3.out).2.2); (case side2 => exact (rR_q HO_3.out).2.1); (case side3 => repeat (first | exact (Kd.Q_reads' HO_4.out).2.2 | (with_reducible refine cA_q ?_ _) | (with_reducible refine cN_q ?_ _) | (with_reducible refine cD_q ?_))); (case side4 => exact (Kd.Q_reads' HO_4.out).2.1); rintro e w17 ⟨v534, rfl, ho0, hb⟩; have n0_ := Ae_q (rE_q (rup HO_3.out) (rB_q ho0) hb); have n1_ := Ae_q (Kd.Q_elder' (by (with_reducible repeat (first | apply Kd.Q_alloc | apply Kd.Q_drewN | apply Kd.Q_drew)); exact HO_4.out) (rB_q ho0) hb); have n2_ := Ae_q (rL_q (rW_q (rW_q ho0 (rT_q (rup HO_3.out))) (Kd.Q_lt (by (with_reducible repeat (first | apply Kd.Q_alloc | apply Kd.Q_drewN | apply Kd.Q_drew)); exact HO_4.out))) (bZ_q (bel HB.out))); have n3_ := Ae_q (bT_q (bel HB.out) hb); clear HO_3; clear HO_4; clear HB; have HO_3 := n0_; have HO_4 := n1_; have HO535 := n2_; have HB := n3_; clear n0_ n1_ n2_ n3_; (try clear hb); (try clear hb2); (try clear hk); (try clear hi); (try clear ho0); obtain ⟨Ao18, co18, eo18⟩ := rS_q HO535.out; subst eo18)))
      go_ret
      exact ⟨by first | rfl | (simp [eN_q, eS_q] <;> rfl) | (simp [*, eN_q, eS_q] <;> rfl), bel HB.out⟩
     rw [if_neg c15] at H
     have c15b0 : (x7_2 == t529) = false := fN_q.mpr c15
     have c15b1 : (x7_2 != t529) = true := nI_q.mpr c15
     obtain rfl := oI_q H
     go_wp2
     repeat (go_quiet (fail); try go_wp2)
     go_ret
     exact ⟨by first | rfl | (simp [eN_q, eS_q] <;> rfl) | (simp [*, eN_q, eS_q] <;> rfl), bel HB.out⟩

def laws_FnDelay.Pure : Prop := ∀ (l0 : List Int), l0.length ≤ maxLen → l0.length * 1 ≤ 140737488351232 → (∀ x ∈ l0, (Lit.int .u8 x).wf = true) → ∃ k, laws_FnDelay.f k l0 = some true
theorem laws_FnDelay.walk (P : laws_FnDelay.Pure) (a0 : Option Addr) (len0 cap0 : Nat) (z0 : List Int) (w : World) (w0 : (a0 = none ∧ len0 = 0 ∧ cap0 = 0 ∧ z0 = []) ∨ ∃ x, a0 = some x ∧ len0 ≤ cap0 ∧ cap0 ≤ maxLen ∧ z0.length = cap0 ∧ (∀ i, i < z0.length → w.cell? (x.add i) = some (.int .u8 (z0.getD i 0))) ∧ ∀ n ∈ z0, (Lit.int .u8 n).wf = true) (y0 : len0 * 1 ≤ 140737488351232) :
    Calls Try.prog 5 #[.slice a0 len0 cap0] w fun e w' => e = .returned (.bool true) ∧ Below w.heap.size w w' := by
 obtain ⟨l0, rfl, hr0, hm0, hw0, hc0⟩ := ReadsInt.ofRowC w0
 obtain ⟨k, h⟩ := P l0 hm0 y0 hw0
 refine (laws_FnDelay.calls k _ _ l0 true w (Kd.C_of_reads (d := (0 : Int)) (h1 := fun _ => rfl) hr0) hc0 h).mono ?_
 rintro e w' ⟨rfl, hd⟩
 exact ⟨rfl, hd⟩

end Go.Proofs.Ytjnagefogjkbbaa.PPl
