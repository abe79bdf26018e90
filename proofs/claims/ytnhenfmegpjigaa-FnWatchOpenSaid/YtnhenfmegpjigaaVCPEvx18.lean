import Derived.Test.YtnhenfmegpjigaaVCPEvx0
import Derived.Test.YtnhenfmegpjigaaVCPEvx6
import Derived.Test.YtnhenfmegpjigaaVCPEvx10
import Derived.Test.YtnhenfmegpjigaaVCPEvx14
import Derived.Test.YtnhenfmegpjigaaVCPEvx16
import Derived.Test.YtnhenfmegpjigaaVCPEvx17
namespace Go.Proofs.Ytnhenfmegpjigaa.PEv
open Go.RowKit Go.Proofs.YtnhenfmegpjigaaW.PrintWords Go.Proofs.YtnhenfmegpjigaaW.PrintLast Go.Proofs.YtnhenfmegpjigaaW.PrintMore
attribute [local go_sem] max2_int min2_int max_two min_two max_three min_three max_four min_four
set_option linter.unusedVariables false
set_option linter.unusedSimpArgs false

mutual
def laws_FnWatchOpen.j0 : Nat → List (S27) → Int → List Int → List Int → Bool → Option (Bool)
 | 0, _, _, _, _, _ => none
 | k + 1, x3, x4, x5, x6, x41 => if x41 = true then ((laws_sameInts.f k x5 x6).bind fun t413 => (some t413)) else (laws_FnWatchOpen.l0 k x3 x4 x5 1)
def laws_FnWatchOpen.l0 : Nat → List (S27) → Int → List Int → Int → Option (Bool)
 | 0, _, _, _, _ => none
 | k + 1, x3, x4, x5, x7 => if x7 ≤ 20 then (laws_FnWatchOpen.l1 k x3 x4 x5 x7 false 0) else (laws_FnWatchOpen.l2 k x5 1)
def laws_FnWatchOpen.l1 : Nat → List (S27) → Int → List Int → Int → Bool → Int → Option (Bool)
 | 0, _, _, _, _, _, _ => none
 | k + 1, x3, x4, x5, x7, x8, x9 => if x9 < (x3.length : Int) then (if 0 ≤ x9 then (if ((rd_T27 x3 x9).f1) ≤ x4 then (if ((rd_T27 x3 x9).f2) = x7 then (if ((rd_T27 x3 x9).f0) = 2 then (laws_FnWatchOpen.l1 k x3 x4 x5 x7 x8 (wrap64 (x9 + 1))) else (if ((rd_T27 x3 x9).f0) = 1 then (laws_FnWatchOpen.l1 k x3 x4 x5 x7 (decide (x4 ≤ (wrap64 (((rd_T27 x3 x9).f1) + 120)))) (wrap64 (x9 + 1))) else (laws_FnWatchOpen.l1 k x3 x4 x5 x7 false (wrap64 (x9 + 1))))) else (laws_FnWatchOpen.l1 k x3 x4 x5 x7 x8 (wrap64 (x9 + 1)))) else (laws_FnWatchOpen.l1 k x3 x4 x5 x7 x8 (wrap64 (x9 + 1)))) else (none)) else ((laws_hasInt.f k x5 x7).bind fun t419 => (if (x8 != t419) = true then (some false) else (laws_FnWatchOpen.l0 k x3 x4 x5 (wrap64 (x7 + 1)))))
def laws_FnWatchOpen.l2 : Nat → List Int → Int → Option (Bool)
 | 0, _, _ => none
 | k + 1, x5, x10 => if x10 < (x5.length : Int) then (if 0 ≤ (wrap64 (x10 - 1)) then (if (wrap64 (x10 - 1)) < (x5.length : Int) then (if 0 ≤ x10 then (if (rd x5 (wrap64 (x10 - 1))) ≥ (rd x5 x10) then (some false) else (laws_FnWatchOpen.l2 k x5 (wrap64 (x10 + 1)))) else (none)) else (none)) else (none)) else (some true)
end
def laws_FnWatchOpen.f (k : Nat) (l0 : List Int) : Option (Bool) := if (l0.length : Int) > 1048576 then (some true) else ((spec_DrawWatchOpen.f k l0).bind fun bt401 => ((impl_WatchOpen.f k bt401.1 bt401.2).bind fun t405 => ((spec_WatchOpen.f k bt401.1 bt401.2).bind fun t408 => ((laws_sameInts.f k t405 t408).bind fun t411 => (if t411 = true then ((spec_EventsValid.f k bt401.1).bind fun t412 => (if t412 = true then (if bt401.2 < 0 then (laws_FnWatchOpen.j0 k bt401.1 bt401.2 t405 t408 true) else (laws_FnWatchOpen.j0 k bt401.1 bt401.2 t405 t408 (decide (bt401.2 > 1439)))) else (laws_FnWatchOpen.j0 k bt401.1 bt401.2 t405 t408 true))) else (laws_FnWatchOpen.j0 k bt401.1 bt401.2 t405 t408 true))))))
theorem laws_FnWatchOpen.mono_l : ∀ k, (∀ y0 y1 y2 y3 y4, LeO (laws_FnWatchOpen.j0 k y0 y1 y2 y3 y4) (laws_FnWatchOpen.j0 (k + 1) y0 y1 y2 y3 y4)) ∧ (∀ y0 y1 y2 y3, LeO (laws_FnWatchOpen.l0 k y0 y1 y2 y3) (laws_FnWatchOpen.l0 (k + 1) y0 y1 y2 y3)) ∧ (∀ y0 y1 y2 y3 y4 y5, LeO (laws_FnWatchOpen.l1 k y0 y1 y2 y3 y4 y5) (laws_FnWatchOpen.l1 (k + 1) y0 y1 y2 y3 y4 y5)) ∧ (∀ y0 y1, LeO (laws_FnWatchOpen.l2 k y0 y1) (laws_FnWatchOpen.l2 (k + 1) y0 y1))
 | 0 => ⟨fun _ _ _ _ _ r h => by simp [laws_FnWatchOpen.j0] at h, fun _ _ _ _ r h => by simp [laws_FnWatchOpen.l0] at h, fun _ _ _ _ _ _ r h => by simp [laws_FnWatchOpen.l1] at h, fun _ _ r h => by simp [laws_FnWatchOpen.l2] at h⟩
 | k + 1 => by
  obtain ⟨ih0, ih1, ih2, ih3⟩ := laws_FnWatchOpen.mono_l k
  refine ⟨?_, ?_, ?_, ?_⟩
  ·intro y0 y1 y2 y3 y4
   unfold laws_FnWatchOpen.j0
   repeat' first
   | (with_reducible exact ih0 _ _ _ _ _)
   | (with_reducible exact ih1 _ _ _ _)
   | (with_reducible exact ih2 _ _ _ _ _ _)
   | (with_reducible exact ih3 _ _)
   | (with_reducible exact impl_WatchOpen.mono _ _ _)
   | (with_reducible exact laws_hasInt.mono _ _ _)
   | (with_reducible exact laws_sameInts.mono _ _ _)
   | (with_reducible exact spec_DrawWatchOpen.mono _ _)
   | (with_reducible exact spec_EventsValid.mono _ _)
   | (with_reducible exact spec_WatchOpen.mono _ _ _)
   | (with_reducible exact lR_q _)
   | (with_reducible exact lO_q _)
   | (with_reducible refine lI_q ?_ ?_)
   | (with_reducible refine lB_q ?_ (fun _ => ?_))
   | exact ih0 _ _ _ _ _
   | exact ih1 _ _ _ _
   | exact ih2 _ _ _ _ _ _
   | exact ih3 _ _
   | exact impl_WatchOpen.mono _ _ _
   | exact laws_hasInt.mono _ _ _
   | exact laws_sameInts.mono _ _ _
   | exact spec_DrawWatchOpen.mono _ _
   | exact spec_EventsValid.mono _ _
   | exact spec_WatchOpen.mono _ _ _
   | exact lO_q _
   | refine lI_q ?_ ?_
   | refine lB_q ?_ (fun _ => ?_)
  ·intro y0 y1 y2 y3
   unfold laws_FnWatchOpen.l0
   repeat' first
   | (with_reducible exact ih0 _ _ _ _ _)
   | (with_reducible exact ih1 _ _ _ _)
   | (with_reducible exact ih2 _ _ _ _ _ _)
   | (with_reducible exact ih3 _ _)
   | (with_reducible exact impl_WatchOpen.mono _ _ _)
   | (with_reducible exact laws_hasInt.mono _ _ _)
   | (with_reducible exact laws_sameInts.mono _ _ _)
   | (with_reducible exact spec_DrawWatchOpen.mono _ _)
   | (with_reducible exact spec_EventsValid.mono _ _)
   | (with_reducible exact spec_WatchOpen.mono _ _ _)
   | (with_reducible exact lR_q _)
   | (with_reducible exact lO_q _)
   | (with_reducible refine lI_q ?_ ?_)
   | (with_reducible refine lB_q ?_ (fun _ => ?_))
   | exact ih0 _ _ _ _ _
   | exact ih1 _ _ _ _
   | exact ih2 _ _ _ _ _ _
   | exact ih3 _ _
   | exact impl_WatchOpen.mono _ _ _
   | exact laws_hasInt.mono _ _ _
   | exact laws_sameInts.mono _ _ _
   | exact spec_DrawWatchOpen.mono _ _
   | exact spec_EventsValid.mono _ _
   | exact spec_WatchOpen.mono _ _ _
   | exact lO_q _
   | refine lI_q ?_ ?_
   | refine lB_q ?_ (fun _ => ?_)
  ·intro y0 y1 y2 y3 y4 y5
   unfold laws_FnWatchOpen.l1
   repeat' first
   | (with_reducible exact ih0 _ _ _ _ _)
   | (with_reducible exact ih1 _ _ _ _)
   | (with_reducible exact ih2 _ _ _ _ _ _)
   | (with_reducible exact ih3 _ _)
   | (with_reducible exact impl_WatchOpen.mono _ _ _)
   | (with_reducible exact laws_hasInt.mono _ _ _)
   | (with_reducible exact laws_sameInts.mono _ _ _)
   | (with_reducible exact spec_DrawWatchOpen.mono _ _)
   | (with_reducible exact spec_EventsValid.mono _ _)
   | (with_reducible exact spec_WatchOpen.mono _ _ _)
   | (with_reducible exact lR_q _)
   | (with_reducible exact lO_q _)
   | (with_reducible refine lI_q ?_ ?_)
   | (with_reducible refine lB_q ?_ (fun _ => ?_))
   | exact ih0 _ _ _ _ _
   | exact ih1 _ _ _ _
   | exact ih2 _ _ _ _ _ _
   | exact ih3 _ _
   | exact impl_WatchOpen.mono _ _ _
   | exact laws_hasInt.mono _ _ _
   | exact laws_sameInts.mono _ _ _
   | exact spec_DrawWatchOpen.mono _ _
   | exact spec_EventsValid.mono _ _
   | exact spec_WatchOpen.mono _ _ _
   | exact lO_q _
   | refine lI_q ?_ ?_
   | refine lB_q ?_ (fun _ => ?_)
  intro y0 y1
  unfold laws_FnWatchOpen.l2
  repeat' first
  | (with_reducible exact ih0 _ _ _ _ _)
  | (with_reducible exact ih1 _ _ _ _)
  | (with_reducible exact ih2 _ _ _ _ _ _)
  | (with_reducible exact ih3 _ _)
  | (with_reducible exact impl_WatchOpen.mono _ _ _)
  | (with_reducible exact laws_hasInt.mono _ _ _)
  | (with_reducible exact laws_sameInts.mono _ _ _)
  | (with_reducible exact spec_DrawWatchOpen.mono _ _)
  | (with_reducible exact spec_EventsValid.mono _ _)
  | (with_reducible exact spec_WatchOpen.mono _ _ _)
  | (with_reducible exact lR_q _)
  | (with_reducible exact lO_q _)
  | (with_reducible refine lI_q ?_ ?_)
  | (with_reducible refine lB_q ?_ (fun _ => ?_))
  | exact ih0 _ _ _ _ _
  | exact ih1 _ _ _ _
  | exact ih2 _ _ _ _ _ _
  | exact ih3 _ _
  | exact impl_WatchOpen.mono _ _ _
  | exact laws_hasInt.mono _ _ _
  | exact laws_sameInts.mono _ _ _
  | exact spec_DrawWatchOpen.mono _ _
  | exact spec_EventsValid.mono _ _
  | exact spec_WatchOpen.mono _ _ _
  | exact lO_q _
  | refine lI_q ?_ ?_
  | refine lB_q ?_ (fun _ => ?_)
theorem laws_FnWatchOpen.mono : ∀ a0 k, LeO (laws_FnWatchOpen.f k a0) (laws_FnWatchOpen.f (k + 1) a0) := by
 intro a0 k
 obtain ⟨ih0, ih1, ih2, ih3⟩ := laws_FnWatchOpen.mono_l k
 unfold laws_FnWatchOpen.f
 repeat' first
  | (with_reducible exact ih0 _ _ _ _ _)
  | (with_reducible exact ih1 _ _ _ _)
  | (with_reducible exact ih2 _ _ _ _ _ _)
  | (with_reducible exact ih3 _ _)
  | (with_reducible exact impl_WatchOpen.mono _ _ _)
  | (with_reducible exact laws_hasInt.mono _ _ _)
  | (with_reducible exact laws_sameInts.mono _ _ _)
  | (with_reducible exact spec_DrawWatchOpen.mono _ _)
  | (with_reducible exact spec_EventsValid.mono _ _)
  | (with_reducible exact spec_WatchOpen.mono _ _ _)
  | (with_reducible exact lR_q _)
  | (with_reducible exact lO_q _)
  | (with_reducible refine lI_q ?_ ?_)
  | (with_reducible refine lB_q ?_ (fun _ => ?_))
  | exact ih0 _ _ _ _ _
  | exact ih1 _ _ _ _
  | exact ih2 _ _ _ _ _ _
  | exact ih3 _ _
  | exact impl_WatchOpen.mono _ _ _
  | exact laws_hasInt.mono _ _ _
  | exact laws_sameInts.mono _ _ _
  | exact spec_DrawWatchOpen.mono _ _
  | exact spec_EventsValid.mono _ _
  | exact spec_WatchOpen.mono _ _ _
  | exact lO_q _
  | refine lI_q ?_ ?_
  | refine lB_q ?_ (fun _ => ?_)
set_option maxHeartbeats 8000000 in
set_option maxRecDepth 100000 in
theorem laws_FnWatchOpen.calls (k : Nat) (A0 : Option Addr) (c0 : Nat) (l0 : List Int) (r : Bool) (w : World) (hr0 : Kd.C (Kd.int .u8) w A0 l0.length l0) (hc0 : l0.length ≤ c0) (h : laws_FnWatchOpen.f k l0 = some r) :
    Calls Try.prog 7 #[.slice A0 l0.length c0] w fun e w' => e = .returned (.bool r) ∧ Below w.heap.size w w' := by
 have HR0 := Ae_q hr0
 have HC0 := Ae_q hc0
 clear hr0 hc0
 have HB := Ae_q (bR_q w.heap.size w)
 have H : (if (l0.length : Int) > 1048576 then (some true) else ((spec_DrawWatchOpen.f k l0).bind fun bt401 => ((impl_WatchOpen.f k bt401.1 bt401.2).bind fun t405 => ((spec_WatchOpen.f k bt401.1 bt401.2).bind fun t408 => ((laws_sameInts.f k t405 t408).bind fun t411 => (if t411 = true then ((spec_EventsValid.f k bt401.1).bind fun t412 => (if t412 = true then (if bt401.2 < 0 then (laws_FnWatchOpen.j0 k bt401.1 bt401.2 t405 t408 true) else (laws_FnWatchOpen.j0 k bt401.1 bt401.2 t405 t408 (decide (bt401.2 > 1439)))) else (laws_FnWatchOpen.j0 k bt401.1 bt401.2 t405 t408 true))) else (laws_FnWatchOpen.j0 k bt401.1 bt401.2 t405 t408 true))))))) = some r := h
 clear h
 by_cases c2 : (l0.length : Int) > 1048576
 ·rw [if_pos c2] at H
  have c2b0 : decide (1048576 < (l0.length : Int)) = true := dT_q c2
  have c2b1 : decide (1048576 < l0.length) = true := dT_q (by omega)
  clear c2
  obtain rfl := oI_q H
  go_enter Try.func7, Try.ntmps7
  go_wp2
  repeat (go_quiet (fail); try go_wp2)
  go_ret
  exact ⟨by first | rfl | (simp [eN_q, eS_q] <;> rfl) | (simp [*, eN_q, eS_q] <;> rfl), bel HB.out⟩
 rw [if_neg c2] at H
 have c2b0 : decide (1048576 < (l0.length : Int)) = false := dF_q c2
 have c2b1 : decide (1048576 < l0.length) = false := dF_q (by omega)
 clear c2
 replace H := oB_q.mp H
 obtain ⟨⟨t401, t402⟩, A30, H⟩ := H
 replace H : ((impl_WatchOpen.f k t401 t402).bind fun t405 => ((spec_WatchOpen.f k t401 t402).bind fun t408 => ((laws_sameInts.f k t405 t408).bind fun t411 => (if t411 = true then ((spec_EventsValid.f k t401).bind fun t412 => (if t412 = true then (if t402 < 0 then (laws_FnWatchOpen.j0 k t401 t402 t405 t408 true) else (laws_FnWatchOpen.j0 k t401 t402 t405 t408 (decide (t402 > 1439)))) else (laws_FnWatchOpen.j0 k t401 t402 t405 t408 true))) else (laws_FnWatchOpen.j0 k t401 t402 t405 t408 true))))) = some r := H
 have A3 := Ae_q A30
 clear A30
 replace H := oB_q.mp H
 obtain ⟨t405, A40, H⟩ := H
 replace H : ((spec_WatchOpen.f k t401 t402).bind fun t408 => ((laws_sameInts.f k t405 t408).bind fun t411 => (if t411 = true then ((spec_EventsValid.f k t401).bind fun t412 => (if t412 = true then (if t402 < 0 then (laws_FnWatchOpen.j0 k t401 t402 t405 t408 true) else (laws_FnWatchOpen.j0 k t401 t402 t405 t408 (decide (t402 > 1439)))) else (laws_FnWatchOpen.j0 k t401 t402 t405 t408 true))) else (laws_FnWatchOpen.j0 k t401 t402 t405 t408 true)))) = some r := H
 have A4 := Ae_q A40
 clear A40
 replace H := oB_q.mp H
 obtain ⟨t408, A50, H⟩ := H
 replace H : ((laws_sameInts.f k t405 t408).bind fun t411 => (if t411 = true then ((spec_EventsValid.f k t401).bind fun t412 => (if t412 = true then (if t402 < 0 then (laws_FnWatchOpen.j0 k t401 t402 t405 t408 true) else (laws_FnWatchOpen.j0 k t401 t402 t405 t408 (decide (t402 > 1439)))) else (laws_FnWatchOpen.j0 k t401 t402 t405 t408 true))) else (laws_FnWatchOpen.j0 k t401 t402 t405 t408 true))) = some r := H
 have A5 := Ae_q A50
 clear A50
 have HC6 := Ae_q H
 clear H
 go_enter Try.func7, Try.ntmps7
 go_upto_region 6 with (first | (go_at_call 29; (with_reducible refine (spec_DrawWatchOpen.calls k _ _ l0 t401 t402 _ ?side1 ?side2 A3.out).mono ?_); (case side1 => repeat (first | exact HR0.out | (with_reducible refine cA_q ?_ _) | (with_reducible refine cN_q ?_ _) | (with_reducible refine cD_q ?_))); (case side2 => exact HC0.out); rintro e w7 ⟨v403, rfl, ho0, hb⟩; have n0_ := Ae_q (rL_q ho0 (bZ_q (bel HB.out))); have n1_ := Ae_q (bT_q (bel HB.out) hb); clear HB; have HO404 := n0_; have HB := n1_; clear n0_ n1_; (try clear hb); (try clear hb2); (try clear hk); (try clear hi); (try clear ho0); obtain ⟨Ao8, co8, eo8⟩ := rS_q HO404.out; subst eo8) | (go_at_call 30; (with_reducible refine (impl_WatchOpen.calls k _ _ t401 t402 t405 _ ?side1 ?side2 A4.out).mono ?_); (case side1 => exact cup (rR_q HO404.out).2.2); (case side2 => exact (rR_q HO404.out).2.1); rintro e w9 ⟨v406, rfl, ho0, hb⟩; have n0_ := Ae_q (rO_q (rup HO404.out) hb); have n1_ := Ae_q (rL_q ho0 (bZ_q (bel HB.out))); have n2_ := Ae_q (bT_q (bel HB.out) hb); clear HO404; clear HB; have HO404 := n0_; have HO407 := n1_; have HB := n2_; clear n0_ n1_ n2_; (try clear hb); (try clear hb2); (try clear hk); (try clear hi); (try clear ho0)) | (go_at_call 31; (with_reducible refine (spec_WatchOpen.calls k _ _ t401 t402 t408 _ ?side1 ?side2 A5.out).mono ?_); (case side1 => exact cup (rR_q HO404.out).2.2); (case side2 => exact (rR_q HO404.out).2.1); rintro e w10 ⟨v409, rfl, ho0, hb⟩; have n0_ := Ae_q (rO_q (rup HO404.out) hb); have n1_ := Ae_q (rE_q (rup HO407.out) (rB_q ho0) hb); have n2_ := Ae_q (rL_q (rW_q ho0 (rT_q (rup HO407.out))) (bZ_q (bel HB.out))); have n3_ := Ae_q (bT_q (bel HB.out) hb); clear HO404; clear HO407; clear HB; have HO404 := n0_; have HO407 := n1_; have HO410 := n2_; have HB := n3_; clear n0_ n1_ n2_ n3_; (try clear hb); (try clear hb2); (try clear hk); (try clear hi); (try clear ho0)))
 repeat (go_quiet (first | (go_at_call 29; (with_reducible refine (spec_DrawWatchOpen.calls k _ _ l0 t401 t402 _ ?side1 ?side2 A3.out).mono ?_); (case side1 => repeat (first | exact HR0.out | (with_reducible refine cA_q ?_ _) | (with_reducible refine cN_q ?_ _) | (with_reducible refine cD_q ?_))); (case side2 => exact HC0.out); rintro e w7 ⟨v403, rfl, ho0, hb⟩; have n0_ := Ae_q (rL_q ho0 (bZ_q (bel HB.out))); have n1_ := Ae_q (bT_q (bel HB.out) hb); clear HB; have HO404 := n0_; have HB := n1_; clear n0_ n1_; (try clear hb); (try clear hb2); (try clear hk); (try clear hi); (try clear ho0); obtain ⟨Ao8, co8, eo8⟩ := rS_q HO404.out; subst eo8) | (go_at_call 30; (with_reducible refine (impl_WatchOpen.calls k _ _ t401 t402 t405 _ ?side1 ?side2 A4.out).mono ?_); (case side1 => exact cup (rR_q HO404.out).2.2); (case side2 => exact (rR_q HO404.out).2.1); rintro e w9 ⟨v406, rfl, ho0, hb⟩; have n0_ := Ae_q (rO_q (rup HO404.out) hb); have n1_ := Ae_q (rL_q ho0 (bZ_q (bel HB.out))); have n2_ := Ae_q (bT_q (bel HB.out) hb); clear HO404; clear HB; have HO404 := n0_; have HO407 := n1_; have HB := n2_; clear n0_ n1_ n2_; (try clear hb); (try clear hb2); (try clear hk); (try clear hi); (try clear ho0)) | (go_at_call 31; (with_reducible refine (spec_WatchOpen.calls k _ _ t401 t402 t408 _ ?side1 ?side2 A5.out).mono ?_); (case side1 => exact cup (rR_q HO404.out).2.2); (case side2 => exact (rR_q HO404.out).2.1); rintro e w10 ⟨v409, rfl, ho0, hb⟩; have n0_ := Ae_q (rO_q (rup HO404.out) hb); have n1_ := Ae_q (rE_q (rup HO407.out) (rB_q ho0) hb); have n2_ := Ae_q (rL_q (rW_q ho0 (rT_q (rup HO407.out))) (bZ_q (bel HB.out))); have n3_ := Ae_q (bT_q (bel HB.out) hb); clear HO404; clear HO407; clear HB; have HO404 := n0_; have HO407 := n1_; have HO410 := n2_; have HB := n3_; clear n0_ n1_ n2_ n3_; (try clear hb); (try clear hb2); (try clear hk); (try clear hi); (try clear ho0))); go_upto_region 6 with (first | (go_at_call 29; (with_reducible refine (spec_DrawWatchOpen.calls k _ _ l0 t401 t402 _ ?side1 ?side2 A3.out).mono ?_); (case side1 => repeat (first | exact HR0.out | (with_reducible refine cA_q ?_ _) | (with_reducible refine cN_q ?_ _) | (with_reducible refine cD_q ?_))); (case side2 => exact HC0.out); rintro e w7 ⟨v403, rfl, ho0, hb⟩; have n0_ := Ae_q (rL_q ho0 (bZ_q (bel HB.out))); have n1_ := Ae_q (bT_q (bel HB.out) hb); clear HB; have HO404 := n0_; have HB := n1_; clear n0_ n1_; (try clear hb); (try clear hb2); (try clear hk); (try clear hi); (try clear ho0); obtain ⟨Ao8, co8, eo8⟩ := rS_q HO404.out; subst eo8) | (go_at_call 30; (with_reducible refine (impl_WatchOpen.calls k _ _ t401 t402 t405 _ ?side1 ?side2 A4.out).mono ?_); (case side1 => exact cup (rR_q HO404.out).2.2); (case side2 => exact (rR_q HO404.out).2.1); rintro e w9 ⟨v406, rfl, ho0, hb⟩; have n0_ := Ae_q (rO_q (rup HO404.out) hb); have n1_ := Ae_q (rL_q ho0 (bZ_q (bel HB.out))); have n2_ := Ae_q (bT_q (bel HB.out) hb); clear HO404; clear HB; have HO404 := n0_; have HO407 := n1_; have HB := n2_; clear n0_ n1_ n2_; (try clear hb); (try clear hb2); (try clear hk); (try clear hi); (try clear ho0)) | (go_at_call 31; (with_reducible refine (spec_WatchOpen.calls k _ _ t401 t402 t408 _ ?side1 ?side2 A5.out).mono ?_); (case side1 => exact cup (rR_q HO404.out).2.2); (case side2 => exact (rR_q HO404.out).2.1); rintro e w10 ⟨v409, rfl, ho0, hb⟩; have n0_ := Ae_q (rO_q (rup HO404.out) hb); have n1_ := Ae_q (rE_q (rup HO407.out) (rB_q ho0) hb); have n2_ := Ae_q (rL_q (rW_q ho0 (rT_q (rup HO407.out))) (bZ_q (bel HB.out))); have n3_ := Ae_q (bT_q (bel HB.out) hb); clear HO404; clear HO407; clear HB; have HO404 := n0_; have HO407 := n1_; have HO410 := n2_; have HB := n3_; clear n0_ n1_ n2_ n3_; (try clear hb); (try clear hb2); (try clear hk); (try clear hi); (try clear ho0))))
 (try simp only [Act.put, sA_q, sZ_q, sS_q])
 go_cut [41] (fun v41 wc => ∃ (kq : Nat) (x41_5 : Bool), v41 = .bool x41_5 ∧ Aside0 (laws_FnWatchOpen.j0 kq t401 t402 t405 t408 x41_5 = some r) ∧ Aside0 (kq ≤ k) ∧ Aside0 (Kd.R k27 27 wc w.heap.size (fun _ => True) (.slice Ao8 t401.length co8) t401) ∧ Aside0 (Kd.R kI_q 3 wc w.heap.size (fun k_ => some k_ ≠ (v409 : Value).ownBlock) v406 t405) ∧ Aside0 (Kd.R kI_q 3 wc w.heap.size (fun k_ => some k_ ≠ (v406 : Value).ownBlock) v409 t408) ∧ Aside0 (Below w.heap.size w wc))
 case first =>
  have H := HC6.out
  clear HC6
  replace H := oB_q.mp H
  obtain ⟨t411, A110, H⟩ := H
  replace H : (if t411 = true then ((spec_EventsValid.f k t401).bind fun t412 => (if t412 = true then (if t402 < 0 then (laws_FnWatchOpen.j0 k t401 t402 t405 t408 true) else (laws_FnWatchOpen.j0 k t401 t402 t405 t408 (decide (t402 > 1439)))) else (laws_FnWatchOpen.j0 k t401 t402 t405 t408 true))) else (laws_FnWatchOpen.j0 k t401 t402 t405 t408 true)) = some r := H
  have A11 := Ae_q A110
  clear A110
  by_cases c12 : t411 = true
  ·subst c12
   have H1 : ((spec_EventsValid.f k t401).bind fun t412 => (if t412 = true then (if t402 < 0 then (laws_FnWatchOpen.j0 k t401 t402 t405 t408 true) else (laws_FnWatchOpen.j0 k t401 t402 t405 t408 (decide (t402 > 1439)))) else (laws_FnWatchOpen.j0 k t401 t402 t405 t408 true))) = some r := by rw [if_pos rfl] at H; exact H
   clear H
   have H := H1
   clear H1
   replace H := oB_q.mp H
   obtain ⟨t412, A130, H⟩ := H
   replace H : (if t412 = true then (if t402 < 0 then (laws_FnWatchOpen.j0 k t401 t402 t405 t408 true) else (laws_FnWatchOpen.j0 k t401 t402 t405 t408 (decide (t402 > 1439)))) else (laws_FnWatchOpen.j0 k t401 t402 t405 t408 true)) = some r := H
   have A13 := Ae_q A130
   clear A130
   by_cases c14 : t412 = true
   ·subst c14
    have H1 : (if t402 < 0 then (laws_FnWatchOpen.j0 k t401 t402 t405 t408 true) else (laws_FnWatchOpen.j0 k t401 t402 t405 t408 (decide (t402 > 1439)))) = some r := by rw [if_pos rfl] at H; exact H
    clear H
    have H := H1
    clear H1
    by_cases c15 : t402 < 0
    ·rw [if_pos c15] at H
     have c15b0 : decide (t402 < 0) = true := dT_q c15
     clear c15
     (first | rw [c15b0] | (simp only [i64_w, i32_w]; rw [c15b0]) | skip)
     have H' := Ae_q H
     clear H
     obtain ⟨Ao16, co16, eo16⟩ := rS_q HO407.out
     subst eo16
     obtain ⟨Ao17, co17, eo17⟩ := rS_q HO410.out
     subst eo17
     go_wp2_with (first | (go_at_call 24; (with_reducible refine (laws_sameInts.calls k _ _ t405 _ _ t408 true _ ?side1 ?side2 ?side3 ?side4 A11.out).mono ?_); (case side1 => exact cup (rR_q HO407.out).2.2); (case side2 => exact (rR_q HO407.out).2.1); (case side3 => exact cup (rR_q HO410.out).2.2); (case side4 => exact (rR_q HO410.out).2.1); rintro e w' ⟨rfl, ⟨nd, rfl⟩⟩; (try first | exact ⟨rfl, _, wD_q _ _ _⟩ | exact ⟨rfl, _, Eq.trans (wD_q _ _ _) (congrArg (World.drewN _) (nA_q _ _ _))⟩)) | (go_at_call 17; (with_reducible refine (spec_EventsValid.calls k _ _ t401 true _ ?side1 ?side2 A13.out).mono ?_); (case side1 => exact cup (rR_q HO404.out).2.2); (case side2 => exact (rR_q HO404.out).2.1); rintro e w18 ⟨rfl, hb⟩; have n0_ := Ae_q (rO_q (rup HO404.out) hb); have n1_ := Ae_q (rO_q (rup HO407.out) hb); have n2_ := Ae_q (rO_q (rup HO410.out) hb); have n3_ := Ae_q (bT_q (bel HB.out) hb); clear HO404; clear HO407; clear HO410; clear HB; have HO404 := n0_; have HO407 := n1_; have HO410 := n2_; have HB := n3_; clear n0_ n1_ n2_ n3_; (try clear hb); (try clear hb2); (try clear hk); (try clear hi)))
     repeat (go_quiet (first | (go_at_call 24; (with_reducible refine (laws_sameInts.calls k _ _ t405 _ _ t408 true _ ?side1 ?side2 ?side3 ?side4 A11.out).mono ?_); (case side1 => exact cup (rR_q HO407.out).2.2); (case side2 => exact (rR_q HO407.out).2.1); (case side3 => exact cup (rR_q HO410.out).2.2); (case side4 => exact (rR_q HO410.out).2.1); rintro e w' ⟨rfl, ⟨nd, rfl⟩⟩; (try first | exact ⟨rfl, _, wD_q _ _ _⟩ | exact ⟨rfl, _, Eq.trans (wD_q _ _ _) (congrArg (World.drewN _) (nA_q _ _ _))⟩)) | (go_at_call 17; (with_reducible refine (spec_EventsValid.calls k _ _ t401 true _ ?side1 ?side2 A13.out).mono ?_); (case side1 => exact cup (rR_q HO404.out).2.2); (case side2 => exact (rR_q HO404.out).2.1); rintro e w18 ⟨rfl, hb⟩; have n0_ := Ae_q (rO_q (rup HO404.out) hb); have n1_ := Ae_q (rO_q (rup HO407.out) hb); have n2_ := Ae_q (rO_q (rup HO410.out) hb); have n3_ := Ae_q (bT_q (bel HB.out) hb); clear HO404; clear HO407; clear HO410; clear HB; have HO404 := n0_; have HO407 := n1_; have HO410 := n2_; have HB := n3_; clear n0_ n1_ n2_ n3_; (try clear hb); (try clear hb2); (try clear hk); (try clear hi))); try go_wp2_with (first | (go_at_call 24; (with_reducible refine (laws_sameInts.calls k _ _ t405 _ _ t408 true _ ?side1 ?side2 ?side3 ?side4 A11.out).mono ?_); (case side1 => exact cup (rR_q HO407.out).2.2); (case side2 => exact (rR_q HO407.out).2.1); (case side3 => exact cup (rR_q HO410.out).2.2); (case side4 => exact (rR_q HO410.out).2.1); rintro e w' ⟨rfl, ⟨nd, rfl⟩⟩; (try first | exact ⟨rfl, _, wD_q _ _ _⟩ | exact ⟨rfl, _, Eq.trans (wD_q _ _ _) (congrArg (World.drewN _) (nA_q _ _ _))⟩)) | (go_at_call 17; (with_reducible refine (spec_EventsValid.calls k _ _ t401 true _ ?side1 ?side2 A13.out).mono ?_); (case side1 => exact cup (rR_q HO404.out).2.2); (case side2 => exact (rR_q HO404.out).2.1); rintro e w18 ⟨rfl, hb⟩; have n0_ := Ae_q (rO_q (rup HO404.out) hb); have n1_ := Ae_q (rO_q (rup HO407.out) hb); have n2_ := Ae_q (rO_q (rup HO410.out) hb); have n3_ := Ae_q (bT_q (bel HB.out) hb); clear HO404; clear HO407; clear HO410; clear HB; have HO404 := n0_; have HO407 := n1_; have HO410 := n2_; have HB := n3_; clear n0_ n1_ n2_ n3_; (try clear hb); (try clear hb2); (try clear hk); (try clear hi))))
     go_meet
     case rel => exact ⟨_, (true), (by first | rfl | (simp; done) | (simp [*]; done)), H', ⟨by first | omega | exact nR_q _⟩, ⟨by (with_reducible repeat (first | apply rA_q | apply rN_q | apply rD_q)); exact HO404.out⟩, ⟨by (with_reducible repeat (first | apply rA_q | apply rN_q | apply rD_q)); exact rM_q HO407.out (fun _ hk => hk.2)⟩, ⟨by (with_reducible repeat (first | apply rA_q | apply rN_q | apply rD_q)); exact rM_q HO410.out (fun _ hk => hk.2)⟩, ⟨bel HB.out⟩⟩
    rw [if_neg c15] at H
    have c15b0 : decide (t402 < 0) = false := dF_q c15
    clear c15
    (first | rw [c15b0] | (simp only [i64_w, i32_w]; rw [c15b0]) | skip)
    have H' := Ae_q H
    clear H
    obtain ⟨Ao19, co19, eo19⟩ := rS_q HO407.out
    subst eo19
    obtain ⟨Ao20, co20, eo20⟩ := rS_q HO410.out
    subst eo20
    go_wp2_with (first | (go_at_call 24; (with_reducible refine (laws_sameInts.calls k _ _ t405 _ _ t408 true _ ?side1 ?side2 ?side3 ?side4 A11.out).mono ?_); (case side1 => exact cup (rR_q HO407.out).2.2); (case side2 => exact (rR_q HO407.out).2.1); (case side3 => exact cup (rR_q HO410.out).2.2); (case side4 => exact (rR_q HO410.out).2.1); rintro e w' ⟨rfl, ⟨nd, rfl⟩⟩; (try first | exact ⟨rfl, _, wD_q _ _ _⟩ | exact ⟨rfl, _, Eq.trans (wD_q _ _ _) (congrArg (World.drewN _) (nA_q _ _ _))⟩)) | (go_at_call 17; (with_reducible refine (spec_EventsValid.calls k _ _ t401 true _ ?side1 ?side2 A13.out).mono ?_); (case side1 => exact cup (rR_q HO404.out).2.2); (case side2 => exact (rR_q HO404.out).2.1); rintro e w21 ⟨rfl, hb⟩; have n0_ := Ae_q (rO_q (rup HO404.out) hb); have n1_ := Ae_q (rO_q (rup HO407.out) hb); have n2_ := Ae_q (rO_q (rup HO410.out) hb); have n3_ := Ae_q (bT_q (bel HB.out) hb); clear HO404; clear HO407; clear HO410; clear HB; have HO404 := n0_; have HO407 := n1_; have HO410 := n2_; have HB := n3_; clear n0_ n1_ n2_ n3_; (try clear hb); (try clear hb2); (try clear hk); (try clear hi)))
    repeat (go_quiet (first | (go_at_call 24; (with_reducible refine (laws_sameInts.calls k _ _ t405 _ _ t408 true _ ?side1 ?side2 ?side3 ?side4 A11.out).mono ?_); (case side1 => exact cup (rR_q HO407.out).2.2); (case side2 => exact (rR_q HO407.out).2.1); (case side3 => exact cup (rR_q HO410.out).2.2); (case side4 => exact (rR_q HO410.out).2.1); rintro e w' ⟨rfl, ⟨nd, rfl⟩⟩; (try first | exact ⟨rfl, _, wD_q _ _ _⟩ | exact ⟨rfl, _, Eq.trans (wD_q _ _ _) (congrArg (World.drewN _) (nA_q _ _ _))⟩)) | (go_at_call 17; (with_reducible refine (spec_EventsValid.calls k _ _ t401 true _ ?side1 ?side2 A13.out).mono ?_); (case side1 => exact cup (rR_q HO404.out).2.2); (case side2 => exact (rR_q HO404.out).2.1); rintro e w21 ⟨rfl, hb⟩; have n0_ := Ae_q (rO_q (rup HO404.out) hb); have n1_ := Ae_q (rO_q (rup HO407.out) hb); have n2_ := Ae_q (rO_q (rup HO410.out) hb); have n3_ := Ae_q (bT_q (bel HB.out) hb); clear HO404; clear HO407; clear HO410; clear HB; have HO404 := n0_; have HO407 := n1_; have HO410 := n2_; have HB := n3_; clear n0_ n1_ n2_ n3_; (try clear hb); (try clear hb2); (try clear hk); (try clear hi))); try go_wp2_with (first | (go_at_call 24; (with_reducible refine (laws_sameInts.calls k _ _ t405 _ _ t408 true _ ?side1 ?side2 ?side3 ?side4 A11.out).mono ?_); (case side1 => exact cup (rR_q HO407.out).2.2); (case side2 => exact (rR_q HO407.out).2.1); (case side3 => exact cup (rR_q HO410.out).2.2); (case side4 => exact (rR_q HO410.out).2.1); rintro e w' ⟨rfl, ⟨nd, rfl⟩⟩; (try first | exact ⟨rfl, _, wD_q _ _ _⟩ | exact ⟨rfl, _, Eq.trans (wD_q _ _ _) (congrArg (World.drewN _) (nA_q _ _ _))⟩)) | (go_at_call 17; (with_reducible refine (spec_EventsValid.calls k _ _ t401 true _ ?side1 ?side2 A13.out).mono ?_); (case side1 => exact cup (rR_q HO404.out).2.2); (case side2 => exact (rR_q HO404.out).2.1); rintro e w21 ⟨rfl, hb⟩; have n0_ := Ae_q (rO_q (rup HO404.out) hb); have n1_ := Ae_q (rO_q (rup HO407.out) hb); have n2_ := Ae_q (rO_q (rup HO410.out) hb); have n3_ := Ae_q (bT_q (bel HB.out) hb); clear HO404; clear HO407; clear HO410; clear HB; have HO404 := n0_; have HO407 := n1_; have HO410 := n2_; have HB := n3_; clear n0_ n1_ n2_ n3_; (try clear hb); (try clear hb2); (try clear hk); (try clear hi))))
    go_meet
    case rel => exact ⟨_, (decide (t402 > 1439)), (by first | rfl | (simp; done) | (simp [*]; done)), H', ⟨by first | omega | exact nR_q _⟩, ⟨by (with_reducible repeat (first | apply rA_q | apply rN_q | apply rD_q)); exact HO404.out⟩, ⟨by (with_reducible repeat (first | apply rA_q | apply rN_q | apply rD_q)); exact rM_q HO407.out (fun _ hk => hk.2)⟩, ⟨by (with_reducible repeat (first | apply rA_q | apply rN_q | apply rD_q)); exact rM_q HO410.out (fun _ hk => hk.2)⟩, ⟨bel HB.out⟩⟩
   replace c14 := fM_q.mpr c14
   subst c14
   have H1 : (laws_FnWatchOpen.j0 k t401 t402 t405 t408 true) = some r := by rw [if_neg (show ¬ (false = true) by decide)] at H; exact H
   clear H
   have H := H1
   clear H1
   have H' := Ae_q H
   clear H
   obtain ⟨Ao22, co22, eo22⟩ := rS_q HO407.out
   subst eo22
   obtain ⟨Ao23, co23, eo23⟩ := rS_q HO410.out
   subst eo23
   go_wp2_with (first | (go_at_call 24; (with_reducible refine (laws_sameInts.calls k _ _ t405 _ _ t408 true _ ?side1 ?side2 ?side3 ?side4 A11.out).mono ?_); (case side1 => exact cup (rR_q HO407.out).2.2); (case side2 => exact (rR_q HO407.out).2.1); (case side3 => exact cup (rR_q HO410.out).2.2); (case side4 => exact (rR_q HO410.out).2.1); rintro e w' ⟨rfl, ⟨nd, rfl⟩⟩; (try first | exact ⟨rfl, _, wD_q _ _ _⟩ | exact ⟨rfl, _, Eq.trans (wD_q _ _ _) (congrArg (World.drewN _) (nA_q _ _ _))⟩)) | (go_at_call 17; (with_reducible refine (spec_EventsValid.calls k _ _ t401 false _ ?side1 ?side2 A13.out).mono ?_); (case side1 => exact cup (rR_q HO404.out).2.2); (case side2 => exact (rR_q HO404.out).2.1); rintro e w24 ⟨rfl, hb⟩; have n0_ := Ae_q (rO_q (rup HO404.out) hb); have n1_ := Ae_q (rO_q (rup HO407.out) hb); have n2_ := Ae_q (rO_q (rup HO410.out) hb); have n3_ := Ae_q (bT_q (bel HB.out) hb); clear HO404; clear HO407; clear HO410; clear HB; have HO404 := n0_; have HO407 := n1_; have HO410 := n2_; have HB := n3_; clear n0_ n1_ n2_ n3_; (try clear hb); (try clear hb2); (try clear hk); (try clear hi)))
   repeat (go_quiet (first | (go_at_call 24; (with_reducible refine (laws_sameInts.calls k _ _ t405 _ _ t408 true _ ?side1 ?side2 ?side3 ?side4 A11.out).mono ?_); (case side1 => exact cup (rR_q HO407.out).2.2); (case side2 => exact (rR_q HO407.out).2.1); (case side3 => exact cup (rR_q HO410.out).2.2); (case side4 => exact (rR_q HO410.out).2.1); rintro e w' ⟨rfl, ⟨nd, rfl⟩⟩; (try first | exact ⟨rfl, _, wD_q _ _ _⟩ | exact ⟨rfl, _, Eq.trans (wD_q _ _ _) (congrArg (World.drewN _) (nA_q _ _ _))⟩)) | (go_at_call 17; (with_reducible refine (spec_EventsValid.calls k _ _ t401 false _ ?side1 ?side2 A13.out).mono ?_); (case side1 => exact cup (rR_q HO404.out).2.2); (case side2 => exact (rR_q HO404.out).2.1); rintro e w24 ⟨rfl, hb⟩; have n0_ := Ae_q (rO_q (rup HO404.out) hb); have n1_ := Ae_q (rO_q (rup HO407.out) hb); have n2_ := Ae_q (rO_q (rup HO410.out) hb); have n3_ := Ae_q (bT_q (bel HB.out) hb); clear HO404; clear HO407; clear HO410; clear HB; have HO404 := n0_; have HO407 := n1_; have HO410 := n2_; have HB := n3_; clear n0_ n1_ n2_ n3_; (try clear hb); (try clear hb2); (try clear hk); (try clear hi))); try go_wp2_with (first | (go_at_call 24; (with_reducible refine (laws_sameInts.calls k _ _ t405 _ _ t408 true _ ?side1 ?side2 ?side3 ?side4 A11.out).mono ?_); (case side1 => exact cup (rR_q HO407.out).2.2); (case side2 => exact (rR_q HO407.out).2.1); (case side3 => exact cup (rR_q HO410.out).2.2); (case side4 => exact (rR_q HO410.out).2.1); rintro e w' ⟨rfl, ⟨nd, rfl⟩⟩; (try first | exact ⟨rfl, _, wD_q _ _ _⟩ | exact ⟨rfl, _, Eq.trans (wD_q _ _ _) (congrArg (World.drewN _) (nA_q _ _ _))⟩)) | (go_at_call 17; (with_reducible refine (spec_EventsValid.calls k _ _ t401 false _ ?side1 ?side2 A13.out).mono ?_); (case side1 => exact cup (rR_q HO404.out).2.2); (case side2 => exact (rR_q HO404.out).2.1); rintro e w24 ⟨rfl, hb⟩; have n0_ := Ae_q (rO_q (rup HO404.out) hb); have n1_ := Ae_q (rO_q (rup HO407.out) hb); have n2_ := Ae_q (rO_q (rup HO410.out) hb); have n3_ := Ae_q (bT_q (bel HB.out) hb); clear HO404; clear HO407; clear HO410; clear HB; have HO404 := n0_; have HO407 := n1_; have HO410 := n2_; have HB := n3_; clear n0_ n1_ n2_ n3_; (try clear hb); (try clear hb2); (try clear hk); (try clear hi))))
   go_meet
   case rel => exact ⟨_, (true), (by first | rfl | (simp; done) | (simp [*]; done)), H', ⟨by first | omega | exact nR_q _⟩, ⟨by (with_reducible repeat (first | apply rA_q | apply rN_q | apply rD_q)); exact HO404.out⟩, ⟨by (with_reducible repeat (first | apply rA_q | apply rN_q | apply rD_q)); exact rM_q HO407.out (fun _ hk => hk.2)⟩, ⟨by (with_reducible repeat (first | apply rA_q | apply rN_q | apply rD_q)); exact rM_q HO410.out (fun _ hk => hk.2)⟩, ⟨bel HB.out⟩⟩
  replace c12 := fM_q.mpr c12
  subst c12
  have H1 : (laws_FnWatchOpen.j0 k t401 t402 t405 t408 true) = some r := by rw [if_neg (show ¬ (false = true) by decide)] at H; exact H
  clear H
  have H := H1
  clear H1
  have H' := Ae_q H
  clear H
  obtain ⟨Ao25, co25, eo25⟩ := rS_q HO407.out
  subst eo25
  obtain ⟨Ao26, co26, eo26⟩ := rS_q HO410.out
  subst eo26
  go_wp2_with (first | (go_at_call 24; (with_reducible refine (laws_sameInts.calls k _ _ t405 _ _ t408 false _ ?side1 ?side2 ?side3 ?side4 A11.out).mono ?_); (case side1 => exact cup (rR_q HO407.out).2.2); (case side2 => exact (rR_q HO407.out).2.1); (case side3 => exact cup (rR_q HO410.out).2.2); (case side4 => exact (rR_q HO410.out).2.1); rintro e w' ⟨rfl, ⟨nd, rfl⟩⟩; (try first | exact ⟨rfl, _, wD_q _ _ _⟩ | exact ⟨rfl, _, Eq.trans (wD_q _ _ _) (congrArg (World.drewN _) (nA_q _ _ _))⟩)))
  repeat (go_quiet (first | (go_at_call 24; (with_reducible refine (laws_sameInts.calls k _ _ t405 _ _ t408 false _ ?side1 ?side2 ?side3 ?side4 A11.out).mono ?_); (case side1 => exact cup (rR_q HO407.out).2.2); (case side2 => exact (rR_q HO407.out).2.1); (case side3 => exact cup (rR_q HO410.out).2.2); (case side4 => exact (rR_q HO410.out).2.1); rintro e w' ⟨rfl, ⟨nd, rfl⟩⟩; (try first | exact ⟨rfl, _, wD_q _ _ _⟩ | exact ⟨rfl, _, Eq.trans (wD_q _ _ _) (congrArg (World.drewN _) (nA_q _ _ _))⟩))); try go_wp2_with (first | (go_at_call 24; (with_reducible refine (laws_sameInts.calls k _ _ t405 _ _ t408 false _ ?side1 ?side2 ?side3 ?side4 A11.out).mono ?_); (case side1 => exact cup (rR_q HO407.out).2.2); (case side2 => exact (rR_q HO407.out).2.1); (case side3 => exact cup (rR_q HO410.out).2.2); (case side4 => exact (rR_q HO410.out).2.1); rintro e w' ⟨rfl, ⟨nd, rfl⟩⟩; (try first | exact ⟨rfl, _, wD_q _ _ _⟩ | exact ⟨rfl, _, Eq.trans (wD_q _ _ _) (congrArg (World.drewN _) (nA_q _ _ _))⟩))))
  go_meet
  case rel => exact ⟨_, (true), (by first | rfl | (simp; done) | (simp [*]; done)), H', ⟨by first | omega | exact nR_q _⟩, ⟨by (with_reducible repeat (first | apply rA_q | apply rN_q | apply rD_q)); exact HO404.out⟩, ⟨by (with_reducible repeat (first | apply rA_q | apply rN_q | apply rD_q)); exact rM_q HO407.out (fun _ hk => hk.2)⟩, ⟨by (with_reducible repeat (first | apply rA_q | apply rN_q | apply rD_q)); exact rM_q HO410.out (fun _ hk => hk.2)⟩, ⟨bel HB.out⟩⟩
 case rest =>
  clear HC6
  try clear c1
  try clear c2
  try clear c2b0
  try clear c2b1
  try clear p2
  try clear c7
  try clear c12
  try clear c14
  try clear c15
  try clear c15b0
  obtain ⟨kq, x41_5, rfl, HA, HJ5, HO_3, HO_5, HO_6, HB⟩ := hcut
  cases kq with
  | zero => exact absurd HA.out (by simp [laws_FnWatchOpen.j0])
  | succ kj5 =>
   have H := HA.out
   clear HA
   simp only [laws_FnWatchOpen.j0] at H
   by_cases c27 : x41_5 = true
   ·subst c27
    have H1 : ((laws_sameInts.f kj5 t405 t408).bind fun t413 => (some t413)) = some r := by rw [if_pos rfl] at H; exact H
    clear H
    have H := H1
    clear H1
    replace H := oB_q.mp H
    obtain ⟨t413, A280, H⟩ := H
    replace H : (some t413) = some r := H
    have A28 := Ae_q A280
    clear A280
    obtain rfl := oI_q H
    obtain ⟨Ao29, co29, eo29⟩ := rS_q HO_5.out
    subst eo29
    obtain ⟨Ao30, co30, eo30⟩ := rS_q HO_6.out
    subst eo30
    go_wp2_with (first | (go_at_call 24; (with_reducible refine (laws_sameInts.calls kj5 _ _ t405 _ _ t408 t413 _ ?side1 ?side2 ?side3 ?side4 A28.out).mono ?_); (case side1 => exact cup (rR_q HO_5.out).2.2); (case side2 => exact (rR_q HO_5.out).2.1); (case side3 => exact cup (rR_q HO_6.out).2.2); (case side4 => exact (rR_q HO_6.out).2.1); rintro e w' ⟨rfl, ⟨nd, rfl⟩⟩; (try first | exact ⟨rfl, _, wD_q _ _ _⟩ | exact ⟨rfl, _, Eq.trans (wD_q _ _ _) (congrArg (World.drewN _) (nA_q _ _ _))⟩)))
    repeat (go_quiet (first | (go_at_call 24; (with_reducible refine (laws_sameInts.calls kj5 _ _ t405 _ _ t408 t413 _ ?side1 ?side2 ?side3 ?side4 A28.out).mono ?_); (case side1 => exact cup (rR_q HO_5.out).2.2); (case side2 => exact (rR_q HO_5.out).2.1); (case side3 => exact cup (rR_q HO_6.out).2.2); (case side4 => exact (rR_q HO_6.out).2.1); rintro e w' ⟨rfl, ⟨nd, rfl⟩⟩; (try first | exact ⟨rfl, _, wD_q _ _ _⟩ | exact ⟨rfl, _, Eq.trans (wD_q _ _ _) (congrArg (World.drewN _) (nA_q _ _ _))⟩))); try go_wp2_with (first | (go_at_call 24; (with_reducible refine (laws_sameInts.calls kj5 _ _ t405 _ _ t408 t413 _ ?side1 ?side2 ?side3 ?side4 A28.out).mono ?_); (case side1 => exact cup (rR_q HO_5.out).2.2); (case side2 => exact (rR_q HO_5.out).2.1); (case side3 => exact cup (rR_q HO_6.out).2.2); (case side4 => exact (rR_q HO_6.out).2.1); rintro e w' ⟨rfl, ⟨nd, rfl⟩⟩; (try first | exact ⟨rfl, _, wD_q _ _ _⟩ | exact ⟨rfl, _, Eq.trans (wD_q _ _ _) (congrArg (World.drewN _) (nA_q _ _ _))⟩))))
    go_ret
    exact ⟨by first | rfl | (simp [eN_q, eS_q] <;> rfl) | (simp [*, eN_q, eS_q] <;> rfl), bel HB.out⟩
   replace c27 := fM_q.mpr c27
   subst c27
   have H1 : (laws_FnWatchOpen.l0 kj5 t401 t402 t405 1) = some r := by rw [if_neg (show ¬ (false = true) by decide)] at H; exact H
   clear H
   have H := H1
   clear H1
   have H' := Ae_q H
   clear H
   go_wp2
   repeat (go_quiet (fail); try go_wp2)
   go_loopg [7] kj5 (fun kq v7 w' => ∃ (x7_2 : Int), v7 = .int .i64 x7_2 ∧ Aside0 (laws_FnWatchOpen.l0 kq t401 t402 t405 x7_2 = some r) ∧ Aside0 (kq ≤ kj5) ∧ Aside0 (Kd.R k27 27 w' w.heap.size (fun _ => True) (.slice Ao8 t401.length co8) t401) ∧ Aside0 (Kd.R kI_q 3 w' w.heap.size (fun _ => True) v406 t405) ∧ Aside0 (Below w.heap.size w w'))
   case atStart => exact ⟨(1), (by first | rfl | (simp; done) | (simp [*]; done)), H', ⟨nR_q _⟩, ⟨by (with_reducible repeat (first | apply rA_q | apply rN_q | apply rD_q)); exact HO_3.out⟩, ⟨by (with_reducible repeat (first | apply rA_q | apply rN_q | apply rD_q)); exact rM_q HO_5.out (fun _ hk => trivial)⟩, ⟨bel HB.out⟩⟩
   case round =>
    clear H'
    try clear c1
    try clear c2
    try clear c2b0
    try clear c2b1
    try clear p2
    try clear c7
    try clear c12
    try clear c14
    try clear c15
    try clear c15b0
    try clear c27
    try clear p2
    obtain ⟨x7_2, rfl, HA, HK2, HO_3, HO_5, HB⟩ := hrel
    cases gk with
    | zero => exact absurd HA.out (by simp [laws_FnWatchOpen.l0])
    | succ k2 =>
     have H := HA.out
     clear HA
     simp only [laws_FnWatchOpen.l0] at H
     by_cases c31 : x7_2 ≤ 20
     ·rw [if_pos c31] at H
      have c31b0 : decide (x7_2 ≤ 20) = true := dT_q c31
      clear c31
      have H' := Ae_q H
      clear H
      go_wp2
      repeat (go_quiet (fail); try go_wp2)
      go_loopg [8, 9] k2 (fun kq v8 v9 w' => ∃ (x8_3 : Bool) (x9_3 : Int), v8 = .bool x8_3 ∧ v9 = .int .i64 x9_3 ∧ Aside0 (laws_FnWatchOpen.l1 kq t401 t402 t405 x7_2 x8_3 x9_3 = some r) ∧ Aside0 (kq ≤ k2) ∧ Aside0 (Kd.R k27 27 w' w.heap.size (fun _ => True) (.slice Ao8 t401.length co8) t401) ∧ Aside0 (Kd.R kI_q 3 w' w.heap.size (fun _ => True) v406 t405) ∧ Aside0 (Below w.heap.size w w'))
      case atStart => exact ⟨(false), (0), (by first | rfl | (simp; done) | (simp [*]; done)), (by first | rfl | (simp; done) | (simp [*]; done)), H', ⟨nR_q _⟩, ⟨by (with_reducible repeat (first | apply rA_q | apply rN_q | apply rD_q)); exact HO_3.out⟩, ⟨by (with_reducible repeat (first | apply rA_q | apply rN_q | apply rD_q)); exact HO_5.out⟩, ⟨bel HB.out⟩⟩
      case round =>
       clear H'
       try clear c1
       try clear c2
       try clear c2b0
       try clear c2b1
       try clear p2
       try clear c3
       try clear c7
       try clear c12
       try clear c14
       try clear c15
       try clear c15b0
       try clear c27
       try clear c31
       try clear c31b0
       try clear p2
       obtain ⟨x8_3, x9_3, rfl, rfl, HA, HK3, HO_3, HO_5, HB⟩ := hrel
       cases gk with
       | zero => exact absurd HA.out (by simp [laws_FnWatchOpen.l1])
       | succ k3 =>
        have H := HA.out
        clear HA
        simp only [laws_FnWatchOpen.l1] at H
        by_cases c32 : x9_3 < (t401.length : Int)
        ·rw [if_pos c32] at H
         have c32b0 : decide (x9_3 < (t401.length : Int)) = true := dT_q c32
         clear c32
         by_cases c33 : 0 ≤ x9_3
         ·rw [if_pos c33] at H
          have c33b0 : decide (0 ≤ x9_3) = true := dT_q c33
          clear c33
          by_cases c34 : ((rd_T27 t401 x9_3).f1) ≤ t402
          ·rw [if_pos c34] at H
           have c34b0 : decide (((rd_T27 t401 x9_3).f1) ≤ t402) = true := dT_q c34
           clear c34
           by_cases c35 : ((rd_T27 t401 x9_3).f2) = x7_2
           ·rw [if_pos c35] at H
            have c35b0 : (((rd_T27 t401 x9_3).f2) == x7_2) = true := beq_iff_eq.mpr c35
            have c35b1 : (((rd_T27 t401 x9_3).f2) != x7_2) = false := nE_q.mpr c35
            clear c35
            by_cases c36 : ((rd_T27 t401 x9_3).f0) = 2
            ·rw [if_pos c36] at H
             have c36b0 : (((rd_T27 t401 x9_3).f0) == 2) = true := beq_iff_eq.mpr c36
             have c36b1 : (((rd_T27 t401 x9_3).f0) != 2) = false := nE_q.mpr c36
             clear c36
             have H' := Ae_q H
             clear H
             have p414 : 0 ≤ (x9_3 : Int) := oD_q (by assumption)
             have q414 : x9_3 < (t401.length : Int) := oD_q (by assumption)
             obtain ⟨ad414, e414, hx414_0, hx414_1, hx414_2, hx414_3, hx414_4, hx414_5⟩ := at_T27 (rR_q HO_3.out).2.2 x9_3 p414 q414
             cases e414
             replace p414 := eq_true p414
             replace q414 := eq_true q414
             have p415 : 0 ≤ (x9_3 : Int) := oD_q (by assumption)
             have q415 : x9_3 < (t401.length : Int) := oD_q (by assumption)
             obtain ⟨ad415, e415, hx415_0, hx415_1, hx415_2, hx415_3, hx415_4, hx415_5⟩ := at_T27 (rR_q HO_3.out).2.2 x9_3 p415 q415
             obtain rfl : ad414 = ad415 := (by injection e415)
             replace p415 := eq_true p415
             replace q415 := eq_true q415
             have p416 : 0 ≤ (x9_3 : Int) := oD_q (by assumption)
             have q416 : x9_3 < (t401.length : Int) := oD_q (by assumption)
             obtain ⟨ad416, e416, hx416_0, hx416_1, hx416_2, hx416_3, hx416_4, hx416_5⟩ := at_T27 (rR_q HO_3.out).2.2 x9_3 p416 q416
             obtain rfl : ad414 = ad416 := (by injection e416)
             replace p416 := eq_true p416
             replace q416 := eq_true q416
             go_wp2
             repeat (go_quiet (fail); try go_wp2)
             go_roundg k3
             case measure => have := HJ5.out; have := HK2.out; have := HK3.out; omega
             case rel => exact ⟨(x8_3), (wrap64 (x9_3 + 1)), (by first | rfl | (simp; done) | (simp [*]; done)), (by first | rfl | (simp; done) | (simp [*]; done)), H', ⟨by have := HJ5.out; have := HK2.out; have := HK3.out; omega⟩, ⟨by (with_reducible repeat (first | apply rA_q | apply rN_q | apply rD_q)); exact HO_3.out⟩, ⟨by (with_reducible repeat (first | apply rA_q | apply rN_q | apply rD_q)); exact HO_5.out⟩, ⟨bel HB.out⟩⟩
            rw [if_neg c36] at H
            have c36b0 : (((rd_T27 t401 x9_3).f0) == 2) = false := fN_q.mpr c36
            have c36b1 : (((rd_T27 t401 x9_3).f0) != 2) = true := nI_q.mpr c36
            by_cases c37 : ((rd_T27 t401 x9_3).f0) = 1
            ·rw [if_pos c37] at H
             have c37b0 : (((rd_T27 t401 x9_3).f0) == 1) = true := beq_iff_eq.mpr c37
             have c37b1 : (((rd_T27 t401 x9_3).f0) != 1) = false := nE_q.mpr c37
             clear c37
             have H' := Ae_q H
             clear H
             have p414 : 0 ≤ (x9_3 : Int) := oD_q (by assumption)
             have q414 : x9_3 < (t401.length : Int) := oD_q (by assumption)
             obtain ⟨ad414, e414, hx414_0, hx414_1, hx414_2, hx414_3, hx414_4, hx414_5⟩ := at_T27 (rR_q HO_3.out).2.2 x9_3 p414 q414
             cases e414
             replace p414 := eq_true p414
             replace q414 := eq_true q414
             have p415 : 0 ≤ (x9_3 : Int) := oD_q (by assumption)
             have q415 : x9_3 < (t401.length : Int) := oD_q (by assumption)
             obtain ⟨ad415, e415, hx415_0, hx415_1, hx415_2, hx415_3, hx415_4, hx415_5⟩ := at_T27 (rR_q HO_3.out).2.2 x9_3 p415 q415
             obtain rfl : ad414 = ad415 := (by injection e415)
             replace p415 := eq_true p415
             replace q415 := eq_true q415
             have p416 : 0 ≤ (x9_3 : Int) := oD_q (by assumption)
             have q416 : x9_3 < (t401.length : Int) := oD_q (by assumption)
             obtain ⟨ad416, e416, hx416_0, hx416_1, hx416_2, hx416_3, hx416_4, hx416_5⟩ := at_T27 (rR_q HO_3.out).2.2 x9_3 p416 q416
             obtain rfl : ad414 = ad416 := (by injection e416)
             replace p416 := eq_true p416
             replace q416 := eq_true q416
             have p417 : 0 ≤ (x9_3 : Int) := oD_q (by assumption)
             have q417 : x9_3 < (t401.length : Int) := oD_q (by assumption)
             obtain ⟨ad417, e417, hx417_0, hx417_1, hx417_2, hx417_3, hx417_4, hx417_5⟩ := at_T27 (rR_q HO_3.out).2.2 x9_3 p417 q417
             obtain rfl : ad414 = ad417 := (by injection e417)
             replace p417 := eq_true p417
             replace q417 := eq_true q417
             have p418 : 0 ≤ (x9_3 : Int) := oD_q (by assumption)
             have q418 : x9_3 < (t401.length : Int) := oD_q (by assumption)
             obtain ⟨ad418, e418, hx418_0, hx418_1, hx418_2, hx418_3, hx418_4, hx418_5⟩ := at_T27 (rR_q HO_3.out).2.2 x9_3 p418 q418
             obtain rfl : ad414 = ad418 := (by injection e418)
             replace p418 := eq_true p418
             replace q418 := eq_true q418
             go_wp2
             repeat (go_quiet (fail); try go_wp2)
             go_roundg k3
             case measure => have := HJ5.out; have := HK2.out; have := HK3.out; omega
             case rel => exact ⟨(decide (t402 ≤ (wrap64 (((rd_T27 t401 x9_3).f1) + 120)))), (wrap64 (x9_3 + 1)), (by first | rfl | (simp; done) | (simp [*]; done)), (by first | rfl | (simp; done) | (simp [*]; done)), H', ⟨by have := HJ5.out; have := HK2.out; have := HK3.out; omega⟩, ⟨by (with_reducible repeat (first | apply rA_q | apply rN_q | apply rD_q)); exact HO_3.out⟩, ⟨by (with_reducible repeat (first | apply rA_q | apply rN_q | apply rD_q)); exact HO_5.out⟩, ⟨bel HB.out⟩⟩
            rw [if_neg c37] at H
            have c37b0 : (((rd_T27 t401 x9_3).f0) == 1) = false := fN_q.mpr c37
            have c37b1 : (((rd_T27 t401 x9_3).f0) != 1) = true := nI_q.mpr c37
            have H' := Ae_q H
            clear H
            have p414 : 0 ≤ (x9_3 : Int) := oD_q (by assumption)
            have q414 : x9_3 < (t401.length : Int) := oD_q (by assumption)
            obtain ⟨ad414, e414, hx414_0, hx414_1, hx414_2, hx414_3, hx414_4, hx414_5⟩ := at_T27 (rR_q HO_3.out).2.2 x9_3 p414 q414
            cases e414
            replace p414 := eq_true p414
            replace q414 := eq_true q414
            have p415 : 0 ≤ (x9_3 : Int) := oD_q (by assumption)
            have q415 : x9_3 < (t401.length : Int) := oD_q (by assumption)
            obtain ⟨ad415, e415, hx415_0, hx415_1, hx415_2, hx415_3, hx415_4, hx415_5⟩ := at_T27 (rR_q HO_3.out).2.2 x9_3 p415 q415
            obtain rfl : ad414 = ad415 := (by injection e415)
            replace p415 := eq_true p415
            replace q415 := eq_true q415
            have p416 : 0 ≤ (x9_3 : Int) := oD_q (by assumption)
            have q416 : x9_3 < (t401.length : Int) := oD_q (by assumption)
            obtain ⟨ad416, e416, hx416_0, hx416_1, hx416_2, hx416_3, hx416_4, hx416_5⟩ := at_T27 (rR_q HO_3.out).2.2 x9_3 p416 q416
            obtain rfl : ad414 = ad416 := (by injection e416)
            replace p416 := eq_true p416
            replace q416 := eq_true q416
            have p417 : 0 ≤ (x9_3 : Int) := oD_q (by assumption)
            have q417 : x9_3 < (t401.length : Int) := oD_q (by assumption)
            obtain ⟨ad417, e417, hx417_0, hx417_1, hx417_2, hx417_3, hx417_4, hx417_5⟩ := at_T27 (rR_q HO_3.out).2.2 x9_3 p417 q417
            obtain rfl : ad414 = ad417 := (by injection e417)
            replace p417 := eq_true p417
            replace q417 := eq_true q417
            go_wp2
            repeat (go_quiet (fail); try go_wp2)
            go_roundg k3
            case measure => have := HJ5.out; have := HK2.out; have := HK3.out; omega
            case rel => exact ⟨(false), (wrap64 (x9_3 + 1)), (by first | rfl | (simp; done) | (simp [*]; done)), (by first | rfl | (simp; done) | (simp [*]; done)), H', ⟨by have := HJ5.out; have := HK2.out; have := HK3.out; omega⟩, ⟨by (with_reducible repeat (first | apply rA_q | apply rN_q | apply rD_q)); exact HO_3.out⟩, ⟨by (with_reducible repeat (first | apply rA_q | apply rN_q | apply rD_q)); exact HO_5.out⟩, ⟨bel HB.out⟩⟩
           rw [if_neg c35] at H
           have c35b0 : (((rd_T27 t401 x9_3).f2) == x7_2) = false := fN_q.mpr c35
           have c35b1 : (((rd_T27 t401 x9_3).f2) != x7_2) = true := nI_q.mpr c35
           have H' := Ae_q H
           clear H
           have p414 : 0 ≤ (x9_3 : Int) := oD_q (by assumption)
           have q414 : x9_3 < (t401.length : Int) := oD_q (by assumption)
           obtain ⟨ad414, e414, hx414_0, hx414_1, hx414_2, hx414_3, hx414_4, hx414_5⟩ := at_T27 (rR_q HO_3.out).2.2 x9_3 p414 q414
           cases e414
           replace p414 := eq_true p414
           replace q414 := eq_true q414
           have p415 : 0 ≤ (x9_3 : Int) := oD_q (by assumption)
           have q415 : x9_3 < (t401.length : Int) := oD_q (by assumption)
           obtain ⟨ad415, e415, hx415_0, hx415_1, hx415_2, hx415_3, hx415_4, hx415_5⟩ := at_T27 (rR_q HO_3.out).2.2 x9_3 p415 q415
           obtain rfl : ad414 = ad415 := (by injection e415)
           replace p415 := eq_true p415
           replace q415 := eq_true q415
           go_wp2
           repeat (go_quiet (fail); try go_wp2)
           go_roundg k3
           case measure => have := HJ5.out; have := HK2.out; have := HK3.out; omega
           case rel => exact ⟨(x8_3), (wrap64 (x9_3 + 1)), (by first | rfl | (simp; done) | (simp [*]; done)), (by first | rfl | (simp; done) | (simp [*]; done)), H', ⟨by have := HJ5.out; have := HK2.out; have := HK3.out; omega⟩, ⟨by (with_reducible repeat (first | apply rA_q | apply rN_q | apply rD_q)); exact HO_3.out⟩, ⟨by (with_reducible repeat (first | apply rA_q | apply rN_q | apply rD_q)); exact HO_5.out⟩, ⟨bel HB.out⟩⟩
          rw [if_neg c34] at H
          have c34b0 : decide (((rd_T27 t401 x9_3).f1) ≤ t402) = false := dF_q c34
          clear c34
          have H' := Ae_q H
          clear H
          have p414 : 0 ≤ (x9_3 : Int) := oD_q (by assumption)
          have q414 : x9_3 < (t401.length : Int) := oD_q (by assumption)
          obtain ⟨ad414, e414, hx414_0, hx414_1, hx414_2, hx414_3, hx414_4, hx414_5⟩ := at_T27 (rR_q HO_3.out).2.2 x9_3 p414 q414
          cases e414
          replace p414 := eq_true p414
          replace q414 := eq_true q414
          go_wp2
          repeat (go_quiet (fail); try go_wp2)
          go_roundg k3
          case measure => have := HJ5.out; have := HK2.out; have := HK3.out; omega
          case rel => exact ⟨(x8_3), (wrap64 (x9_3 + 1)), (by first | rfl | (simp; done) | (simp [*]; done)), (by first | rfl | (simp; done) | (simp [*]; done)), H', ⟨by have := HJ5.out; have := HK2.out; have := HK3.out; omega⟩, ⟨by (with_reducible repeat (first | apply rA_q | apply rN_q | apply rD_q)); exact HO_3.out⟩, ⟨by (with_reducible repeat (first | apply rA_q | apply rN_q | apply rD_q)); exact HO_5.out⟩, ⟨bel HB.out⟩⟩
         rw [if_neg c33] at H
         exact absurd H (by simp)
        rw [if_neg c32] at H
        have c32b0 : decide (x9_3 < (t401.length : Int)) = false := dF_q c32
        clear c32
        replace H := oB_q.mp H
        obtain ⟨t419, A380, H⟩ := H
        replace H : (if (x8_3 != t419) = true then (some false) else (laws_FnWatchOpen.l0 k3 t401 t402 t405 (wrap64 (x7_2 + 1)))) = some r := H
        have A38 := Ae_q A380
        clear A380
        by_cases c39 : (x8_3 != t419) = true
        ·rw [if_pos c39] at H
         have c39b0 : (x8_3 != t419) = true := c39
         (try (have c39b1 : decide (x8_3 = t419) = false := by simpa using c39))
         (try (have c39b2 : (x8_3 == t419) = false := by simpa using c39))
         (try (have c39b3 : ¬ (x8_3 = t419) := by simpa using c39))
         clear c39
         obtain rfl := oI_q H
         obtain ⟨Ao40, co40, eo40⟩ := rS_q HO_5.out
         subst eo40
         go_wp2_with (first | (go_at_call 32; (with_reducible refine (laws_hasInt.calls k3 _ _ t405 x7_2 t419 _ ?side1 ?side2 A38.out).mono ?_); (case side1 => exact cup (rR_q HO_5.out).2.2); (case side2 => exact (rR_q HO_5.out).2.1); rintro e w' ⟨rfl, ⟨nd, rfl⟩⟩; (try first | exact ⟨rfl, _, wD_q _ _ _⟩ | exact ⟨rfl, _, Eq.trans (wD_q _ _ _) (congrArg (World.drewN _) (nA_q _ _ _))⟩)))
         repeat (go_quiet (first | (go_at_call 32; (with_reducible refine (laws_hasInt.calls k3 _ _ t405 x7_2 t419 _ ?side1 ?side2 A38.out).mono ?_); (case side1 => exact cup (rR_q HO_5.out).2.2); (case side2 => exact (rR_q HO_5.out).2.1); rintro e w' ⟨rfl, ⟨nd, rfl⟩⟩; (try first | exact ⟨rfl, _, wD_q _ _ _⟩ | exact ⟨rfl, _, Eq.trans (wD_q _ _ _) (congrArg (World.drewN _) (nA_q _ _ _))⟩))); try go_wp2_with (first | (go_at_call 32; (with_reducible refine (laws_hasInt.calls k3 _ _ t405 x7_2 t419 _ ?side1 ?side2 A38.out).mono ?_); (case side1 => exact cup (rR_q HO_5.out).2.2); (case side2 => exact (rR_q HO_5.out).2.1); rintro e w' ⟨rfl, ⟨nd, rfl⟩⟩; (try first | exact ⟨rfl, _, wD_q _ _ _⟩ | exact ⟨rfl, _, Eq.trans (wD_q _ _ _) (congrArg (World.drewN _) (nA_q _ _ _))⟩))))
         go_ret
         exact ⟨by first | rfl | (simp [eN_q, eS_q] <;> rfl) | (simp [*, eN_q, eS_q] <;> rfl), bel HB.out⟩
        rw [if_neg c39] at H
        have c39b0 : (x8_3 != t419) = false := by simpa using c39
        (try (have c39b1 : decide (x8_3 = t419) = true := by simpa using c39))
        (try (have c39b2 : (x8_3 == t419) = true := by simpa using c39))
        clear c39
        have H' := Ae_q H
        clear H
        obtain ⟨Ao41, co41, eo41⟩ := rS_q HO_5.out
        subst eo41
        go_wp2_with (first | (go_at_call 32; (with_reducible refine (laws_hasInt.calls k3 _ _ t405 x7_2 t419 _ ?side1 ?side2 A38.out).mono ?_); (case side1 => exact cup (rR_q HO_5.out).2.2); (case side2 => exact (rR_q HO_5.out).2.1); rintro e w' ⟨rfl, ⟨nd, rfl⟩⟩; (try first | exact ⟨rfl, _, wD_q _ _ _⟩ | exact ⟨rfl, _, Eq.trans (wD_q _ _ _) (congrArg (World.drewN _) (nA_q _ _ _))⟩)))
        repeat (go_quiet (first | (go_at_call 32; (with_reducible refine (laws_hasInt.calls k3 _ _ t405 x7_2 t419 _ ?side1 ?side2 A38.out).mono ?_); (case side1 => exact cup (rR_q HO_5.out).2.2); (case side2 => exact (rR_q HO_5.out).2.1); rintro e w' ⟨rfl, ⟨nd, rfl⟩⟩; (try first | exact ⟨rfl, _, wD_q _ _ _⟩ | exact ⟨rfl, _, Eq.trans (wD_q _ _ _) (congrArg (World.drewN _) (nA_q _ _ _))⟩))); try go_wp2_with (first | (go_at_call 32; (with_reducible refine (laws_hasInt.calls k3 _ _ t405 x7_2 t419 _ ?side1 ?side2 A38.out).mono ?_); (case side1 => exact cup (rR_q HO_5.out).2.2); (case side2 => exact (rR_q HO_5.out).2.1); rintro e w' ⟨rfl, ⟨nd, rfl⟩⟩; (try first | exact ⟨rfl, _, wD_q _ _ _⟩ | exact ⟨rfl, _, Eq.trans (wD_q _ _ _) (congrArg (World.drewN _) (nA_q _ _ _))⟩))))
        go_roundg k3
        case measure => have := HJ5.out; have := HK2.out; have := HK3.out; omega
        case rel => exact ⟨(wrap64 (x7_2 + 1)), (by first | rfl | (simp; done) | (simp [*]; done)), H', ⟨by have := HJ5.out; have := HK2.out; have := HK3.out; omega⟩, ⟨by (with_reducible repeat (first | apply rA_q | apply rN_q | apply rD_q)); exact HO_3.out⟩, ⟨by (with_reducible repeat (first | apply rA_q | apply rN_q | apply rD_q)); exact HO_5.out⟩, ⟨bel HB.out⟩⟩
     rw [if_neg c31] at H
     have c31b0 : decide (x7_2 ≤ 20) = false := dF_q c31
     clear c31
     have H' := Ae_q H
     clear H
     go_wp2
     repeat (go_quiet (fail); try go_wp2)
     go_loopg [10] k2 (fun kq v10 w' => ∃ (x10_3 : Int), v10 = .int .i64 x10_3 ∧ Aside0 (laws_FnWatchOpen.l2 kq t405 x10_3 = some r) ∧ Aside0 (kq ≤ k2) ∧ Aside0 (Kd.R kI_q 3 w' w.heap.size (fun _ => True) v406 t405) ∧ Aside0 (Below w.heap.size w w'))
     case atStart => exact ⟨(1), (by first | rfl | (simp; done) | (simp [*]; done)), H', ⟨nR_q _⟩, ⟨by (with_reducible repeat (first | apply rA_q | apply rN_q | apply rD_q)); exact HO_5.out⟩, ⟨bel HB.out⟩⟩
     case round =>
      clear H'
      try clear c1
      try clear c2
      try clear c2b0
      try clear c2b1
      try clear p2
      try clear c3
      try clear p4
      try clear q4
      try clear hx4
      try clear p6
      try clear c7
      try clear c12
      try clear c14
      try clear c15
      try clear c15b0
      try clear c27
      try clear c31
      try clear c31b0
      try clear c32
      try clear c32b0
      try clear c33
      try clear c33b0
      try clear c34
      try clear c34b0
      try clear c35
      try clear c35b0
      try clear c35b1
      try clear c36
      try clear c36b0
      try clear c36b1
      try clear c37
      try clear c37b0
      try clear c37b1
      try clear c39
      try clear c39b0
      try clear c39b1
      try clear c39b2
      try clear p41
      try clear q41
      try clear hx41
      try clear hx414_0
      try clear hx414_1
      try clear hx414_2
      try clear hx414_3
      try clear hx414_4
      try clear hx414_5
      try clear hx415_0
      try clear hx415_1
      try clear hx415_2
      try clear hx415_3
      try clear hx415_4
      try clear hx415_5
      try clear hx416_0
      try clear hx416_1
      try clear hx416_2
      try clear hx416_3
      try clear hx416_4
      try clear hx416_5
      try clear hx417_0
      try clear hx417_1
      try clear hx417_2
      try clear hx417_3
      try clear hx417_4
      try clear hx417_5
      try clear hx418_0
      try clear hx418_1
      try clear hx418_2
      try clear hx418_3
      try clear hx418_4
      try clear hx418_5
      try clear p2
      try clear p414
      try clear p415
      try clear p416
      try clear p417
      try clear p418
      try clear q414
      try clear q415
      try clear q416
      try clear q417
      try clear q418
      obtain ⟨x10_3, rfl, HA, HK3, HO_5, HB⟩ := hrel
      cases gk with
      | zero => exact absurd HA.out (by simp [laws_FnWatchOpen.l2])
      | succ k3 =>
       have H := HA.out
       clear HA
       simp only [laws_FnWatchOpen.l2] at H
       by_cases c42 : x10_3 < (t405.length : Int)
       ·rw [if_pos c42] at H
        have c42b0 : decide (x10_3 < (t405.length : Int)) = true := dT_q c42
        clear c42
        obtain ⟨ji43, hji43⟩ : ∃ j_ : Int, (wrap64 (x10_3 - 1)) = j_ := ⟨_, rfl⟩
        replace H : (if 0 ≤ (ji43) then (if (ji43) < (t405.length : Int) then (if 0 ≤ x10_3 then (if (rd t405 (ji43)) ≥ (rd t405 x10_3) then (some false) else (laws_FnWatchOpen.l2 k3 t405 (wrap64 (x10_3 + 1)))) else (none)) else (none)) else (none)) = some r := by first | (rw [hji43] at H; exact H) | (simp only [hji43] at H ⊢; exact H)
        have hji43w : (IntKind.i64.wrap (x10_3 - 1)) = ji43 := (i64_w _).trans hji43
        by_cases c44 : 0 ≤ (ji43)
        ·rw [if_pos c44] at H
         have c44b0 : decide (0 ≤ (ji43)) = true := dT_q c44
         clear c44
         by_cases c45 : (ji43) < (t405.length : Int)
         ·rw [if_pos c45] at H
          have c45b0 : decide ((ji43) < (t405.length : Int)) = true := dT_q c45
          clear c45
          by_cases c46 : 0 ≤ x10_3
          ·rw [if_pos c46] at H
           have c46b0 : decide (0 ≤ x10_3) = true := dT_q c46
           clear c46
           by_cases c47 : (rd t405 (ji43)) ≥ (rd t405 x10_3)
           ·rw [if_pos c47] at H
            have c47b0 : decide ((rd t405 x10_3) ≤ (rd t405 (ji43))) = true := dT_q c47
            clear c47
            obtain rfl := oI_q H
            obtain ⟨Ao48, co48, eo48⟩ := rS_q HO_5.out
            subst eo48
            have p420 : 0 ≤ ((ji43) : Int) := oD_q (by assumption)
            have q420 : (ji43) < (t405.length : Int) := oD_q (by assumption)
            obtain ⟨ad420, e420, hx420_0⟩ := aI_q (rR_q HO_5.out).2.2 (ji43) p420 q420
            cases e420
            replace p420 := eq_true p420
            replace q420 := eq_true q420
            have p421 : 0 ≤ (x10_3 : Int) := oD_q (by assumption)
            have q421 : x10_3 < (t405.length : Int) := oD_q (by assumption)
            obtain ⟨ad421, e421, hx421_0⟩ := aI_q (rR_q HO_5.out).2.2 x10_3 p421 q421
            obtain rfl : ad420 = ad421 := (by injection e421)
            replace p421 := eq_true p421
            replace q421 := eq_true q421
            go_wp2
            repeat (go_quiet (fail); try go_wp2)
            go_ret
            exact ⟨by first | rfl | (simp [eN_q, eS_q] <;> rfl) | (simp only [← hji43]; first | rfl | (simp [eN_q, eS_q] <;> rfl)) | (simp [*, eN_q, eS_q] <;> rfl), bel HB.out⟩
           rw [if_neg c47] at H
           have c47b0 : decide ((rd t405 x10_3) ≤ (rd t405 (ji43))) = false := dF_q c47
           clear c47
           have H' := Ae_q H
           clear H
           obtain ⟨Ao49, co49, eo49⟩ := rS_q HO_5.out
           subst eo49
           have p420 : 0 ≤ ((ji43) : Int) := oD_q (by assumption)
           have q420 : (ji43) < (t405.length : Int) := oD_q (by assumption)
           obtain ⟨ad420, e420, hx420_0⟩ := aI_q (rR_q HO_5.out).2.2 (ji43) p420 q420
           cases e420
           replace p420 := eq_true p420
           replace q420 := eq_true q420
           have p421 : 0 ≤ (x10_3 : Int) := oD_q (by assumption)
           have q421 : x10_3 < (t405.length : Int) := oD_q (by assumption)
           obtain ⟨ad421, e421, hx421_0⟩ := aI_q (rR_q HO_5.out).2.2 x10_3 p421 q421
           obtain rfl : ad420 = ad421 := (by injection e421)
           replace p421 := eq_true p421
           replace q421 := eq_true q421
           go_wp2
           repeat (go_quiet (fail); try go_wp2)
           go_roundg k3
           case measure => have := HJ5.out; have := HK2.out; have := HK3.out; omega
           case rel => exact ⟨(wrap64 (x10_3 + 1)), (by first | rfl | (simp; done) | (simp [*]; done)), H', ⟨by have := HJ5.out; have := HK2.out; have := HK3.out; omega⟩, ⟨by (with_reducible repeat (first | apply rA_q | apply rN_q | apply rD_q)); exact HO_5.out⟩, ⟨bel HB.out⟩⟩
          rw [if_neg c46] at H
          exact absurd H (by simp)
         rw [if_neg c45] at H
         exact absurd H (by simp)
        rw [if_neg c44] at H
        exact absurd H (by simp)
       rw [if_neg c42] at H
       have c42b0 : decide (x10_3 < (t405.length : Int)) = false := dF_q c42
       clear c42
       obtain rfl := oI_q H
       obtain ⟨Ao50, co50, eo50⟩ := rS_q HO_5.out
       subst eo50
       go_wp2
       repeat (go_quiet (fail); try go_wp2)
       go_ret
       exact ⟨by first | rfl | (simp [eN_q, eS_q] <;> rfl) | (simp [*, eN_q, eS_q] <;> rfl), bel HB.out⟩

def laws_FnWatchOpen.Pure : Prop := ∀ (l0 : List Int), l0.length ≤ maxLen → l0.length * 1 ≤ 140737488351232 → (∀ x ∈ l0, (Lit.int .u8 x).wf = true) → ∃ k, laws_FnWatchOpen.f k l0 = some true
theorem laws_FnWatchOpen.walk (P : laws_FnWatchOpen.Pure) (a0 : Option Addr) (len0 cap0 : Nat) (z0 : List Int) (w : World) (w0 : (a0 = none ∧ len0 = 0 ∧ cap0 = 0 ∧ z0 = []) ∨ ∃ x, a0 = some x ∧ len0 ≤ cap0 ∧ cap0 ≤ maxLen ∧ z0.length = cap0 ∧ (∀ i, i < z0.length → w.cell? (x.add i) = some (.int .u8 (z0.getD i 0))) ∧ ∀ n ∈ z0, (Lit.int .u8 n).wf = true) (y0 : len0 * 1 ≤ 140737488351232) :
    Calls Try.prog 7 #[.slice a0 len0 cap0] w fun e w' => e = .returned (.bool true) ∧ Below w.heap.size w w' := by
 obtain ⟨l0, rfl, hr0, hm0, hw0, hc0⟩ := ReadsInt.ofRowC w0
 obtain ⟨k, h⟩ := P l0 hm0 y0 hw0
 refine (laws_FnWatchOpen.calls k _ _ l0 true w (Kd.C_of_reads (d := (0 : Int)) (h1 := fun _ => rfl) hr0) hc0 h).mono ?_
 rintro e w' ⟨rfl, hd⟩
 exact ⟨rfl, hd⟩

end Go.Proofs.Ytnhenfmegpjigaa.PEv
