import Derived.Test.YtnhenfmegpjigaaVBPEvx0
import Derived.Test.YtnhenfmegpjigaaVBPEvx6
import Derived.Test.YtnhenfmegpjigaaVBPEvx10
namespace Go.Proofs.Ytnhenfmegpjigaa.PEv
open Go.RowKit Go.Proofs.YtnhenfmegpjigaaW.PrintWords Go.Proofs.YtnhenfmegpjigaaW.PrintLast Go.Proofs.YtnhenfmegpjigaaW.PrintMore
attribute [local go_sem] max2_int min2_int max_two min_two max_three min_three max_four min_four
set_option linter.unusedVariables false
set_option linter.unusedSimpArgs false

mutual
def laws_FnWatchServed.j0 : Nat → List (S27) → Int → List Int → List Int → Bool → Option (Bool)
 | 0, _, _, _, _, _ => none
 | k + 1, x3, x4, x5, x6, x31 => if x31 = true then ((laws_sameInts.f k x5 x6).bind fun t302 => (some t302)) else (laws_FnWatchServed.l0 k x3 x4 x5 0 0)
def laws_FnWatchServed.l0 : Nat → List (S27) → Int → List Int → Int → Int → Option (Bool)
 | 0, _, _, _, _, _ => none
 | k + 1, x3, x4, x5, x7, x8 => if x8 < (x3.length : Int) then (if 0 ≤ x8 then (if ((rd_T27 x3 x8).f0) = 2 then (laws_FnWatchServed.j2 k x3 x4 x5 x7 x8 (((rd_T27 x3 x8).f3) == x4)) else (laws_FnWatchServed.j2 k x3 x4 x5 x7 x8 false)) else (none)) else (some (x7 == (x5.length : Int)))
def laws_FnWatchServed.j2 : Nat → List (S27) → Int → List Int → Int → Int → Bool → Option (Bool)
 | 0, _, _, _, _, _, _ => none
 | k + 1, x3, x4, x5, x7, x8, x55 => if x55 = true then (if x7 ≥ (x5.length : Int) then (some false) else (if 0 ≤ x7 then (if x7 < (x5.length : Int) then (if 0 ≤ x8 then (if x8 < (x3.length : Int) then (if (rd x5 x7) = ((rd_T27 x3 x8).f2) then (laws_FnWatchServed.l0 k x3 x4 x5 (wrap64 (x7 + 1)) (wrap64 (x8 + 1))) else (some false)) else (none)) else (none)) else (none)) else (none))) else (laws_FnWatchServed.l0 k x3 x4 x5 x7 (wrap64 (x8 + 1)))
end
def laws_FnWatchServed.f (k : Nat) (l0 : List Int) : Option (Bool) := if (l0.length : Int) > 1048576 then (some true) else ((spec_DrawWatchServed.f k l0).bind fun bt290 => ((impl_WatchServed.f k bt290.1 bt290.2).bind fun t294 => ((spec_WatchServed.f k bt290.1 bt290.2).bind fun t297 => ((laws_sameInts.f k t294 t297).bind fun t300 => (if t300 = true then ((spec_EventsValid.f k bt290.1).bind fun t301 => (laws_FnWatchServed.j0 k bt290.1 bt290.2 t294 t297 (!t301))) else (laws_FnWatchServed.j0 k bt290.1 bt290.2 t294 t297 true))))))
theorem laws_FnWatchServed.mono_l : ∀ k, (∀ y0 y1 y2 y3 y4, LeO (laws_FnWatchServed.j0 k y0 y1 y2 y3 y4) (laws_FnWatchServed.j0 (k + 1) y0 y1 y2 y3 y4)) ∧ (∀ y0 y1 y2 y3 y4, LeO (laws_FnWatchServed.l0 k y0 y1 y2 y3 y4) (laws_FnWatchServed.l0 (k + 1) y0 y1 y2 y3 y4)) ∧ (∀ y0 y1 y2 y3 y4 y5, LeO (laws_FnWatchServed.j2 k y0 y1 y2 y3 y4 y5) (laws_FnWatchServed.j2 (k + 1) y0 y1 y2 y3 y4 y5))
 | 0 => ⟨fun _ _ _ _ _ r h => by simp [laws_FnWatchServed.j0] at h, fun _ _ _ _ _ r h => by simp [laws_FnWatchServed.l0] at h, fun _ _ _ _ _ _ r h => by simp [laws_FnWatchServed.j2] at h⟩
 | k + 1 => by
  obtain ⟨ih0, ih1, ih2⟩ := laws_FnWatchServed.mono_l k
  refine ⟨?_, ?_, ?_⟩
  ·intro y0 y1 y2 y3 y4
   unfold laws_FnWatchServed.j0
   repeat' first
   | (with_reducible exact ih0 _ _ _ _ _)
   | (with_reducible exact ih1 _ _ _ _ _)
   | (with_reducible exact ih2 _ _ _ _ _ _)
   | (with_reducible exact impl_WatchServed.mono _ _ _)
   | (with_reducible exact laws_sameInts.mono _ _ _)
   | (with_reducible exact spec_DrawWatchServed.mono _ _)
   | (with_reducible exact spec_EventsValid.mono _ _)
   | (with_reducible exact spec_WatchServed.mono _ _ _)
   | (with_reducible exact lR_q _)
   | (with_reducible exact lO_q _)
   | (with_reducible refine lI_q ?_ ?_)
   | (with_reducible refine lB_q ?_ (fun _ => ?_))
   | exact ih0 _ _ _ _ _
   | exact ih1 _ _ _ _ _
   | exact ih2 _ _ _ _ _ _
   | exact impl_WatchServed.mono _ _ _
   | exact laws_sameInts.mono _ _ _
   | exact spec_DrawWatchServed.mono _ _
   | exact spec_EventsValid.mono _ _
   | exact spec_WatchServed.mono _ _ _
   | exact lO_q _
   | refine lI_q ?_ ?_
   | refine lB_q ?_ (fun _ => ?_)
  ·intro y0 y1 y2 y3 y4
   unfold laws_FnWatchServed.l0
   repeat' first
   | (with_reducible exact ih0 _ _ _ _ _)
   | (with_reducible exact ih1 _ _ _ _ _)
   | (with_reducible exact ih2 _ _ _ _ _ _)
   | (with_reducible exact impl_WatchServed.mono _ _ _)
   | (with_reducible exact laws_sameInts.mono _ _ _)
   | (with_reducible exact spec_DrawWatchServed.mono _ _)
   | (with_reducible exact spec_EventsValid.mono _ _)
   | (with_reducible exact spec_WatchServed.mono _ _ _)
   | (with_reducible exact lR_q _)
   | (with_reducible exact lO_q _)
   | (with_reducible refine lI_q ?_ ?_)
   | (with_reducible refine lB_q ?_ (fun _ => ?_))
   | exact ih0 _ _ _ _ _
   | exact ih1 _ _ _ _ _
   | exact ih2 _ _ _ _ _ _
   | exact impl_WatchServed.mono _ _ _
   | exact laws_sameInts.mono _ _ _
   | exact spec_DrawWatchServed.mono _ _
   | exact spec_EventsValid.mono _ _
   | exact spec_WatchServed.mono _ _ _
   | exact lO_q _
   | refine lI_q ?_ ?_
   | refine lB_q ?_ (fun _ => ?_)
  intro y0 y1 y2 y3 y4 y5
  unfold laws_FnWatchServed.j2
  repeat' first
  | (with_reducible exact ih0 _ _ _ _ _)
  | (with_reducible exact ih1 _ _ _ _ _)
  | (with_reducible exact ih2 _ _ _ _ _ _)
  | (with_reducible exact impl_WatchServed.mono _ _ _)
  | (with_reducible exact laws_sameInts.mono _ _ _)
  | (with_reducible exact spec_DrawWatchServed.mono _ _)
  | (with_reducible exact spec_EventsValid.mono _ _)
  | (with_reducible exact spec_WatchServed.mono _ _ _)
  | (with_reducible exact lR_q _)
  | (with_reducible exact lO_q _)
  | (with_reducible refine lI_q ?_ ?_)
  | (with_reducible refine lB_q ?_ (fun _ => ?_))
  | exact ih0 _ _ _ _ _
  | exact ih1 _ _ _ _ _
  | exact ih2 _ _ _ _ _ _
  | exact impl_WatchServed.mono _ _ _
  | exact laws_sameInts.mono _ _ _
  | exact spec_DrawWatchServed.mono _ _
  | exact spec_EventsValid.mono _ _
  | exact spec_WatchServed.mono _ _ _
  | exact lO_q _
  | refine lI_q ?_ ?_
  | refine lB_q ?_ (fun _ => ?_)
theorem laws_FnWatchServed.mono : ∀ a0 k, LeO (laws_FnWatchServed.f k a0) (laws_FnWatchServed.f (k + 1) a0) := by
 intro a0 k
 obtain ⟨ih0, ih1, ih2⟩ := laws_FnWatchServed.mono_l k
 unfold laws_FnWatchServed.f
 repeat' first
  | (with_reducible exact ih0 _ _ _ _ _)
  | (with_reducible exact ih1 _ _ _ _ _)
  | (with_reducible exact ih2 _ _ _ _ _ _)
  | (with_reducible exact impl_WatchServed.mono _ _ _)
  | (with_reducible exact laws_sameInts.mono _ _ _)
  | (with_reducible exact spec_DrawWatchServed.mono _ _)
  | (with_reducible exact spec_EventsValid.mono _ _)
  | (with_reducible exact spec_WatchServed.mono _ _ _)
  | (with_reducible exact lR_q _)
  | (with_reducible exact lO_q _)
  | (with_reducible refine lI_q ?_ ?_)
  | (with_reducible refine lB_q ?_ (fun _ => ?_))
  | exact ih0 _ _ _ _ _
  | exact ih1 _ _ _ _ _
  | exact ih2 _ _ _ _ _ _
  | exact impl_WatchServed.mono _ _ _
  | exact laws_sameInts.mono _ _ _
  | exact spec_DrawWatchServed.mono _ _
  | exact spec_EventsValid.mono _ _
  | exact spec_WatchServed.mono _ _ _
  | exact lO_q _
  | refine lI_q ?_ ?_
  | refine lB_q ?_ (fun _ => ?_)
set_option maxHeartbeats 8000000 in
set_option maxRecDepth 100000 in
theorem laws_FnWatchServed.calls (k : Nat) (A0 : Option Addr) (c0 : Nat) (l0 : List Int) (r : Bool) (w : World) (hr0 : Kd.C (Kd.int .u8) w A0 l0.length l0) (hc0 : l0.length ≤ c0) (h : laws_FnWatchServed.f k l0 = some r) :
    Calls Try.prog 5 #[.slice A0 l0.length c0] w fun e w' => e = .returned (.bool r) ∧ Below w.heap.size w w' := by
 have HR0 := Ae_q hr0
 have HC0 := Ae_q hc0
 clear hr0 hc0
 have HB := Ae_q (bR_q w.heap.size w)
 have H : (if (l0.length : Int) > 1048576 then (some true) else ((spec_DrawWatchServed.f k l0).bind fun bt290 => ((impl_WatchServed.f k bt290.1 bt290.2).bind fun t294 => ((spec_WatchServed.f k bt290.1 bt290.2).bind fun t297 => ((laws_sameInts.f k t294 t297).bind fun t300 => (if t300 = true then ((spec_EventsValid.f k bt290.1).bind fun t301 => (laws_FnWatchServed.j0 k bt290.1 bt290.2 t294 t297 (!t301))) else (laws_FnWatchServed.j0 k bt290.1 bt290.2 t294 t297 true))))))) = some r := h
 clear h
 by_cases c2 : (l0.length : Int) > 1048576
 ·rw [if_pos c2] at H
  have c2b0 : decide (1048576 < (l0.length : Int)) = true := dT_q c2
  have c2b1 : decide (1048576 < l0.length) = true := dT_q (by omega)
  clear c2
  obtain rfl := oI_q H
  go_enter Try.func5, Try.ntmps5
  go_wp2
  repeat (go_quiet (fail); try go_wp2)
  go_ret
  exact ⟨by first | rfl | (simp [eN_q, eS_q] <;> rfl) | (simp [*, eN_q, eS_q] <;> rfl), bel HB.out⟩
 rw [if_neg c2] at H
 have c2b0 : decide (1048576 < (l0.length : Int)) = false := dF_q c2
 have c2b1 : decide (1048576 < l0.length) = false := dF_q (by omega)
 clear c2
 replace H := oB_q.mp H
 obtain ⟨⟨t290, t291⟩, A30, H⟩ := H
 replace H : ((impl_WatchServed.f k t290 t291).bind fun t294 => ((spec_WatchServed.f k t290 t291).bind fun t297 => ((laws_sameInts.f k t294 t297).bind fun t300 => (if t300 = true then ((spec_EventsValid.f k t290).bind fun t301 => (laws_FnWatchServed.j0 k t290 t291 t294 t297 (!t301))) else (laws_FnWatchServed.j0 k t290 t291 t294 t297 true))))) = some r := H
 have A3 := Ae_q A30
 clear A30
 replace H := oB_q.mp H
 obtain ⟨t294, A40, H⟩ := H
 replace H : ((spec_WatchServed.f k t290 t291).bind fun t297 => ((laws_sameInts.f k t294 t297).bind fun t300 => (if t300 = true then ((spec_EventsValid.f k t290).bind fun t301 => (laws_FnWatchServed.j0 k t290 t291 t294 t297 (!t301))) else (laws_FnWatchServed.j0 k t290 t291 t294 t297 true)))) = some r := H
 have A4 := Ae_q A40
 clear A40
 replace H := oB_q.mp H
 obtain ⟨t297, A50, H⟩ := H
 replace H : ((laws_sameInts.f k t294 t297).bind fun t300 => (if t300 = true then ((spec_EventsValid.f k t290).bind fun t301 => (laws_FnWatchServed.j0 k t290 t291 t294 t297 (!t301))) else (laws_FnWatchServed.j0 k t290 t291 t294 t297 true))) = some r := H
 have A5 := Ae_q A50
 clear A50
 have HC6 := Ae_q H
 clear H
 go_enter Try.func5, Try.ntmps5
 go_upto_region 6 with (first | (go_at_call 21; (with_reducible refine (spec_DrawWatchServed.calls k _ _ l0 t290 t291 _ ?side1 ?side2 A3.out).mono ?_); (case side1 => repeat (first | exact HR0.out | (with_reducible refine cA_q ?_ _) | (with_reducible refine cN_q ?_ _) | (with_reducible refine cD_q ?_))); (case side2 => exact HC0.out); rintro e w7 ⟨v292, rfl, ho0, hb⟩; have n0_ := Ae_q (rL_q ho0 (bZ_q (bel HB.out))); have n1_ := Ae_q (bT_q (bel HB.out) hb); clear HB; have HO293 := n0_; have HB := n1_; clear n0_ n1_; (try clear hb); (try clear hb2); (try clear hk); (try clear hi); (try clear ho0); obtain ⟨Ao8, co8, eo8⟩ := rS_q HO293.out; subst eo8) | (go_at_call 22; (with_reducible refine (impl_WatchServed.calls k _ _ t290 t291 t294 _ ?side1 ?side2 A4.out).mono ?_); (case side1 => exact cup (rR_q HO293.out).2.2); (case side2 => exact (rR_q HO293.out).2.1); rintro e w9 ⟨v295, rfl, ho0, hb⟩; have n0_ := Ae_q (rO_q (rup HO293.out) hb); have n1_ := Ae_q (rL_q ho0 (bZ_q (bel HB.out))); have n2_ := Ae_q (bT_q (bel HB.out) hb); clear HO293; clear HB; have HO293 := n0_; have HO296 := n1_; have HB := n2_; clear n0_ n1_ n2_; (try clear hb); (try clear hb2); (try clear hk); (try clear hi); (try clear ho0)) | (go_at_call 23; (with_reducible refine (spec_WatchServed.calls k _ _ t290 t291 t297 _ ?side1 ?side2 A5.out).mono ?_); (case side1 => exact cup (rR_q HO293.out).2.2); (case side2 => exact (rR_q HO293.out).2.1); rintro e w10 ⟨v298, rfl, ho0, hb⟩; have n0_ := Ae_q (rO_q (rup HO293.out) hb); have n1_ := Ae_q (rE_q (rup HO296.out) (rB_q ho0) hb); have n2_ := Ae_q (rL_q (rW_q ho0 (rT_q (rup HO296.out))) (bZ_q (bel HB.out))); have n3_ := Ae_q (bT_q (bel HB.out) hb); clear HO293; clear HO296; clear HB; have HO293 := n0_; have HO296 := n1_; have HO299 := n2_; have HB := n3_; clear n0_ n1_ n2_ n3_; (try clear hb); (try clear hb2); (try clear hk); (try clear hi); (try clear ho0)))
 repeat (go_quiet (first | (go_at_call 21; (with_reducible refine (spec_DrawWatchServed.calls k _ _ l0 t290 t291 _ ?side1 ?side2 A3.out).mono ?_); (case side1 => repeat (first | exact HR0.out | (with_reducible refine cA_q ?_ _) | (with_reducible refine cN_q ?_ _) | (with_reducible refine cD_q ?_))); (case side2 => exact HC0.out); rintro e w7 ⟨v292, rfl, ho0, hb⟩; have n0_ := Ae_q (rL_q ho0 (bZ_q (bel HB.out))); have n1_ := Ae_q (bT_q (bel HB.out) hb); clear HB; have HO293 := n0_; have HB := n1_; clear n0_ n1_; (try clear hb); (try clear hb2); (try clear hk); (try clear hi); (try clear ho0); obtain ⟨Ao8, co8, eo8⟩ := rS_q HO293.out; subst eo8) | (go_at_call 22; (with_reducible refine (impl_WatchServed.calls k _ _ t290 t291 t294 _ ?side1 ?side2 A4.out).mono ?_); (case side1 => exact cup (rR_q HO293.out).2.2); (case side2 => exact (rR_q HO293.out).2.1); rintro e w9 ⟨v295, rfl, ho0, hb⟩; have n0_ := Ae_q (rO_q (rup HO293.out) hb); have n1_ := Ae_q (rL_q ho0 (bZ_q (bel HB.out))); have n2_ := Ae_q (bT_q (bel HB.out) hb); clear HO293; clear HB; have HO293 := n0_; have HO296 := n1_; have HB := n2_; clear n0_ n1_ n2_; (try clear hb); (try clear hb2); (try clear hk); (try clear hi); (try clear ho0)) | (go_at_call 23; (with_reducible refine (spec_WatchServed.calls k _ _ t290 t291 t297 _ ?side1 ?side2 A5.out).mono ?_); (case side1 => exact cup (rR_q HO293.out).2.2); (case side2 => exact (rR_q HO293.out).2.1); rintro e w10 ⟨v298, rfl, ho0, hb⟩; have n0_ := Ae_q (rO_q (rup HO293.out) hb); have n1_ := Ae_q (rE_q (rup HO296.out) (rB_q ho0) hb); have n2_ := Ae_q (rL_q (rW_q ho0 (rT_q (rup HO296.out))) (bZ_q (bel HB.out))); have n3_ := Ae_q (bT_q (bel HB.out) hb); clear HO293; clear HO296; clear HB; have HO293 := n0_; have HO296 := n1_; have HO299 := n2_; have HB := n3_; clear n0_ n1_ n2_ n3_; (try clear hb); (try clear hb2); (try clear hk); (try clear hi); (try clear ho0))); go_upto_region 6 with (first | (go_at_call 21; (with_reducible refine (spec_DrawWatchServed.calls k _ _ l0 t290 t291 _ ?side1 ?side2 A3.out).mono ?_); (case side1 => repeat (first | exact HR0.out | (with_reducible refine cA_q ?_ _) | (with_reducible refine cN_q ?_ _) | (with_reducible refine cD_q ?_))); (case side2 => exact HC0.out); rintro e w7 ⟨v292, rfl, ho0, hb⟩; have n0_ := Ae_q (rL_q ho0 (bZ_q (bel HB.out))); have n1_ := Ae_q (bT_q (bel HB.out) hb); clear HB; have HO293 := n0_; have HB := n1_; clear n0_ n1_; (try clear hb); (try clear hb2); (try clear hk); (try clear hi); (try clear ho0); obtain ⟨Ao8, co8, eo8⟩ := rS_q HO293.out; subst eo8) | (go_at_call 22; (with_reducible refine (impl_WatchServed.calls k _ _ t290 t291 t294 _ ?side1 ?side2 A4.out).mono ?_); (case side1 => exact cup (rR_q HO293.out).2.2); (case side2 => exact (rR_q HO293.out).2.1); rintro e w9 ⟨v295, rfl, ho0, hb⟩; have n0_ := Ae_q (rO_q (rup HO293.out) hb); have n1_ := Ae_q (rL_q ho0 (bZ_q (bel HB.out))); have n2_ := Ae_q (bT_q (bel HB.out) hb); clear HO293; clear HB; have HO293 := n0_; have HO296 := n1_; have HB := n2_; clear n0_ n1_ n2_; (try clear hb); (try clear hb2); (try clear hk); (try clear hi); (try clear ho0)) | (go_at_call 23; (with_reducible refine (spec_WatchServed.calls k _ _ t290 t291 t297 _ ?side1 ?side2 A5.out).mono ?_); (case side1 => exact cup (rR_q HO293.out).2.2); (case side2 => exact (rR_q HO293.out).2.1); rintro e w10 ⟨v298, rfl, ho0, hb⟩; have n0_ := Ae_q (rO_q (rup HO293.out) hb); have n1_ := Ae_q (rE_q (rup HO296.out) (rB_q ho0) hb); have n2_ := Ae_q (rL_q (rW_q ho0 (rT_q (rup HO296.out))) (bZ_q (bel HB.out))); have n3_ := Ae_q (bT_q (bel HB.out) hb); clear HO293; clear HO296; clear HB; have HO293 := n0_; have HO296 := n1_; have HO299 := n2_; have HB := n3_; clear n0_ n1_ n2_ n3_; (try clear hb); (try clear hb2); (try clear hk); (try clear hi); (try clear ho0))))
 (try simp only [Act.put, sA_q, sZ_q, sS_q])
 go_cut [31] (fun v31 wc => ∃ (kq : Nat) (x31_5 : Bool), v31 = .bool x31_5 ∧ Aside0 (laws_FnWatchServed.j0 kq t290 t291 t294 t297 x31_5 = some r) ∧ Aside0 (kq ≤ k) ∧ Aside0 (Kd.R k27 27 wc w.heap.size (fun _ => True) (.slice Ao8 t290.length co8) t290) ∧ Aside0 (Kd.R kI_q 3 wc w.heap.size (fun k_ => some k_ ≠ (v298 : Value).ownBlock) v295 t294) ∧ Aside0 (Kd.R kI_q 3 wc w.heap.size (fun k_ => some k_ ≠ (v295 : Value).ownBlock) v298 t297) ∧ Aside0 (Below w.heap.size w wc))
 case first =>
  have H := HC6.out
  clear HC6
  replace H := oB_q.mp H
  obtain ⟨t300, A110, H⟩ := H
  replace H : (if t300 = true then ((spec_EventsValid.f k t290).bind fun t301 => (laws_FnWatchServed.j0 k t290 t291 t294 t297 (!t301))) else (laws_FnWatchServed.j0 k t290 t291 t294 t297 true)) = some r := H
  have A11 := Ae_q A110
  clear A110
  by_cases c12 : t300 = true
  ·subst c12
   have H1 : ((spec_EventsValid.f k t290).bind fun t301 => (laws_FnWatchServed.j0 k t290 t291 t294 t297 (!t301))) = some r := by rw [if_pos rfl] at H; exact H
   clear H
   have H := H1
   clear H1
   replace H := oB_q.mp H
   obtain ⟨t301, A130, H⟩ := H
   replace H : (laws_FnWatchServed.j0 k t290 t291 t294 t297 (!t301)) = some r := H
   have A13 := Ae_q A130
   clear A130
   have H' := Ae_q H
   clear H
   obtain ⟨Ao14, co14, eo14⟩ := rS_q HO296.out
   subst eo14
   obtain ⟨Ao15, co15, eo15⟩ := rS_q HO299.out
   subst eo15
   go_wp2_with (first | (go_at_call 24; (with_reducible refine (laws_sameInts.calls k _ _ t294 _ _ t297 true _ ?side1 ?side2 ?side3 ?side4 A11.out).mono ?_); (case side1 => exact cup (rR_q HO296.out).2.2); (case side2 => exact (rR_q HO296.out).2.1); (case side3 => exact cup (rR_q HO299.out).2.2); (case side4 => exact (rR_q HO299.out).2.1); rintro e w' ⟨rfl, ⟨nd, rfl⟩⟩; (try first | exact ⟨rfl, _, wD_q _ _ _⟩ | exact ⟨rfl, _, Eq.trans (wD_q _ _ _) (congrArg (World.drewN _) (nA_q _ _ _))⟩)) | (go_at_call 17; (with_reducible refine (spec_EventsValid.calls k _ _ t290 t301 _ ?side1 ?side2 A13.out).mono ?_); (case side1 => exact cup (rR_q HO293.out).2.2); (case side2 => exact (rR_q HO293.out).2.1); rintro e w16 ⟨rfl, hb⟩; have n0_ := Ae_q (rO_q (rup HO293.out) hb); have n1_ := Ae_q (rO_q (rup HO296.out) hb); have n2_ := Ae_q (rO_q (rup HO299.out) hb); have n3_ := Ae_q (bT_q (bel HB.out) hb); clear HO293; clear HO296; clear HO299; clear HB; have HO293 := n0_; have HO296 := n1_; have HO299 := n2_; have HB := n3_; clear n0_ n1_ n2_ n3_; (try clear hb); (try clear hb2); (try clear hk); (try clear hi)))
   repeat (go_quiet (first | (go_at_call 24; (with_reducible refine (laws_sameInts.calls k _ _ t294 _ _ t297 true _ ?side1 ?side2 ?side3 ?side4 A11.out).mono ?_); (case side1 => exact cup (rR_q HO296.out).2.2); (case side2 => exact (rR_q HO296.out).2.1); (case side3 => exact cup (rR_q HO299.out).2.2); (case side4 => exact (rR_q HO299.out).2.1); rintro e w' ⟨rfl, ⟨nd, rfl⟩⟩; (try first | exact ⟨rfl, _, wD_q _ _ _⟩ | exact ⟨rfl, _, Eq.trans (wD_q _ _ _) (congrArg (World.drewN _) (nA_q _ _ _))⟩)) | (go_at_call 17; (with_reducible refine (spec_EventsValid.calls k _ _ t290 t301 _ ?side1 ?side2 A13.out).mono ?_); (case side1 => exact cup (rR_q HO293.out).2.2); (case side2 => exact (rR_q HO293.out).2.1); rintro e w16 ⟨rfl, hb⟩; have n0_ := Ae_q (rO_q (rup HO293.out) hb); have n1_ := Ae_q (rO_q (rup HO296.out) hb); have n2_ := Ae_q (rO_q (rup HO299.out) hb); have n3_ := Ae_q (bT_q (bel HB.out) hb); clear HO293; clear HO296; clear HO299; clear HB; have HO293 := n0_; have HO296 := n1_; have HO299 := n2_; have HB := n3_; clear n0_ n1_ n2_ n3_; (try clear hb); (try clear hb2); (try clear hk); (try clear hi))); try go_wp2_with (first | (go_at_call 24; (with_reducible refine (laws_sameInts.calls k _ _ t294 _ _ t297 true _ ?side1 ?side2 ?side3 ?side4 A11.out).mono ?_); (case side1 => exact cup (rR_q HO296.out).2.2); (case side2 => exact (rR_q HO296.out).2.1); (case side3 => exact cup (rR_q HO299.out).2.2); (case side4 => exact (rR_q HO299.out).2.1); rintro e w' ⟨rfl, ⟨nd, rfl⟩⟩; (try first | exact ⟨rfl, _, wD_q _ _ _⟩ | exact ⟨rfl, _, Eq.trans (wD_q _ _ _) (congrArg (World.drewN _) (nA_q _ _ _))⟩)) | (go_at_call 17; (with_reducible refine (spec_EventsValid.calls k _ _ t290 t301 _ ?side1 ?side2 A13.out).mono ?_); (case side1 => exact cup (rR_q HO293.out).2.2); (case side2 => exact (rR_q HO293.out).2.1); rintro e w16 ⟨rfl, hb⟩; have n0_ := Ae_q (rO_q (rup HO293.out) hb); have n1_ := Ae_q (rO_q (rup HO296.out) hb); have n2_ := Ae_q (rO_q (rup HO299.out) hb); have n3_ := Ae_q (bT_q (bel HB.out) hb); clear HO293; clear HO296; clear HO299; clear HB; have HO293 := n0_; have HO296 := n1_; have HO299 := n2_; have HB := n3_; clear n0_ n1_ n2_ n3_; (try clear hb); (try clear hb2); (try clear hk); (try clear hi))))
   go_meet
   case rel => exact ⟨_, (!t301), (by first | rfl | (simp; done) | (simp [*]; done)), H', ⟨by first | omega | exact nR_q _⟩, ⟨by (with_reducible repeat (first | apply rA_q | apply rN_q | apply rD_q)); exact HO293.out⟩, ⟨by (with_reducible repeat (first | apply rA_q | apply rN_q | apply rD_q)); exact rM_q HO296.out (fun _ hk => hk.2)⟩, ⟨by (with_reducible repeat (first | apply rA_q | apply rN_q | apply rD_q)); exact rM_q HO299.out (fun _ hk => hk.2)⟩, ⟨bel HB.out⟩⟩
  replace c12 := fM_q.mpr c12
  subst c12
  have H1 : (laws_FnWatchServed.j0 k t290 t291 t294 t297 true) = some r := by rw [if_neg (show ¬ (false = true) by decide)] at H; exact H
  clear H
  have H := H1
  clear H1
  have H' := Ae_q H
  clear H
  obtain ⟨Ao17, co17, eo17⟩ := rS_q HO296.out
  subst eo17
  obtain ⟨Ao18, co18, eo18⟩ := rS_q HO299.out
  subst eo18
  go_wp2_with (first | (go_at_call 24; (with_reducible refine (laws_sameInts.calls k _ _ t294 _ _ t297 false _ ?side1 ?side2 ?side3 ?side4 A11.out).mono ?_); (case side1 => exact cup (rR_q HO296.out).2.2); (case side2 => exact (rR_q HO296.out).2.1); (case side3 => exact cup (rR_q HO299.out).2.2); (case side4 => exact (rR_q HO299.out).2.1); rintro e w' ⟨rfl, ⟨nd, rfl⟩⟩; (try first | exact ⟨rfl, _, wD_q _ _ _⟩ | exact ⟨rfl, _, Eq.trans (wD_q _ _ _) (congrArg (World.drewN _) (nA_q _ _ _))⟩)))
  repeat (go_quiet (first | (go_at_call 24; (with_reducible refine (laws_sameInts.calls k _ _ t294 _ _ t297 false _ ?side1 ?side2 ?side3 ?side4 A11.out).mono ?_); (case side1 => exact cup (rR_q HO296.out).2.2); (case side2 => exact (rR_q HO296.out).2.1); (case side3 => exact cup (rR_q HO299.out).2.2); (case side4 => exact (rR_q HO299.out).2.1); rintro e w' ⟨rfl, ⟨nd, rfl⟩⟩; (try first | exact ⟨rfl, _, wD_q _ _ _⟩ | exact ⟨rfl, _, Eq.trans (wD_q _ _ _) (congrArg (World.drewN _) (nA_q _ _ _))⟩))); try go_wp2_with (first | (go_at_call 24; (with_reducible refine (laws_sameInts.calls k _ _ t294 _ _ t297 false _ ?side1 ?side2 ?side3 ?side4 A11.out).mono ?_); (case side1 => exact cup (rR_q HO296.out).2.2); (case side2 => exact (rR_q HO296.out).2.1); (case side3 => exact cup (rR_q HO299.out).2.2); (case side4 => exact (rR_q HO299.out).2.1); rintro e w' ⟨rfl, ⟨nd, rfl⟩⟩; (try first | exact ⟨rfl, _, wD_q _ _ _⟩ | exact ⟨rfl, _, Eq.trans (wD_q _ _ _) (congrArg (World.drewN _) (nA_q _ _ _))⟩))))
  go_meet
  case rel => exact ⟨_, (true), (by first | rfl | (simp; done) | (simp [*]; done)), H', ⟨by first | omega | exact nR_q _⟩, ⟨by (with_reducible repeat (first | apply rA_q | apply rN_q | apply rD_q)); exact HO293.out⟩, ⟨by (with_reducible repeat (first | apply rA_q | apply rN_q | apply rD_q)); exact rM_q HO296.out (fun _ hk => hk.2)⟩, ⟨by (with_reducible repeat (first | apply rA_q | apply rN_q | apply rD_q)); exact rM_q HO299.out (fun _ hk => hk.2)⟩, ⟨bel HB.out⟩⟩
 case rest =>
  clear HC6
  try clear c1
  try clear c2
  try clear c2b0
  try clear c2b1
  try clear p2
  try clear c5
  try clear c12
  obtain ⟨kq, x31_5, rfl, HA, HJ5, HO_3, HO_5, HO_6, HB⟩ := hcut
  cases kq with
  | zero => exact absurd HA.out (by simp [laws_FnWatchServed.j0])
  | succ kj5 =>
   have H := HA.out
   clear HA
   simp only [laws_FnWatchServed.j0] at H
   by_cases c19 : x31_5 = true
   ·subst c19
    have H1 : ((laws_sameInts.f kj5 t294 t297).bind fun t302 => (some t302)) = some r := by rw [if_pos rfl] at H; exact H
    clear H
    have H := H1
    clear H1
    replace H := oB_q.mp H
    obtain ⟨t302, A200, H⟩ := H
    replace H : (some t302) = some r := H
    have A20 := Ae_q A200
    clear A200
    obtain rfl := oI_q H
    obtain ⟨Ao21, co21, eo21⟩ := rS_q HO_5.out
    subst eo21
    obtain ⟨Ao22, co22, eo22⟩ := rS_q HO_6.out
    subst eo22
    go_wp2_with (first | (go_at_call 24; (with_reducible refine (laws_sameInts.calls kj5 _ _ t294 _ _ t297 t302 _ ?side1 ?side2 ?side3 ?side4 A20.out).mono ?_); (case side1 => exact cup (rR_q HO_5.out).2.2); (case side2 => exact (rR_q HO_5.out).2.1); (case side3 => exact cup (rR_q HO_6.out).2.2); (case side4 => exact (rR_q HO_6.out).2.1); rintro e w' ⟨rfl, ⟨nd, rfl⟩⟩; (try first | exact ⟨rfl, _, wD_q _ _ _⟩ | exact ⟨rfl, _, Eq.trans (wD_q _ _ _) (congrArg (World.drewN _) (nA_q _ _ _))⟩)))
    repeat (go_quiet (first | (go_at_call 24; (with_reducible refine (laws_sameInts.calls kj5 _ _ t294 _ _ t297 t302 _ ?side1 ?side2 ?side3 ?side4 A20.out).mono ?_); (case side1 => exact cup (rR_q HO_5.out).2.2); (case side2 => exact (rR_q HO_5.out).2.1); (case side3 => exact cup (rR_q HO_6.out).2.2); (case side4 => exact (rR_q HO_6.out).2.1); rintro e w' ⟨rfl, ⟨nd, rfl⟩⟩; (try first | exact ⟨rfl, _, wD_q _ _ _⟩ | exact ⟨rfl, _, Eq.trans (wD_q _ _ _) (congrArg (World.drewN _) (nA_q _ _ _))⟩))); try go_wp2_with (first | (go_at_call 24; (with_reducible refine (laws_sameInts.calls kj5 _ _ t294 _ _ t297 t302 _ ?side1 ?side2 ?side3 ?side4 A20.out).mono ?_); (case side1 => exact cup (rR_q HO_5.out).2.2); (case side2 => exact (rR_q HO_5.out).2.1); (case side3 => exact cup (rR_q HO_6.out).2.2); (case side4 => exact (rR_q HO_6.out).2.1); rintro e w' ⟨rfl, ⟨nd, rfl⟩⟩; (try first | exact ⟨rfl, _, wD_q _ _ _⟩ | exact ⟨rfl, _, Eq.trans (wD_q _ _ _) (congrArg (World.drewN _) (nA_q _ _ _))⟩))))
    go_ret
    exact ⟨by first | rfl | (simp [eN_q, eS_q] <;> rfl) | (simp [*, eN_q, eS_q] <;> rfl), bel HB.out⟩
   replace c19 := fM_q.mpr c19
   subst c19
   have H1 : (laws_FnWatchServed.l0 kj5 t290 t291 t294 0 0) = some r := by rw [if_neg (show ¬ (false = true) by decide)] at H; exact H
   clear H
   have H := H1
   clear H1
   have H' := Ae_q H
   clear H
   go_wp2
   repeat (go_quiet (fail); try go_wp2)
   go_loopg [7, 8] kj5 (fun kq v7 v8 w' => ∃ (x7_2 : Int) (x8_2 : Int), v7 = .int .i64 x7_2 ∧ v8 = .int .i64 x8_2 ∧ Aside0 (laws_FnWatchServed.l0 kq t290 t291 t294 x7_2 x8_2 = some r) ∧ Aside0 (kq ≤ kj5) ∧ Aside0 (Kd.R k27 27 w' w.heap.size (fun _ => True) (.slice Ao8 t290.length co8) t290) ∧ Aside0 (Kd.R kI_q 3 w' w.heap.size (fun _ => True) v295 t294) ∧ Aside0 (Below w.heap.size w w'))
   case atStart => exact ⟨(0), (0), (by first | rfl | (simp; done) | (simp [*]; done)), (by first | rfl | (simp; done) | (simp [*]; done)), H', ⟨nR_q _⟩, ⟨by (with_reducible repeat (first | apply rA_q | apply rN_q | apply rD_q)); exact HO_3.out⟩, ⟨by (with_reducible repeat (first | apply rA_q | apply rN_q | apply rD_q)); exact rM_q HO_5.out (fun _ hk => trivial)⟩, ⟨bel HB.out⟩⟩
   case round =>
    clear H'
    try clear c1
    try clear c2
    try clear c2b0
    try clear c2b1
    try clear p2
    try clear c5
    try clear c12
    try clear c19
    try clear p2
    obtain ⟨x7_2, x8_2, rfl, rfl, HA, HK2, HO_3, HO_5, HB⟩ := hrel
    cases gk with
    | zero => exact absurd HA.out (by simp [laws_FnWatchServed.l0])
    | succ k2 =>
     have H := HA.out
     clear HA
     simp only [laws_FnWatchServed.l0] at H
     by_cases c23 : x8_2 < (t290.length : Int)
     ·rw [if_pos c23] at H
      have c23b0 : decide (x8_2 < (t290.length : Int)) = true := dT_q c23
      clear c23
      have HC24 := Ae_q H
      clear H
      go_upto_region 12 with (fail)
      repeat (go_quiet (fail); go_upto_region 12 with (fail))
      go_cut [55] (fun v55 wc => ∃ (kq : Nat) (x55_23 : Bool), v55 = .bool x55_23 ∧ Aside0 (laws_FnWatchServed.j2 kq t290 t291 t294 x7_2 x8_2 x55_23 = some r) ∧ Aside0 (kq ≤ k2) ∧ Aside0 (Kd.R k27 27 wc w.heap.size (fun _ => True) (.slice Ao8 t290.length co8) t290) ∧ Aside0 (Kd.R kI_q 3 wc w.heap.size (fun _ => True) v295 t294) ∧ Aside0 (Below w.heap.size w wc))
      case first =>
       have H := HC24.out
       clear HC24
       by_cases c25 : 0 ≤ x8_2
       ·rw [if_pos c25] at H
        have c25b0 : decide (0 ≤ x8_2) = true := dT_q c25
        clear c25
        (first | rw [c25b0] | (simp only [i64_w, i32_w]; rw [c25b0]) | skip)
        by_cases c26 : ((rd_T27 t290 x8_2).f0) = 2
        ·rw [if_pos c26] at H
         have c26b0 : (((rd_T27 t290 x8_2).f0) == 2) = true := beq_iff_eq.mpr c26
         have c26b1 : (((rd_T27 t290 x8_2).f0) != 2) = false := nE_q.mpr c26
         clear c26
         have H' := Ae_q H
         clear H
         have p303 : 0 ≤ (x8_2 : Int) := oD_q (by assumption)
         have q303 : x8_2 < (t290.length : Int) := oD_q (by assumption)
         obtain ⟨ad303, e303, hx303_0, hx303_1, hx303_2, hx303_3, hx303_4, hx303_5⟩ := at_T27 (rR_q HO_3.out).2.2 x8_2 p303 q303
         cases e303
         replace p303 := eq_true p303
         replace q303 := eq_true q303
         have p304 : 0 ≤ (x8_2 : Int) := oD_q (by assumption)
         have q304 : x8_2 < (t290.length : Int) := oD_q (by assumption)
         obtain ⟨ad304, e304, hx304_0, hx304_1, hx304_2, hx304_3, hx304_4, hx304_5⟩ := at_T27 (rR_q HO_3.out).2.2 x8_2 p304 q304
         obtain rfl : ad303 = ad304 := (by injection e304)
         replace p304 := eq_true p304
         replace q304 := eq_true q304
         go_wp2
         repeat (go_quiet (fail); try go_wp2)
         go_meet
         case rel => exact ⟨_, ((((rd_T27 t290 x8_2).f3) == t291)), (by first | rfl | (simp; done) | (simp [*]; done)), H', ⟨by have := HJ5.out; have := HK2.out; first | omega | exact nR_q _⟩, ⟨by (with_reducible repeat (first | apply rA_q | apply rN_q | apply rD_q)); exact HO_3.out⟩, ⟨by (with_reducible repeat (first | apply rA_q | apply rN_q | apply rD_q)); exact HO_5.out⟩, ⟨bel HB.out⟩⟩
        rw [if_neg c26] at H
        have c26b0 : (((rd_T27 t290 x8_2).f0) == 2) = false := fN_q.mpr c26
        have c26b1 : (((rd_T27 t290 x8_2).f0) != 2) = true := nI_q.mpr c26
        have H' := Ae_q H
        clear H
        have p303 : 0 ≤ (x8_2 : Int) := oD_q (by assumption)
        have q303 : x8_2 < (t290.length : Int) := oD_q (by assumption)
        obtain ⟨ad303, e303, hx303_0, hx303_1, hx303_2, hx303_3, hx303_4, hx303_5⟩ := at_T27 (rR_q HO_3.out).2.2 x8_2 p303 q303
        cases e303
        replace p303 := eq_true p303
        replace q303 := eq_true q303
        go_wp2
        repeat (go_quiet (fail); try go_wp2)
        go_meet
        case rel => exact ⟨_, (false), (by first | rfl | (simp; done) | (simp [*]; done)), H', ⟨by have := HJ5.out; have := HK2.out; first | omega | exact nR_q _⟩, ⟨by (with_reducible repeat (first | apply rA_q | apply rN_q | apply rD_q)); exact HO_3.out⟩, ⟨by (with_reducible repeat (first | apply rA_q | apply rN_q | apply rD_q)); exact HO_5.out⟩, ⟨bel HB.out⟩⟩
       rw [if_neg c25] at H
       exact absurd H (by simp)
      case rest =>
       clear HC24
       try clear c1
       try clear c2
       try clear c2b0
       try clear c2b1
       try clear p2
       try clear p3
       try clear q3
       try clear hx3
       try clear c5
       try clear c12
       try clear c19
       try clear c23
       try clear c23b0
       try clear c25
       try clear c25b0
       try clear c26
       try clear c26b0
       try clear c26b1
       try clear hx303_0
       try clear hx303_1
       try clear hx303_2
       try clear hx303_3
       try clear hx303_4
       try clear hx303_5
       try clear hx304_0
       try clear hx304_1
       try clear hx304_2
       try clear hx304_3
       try clear hx304_4
       try clear hx304_5
       try clear p2
       try clear p303
       try clear p304
       try clear q303
       try clear q304
       obtain ⟨kq, x55_23, rfl, HA, HJ23, HO_3, HO_5, HB⟩ := hcut
       cases kq with
       | zero => exact absurd HA.out (by simp [laws_FnWatchServed.j2])
       | succ kj23 =>
        have H := HA.out
        clear HA
        simp only [laws_FnWatchServed.j2] at H
        by_cases c27 : x55_23 = true
        ·subst c27
         have H1 : (if x7_2 ≥ (t294.length : Int) then (some false) else (if 0 ≤ x7_2 then (if x7_2 < (t294.length : Int) then (if 0 ≤ x8_2 then (if x8_2 < (t290.length : Int) then (if (rd t294 x7_2) = ((rd_T27 t290 x8_2).f2) then (laws_FnWatchServed.l0 kj23 t290 t291 t294 (wrap64 (x7_2 + 1)) (wrap64 (x8_2 + 1))) else (some false)) else (none)) else (none)) else (none)) else (none))) = some r := by rw [if_pos rfl] at H; exact H
         clear H
         have H := H1
         clear H1
         by_cases c28 : x7_2 ≥ (t294.length : Int)
         ·rw [if_pos c28] at H
          have c28b0 : decide ((t294.length : Int) ≤ x7_2) = true := dT_q c28
          clear c28
          obtain rfl := oI_q H
          obtain ⟨Ao29, co29, eo29⟩ := rS_q HO_5.out
          subst eo29
          go_wp2
          repeat (go_quiet (fail); try go_wp2)
          go_ret
          exact ⟨by first | rfl | (simp [eN_q, eS_q] <;> rfl) | (simp [*, eN_q, eS_q] <;> rfl), bel HB.out⟩
         rw [if_neg c28] at H
         have c28b0 : decide ((t294.length : Int) ≤ x7_2) = false := dF_q c28
         clear c28
         by_cases c30 : 0 ≤ x7_2
         ·rw [if_pos c30] at H
          have c30b0 : decide (0 ≤ x7_2) = true := dT_q c30
          clear c30
          by_cases c31 : x7_2 < (t294.length : Int)
          ·rw [if_pos c31] at H
           have c31b0 : decide (x7_2 < (t294.length : Int)) = true := dT_q c31
           clear c31
           by_cases c32 : 0 ≤ x8_2
           ·rw [if_pos c32] at H
            have c32b0 : decide (0 ≤ x8_2) = true := dT_q c32
            clear c32
            by_cases c33 : x8_2 < (t290.length : Int)
            ·rw [if_pos c33] at H
             have c33b0 : decide (x8_2 < (t290.length : Int)) = true := dT_q c33
             clear c33
             by_cases c34 : (rd t294 x7_2) = ((rd_T27 t290 x8_2).f2)
             ·rw [if_pos c34] at H
              have c34b0 : ((rd t294 x7_2) == ((rd_T27 t290 x8_2).f2)) = true := beq_iff_eq.mpr c34
              have c34b1 : ((rd t294 x7_2) != ((rd_T27 t290 x8_2).f2)) = false := nE_q.mpr c34
              clear c34
              have H' := Ae_q H
              clear H
              obtain ⟨Ao35, co35, eo35⟩ := rS_q HO_5.out
              subst eo35
              have p305 : 0 ≤ (x7_2 : Int) := oD_q (by assumption)
              have q305 : x7_2 < (t294.length : Int) := oD_q (by assumption)
              obtain ⟨ad305, e305, hx305_0⟩ := aI_q (rR_q HO_5.out).2.2 x7_2 p305 q305
              cases e305
              replace p305 := eq_true p305
              replace q305 := eq_true q305
              have p306 : 0 ≤ (x8_2 : Int) := oD_q (by assumption)
              have q306 : x8_2 < (t290.length : Int) := oD_q (by assumption)
              obtain ⟨ad306, e306, hx306_0, hx306_1, hx306_2, hx306_3, hx306_4, hx306_5⟩ := at_T27 (rR_q HO_3.out).2.2 x8_2 p306 q306
              cases e306
              replace p306 := eq_true p306
              replace q306 := eq_true q306
              go_wp2
              repeat (go_quiet (fail); try go_wp2)
              go_roundg kj23
              case measure => have := HJ5.out; have := HK2.out; have := HJ23.out; omega
              case rel => exact ⟨(wrap64 (x7_2 + 1)), (wrap64 (x8_2 + 1)), (by first | rfl | (simp; done) | (simp [*]; done)), (by first | rfl | (simp; done) | (simp [*]; done)), H', ⟨by have := HJ5.out; have := HK2.out; have := HJ23.out; omega⟩, ⟨by (with_reducible repeat (first | apply rA_q | apply rN_q | apply rD_q)); exact HO_3.out⟩, ⟨by (with_reducible repeat (first | apply rA_q | apply rN_q | apply rD_q)); exact HO_5.out⟩, ⟨bel HB.out⟩⟩
             rw [if_neg c34] at H
             have c34b0 : ((rd t294 x7_2) == ((rd_T27 t290 x8_2).f2)) = false := fN_q.mpr c34
             have c34b1 : ((rd t294 x7_2) != ((rd_T27 t290 x8_2).f2)) = true := nI_q.mpr c34
             obtain rfl := oI_q H
             obtain ⟨Ao36, co36, eo36⟩ := rS_q HO_5.out
             subst eo36
             have p305 : 0 ≤ (x7_2 : Int) := oD_q (by assumption)
             have q305 : x7_2 < (t294.length : Int) := oD_q (by assumption)
             obtain ⟨ad305, e305, hx305_0⟩ := aI_q (rR_q HO_5.out).2.2 x7_2 p305 q305
             cases e305
             replace p305 := eq_true p305
             replace q305 := eq_true q305
             have p306 : 0 ≤ (x8_2 : Int) := oD_q (by assumption)
             have q306 : x8_2 < (t290.length : Int) := oD_q (by assumption)
             obtain ⟨ad306, e306, hx306_0, hx306_1, hx306_2, hx306_3, hx306_4, hx306_5⟩ := at_T27 (rR_q HO_3.out).2.2 x8_2 p306 q306
             cases e306
             replace p306 := eq_true p306
             replace q306 := eq_true q306
             go_wp2
             repeat (go_quiet (fail); try go_wp2)
             go_ret
             exact ⟨by first | rfl | (simp [eN_q, eS_q] <;> rfl) | (simp [*, eN_q, eS_q] <;> rfl), bel HB.out⟩
            rw [if_neg c33] at H
            exact absurd H (by simp)
           rw [if_neg c32] at H
           exact absurd H (by simp)
          rw [if_neg c31] at H
          exact absurd H (by simp)
         rw [if_neg c30] at H
         exact absurd H (by simp)
        replace c27 := fM_q.mpr c27
        subst c27
        have H1 : (laws_FnWatchServed.l0 kj23 t290 t291 t294 x7_2 (wrap64 (x8_2 + 1))) = some r := by rw [if_neg (show ¬ (false = true) by decide)] at H; exact H
        clear H
        have H := H1
        clear H1
        have H' := Ae_q H
        clear H
        go_wp2
        repeat (go_quiet (fail); try go_wp2)
        go_roundg kj23
        case measure => have := HJ5.out; have := HK2.out; have := HJ23.out; omega
        case rel => exact ⟨(x7_2), (wrap64 (x8_2 + 1)), (by first | rfl | (simp; done) | (simp [*]; done)), (by first | rfl | (simp; done) | (simp [*]; done)), H', ⟨by have := HJ5.out; have := HK2.out; have := HJ23.out; omega⟩, ⟨by (with_reducible repeat (first | apply rA_q | apply rN_q | apply rD_q)); exact HO_3.out⟩, ⟨by (with_reducible repeat (first | apply rA_q | apply rN_q | apply rD_q)); exact HO_5.out⟩, ⟨bel HB.out⟩⟩
     rw [if_neg c23] at H
     have c23b0 : decide (x8_2 < (t290.length : Int)) = false := dF_q c23
     clear c23
     obtain rfl := oI_q H
     obtain ⟨Ao37, co37, eo37⟩ := rS_q HO_5.out
     subst eo37
     go_wp2
     repeat (go_quiet (fail); try go_wp2)
     go_ret
     exact ⟨by first | rfl | (simp [eN_q, eS_q] <;> rfl) | (simp [*, eN_q, eS_q] <;> rfl), bel HB.out⟩

def laws_FnWatchServed.Pure : Prop := ∀ (l0 : List Int), l0.length ≤ maxLen → l0.length * 1 ≤ 140737488351232 → (∀ x ∈ l0, (Lit.int .u8 x).wf = true) → ∃ k, laws_FnWatchServed.f k l0 = some true
theorem laws_FnWatchServed.walk (P : laws_FnWatchServed.Pure) (a0 : Option Addr) (len0 cap0 : Nat) (z0 : List Int) (w : World) (w0 : (a0 = none ∧ len0 = 0 ∧ cap0 = 0 ∧ z0 = []) ∨ ∃ x, a0 = some x ∧ len0 ≤ cap0 ∧ cap0 ≤ maxLen ∧ z0.length = cap0 ∧ (∀ i, i < z0.length → w.cell? (x.add i) = some (.int .u8 (z0.getD i 0))) ∧ ∀ n ∈ z0, (Lit.int .u8 n).wf = true) (y0 : len0 * 1 ≤ 140737488351232) :
    Calls Try.prog 5 #[.slice a0 len0 cap0] w fun e w' => e = .returned (.bool true) ∧ Below w.heap.size w w' := by
 obtain ⟨l0, rfl, hr0, hm0, hw0, hc0⟩ := ReadsInt.ofRowC w0
 obtain ⟨k, h⟩ := P l0 hm0 y0 hw0
 refine (laws_FnWatchServed.calls k _ _ l0 true w (Kd.C_of_reads (d := (0 : Int)) (h1 := fun _ => rfl) hr0) hc0 h).mono ?_
 rintro e w' ⟨rfl, hd⟩
 exact ⟨rfl, hd⟩

end Go.Proofs.Ytnhenfmegpjigaa.PEv
