import Derived.Test.YtnhenfmegpjigaaVGPEvx0
import Derived.Test.YtnhenfmegpjigaaVGPEvx6
import Derived.Test.YtnhenfmegpjigaaVGPEvx10
import Derived.Test.YtnhenfmegpjigaaVGPEvx17
import Derived.Test.YtnhenfmegpjigaaVGPEvx20
import Derived.Test.YtnhenfmegpjigaaVGPEvx25
import Derived.Test.YtnhenfmegpjigaaVGPEvx26
import Derived.Test.YtnhenfmegpjigaaVGPEvx29
namespace Go.Proofs.Ytnhenfmegpjigaa.PEv
open Go.RowKit Go.Proofs.YtnhenfmegpjigaaW.PrintWords Go.Proofs.YtnhenfmegpjigaaW.PrintLast Go.Proofs.YtnhenfmegpjigaaW.PrintMore
attribute [local go_sem] max2_int min2_int max_two min_two max_three min_three max_four min_four
set_option linter.unusedVariables false
set_option linter.unusedSimpArgs false

mutual
def laws_FnWatchMade.j0 : Nat → List (S27) → List Int → List Int → Bool → Option (Bool)
 | 0, _, _, _, _ => none
 | k + 1, x4, x5, x6, x37 => if x37 = true then ((laws_sameInts.f k x5 x6).bind fun t687 => (some t687)) else (laws_FnWatchMade.l0 k x4 x5 0)
def laws_FnWatchMade.l0 : Nat → List (S27) → List Int → Int → Option (Bool)
 | 0, _, _, _ => none
 | k + 1, x4, x5, x7 => if x7 < (x4.length : Int) then (laws_FnWatchMade.l1 k x4 x5 x7 false 0) else (some true)
def laws_FnWatchMade.l1 : Nat → List (S27) → List Int → Int → Bool → Int → Option (Bool)
 | 0, _, _, _, _, _ => none
 | k + 1, x4, x5, x7, x8, x9 => if x9 < x7 then (if 0 ≤ x9 then (if x9 < (x4.length : Int) then (if 0 ≤ x7 then (if x7 < (x4.length : Int) then (if ((rd_T27 x4 x9).f2) = ((rd_T27 x4 x7).f2) then (if ((rd_T27 x4 x9).f0) = 2 then (laws_FnWatchMade.l1 k x4 x5 x7 x8 (wrap64 (x9 + 1))) else (laws_FnWatchMade.l1 k x4 x5 x7 (((rd_T27 x4 x9).f0) == 1) (wrap64 (x9 + 1)))) else (laws_FnWatchMade.l1 k x4 x5 x7 x8 (wrap64 (x9 + 1)))) else (none)) else (none)) else (none)) else (none)) else (if 0 ≤ x7 then (if x7 < (x4.length : Int) then (if ((rd_T27 x4 x7).f0) = 1 then ((laws_hasInt.f k x5 x7).bind fun t693 => (if (t693 != x8) = true then (some false) else (if ((rd_T27 x4 x7).f0) = 3 then ((laws_hasInt.f k x5 x7).bind fun t695 => (if (t695 == x8) = true then (some false) else (laws_FnWatchMade.l0 k x4 x5 (wrap64 (x7 + 1))))) else (laws_FnWatchMade.l0 k x4 x5 (wrap64 (x7 + 1)))))) else (if ((rd_T27 x4 x7).f0) = 3 then ((laws_hasInt.f k x5 x7).bind fun t697 => (if (t697 == x8) = true then (some false) else (laws_FnWatchMade.l0 k x4 x5 (wrap64 (x7 + 1))))) else (laws_FnWatchMade.l0 k x4 x5 (wrap64 (x7 + 1))))) else (none)) else (none))
end
def laws_FnWatchMade.f (k : Nat) (l0 : List Int) : Option (Bool) := if (l0.length : Int) > 1048576 then (some true) else ((spec_DrawWatchWrong.f k l0).bind fun bt672 => ((impl_WatchWrong.f k bt672.1 bt672.2).bind fun t678 => ((spec_WatchWrong.f k bt672.1 bt672.2).bind fun t681 => ((laws_sameInts.f k t678 t681).bind fun t684 => (if t684 = true then ((spec_GuestsValid.f k bt672.1).bind fun t685 => (if t685 = true then ((spec_EventsValid.f k bt672.2).bind fun t686 => (laws_FnWatchMade.j0 k bt672.2 t678 t681 (!t686))) else (laws_FnWatchMade.j0 k bt672.2 t678 t681 true))) else (laws_FnWatchMade.j0 k bt672.2 t678 t681 true))))))
set_option maxHeartbeats 8000000 in
set_option maxRecDepth 100000 in
theorem laws_FnWatchMade.calls (k : Nat) (A0 : Option Addr) (c0 : Nat) (l0 : List Int) (r : Bool) (w : World) (hr0 : Kd.C (Kd.int .u8) w A0 l0.length l0) (hc0 : l0.length ≤ c0) (h : laws_FnWatchMade.f k l0 = some r) :
    Calls Try.prog 12 #[.slice A0 l0.length c0] w fun e w' => e = .returned (.bool r) ∧ Below w.heap.size w w' := by
 have HR0 := Ae_q hr0
 have HC0 := Ae_q hc0
 clear hr0 hc0
 have HB := Ae_q (bR_q w.heap.size w)
 have H : (if (l0.length : Int) > 1048576 then (some true) else ((spec_DrawWatchWrong.f k l0).bind fun bt672 => ((impl_WatchWrong.f k bt672.1 bt672.2).bind fun t678 => ((spec_WatchWrong.f k bt672.1 bt672.2).bind fun t681 => ((laws_sameInts.f k t678 t681).bind fun t684 => (if t684 = true then ((spec_GuestsValid.f k bt672.1).bind fun t685 => (if t685 = true then ((spec_EventsValid.f k bt672.2).bind fun t686 => (laws_FnWatchMade.j0 k bt672.2 t678 t681 (!t686))) else (laws_FnWatchMade.j0 k bt672.2 t678 t681 true))) else (laws_FnWatchMade.j0 k bt672.2 t678 t681 true))))))) = some r := h
 clear h
 by_cases c2 : (l0.length : Int) > 1048576
 ·rw [if_pos c2] at H
  have c2b0 : decide (1048576 < (l0.length : Int)) = true := dT_q c2
  have c2b1 : decide (1048576 < l0.length) = true := dT_q (by omega)
  clear c2
  obtain rfl := oI_q H
  go_enter Try.func12, Try.ntmps12
  go_wp2
  repeat (go_quiet (fail); try go_wp2)
  go_ret
  exact ⟨by first | rfl | (simp [eN_q, eS_q] <;> rfl) | (simp [*, eN_q, eS_q] <;> rfl), bel HB.out⟩
 rw [if_neg c2] at H
 have c2b0 : decide (1048576 < (l0.length : Int)) = false := dF_q c2
 have c2b1 : decide (1048576 < l0.length) = false := dF_q (by omega)
 clear c2
 replace H := oB_q.mp H
 obtain ⟨⟨t672, t673⟩, A30, H⟩ := H
 replace H : ((impl_WatchWrong.f k t672 t673).bind fun t678 => ((spec_WatchWrong.f k t672 t673).bind fun t681 => ((laws_sameInts.f k t678 t681).bind fun t684 => (if t684 = true then ((spec_GuestsValid.f k t672).bind fun t685 => (if t685 = true then ((spec_EventsValid.f k t673).bind fun t686 => (laws_FnWatchMade.j0 k t673 t678 t681 (!t686))) else (laws_FnWatchMade.j0 k t673 t678 t681 true))) else (laws_FnWatchMade.j0 k t673 t678 t681 true))))) = some r := H
 have A3 := Ae_q A30
 clear A30
 replace H := oB_q.mp H
 obtain ⟨t678, A40, H⟩ := H
 replace H : ((spec_WatchWrong.f k t672 t673).bind fun t681 => ((laws_sameInts.f k t678 t681).bind fun t684 => (if t684 = true then ((spec_GuestsValid.f k t672).bind fun t685 => (if t685 = true then ((spec_EventsValid.f k t673).bind fun t686 => (laws_FnWatchMade.j0 k t673 t678 t681 (!t686))) else (laws_FnWatchMade.j0 k t673 t678 t681 true))) else (laws_FnWatchMade.j0 k t673 t678 t681 true)))) = some r := H
 have A4 := Ae_q A40
 clear A40
 replace H := oB_q.mp H
 obtain ⟨t681, A50, H⟩ := H
 replace H : ((laws_sameInts.f k t678 t681).bind fun t684 => (if t684 = true then ((spec_GuestsValid.f k t672).bind fun t685 => (if t685 = true then ((spec_EventsValid.f k t673).bind fun t686 => (laws_FnWatchMade.j0 k t673 t678 t681 (!t686))) else (laws_FnWatchMade.j0 k t673 t678 t681 true))) else (laws_FnWatchMade.j0 k t673 t678 t681 true))) = some r := H
 have A5 := Ae_q A50
 clear A50
 have HC6 := Ae_q H
 clear H
 go_enter Try.func12, Try.ntmps12
 go_upto_region 6 with (first | (go_at_call 33; (with_reducible refine (spec_DrawWatchWrong.calls k _ _ l0 t672 t673 _ ?side1 ?side2 A3.out).mono ?_); (case side1 => repeat (first | exact HR0.out | (with_reducible refine cA_q ?_ _) | (with_reducible refine cN_q ?_ _) | (with_reducible refine cD_q ?_))); (case side2 => exact HC0.out); rintro e w7 ⟨v674, v676, rfl, ho0, ho1, hb⟩; have n0_ := Ae_q (rL_q ho0 (bZ_q (bel HB.out))); have n1_ := Ae_q (rL_q ho1 (bZ_q (bel HB.out))); have n2_ := Ae_q (bT_q (bel HB.out) hb); clear HB; have HO675 := n0_; have HO677 := n1_; have HB := n2_; clear n0_ n1_ n2_; (try clear hb); (try clear hb2); (try clear hk); (try clear hi); (try clear ho0); (try clear ho1); obtain ⟨Ao8, co8, eo8⟩ := rS_q HO675.out; subst eo8; obtain ⟨Ao9, co9, eo9⟩ := rS_q HO677.out; subst eo9) | (go_at_call 34; (with_reducible refine (impl_WatchWrong.calls k _ _ t672 _ _ t673 t678 _ ?side1 ?side2 ?side3 ?side4 A4.out).mono ?_); (case side1 => exact cup (rR_q HO675.out).2.2); (case side2 => exact (rR_q HO675.out).2.1); (case side3 => exact cup (rR_q HO677.out).2.2); (case side4 => exact (rR_q HO677.out).2.1); rintro e w10 ⟨v679, rfl, ho0, hb⟩; have n0_ := Ae_q (rO_q (rup HO675.out) hb); have n1_ := Ae_q (rO_q (rup HO677.out) hb); have n2_ := Ae_q (rL_q ho0 (bZ_q (bel HB.out))); have n3_ := Ae_q (bT_q (bel HB.out) hb); clear HO675; clear HO677; clear HB; have HO675 := n0_; have HO677 := n1_; have HO680 := n2_; have HB := n3_; clear n0_ n1_ n2_ n3_; (try clear hb); (try clear hb2); (try clear hk); (try clear hi); (try clear ho0)) | (go_at_call 35; (with_reducible refine (spec_WatchWrong.calls k _ _ t672 _ _ t673 t681 _ ?side1 ?side2 ?side3 ?side4 A5.out).mono ?_); (case side1 => exact cup (rR_q HO675.out).2.2); (case side2 => exact (rR_q HO675.out).2.1); (case side3 => exact cup (rR_q HO677.out).2.2); (case side4 => exact (rR_q HO677.out).2.1); rintro e w11 ⟨v682, rfl, ho0, hb⟩; have n0_ := Ae_q (rO_q (rup HO675.out) hb); have n1_ := Ae_q (rO_q (rup HO677.out) hb); have n2_ := Ae_q (rE_q (rup HO680.out) (rB_q ho0) hb); have n3_ := Ae_q (rL_q (rW_q ho0 (rT_q (rup HO680.out))) (bZ_q (bel HB.out))); have n4_ := Ae_q (bT_q (bel HB.out) hb); clear HO675; clear HO677; clear HO680; clear HB; have HO675 := n0_; have HO677 := n1_; have HO680 := n2_; have HO683 := n3_; have HB := n4_; clear n0_ n1_ n2_ n3_ n4_; (try clear hb); (try clear hb2); (try clear hk); (try clear hi); (try clear ho0)))
 repeat (go_quiet (first | (go_at_call 33; (with_reducible refine (spec_DrawWatchWrong.calls k _ _ l0 t672 t673 _ ?side1 ?side2 A3.out).mono ?_); (case side1 => repeat (first | exact HR0.out | (with_reducible refine cA_q ?_ _) | (with_reducible refine cN_q ?_ _) | (with_reducible refine cD_q ?_))); (case side2 => exact HC0.out); rintro e w7 ⟨v674, v676, rfl, ho0, ho1, hb⟩; have n0_ := Ae_q (rL_q ho0 (bZ_q (bel HB.out))); have n1_ := Ae_q (rL_q ho1 (bZ_q (bel HB.out))); have n2_ := Ae_q (bT_q (bel HB.out) hb); clear HB; have HO675 := n0_; have HO677 := n1_; have HB := n2_; clear n0_ n1_ n2_; (try clear hb); (try clear hb2); (try clear hk); (try clear hi); (try clear ho0); (try clear ho1); obtain ⟨Ao8, co8, eo8⟩ := rS_q HO675.out; subst eo8; obtain ⟨Ao9, co9, eo9⟩ := rS_q HO677.out; subst eo9) | (go_at_call 34; (with_reducible refine (impl_WatchWrong.calls k _ _ t672 _ _ t673 t678 _ ?side1 ?side2 ?side3 ?side4 A4.out).mono ?_); (case side1 => exact cup (rR_q HO675.out).2.2); (case side2 => exact (rR_q HO675.out).2.1); (case side3 => exact cup (rR_q HO677.out).2.2); (case side4 => exact (rR_q HO677.out).2.1); rintro e w10 ⟨v679, rfl, ho0, hb⟩; have n0_ := Ae_q (rO_q (rup HO675.out) hb); have n1_ := Ae_q (rO_q (rup HO677.out) hb); have n2_ := Ae_q (rL_q ho0 (bZ_q (bel HB.out))); have n3_ := Ae_q (bT_q (bel HB.out) hb); clear HO675; clear HO677; clear HB; have HO675 := n0_; have HO677 := n1_; have HO680 := n2_; have HB := n3_; clear n0_ n1_ n2_ n3_; (try clear hb); (try clear hb2); (try clear hk); (try clear hi); (try clear ho0)) | (go_at_call 35; (with_reducible refine (spec_WatchWrong.calls k _ _ t672 _ _ t673 t681 _ ?side1 ?side2 ?side3 ?side4 A5.out).mono ?_); (case side1 => exact cup (rR_q HO675.out).2.2); (case side2 => exact (rR_q HO675.out).2.1); (case side3 => exact cup (rR_q HO677.out).2.2); (case side4 => exact (rR_q HO677.out).2.1); rintro e w11 ⟨v682, rfl, ho0, hb⟩; have n0_ := Ae_q (rO_q (rup HO675.out) hb); have n1_ := Ae_q (rO_q (rup HO677.out) hb); have n2_ := Ae_q (rE_q (rup HO680.out) (rB_q ho0) hb); have n3_ := Ae_q (rL_q (rW_q ho0 (rT_q (rup HO680.out))) (bZ_q (bel HB.out))); have n4_ := Ae_q (bT_q (bel HB.out) hb); clear HO675; clear HO677; clear HO680; clear HB; have HO675 := n0_; have HO677 := n1_; have HO680 := n2_; have HO683 := n3_; have HB := n4_; clear n0_ n1_ n2_ n3_ n4_; (try clear hb); (try clear hb2); (try clear hk); (try clear hi); (try clear ho0))); go_upto_region 6 with (first | (go_at_call 33; (with_reducible refine (spec_DrawWatchWrong.calls k _ _ l0 t672 t673 _ ?side1 ?side2 A3.out).mono ?_); (case side1 => repeat (first | exact HR0.out | (with_reducible refine cA_q ?_ _) | (with_reducible refine cN_q ?_ _) | (with_reducible refine cD_q ?_))); (case side2 => exact HC0.out); rintro e w7 ⟨v674, v676, rfl, ho0, ho1, hb⟩; have n0_ := Ae_q (rL_q ho0 (bZ_q (bel HB.out))); have n1_ := Ae_q (rL_q ho1 (bZ_q (bel HB.out))); have n2_ := Ae_q (bT_q (bel HB.out) hb); clear HB; have HO675 := n0_; have HO677 := n1_; have HB := n2_; clear n0_ n1_ n2_; (try clear hb); (try clear hb2); (try clear hk); (try clear hi); (try clear ho0); (try clear ho1); obtain ⟨Ao8, co8, eo8⟩ := rS_q HO675.out; subst eo8; obtain ⟨Ao9, co9, eo9⟩ := rS_q HO677.out; subst eo9) | (go_at_call 34; (with_reducible refine (impl_WatchWrong.calls k _ _ t672 _ _ t673 t678 _ ?side1 ?side2 ?side3 ?side4 A4.out).mono ?_); (case side1 => exact cup (rR_q HO675.out).2.2); (case side2 => exact (rR_q HO675.out).2.1); (case side3 => exact cup (rR_q HO677.out).2.2); (case side4 => exact (rR_q HO677.out).2.1); rintro e w10 ⟨v679, rfl, ho0, hb⟩; have n0_ := Ae_q (rO_q (rup HO675.out) hb); have n1_ := Ae_q (rO_q (rup HO677.out) hb); have n2_ := Ae_q (rL_q ho0 (bZ_q (bel HB.out))); have n3_ := Ae_q (bT_q (bel HB.out) hb); clear HO675; clear HO677; clear HB; have HO675 := n0_; have HO677 := n1_; have HO680 := n2_; have HB := n3_; clear n0_ n1_ n2_ n3_; (try clear hb); (try clear hb2); (try clear hk); (try clear hi); (try clear ho0)) | (go_at_call 35; (with_reducible refine (spec_WatchWrong.calls k _ _ t672 _ _ t673 t681 _ ?side1 ?side2 ?side3 ?side4 A5.out).mono ?_); (case side1 => exact cup (rR_q HO675.out).2.2); (case side2 => exact (rR_q HO675.out).2.1); (case side3 => exact cup (rR_q HO677.out).2.2); (case side4 => exact (rR_q HO677.out).2.1); rintro e w11 ⟨v682, rfl, ho0, hb⟩; have n0_ := Ae_q (rO_q (rup HO675.out) hb); have n1_ := Ae_q (rO_q (rup HO677.out) hb); have n2_ := Ae_q (rE_q (rup HO680.out) (rB_q ho0) hb); have n3_ := Ae_q (rL_q (rW_q ho0 (rT_q (rup HO680.out))) (bZ_q (bel HB.out))); have n4_ := Ae_q (bT_q (bel HB.out) hb); clear HO675; clear HO677; clear HO680; clear HB; have HO675 := n0_; have HO677 := n1_; have HO680 := n2_; have HO683 := n3_; have HB := n4_; clear n0_ n1_ n2_ n3_ n4_; (try clear hb); (try clear hb2); (try clear hk); (try clear hi); (try clear ho0))))
 (try simp only [Act.put, sA_q, sZ_q, sS_q])
 go_cut [37] (fun v37 wc => ∃ (kq : Nat) (x37_5 : Bool), v37 = .bool x37_5 ∧ Aside0 (laws_FnWatchMade.j0 kq t673 t678 t681 x37_5 = some r) ∧ Aside0 (kq ≤ k) ∧ Aside0 (Kd.R k27 27 wc w.heap.size (fun _ => True) (.slice Ao9 t673.length co9) t673) ∧ Aside0 (Kd.R kI_q 3 wc w.heap.size (fun k_ => some k_ ≠ (v682 : Value).ownBlock) v679 t678) ∧ Aside0 (Kd.R kI_q 3 wc w.heap.size (fun k_ => some k_ ≠ (v679 : Value).ownBlock) v682 t681) ∧ Aside0 (Below w.heap.size w wc))
 case first =>
  have H := HC6.out
  clear HC6
  replace H := oB_q.mp H
  obtain ⟨t684, A120, H⟩ := H
  replace H : (if t684 = true then ((spec_GuestsValid.f k t672).bind fun t685 => (if t685 = true then ((spec_EventsValid.f k t673).bind fun t686 => (laws_FnWatchMade.j0 k t673 t678 t681 (!t686))) else (laws_FnWatchMade.j0 k t673 t678 t681 true))) else (laws_FnWatchMade.j0 k t673 t678 t681 true)) = some r := H
  have A12 := Ae_q A120
  clear A120
  by_cases c13 : t684 = true
  rotate_left
  ·replace c13 := fM_q.mpr c13
   subst c13
   have H1 : (laws_FnWatchMade.j0 k t673 t678 t681 true) = some r := by rw [if_neg (show ¬ (false = true) by decide)] at H; exact H
   clear H
   have H := H1
   clear H1
   have H' := Ae_q H
   clear H
   obtain ⟨Ao24, co24, eo24⟩ := rS_q HO680.out
   subst eo24
   obtain ⟨Ao25, co25, eo25⟩ := rS_q HO683.out
   subst eo25
   go_wp2_with (first | (go_at_call 24; (with_reducible refine (laws_sameInts.calls k _ _ t678 _ _ t681 false _ ?side1 ?side2 ?side3 ?side4 A12.out).mono ?_); (case side1 => exact cup (rR_q HO680.out).2.2); (case side2 => exact (rR_q HO680.out).2.1); (case side3 => exact cup (rR_q HO683.out).2.2); (case side4 => exact (rR_q HO683.out).2.1); rintro e w' ⟨rfl, ⟨nd, rfl⟩⟩; (try first | exact ⟨rfl, _, wD_q _ _ _⟩ | exact ⟨rfl, _, Eq.trans (wD_q _ _ _) (congrArg (World.drewN _) (nA_q _ _ _))⟩)))
   repeat (go_quiet (first | (go_at_call 24; (with_reducible refine (laws_sameInts.calls k _ _ t678 _ _ t681 false _ ?side1 ?side2 ?side3 ?side4 A12.out).mono ?_); (case side1 => exact cup (rR_q HO680.out).2.2); (case side2 => exact (rR_q HO680.out).2.1); (case side3 => exact cup (rR_q HO683.out).2.2); (case side4 => exact (rR_q HO683.out).2.1); rintro e w' ⟨rfl, ⟨nd, rfl⟩⟩; (try first | exact ⟨rfl, _, wD_q _ _ _⟩ | exact ⟨rfl, _, Eq.trans (wD_q _ _ _) (congrArg (World.drewN _) (nA_q _ _ _))⟩))); try go_wp2_with (first | (go_at_call 24; (with_reducible refine (laws_sameInts.calls k _ _ t678 _ _ t681 false _ ?side1 ?side2 ?side3 ?side4 A12.out).mono ?_); (case side1 => exact cup (rR_q HO680.out).2.2); (case side2 => exact (rR_q HO680.out).2.1); (case side3 => exact cup (rR_q HO683.out).2.2); (case side4 => exact (rR_q HO683.out).2.1); rintro e w' ⟨rfl, ⟨nd, rfl⟩⟩; (try first | exact ⟨rfl, _, wD_q _ _ _⟩ | exact ⟨rfl, _, Eq.trans (wD_q _ _ _) (congrArg (World.drewN _) (nA_q _ _ _))⟩))))
   go_meet
   case rel => exact ⟨_, (true), (by first | rfl | (simp; done) | (simp [*]; done)), H', ⟨by first | omega | exact nR_q _⟩, ⟨by (with_reducible repeat (first | apply rA_q | apply rN_q | apply rD_q)); exact HO677.out⟩, ⟨by (with_reducible repeat (first | apply rA_q | apply rN_q | apply rD_q)); exact rM_q HO680.out (fun _ hk => hk.2)⟩, ⟨by (with_reducible repeat (first | apply rA_q | apply rN_q | apply rD_q)); exact rM_q HO683.out (fun _ hk => hk.2)⟩, ⟨bel HB.out⟩⟩
  subst c13
  have H1 : ((spec_GuestsValid.f k t672).bind fun t685 => (if t685 = true then ((spec_EventsValid.f k t673).bind fun t686 => (laws_FnWatchMade.j0 k t673 t678 t681 (!t686))) else (laws_FnWatchMade.j0 k t673 t678 t681 true))) = some r := by rw [if_pos rfl] at H; exact H
  clear H
  have H := H1
  clear H1
  replace H := oB_q.mp H
  obtain ⟨t685, A140, H⟩ := H
  replace H : (if t685 = true then ((spec_EventsValid.f k t673).bind fun t686 => (laws_FnWatchMade.j0 k t673 t678 t681 (!t686))) else (laws_FnWatchMade.j0 k t673 t678 t681 true)) = some r := H
  have A14 := Ae_q A140
  clear A140
  by_cases c15 : t685 = true
  rotate_left
  ·replace c15 := fM_q.mpr c15
   subst c15
   have H1 : (laws_FnWatchMade.j0 k t673 t678 t681 true) = some r := by rw [if_neg (show ¬ (false = true) by decide)] at H; exact H
   clear H
   have H := H1
   clear H1
   have H' := Ae_q H
   clear H
   obtain ⟨Ao21, co21, eo21⟩ := rS_q HO680.out
   subst eo21
   obtain ⟨Ao22, co22, eo22⟩ := rS_q HO683.out
   subst eo22
   go_wp2_with (first | (go_at_call 24; (with_reducible refine (laws_sameInts.calls k _ _ t678 _ _ t681 true _ ?side1 ?side2 ?side3 ?side4 A12.out).mono ?_); (case side1 => exact cup (rR_q HO680.out).2.2); (case side2 => exact (rR_q HO680.out).2.1); (case side3 => exact cup (rR_q HO683.out).2.2); (case side4 => exact (rR_q HO683.out).2.1); rintro e w' ⟨rfl, ⟨nd, rfl⟩⟩; (try first | exact ⟨rfl, _, wD_q _ _ _⟩ | exact ⟨rfl, _, Eq.trans (wD_q _ _ _) (congrArg (World.drewN _) (nA_q _ _ _))⟩)) | (go_at_call 36; (with_reducible refine (spec_GuestsValid.calls k _ _ t672 false _ ?side1 ?side2 A14.out).mono ?_); (case side1 => exact cup (rR_q HO675.out).2.2); (case side2 => exact (rR_q HO675.out).2.1); rintro e w23 ⟨rfl, hb⟩; have n0_ := Ae_q (rO_q (rup HO675.out) hb); have n1_ := Ae_q (rO_q (rup HO677.out) hb); have n2_ := Ae_q (rO_q (rup HO680.out) hb); have n3_ := Ae_q (rO_q (rup HO683.out) hb); have n4_ := Ae_q (bT_q (bel HB.out) hb); clear HO675; clear HO677; clear HO680; clear HO683; clear HB; have HO675 := n0_; have HO677 := n1_; have HO680 := n2_; have HO683 := n3_; have HB := n4_; clear n0_ n1_ n2_ n3_ n4_; (try clear hb); (try clear hb2); (try clear hk); (try clear hi)))
   repeat (go_quiet (first | (go_at_call 24; (with_reducible refine (laws_sameInts.calls k _ _ t678 _ _ t681 true _ ?side1 ?side2 ?side3 ?side4 A12.out).mono ?_); (case side1 => exact cup (rR_q HO680.out).2.2); (case side2 => exact (rR_q HO680.out).2.1); (case side3 => exact cup (rR_q HO683.out).2.2); (case side4 => exact (rR_q HO683.out).2.1); rintro e w' ⟨rfl, ⟨nd, rfl⟩⟩; (try first | exact ⟨rfl, _, wD_q _ _ _⟩ | exact ⟨rfl, _, Eq.trans (wD_q _ _ _) (congrArg (World.drewN _) (nA_q _ _ _))⟩)) | (go_at_call 36; (with_reducible refine (spec_GuestsValid.calls k _ _ t672 false _ ?side1 ?side2 A14.out).mono ?_); (case side1 => exact cup (rR_q HO675.out).2.2); (case side2 => exact (rR_q HO675.out).2.1); rintro e w23 ⟨rfl, hb⟩; have n0_ := Ae_q (rO_q (rup HO675.out) hb); have n1_ := Ae_q (rO_q (rup HO677.out) hb); have n2_ := Ae_q (rO_q (rup HO680.out) hb); have n3_ := Ae_q (rO_q (rup HO683.out) hb); have n4_ := Ae_q (bT_q (bel HB.out) hb); clear HO675; clear HO677; clear HO680; clear HO683; clear HB; have HO675 := n0_; have HO677 := n1_; have HO680 := n2_; have HO683 := n3_; have HB := n4_; clear n0_ n1_ n2_ n3_ n4_; (try clear hb); (try clear hb2); (try clear hk); (try clear hi))); try go_wp2_with (first | (go_at_call 24; (with_reducible refine (laws_sameInts.calls k _ _ t678 _ _ t681 true _ ?side1 ?side2 ?side3 ?side4 A12.out).mono ?_); (case side1 => exact cup (rR_q HO680.out).2.2); (case side2 => exact (rR_q HO680.out).2.1); (case side3 => exact cup (rR_q HO683.out).2.2); (case side4 => exact (rR_q HO683.out).2.1); rintro e w' ⟨rfl, ⟨nd, rfl⟩⟩; (try first | exact ⟨rfl, _, wD_q _ _ _⟩ | exact ⟨rfl, _, Eq.trans (wD_q _ _ _) (congrArg (World.drewN _) (nA_q _ _ _))⟩)) | (go_at_call 36; (with_reducible refine (spec_GuestsValid.calls k _ _ t672 false _ ?side1 ?side2 A14.out).mono ?_); (case side1 => exact cup (rR_q HO675.out).2.2); (case side2 => exact (rR_q HO675.out).2.1); rintro e w23 ⟨rfl, hb⟩; have n0_ := Ae_q (rO_q (rup HO675.out) hb); have n1_ := Ae_q (rO_q (rup HO677.out) hb); have n2_ := Ae_q (rO_q (rup HO680.out) hb); have n3_ := Ae_q (rO_q (rup HO683.out) hb); have n4_ := Ae_q (bT_q (bel HB.out) hb); clear HO675; clear HO677; clear HO680; clear HO683; clear HB; have HO675 := n0_; have HO677 := n1_; have HO680 := n2_; have HO683 := n3_; have HB := n4_; clear n0_ n1_ n2_ n3_ n4_; (try clear hb); (try clear hb2); (try clear hk); (try clear hi))))
   go_meet
   case rel => exact ⟨_, (true), (by first | rfl | (simp; done) | (simp [*]; done)), H', ⟨by first | omega | exact nR_q _⟩, ⟨by (with_reducible repeat (first | apply rA_q | apply rN_q | apply rD_q)); exact HO677.out⟩, ⟨by (with_reducible repeat (first | apply rA_q | apply rN_q | apply rD_q)); exact rM_q HO680.out (fun _ hk => hk.2)⟩, ⟨by (with_reducible repeat (first | apply rA_q | apply rN_q | apply rD_q)); exact rM_q HO683.out (fun _ hk => hk.2)⟩, ⟨bel HB.out⟩⟩
  subst c15
  have H1 : ((spec_EventsValid.f k t673).bind fun t686 => (laws_FnWatchMade.j0 k t673 t678 t681 (!t686))) = some r := by rw [if_pos rfl] at H; exact H
  clear H
  have H := H1
  clear H1
  replace H := oB_q.mp H
  obtain ⟨t686, A160, H⟩ := H
  replace H : (laws_FnWatchMade.j0 k t673 t678 t681 (!t686)) = some r := H
  have A16 := Ae_q A160
  clear A160
  have H' := Ae_q H
  clear H
  obtain ⟨Ao17, co17, eo17⟩ := rS_q HO680.out
  subst eo17
  obtain ⟨Ao18, co18, eo18⟩ := rS_q HO683.out
  subst eo18
  go_wp2_with (first | (go_at_call 24; (with_reducible refine (laws_sameInts.calls k _ _ t678 _ _ t681 true _ ?side1 ?side2 ?side3 ?side4 A12.out).mono ?_); (case side1 => exact cup (rR_q HO680.out).2.2); (case side2 => exact (rR_q HO680.out).2.1); (case side3 => exact cup (rR_q HO683.out).2.2); (case side4 => exact (rR_q HO683.out).2.1); rintro e w' ⟨rfl, ⟨nd, rfl⟩⟩; (try first | exact ⟨rfl, _, wD_q _ _ _⟩ | exact ⟨rfl, _, Eq.trans (wD_q _ _ _) (congrArg (World.drewN _) (nA_q _ _ _))⟩)) | (go_at_call 36; (with_reducible refine (spec_GuestsValid.calls k _ _ t672 true _ ?side1 ?side2 A14.out).mono ?_); (case side1 => exact cup (rR_q HO675.out).2.2); (case side2 => exact (rR_q HO675.out).2.1); rintro e w19 ⟨rfl, hb⟩; have n0_ := Ae_q (rO_q (rup HO675.out) hb); have n1_ := Ae_q (rO_q (rup HO677.out) hb); have n2_ := Ae_q (rO_q (rup HO680.out) hb); have n3_ := Ae_q (rO_q (rup HO683.out) hb); have n4_ := Ae_q (bT_q (bel HB.out) hb); clear HO675; clear HO677; clear HO680; clear HO683; clear HB; have HO675 := n0_; have HO677 := n1_; have HO680 := n2_; have HO683 := n3_; have HB := n4_; clear n0_ n1_ n2_ n3_ n4_; (try clear hb); (try clear hb2); (try clear hk); (try clear hi)) | (go_at_call 17; (with_reducible refine (spec_EventsValid.calls k _ _ t673 t686 _ ?side1 ?side2 A16.out).mono ?_); (case side1 => exact cup (rR_q HO677.out).2.2); (case side2 => exact (rR_q HO677.out).2.1); rintro e w20 ⟨rfl, hb⟩; have n0_ := Ae_q (rO_q (rup HO675.out) hb); have n1_ := Ae_q (rO_q (rup HO677.out) hb); have n2_ := Ae_q (rO_q (rup HO680.out) hb); have n3_ := Ae_q (rO_q (rup HO683.out) hb); have n4_ := Ae_q (bT_q (bel HB.out) hb); clear HO675; clear HO677; clear HO680; clear HO683; clear HB; have HO675 := n0_; have HO677 := n1_; have HO680 := n2_; have HO683 := n3_; have HB := n4_; clear n0_ n1_ n2_ n3_ n4_; (try clear hb); (try clear hb2); (try clear hk); (try clear hi)))
  repeat (go_quiet (first | (go_at_call 24; (with_reducible refine (laws_sameInts.calls k _ _ t678 _ _ t681 true _ ?side1 ?side2 ?side3 ?side4 A12.out).mono ?_); (case side1 => exact cup (rR_q HO680.out).2.2); (case side2 => exact (rR_q HO680.out).2.1); (case side3 => exact cup (rR_q HO683.out).2.2); (case side4 => exact (rR_q HO683.out).2.1); rintro e w' ⟨rfl, ⟨nd, rfl⟩⟩; (try first | exact ⟨rfl, _, wD_q _ _ _⟩ | exact ⟨rfl, _, Eq.trans (wD_q _ _ _) (congrArg (World.drewN _) (nA_q _ _ _))⟩)) | (go_at_call 36; (with_reducible refine (spec_GuestsValid.calls k _ _ t672 true _ ?side1 ?side2 A14.out).mono ?_); (case side1 => exact cup (rR_q HO675.out).2.2); (case side2 => exact (rR_q HO675.out).2.1); rintro e w19 ⟨rfl, hb⟩; have n0_ := Ae_q (rO_q (rup HO675.out) hb); have n1_ := Ae_q (rO_q (rup HO677.out) hb); have n2_ := Ae_q (rO_q (rup HO680.out) hb); have n3_ := Ae_q (rO_q (rup HO683.out) hb); have n4_ := Ae_q (bT_q (bel HB.out) hb); clear HO675; clear HO677; clear HO680; clear HO683; clear HB; have HO675 := n0_; have HO677 := n1_; have HO680 := n2_; have HO683 := n3_; have HB := n4_; clear n0_ n1_ n2_ n3_ n4_; (try clear hb); (try clear hb2); (try clear hk); (try clear hi)) | (go_at_call 17; (with_reducible refine (spec_EventsValid.calls k _ _ t673 t686 _ ?side1 ?side2 A16.out).mono ?_); (case side1 => exact cup (rR_q HO677.out).2.2); (case side2 => exact (rR_q HO677.out).2.1); rintro e w20 ⟨rfl, hb⟩; have n0_ := Ae_q (rO_q (rup HO675.out) hb); have n1_ := Ae_q (rO_q (rup HO677.out) hb); have n2_ := Ae_q (rO_q (rup HO680.out) hb); have n3_ := Ae_q (rO_q (rup HO683.out) hb); have n4_ := Ae_q (bT_q (bel HB.out) hb); clear HO675; clear HO677; clear HO680; clear HO683; clear HB; have HO675 := n0_; have HO677 := n1_; have HO680 := n2_; have HO683 := n3_; have HB := n4_; clear n0_ n1_ n2_ n3_ n4_; (try clear hb); (try clear hb2); (try clear hk); (try clear hi))); try go_wp2_with (first | (go_at_call 24; (with_reducible refine (laws_sameInts.calls k _ _ t678 _ _ t681 true _ ?side1 ?side2 ?side3 ?side4 A12.out).mono ?_); (case side1 => exact cup (rR_q HO680.out).2.2); (case side2 => exact (rR_q HO680.out).2.1); (case side3 => exact cup (rR_q HO683.out).2.2); (case side4 => exact (rR_q HO683.out).2.1); rintro e w' ⟨rfl, ⟨nd, rfl⟩⟩; (try first | exact ⟨rfl, _, wD_q _ _ _⟩ | exact ⟨rfl, _, Eq.trans (wD_q _ _ _) (congrArg (World.drewN _) (nA_q _ _ _))⟩)) | (go_at_call 36; (with_reducible refine (spec_GuestsValid.calls k _ _ t672 true _ ?side1 ?side2 A14.out).mono ?_); (case side1 => exact cup (rR_q HO675.out).2.2); (case side2 => exact (rR_q HO675.out).2.1); rintro e w19 ⟨rfl, hb⟩; have n0_ := Ae_q (rO_q (rup HO675.out) hb); have n1_ := Ae_q (rO_q (rup HO677.out) hb); have n2_ := Ae_q (rO_q (rup HO680.out) hb); have n3_ := Ae_q (rO_q (rup HO683.out) hb); have n4_ := Ae_q (bT_q (bel HB.out) hb); clear HO675; clear HO677; clear HO680; clear HO683; clear HB; have HO675 := n0_; have HO677 := n1_; have HO680 := n2_; have HO683 := n3_; have HB := n4_; clear n0_ n1_ n2_ n3_ n4_; (try clear hb); (try clear hb2); (try clear hk); (try clear hi)) | (go_at_call 17; (with_reducible refine (spec_EventsValid.calls k _ _ t673 t686 _ ?side1 ?side2 A16.out).mono ?_); (case side1 => exact cup (rR_q HO677.out).2.2); (case side2 => exact (rR_q HO677.out).2.1); rintro e w20 ⟨rfl, hb⟩; have n0_ := Ae_q (rO_q (rup HO675.out) hb); have n1_ := Ae_q (rO_q (rup HO677.out) hb); have n2_ := Ae_q (rO_q (rup HO680.out) hb); have n3_ := Ae_q (rO_q (rup HO683.out) hb); have n4_ := Ae_q (bT_q (bel HB.out) hb); clear HO675; clear HO677; clear HO680; clear HO683; clear HB; have HO675 := n0_; have HO677 := n1_; have HO680 := n2_; have HO683 := n3_; have HB := n4_; clear n0_ n1_ n2_ n3_ n4_; (try clear hb); (try clear hb2); (try clear hk); (try clear hi))))
  go_meet
  case rel => exact ⟨_, (!t686), (by first | rfl | (simp; done) | (simp [*]; done)), H', ⟨by first | omega | exact nR_q _⟩, ⟨by (with_reducible repeat (first | apply rA_q | apply rN_q | apply rD_q)); exact HO677.out⟩, ⟨by (with_reducible repeat (first | apply rA_q | apply rN_q | apply rD_q)); exact rM_q HO680.out (fun _ hk => hk.2)⟩, ⟨by (with_reducible repeat (first | apply rA_q | apply rN_q | apply rD_q)); exact rM_q HO683.out (fun _ hk => hk.2)⟩, ⟨bel HB.out⟩⟩
 case rest =>
  clear HC6
  try clear c1
  try clear c2
  try clear c2b0
  try clear c2b1
  try clear p2
  try clear c12
  try clear c13
  try clear c15
  obtain ⟨kq, x37_5, rfl, HA, HJ5, HO_4, HO_5, HO_6, HB⟩ := hcut
  cases kq with
  | zero => exact absurd HA.out (by simp [laws_FnWatchMade.j0])
  | succ kj5 =>
   have H := HA.out
   clear HA
   simp only [laws_FnWatchMade.j0] at H
   by_cases c26 : x37_5 = true
   ·subst c26
    have H1 : ((laws_sameInts.f kj5 t678 t681).bind fun t687 => (some t687)) = some r := by rw [if_pos rfl] at H; exact H
    clear H
    have H := H1
    clear H1
    replace H := oB_q.mp H
    obtain ⟨t687, A270, H⟩ := H
    replace H : (some t687) = some r := H
    have A27 := Ae_q A270
    clear A270
    obtain rfl := oI_q H
    obtain ⟨Ao28, co28, eo28⟩ := rS_q HO_5.out
    subst eo28
    obtain ⟨Ao29, co29, eo29⟩ := rS_q HO_6.out
    subst eo29
    go_wp2_with (first | (go_at_call 24; (with_reducible refine (laws_sameInts.calls kj5 _ _ t678 _ _ t681 t687 _ ?side1 ?side2 ?side3 ?side4 A27.out).mono ?_); (case side1 => exact cup (rR_q HO_5.out).2.2); (case side2 => exact (rR_q HO_5.out).2.1); (case side3 => exact cup (rR_q HO_6.out).2.2); (case side4 => exact (rR_q HO_6.out).2.1); rintro e w' ⟨rfl, ⟨nd, rfl⟩⟩; (try first | exact ⟨rfl, _, wD_q _ _ _⟩ | exact ⟨rfl, _, Eq.trans (wD_q _ _ _) (congrArg (World.drewN _) (nA_q _ _ _))⟩)))
    repeat (go_quiet (first | (go_at_call 24; (with_reducible refine (laws_sameInts.calls kj5 _ _ t678 _ _ t681 t687 _ ?side1 ?side2 ?side3 ?side4 A27.out).mono ?_); (case side1 => exact cup (rR_q HO_5.out).2.2); (case side2 => exact (rR_q HO_5.out).2.1); (case side3 => exact cup (rR_q HO_6.out).2.2); (case side4 => exact (rR_q HO_6.out).2.1); rintro e w' ⟨rfl, ⟨nd, rfl⟩⟩; (try first | exact ⟨rfl, _, wD_q _ _ _⟩ | exact ⟨rfl, _, Eq.trans (wD_q _ _ _) (congrArg (World.drewN _) (nA_q _ _ _))⟩))); try go_wp2_with (first | (go_at_call 24; (with_reducible refine (laws_sameInts.calls kj5 _ _ t678 _ _ t681 t687 _ ?side1 ?side2 ?side3 ?side4 A27.out).mono ?_); (case side1 => exact cup (rR_q HO_5.out).2.2); (case side2 => exact (rR_q HO_5.out).2.1); (case side3 => exact cup (rR_q HO_6.out).2.2); (case side4 => exact (rR_q HO_6.out).2.1); rintro e w' ⟨rfl, ⟨nd, rfl⟩⟩; (try first | exact ⟨rfl, _, wD_q _ _ _⟩ | exact ⟨rfl, _, Eq.trans (wD_q _ _ _) (congrArg (World.drewN _) (nA_q _ _ _))⟩))))
    go_ret
    exact ⟨by first | rfl | (simp [eN_q, eS_q] <;> rfl) | (simp [*, eN_q, eS_q] <;> rfl), bel HB.out⟩
   replace c26 := fM_q.mpr c26
   subst c26
   have H1 : (laws_FnWatchMade.l0 kj5 t673 t678 0) = some r := by rw [if_neg (show ¬ (false = true) by decide)] at H; exact H
   clear H
   have H := H1
   clear H1
   have H' := Ae_q H
   clear H
   go_wp2
   repeat (go_quiet (fail); try go_wp2)
   go_loopg [7] kj5 (fun kq v7 w' => ∃ (x7_2 : Int), v7 = .int .i64 x7_2 ∧ Aside0 (laws_FnWatchMade.l0 kq t673 t678 x7_2 = some r) ∧ Aside0 (kq ≤ kj5) ∧ Aside0 (Kd.R k27 27 w' w.heap.size (fun _ => True) (.slice Ao9 t673.length co9) t673) ∧ Aside0 (Kd.R kI_q 3 w' w.heap.size (fun _ => True) v679 t678) ∧ Aside0 (Below w.heap.size w w'))
   case atStart => exact ⟨(0), (by first | rfl | (simp; done) | (simp [*]; done)), H', ⟨nR_q _⟩, ⟨by (with_reducible repeat (first | apply rA_q | apply rN_q | apply rD_q)); exact HO_4.out⟩, ⟨by (with_reducible repeat (first | apply rA_q | apply rN_q | apply rD_q)); exact rM_q HO_5.out (fun _ hk => trivial)⟩, ⟨bel HB.out⟩⟩
   case round =>
    clear H'
    try clear c1
    try clear c2
    try clear c2b0
    try clear c2b1
    try clear p2
    try clear c12
    try clear c13
    try clear c15
    try clear c26
    try clear p2
    obtain ⟨x7_2, rfl, HA, HK2, HO_4, HO_5, HB⟩ := hrel
    cases gk with
    | zero => exact absurd HA.out (by simp [laws_FnWatchMade.l0])
    | succ k2 =>
     have H := HA.out
     clear HA
     simp only [laws_FnWatchMade.l0] at H
     by_cases c30 : x7_2 < (t673.length : Int)
     rotate_left
     ·rw [if_neg c30] at H
      have c30b0 : decide (x7_2 < (t673.length : Int)) = false := dF_q c30
      clear c30
      obtain rfl := oI_q H
      go_wp2
      repeat (go_quiet (fail); try go_wp2)
      go_ret
      exact ⟨by first | rfl | (simp [eN_q, eS_q] <;> rfl) | (simp [*, eN_q, eS_q] <;> rfl), bel HB.out⟩
     rw [if_pos c30] at H
     have c30b0 : decide (x7_2 < (t673.length : Int)) = true := dT_q c30
     clear c30
     have H' := Ae_q H
     clear H
     go_wp2
     repeat (go_quiet (fail); try go_wp2)
     go_loopg [8, 9] k2 (fun kq v8 v9 w' => ∃ (x8_3 : Bool) (x9_3 : Int), v8 = .bool x8_3 ∧ v9 = .int .i64 x9_3 ∧ Aside0 (laws_FnWatchMade.l1 kq t673 t678 x7_2 x8_3 x9_3 = some r) ∧ Aside0 (kq ≤ k2) ∧ Aside0 (Kd.R k27 27 w' w.heap.size (fun _ => True) (.slice Ao9 t673.length co9) t673) ∧ Aside0 (Kd.R kI_q 3 w' w.heap.size (fun _ => True) v679 t678) ∧ Aside0 (Below w.heap.size w w'))
     case atStart => exact ⟨(false), (0), (by first | rfl | (simp; done) | (simp [*]; done)), (by first | rfl | (simp; done) | (simp [*]; done)), H', ⟨nR_q _⟩, ⟨by (with_reducible repeat (first | apply rA_q | apply rN_q | apply rD_q)); exact HO_4.out⟩, ⟨by (with_reducible repeat (first | apply rA_q | apply rN_q | apply rD_q)); exact HO_5.out⟩, ⟨bel HB.out⟩⟩
     case round =>
      clear H'
      try clear c1
      try clear c2
      try clear c2b0
      try clear c2b1
      try clear p2
      try clear c3
      try clear c12
      try clear c13
      try clear c15
      try clear c26
      try clear c30
      try clear c30b0
      try clear p2
      obtain ⟨x8_3, x9_3, rfl, rfl, HA, HK3, HO_4, HO_5, HB⟩ := hrel
      cases gk with
      | zero => exact absurd HA.out (by simp [laws_FnWatchMade.l1])
      | succ k3 =>
       have H := HA.out
       clear HA
       simp only [laws_FnWatchMade.l1] at H
       by_cases c31 : x9_3 < x7_2
       ·rw [if_pos c31] at H
        have c31b0 : decide (x9_3 < x7_2) = true := dT_q c31
        clear c31
        by_cases c32 : 0 ≤ x9_3
        rotate_left
        ·rw [if_neg c32] at H
         exact absurd H (by simp)
        rw [if_pos c32] at H
        have c32b0 : decide (0 ≤ x9_3) = true := dT_q c32
        clear c32
        by_cases c33 : x9_3 < (t673.length : Int)
        rotate_left
        ·rw [if_neg c33] at H
         exact absurd H (by simp)
        rw [if_pos c33] at H
        have c33b0 : decide (x9_3 < (t673.length : Int)) = true := dT_q c33
        clear c33
        by_cases c34 : 0 ≤ x7_2
        rotate_left
        ·rw [if_neg c34] at H
         exact absurd H (by simp)
        rw [if_pos c34] at H
        have c34b0 : decide (0 ≤ x7_2) = true := dT_q c34
        clear c34
        by_cases c35 : x7_2 < (t673.length : Int)
        rotate_left
        ·rw [if_neg c35] at H
         exact absurd H (by simp)
        rw [if_pos c35] at H
        have c35b0 : decide (x7_2 < (t673.length : Int)) = true := dT_q c35
        clear c35
        by_cases c36 : ((rd_T27 t673 x9_3).f2) = ((rd_T27 t673 x7_2).f2)
        rotate_left
        ·rw [if_neg c36] at H
         have c36b0 : (((rd_T27 t673 x9_3).f2) == ((rd_T27 t673 x7_2).f2)) = false := fN_q.mpr c36
         have c36b1 : (((rd_T27 t673 x9_3).f2) != ((rd_T27 t673 x7_2).f2)) = true := nI_q.mpr c36
         have H' := Ae_q H
         clear H
         have p688 : 0 ≤ (x9_3 : Int) := oD_q (by assumption)
         have q688 : x9_3 < (t673.length : Int) := oD_q (by assumption)
         obtain ⟨ad688, e688, hx688_0, hx688_1, hx688_2, hx688_3, hx688_4, hx688_5⟩ := at_T27 (rR_q HO_4.out).2.2 x9_3 p688 q688
         cases e688
         replace p688 := eq_true p688
         replace q688 := eq_true q688
         have p689 : 0 ≤ (x7_2 : Int) := oD_q (by assumption)
         have q689 : x7_2 < (t673.length : Int) := oD_q (by assumption)
         obtain ⟨ad689, e689, hx689_0, hx689_1, hx689_2, hx689_3, hx689_4, hx689_5⟩ := at_T27 (rR_q HO_4.out).2.2 x7_2 p689 q689
         obtain rfl : ad688 = ad689 := (by injection e689)
         replace p689 := eq_true p689
         replace q689 := eq_true q689
         go_wp2
         repeat (go_quiet (fail); try go_wp2)
         go_roundg k3
         case measure => have := HJ5.out; have := HK2.out; have := HK3.out; omega
         case rel => exact ⟨(x8_3), (wrap64 (x9_3 + 1)), (by first | rfl | (simp; done) | (simp [*]; done)), (by first | rfl | (simp; done) | (simp [*]; done)), H', ⟨by have := HJ5.out; have := HK2.out; have := HK3.out; omega⟩, ⟨by (with_reducible repeat (first | apply rA_q | apply rN_q | apply rD_q)); exact HO_4.out⟩, ⟨by (with_reducible repeat (first | apply rA_q | apply rN_q | apply rD_q)); exact HO_5.out⟩, ⟨bel HB.out⟩⟩
        rw [if_pos c36] at H
        have c36b0 : (((rd_T27 t673 x9_3).f2) == ((rd_T27 t673 x7_2).f2)) = true := beq_iff_eq.mpr c36
        have c36b1 : (((rd_T27 t673 x9_3).f2) != ((rd_T27 t673 x7_2).f2)) = false := nE_q.mpr c36
        clear c36
        by_cases c37 : ((rd_T27 t673 x9_3).f0) = 2
        ·rw [if_pos c37] at H
         have c37b0 : (((rd_T27 t673 x9_3).f0) == 2) = true := beq_iff_eq.mpr c37
         have c37b1 : (((rd_T27 t673 x9_3).f0) != 2) = false := nE_q.mpr c37
         clear c37
         have H' := Ae_q H
         clear H
         have p688 : 0 ≤ (x9_3 : Int) := oD_q (by assumption)
         have q688 : x9_3 < (t673.length : Int) := oD_q (by assumption)
         obtain ⟨ad688, e688, hx688_0, hx688_1, hx688_2, hx688_3, hx688_4, hx688_5⟩ := at_T27 (rR_q HO_4.out).2.2 x9_3 p688 q688
         cases e688
         replace p688 := eq_true p688
         replace q688 := eq_true q688
         have p689 : 0 ≤ (x7_2 : Int) := oD_q (by assumption)
         have q689 : x7_2 < (t673.length : Int) := oD_q (by assumption)
         obtain ⟨ad689, e689, hx689_0, hx689_1, hx689_2, hx689_3, hx689_4, hx689_5⟩ := at_T27 (rR_q HO_4.out).2.2 x7_2 p689 q689
         obtain rfl : ad688 = ad689 := (by injection e689)
         replace p689 := eq_true p689
         replace q689 := eq_true q689
         have p690 : 0 ≤ (x9_3 : Int) := oD_q (by assumption)
         have q690 : x9_3 < (t673.length : Int) := oD_q (by assumption)
         obtain ⟨ad690, e690, hx690_0, hx690_1, hx690_2, hx690_3, hx690_4, hx690_5⟩ := at_T27 (rR_q HO_4.out).2.2 x9_3 p690 q690
         obtain rfl : ad688 = ad690 := (by injection e690)
         replace p690 := eq_true p690
         replace q690 := eq_true q690
         go_wp2
         repeat (go_quiet (fail); try go_wp2)
         go_roundg k3
         case measure => have := HJ5.out; have := HK2.out; have := HK3.out; omega
         case rel => exact ⟨(x8_3), (wrap64 (x9_3 + 1)), (by first | rfl | (simp; done) | (simp [*]; done)), (by first | rfl | (simp; done) | (simp [*]; done)), H', ⟨by have := HJ5.out; have := HK2.out; have := HK3.out; omega⟩, ⟨by (with_reducible repeat (first | apply rA_q | apply rN_q | apply rD_q)); exact HO_4.out⟩, ⟨by (with_reducible repeat (first | apply rA_q | apply rN_q | apply rD_q)); exact HO_5.out⟩, ⟨bel HB.out⟩⟩
        rw [if_neg c37] at H
        have c37b0 : (((rd_T27 t673 x9_3).f0) == 2) = false := fN_q.mpr c37
        have c37b1 : (((rd_T27 t673 x9_3).f0) != 2) = true := nI_q.mpr c37
        have H' := Ae_q H
        clear H
        have p688 : 0 ≤ (x9_3 : Int) := oD_q (by assumption)
        have q688 : x9_3 < (t673.length : Int) := oD_q (by assumption)
        obtain ⟨ad688, e688, hx688_0, hx688_1, hx688_2, hx688_3, hx688_4, hx688_5⟩ := at_T27 (rR_q HO_4.out).2.2 x9_3 p688 q688
        cases e688
        replace p688 := eq_true p688
        replace q688 := eq_true q688
        have p689 : 0 ≤ (x7_2 : Int) := oD_q (by assumption)
        have q689 : x7_2 < (t673.length : Int) := oD_q (by assumption)
        obtain ⟨ad689, e689, hx689_0, hx689_1, hx689_2, hx689_3, hx689_4, hx689_5⟩ := at_T27 (rR_q HO_4.out).2.2 x7_2 p689 q689
        obtain rfl : ad688 = ad689 := (by injection e689)
        replace p689 := eq_true p689
        replace q689 := eq_true q689
        have p690 : 0 ≤ (x9_3 : Int) := oD_q (by assumption)
        have q690 : x9_3 < (t673.length : Int) := oD_q (by assumption)
        obtain ⟨ad690, e690, hx690_0, hx690_1, hx690_2, hx690_3, hx690_4, hx690_5⟩ := at_T27 (rR_q HO_4.out).2.2 x9_3 p690 q690
        obtain rfl : ad688 = ad690 := (by injection e690)
        replace p690 := eq_true p690
        replace q690 := eq_true q690
        have p691 : 0 ≤ (x9_3 : Int) := oD_q (by assumption)
        have q691 : x9_3 < (t673.length : Int) := oD_q (by assumption)
        obtain ⟨ad691, e691, hx691_0, hx691_1, hx691_2, hx691_3, hx691_4, hx691_5⟩ := at_T27 (rR_q HO_4.out).2.2 x9_3 p691 q691
        obtain rfl : ad688 = ad691 := (by injection e691)
        replace p691 := eq_true p691
        replace q691 := eq_true q691
        go_wp2
        repeat (go_quiet (fail); try go_wp2)
        go_roundg k3
        case measure => have := HJ5.out; have := HK2.out; have := HK3.out; omega
        case rel => exact ⟨((((rd_T27 t673 x9_3).f0) == 1)), (wrap64 (x9_3 + 1)), (by first | rfl | (simp; done) | (simp [*]; done)), (by first | rfl | (simp; done) | (simp [*]; done)), H', ⟨by have := HJ5.out; have := HK2.out; have := HK3.out; omega⟩, ⟨by (with_reducible repeat (first | apply rA_q | apply rN_q | apply rD_q)); exact HO_4.out⟩, ⟨by (with_reducible repeat (first | apply rA_q | apply rN_q | apply rD_q)); exact HO_5.out⟩, ⟨bel HB.out⟩⟩
       rw [if_neg c31] at H
       have c31b0 : decide (x9_3 < x7_2) = false := dF_q c31
       clear c31
       by_cases c38 : 0 ≤ x7_2
       rotate_left
       ·rw [if_neg c38] at H
        exact absurd H (by simp)
       rw [if_pos c38] at H
       have c38b0 : decide (0 ≤ x7_2) = true := dT_q c38
       clear c38
       by_cases c39 : x7_2 < (t673.length : Int)
       rotate_left
       ·rw [if_neg c39] at H
        exact absurd H (by simp)
       rw [if_pos c39] at H
       have c39b0 : decide (x7_2 < (t673.length : Int)) = true := dT_q c39
       clear c39
       by_cases c40 : ((rd_T27 t673 x7_2).f0) = 1
       ·rw [if_pos c40] at H
        have c40b0 : (((rd_T27 t673 x7_2).f0) == 1) = true := beq_iff_eq.mpr c40
        have c40b1 : (((rd_T27 t673 x7_2).f0) != 1) = false := nE_q.mpr c40
        clear c40
        replace H := oB_q.mp H
        obtain ⟨t693, A410, H⟩ := H
        replace H : (if (t693 != x8_3) = true then (some false) else (if ((rd_T27 t673 x7_2).f0) = 3 then ((laws_hasInt.f k3 t678 x7_2).bind fun t695 => (if (t695 == x8_3) = true then (some false) else (laws_FnWatchMade.l0 k3 t673 t678 (wrap64 (x7_2 + 1))))) else (laws_FnWatchMade.l0 k3 t673 t678 (wrap64 (x7_2 + 1))))) = some r := H
        have A41 := Ae_q A410
        clear A410
        by_cases c42 : (t693 != x8_3) = true
        ·rw [if_pos c42] at H
         have c42b0 : (t693 != x8_3) = true := c42
         (try (have c42b1 : decide (t693 = x8_3) = false := by simpa using c42))
         (try (have c42b2 : (t693 == x8_3) = false := by simpa using c42))
         (try (have c42b3 : ¬ (t693 = x8_3) := by simpa using c42))
         clear c42
         obtain rfl := oI_q H
         have p692 : 0 ≤ (x7_2 : Int) := oD_q (by assumption)
         have q692 : x7_2 < (t673.length : Int) := oD_q (by assumption)
         obtain ⟨ad692, e692, hx692_0, hx692_1, hx692_2, hx692_3, hx692_4, hx692_5⟩ := at_T27 (rR_q HO_4.out).2.2 x7_2 p692 q692
         cases e692
         replace p692 := eq_true p692
         replace q692 := eq_true q692
         obtain ⟨Ao43, co43, eo43⟩ := rS_q HO_5.out
         subst eo43
         go_wp2_with (first | (go_at_call 32; (with_reducible refine (laws_hasInt.calls k3 _ _ t678 x7_2 t693 _ ?side1 ?side2 A41.out).mono ?_); (case side1 => exact cup (rR_q HO_5.out).2.2); (case side2 => exact (rR_q HO_5.out).2.1); rintro e w' ⟨rfl, ⟨nd, rfl⟩⟩; (try first | exact ⟨rfl, _, wD_q _ _ _⟩ | exact ⟨rfl, _, Eq.trans (wD_q _ _ _) (congrArg (World.drewN _) (nA_q _ _ _))⟩)))
         repeat (go_quiet (first | (go_at_call 32; (with_reducible refine (laws_hasInt.calls k3 _ _ t678 x7_2 t693 _ ?side1 ?side2 A41.out).mono ?_); (case side1 => exact cup (rR_q HO_5.out).2.2); (case side2 => exact (rR_q HO_5.out).2.1); rintro e w' ⟨rfl, ⟨nd, rfl⟩⟩; (try first | exact ⟨rfl, _, wD_q _ _ _⟩ | exact ⟨rfl, _, Eq.trans (wD_q _ _ _) (congrArg (World.drewN _) (nA_q _ _ _))⟩))); try go_wp2_with (first | (go_at_call 32; (with_reducible refine (laws_hasInt.calls k3 _ _ t678 x7_2 t693 _ ?side1 ?side2 A41.out).mono ?_); (case side1 => exact cup (rR_q HO_5.out).2.2); (case side2 => exact (rR_q HO_5.out).2.1); rintro e w' ⟨rfl, ⟨nd, rfl⟩⟩; (try first | exact ⟨rfl, _, wD_q _ _ _⟩ | exact ⟨rfl, _, Eq.trans (wD_q _ _ _) (congrArg (World.drewN _) (nA_q _ _ _))⟩))))
         go_ret
         exact ⟨by first | rfl | (simp [eN_q, eS_q] <;> rfl) | (simp [*, eN_q, eS_q] <;> rfl), bel HB.out⟩
        rw [if_neg c42] at H
        have c42b0 : (t693 != x8_3) = false := by simpa using c42
        (try (have c42b1 : decide (t693 = x8_3) = true := by simpa using c42))
        (try (have c42b2 : (t693 == x8_3) = true := by simpa using c42))
        clear c42
        by_cases c44 : ((rd_T27 t673 x7_2).f0) = 3
        ·exact absurd (c44.symm.trans (beq_iff_eq.mp c40b0)) (by decide)
        rw [if_neg c44] at H
        have c44b0 : (((rd_T27 t673 x7_2).f0) == 3) = false := fN_q.mpr c44
        have c44b1 : (((rd_T27 t673 x7_2).f0) != 3) = true := nI_q.mpr c44
        have H' := Ae_q H
        clear H
        have p692 : 0 ≤ (x7_2 : Int) := oD_q (by assumption)
        have q692 : x7_2 < (t673.length : Int) := oD_q (by assumption)
        obtain ⟨ad692, e692, hx692_0, hx692_1, hx692_2, hx692_3, hx692_4, hx692_5⟩ := at_T27 (rR_q HO_4.out).2.2 x7_2 p692 q692
        cases e692
        replace p692 := eq_true p692
        replace q692 := eq_true q692
        obtain ⟨Ao49, co49, eo49⟩ := rS_q HO_5.out
        subst eo49
        go_wp2_with (first | (go_at_call 32; (with_reducible refine (laws_hasInt.calls k3 _ _ t678 x7_2 t693 _ ?side1 ?side2 A41.out).mono ?_); (case side1 => exact cup (rR_q HO_5.out).2.2); (case side2 => exact (rR_q HO_5.out).2.1); rintro e w' ⟨rfl, ⟨nd, rfl⟩⟩; (try first | exact ⟨rfl, _, wD_q _ _ _⟩ | exact ⟨rfl, _, Eq.trans (wD_q _ _ _) (congrArg (World.drewN _) (nA_q _ _ _))⟩); have p694 : 0 ≤ (x7_2 : Int) := oD_q (by assumption); have q694 : x7_2 < (t673.length : Int) := oD_q (by assumption); obtain ⟨ad694, e694, hx694_0, hx694_1, hx694_2, hx694_3, hx694_4, hx694_5⟩ := at_T27 (rR_q HO_4.out).2.2 x7_2 p694 q694; obtain rfl : ad692 = ad694 := (by injection e694); replace p694 := eq_true p694; replace q694 := eq_true q694))
        repeat (go_quiet (first | (go_at_call 32; (with_reducible refine (laws_hasInt.calls k3 _ _ t678 x7_2 t693 _ ?side1 ?side2 A41.out).mono ?_); (case side1 => exact cup (rR_q HO_5.out).2.2); (case side2 => exact (rR_q HO_5.out).2.1); rintro e w' ⟨rfl, ⟨nd, rfl⟩⟩; (try first | exact ⟨rfl, _, wD_q _ _ _⟩ | exact ⟨rfl, _, Eq.trans (wD_q _ _ _) (congrArg (World.drewN _) (nA_q _ _ _))⟩); have p694 : 0 ≤ (x7_2 : Int) := oD_q (by assumption); have q694 : x7_2 < (t673.length : Int) := oD_q (by assumption); obtain ⟨ad694, e694, hx694_0, hx694_1, hx694_2, hx694_3, hx694_4, hx694_5⟩ := at_T27 (rR_q HO_4.out).2.2 x7_2 p694 q694; obtain rfl : ad692 = ad694 := (by injection e694); replace p694 := eq_true p694; replace q694 := eq_true q694)); try go_wp2_with (first | (go_at_call 32; (with_reducible refine (laws_hasInt.calls k3 _ _ t678 x7_2 t693 _ ?side1 ?side2 A41.out).mono ?_); (case side1 => exact cup (rR_q HO_5.out).2.2); (case side2 => exact (rR_q HO_5.out).2.1); rintro e w' ⟨rfl, ⟨nd, rfl⟩⟩; (try first | exact ⟨rfl, _, wD_q _ _ _⟩ | exact ⟨rfl, _, Eq.trans (wD_q _ _ _) (congrArg (World.drewN _) (nA_q _ _ _))⟩); have p694 : 0 ≤ (x7_2 : Int) := oD_q (by assumption); have q694 : x7_2 < (t673.length : Int) := oD_q (by assumption); obtain ⟨ad694, e694, hx694_0, hx694_1, hx694_2, hx694_3, hx694_4, hx694_5⟩ := at_T27 (rR_q HO_4.out).2.2 x7_2 p694 q694; obtain rfl : ad692 = ad694 := (by injection e694); replace p694 := eq_true p694; replace q694 := eq_true q694)))
        go_roundg k3
        case measure => have := HJ5.out; have := HK2.out; have := HK3.out; omega
        case rel => exact ⟨(wrap64 (x7_2 + 1)), (by first | rfl | (simp; done) | (simp [*]; done)), H', ⟨by have := HJ5.out; have := HK2.out; have := HK3.out; omega⟩, ⟨by (with_reducible repeat (first | apply rA_q | apply rN_q | apply rD_q)); exact HO_4.out⟩, ⟨by (with_reducible repeat (first | apply rA_q | apply rN_q | apply rD_q)); exact HO_5.out⟩, ⟨bel HB.out⟩⟩
       rw [if_neg c40] at H
       have c40b0 : (((rd_T27 t673 x7_2).f0) == 1) = false := fN_q.mpr c40
       have c40b1 : (((rd_T27 t673 x7_2).f0) != 1) = true := nI_q.mpr c40
       by_cases c50 : ((rd_T27 t673 x7_2).f0) = 3
       rotate_left
       ·rw [if_neg c50] at H
        have c50b0 : (((rd_T27 t673 x7_2).f0) == 3) = false := fN_q.mpr c50
        have c50b1 : (((rd_T27 t673 x7_2).f0) != 3) = true := nI_q.mpr c50
        have H' := Ae_q H
        clear H
        have p692 : 0 ≤ (x7_2 : Int) := oD_q (by assumption)
        have q692 : x7_2 < (t673.length : Int) := oD_q (by assumption)
        obtain ⟨ad692, e692, hx692_0, hx692_1, hx692_2, hx692_3, hx692_4, hx692_5⟩ := at_T27 (rR_q HO_4.out).2.2 x7_2 p692 q692
        cases e692
        replace p692 := eq_true p692
        replace q692 := eq_true q692
        have p696 : 0 ≤ (x7_2 : Int) := oD_q (by assumption)
        have q696 : x7_2 < (t673.length : Int) := oD_q (by assumption)
        obtain ⟨ad696, e696, hx696_0, hx696_1, hx696_2, hx696_3, hx696_4, hx696_5⟩ := at_T27 (rR_q HO_4.out).2.2 x7_2 p696 q696
        obtain rfl : ad692 = ad696 := (by injection e696)
        replace p696 := eq_true p696
        replace q696 := eq_true q696
        go_wp2
        repeat (go_quiet (fail); try go_wp2)
        go_roundg k3
        case measure => have := HJ5.out; have := HK2.out; have := HK3.out; omega
        case rel => exact ⟨(wrap64 (x7_2 + 1)), (by first | rfl | (simp; done) | (simp [*]; done)), H', ⟨by have := HJ5.out; have := HK2.out; have := HK3.out; omega⟩, ⟨by (with_reducible repeat (first | apply rA_q | apply rN_q | apply rD_q)); exact HO_4.out⟩, ⟨by (with_reducible repeat (first | apply rA_q | apply rN_q | apply rD_q)); exact HO_5.out⟩, ⟨bel HB.out⟩⟩
       rw [if_pos c50] at H
       have c50b0 : (((rd_T27 t673 x7_2).f0) == 3) = true := beq_iff_eq.mpr c50
       have c50b1 : (((rd_T27 t673 x7_2).f0) != 3) = false := nE_q.mpr c50
       clear c50
       replace H := oB_q.mp H
       obtain ⟨t697, A510, H⟩ := H
       replace H : (if (t697 == x8_3) = true then (some false) else (laws_FnWatchMade.l0 k3 t673 t678 (wrap64 (x7_2 + 1)))) = some r := H
       have A51 := Ae_q A510
       clear A510
       by_cases c52 : (t697 == x8_3) = true
       ·rw [if_pos c52] at H
        have c52b0 : (t697 == x8_3) = true := c52
        (try (have c52b1 : decide (t697 = x8_3) = true := by simpa using c52))
        (try (have c52b2 : (t697 == x8_3) = true := by simpa using c52))
        clear c52
        obtain rfl := oI_q H
        have p692 : 0 ≤ (x7_2 : Int) := oD_q (by assumption)
        have q692 : x7_2 < (t673.length : Int) := oD_q (by assumption)
        obtain ⟨ad692, e692, hx692_0, hx692_1, hx692_2, hx692_3, hx692_4, hx692_5⟩ := at_T27 (rR_q HO_4.out).2.2 x7_2 p692 q692
        cases e692
        replace p692 := eq_true p692
        replace q692 := eq_true q692
        have p696 : 0 ≤ (x7_2 : Int) := oD_q (by assumption)
        have q696 : x7_2 < (t673.length : Int) := oD_q (by assumption)
        obtain ⟨ad696, e696, hx696_0, hx696_1, hx696_2, hx696_3, hx696_4, hx696_5⟩ := at_T27 (rR_q HO_4.out).2.2 x7_2 p696 q696
        obtain rfl : ad692 = ad696 := (by injection e696)
        replace p696 := eq_true p696
        replace q696 := eq_true q696
        obtain ⟨Ao53, co53, eo53⟩ := rS_q HO_5.out
        subst eo53
        go_wp2_with (first | (go_at_call 32; (with_reducible refine (laws_hasInt.calls k3 _ _ t678 x7_2 t697 _ ?side1 ?side2 A51.out).mono ?_); (case side1 => exact cup (rR_q HO_5.out).2.2); (case side2 => exact (rR_q HO_5.out).2.1); rintro e w' ⟨rfl, ⟨nd, rfl⟩⟩; (try first | exact ⟨rfl, _, wD_q _ _ _⟩ | exact ⟨rfl, _, Eq.trans (wD_q _ _ _) (congrArg (World.drewN _) (nA_q _ _ _))⟩)))
        repeat (go_quiet (first | (go_at_call 32; (with_reducible refine (laws_hasInt.calls k3 _ _ t678 x7_2 t697 _ ?side1 ?side2 A51.out).mono ?_); (case side1 => exact cup (rR_q HO_5.out).2.2); (case side2 => exact (rR_q HO_5.out).2.1); rintro e w' ⟨rfl, ⟨nd, rfl⟩⟩; (try first | exact ⟨rfl, _, wD_q _ _ _⟩ | exact ⟨rfl, _, Eq.trans (wD_q _ _ _) (congrArg (World.drewN _) (nA_q _ _ _))⟩))); try go_wp2_with (first | (go_at_call 32; (with_reducible refine (laws_hasInt.calls k3 _ _ t678 x7_2 t697 _ ?side1 ?side2 A51.out).mono ?_); (case side1 => exact cup (rR_q HO_5.out).2.2); (case side2 => exact (rR_q HO_5.out).2.1); rintro e w' ⟨rfl, ⟨nd, rfl⟩⟩; (try first | exact ⟨rfl, _, wD_q _ _ _⟩ | exact ⟨rfl, _, Eq.trans (wD_q _ _ _) (congrArg (World.drewN _) (nA_q _ _ _))⟩))))
        go_ret
        exact ⟨by first | rfl | (simp [eN_q, eS_q] <;> rfl) | (simp [*, eN_q, eS_q] <;> rfl), bel HB.out⟩
       rw [if_neg c52] at H
       have c52b0 : (t697 == x8_3) = false := by simpa using c52
       (try (have c52b1 : decide (t697 = x8_3) = false := by simpa using c52))
       (try (have c52b2 : (t697 == x8_3) = false := by simpa using c52))
       (try (have c52b3 : ¬ (t697 = x8_3) := by simpa using c52))
       clear c52
       have H' := Ae_q H
       clear H
       have p692 : 0 ≤ (x7_2 : Int) := oD_q (by assumption)
       have q692 : x7_2 < (t673.length : Int) := oD_q (by assumption)
       obtain ⟨ad692, e692, hx692_0, hx692_1, hx692_2, hx692_3, hx692_4, hx692_5⟩ := at_T27 (rR_q HO_4.out).2.2 x7_2 p692 q692
       cases e692
       replace p692 := eq_true p692
       replace q692 := eq_true q692
       have p696 : 0 ≤ (x7_2 : Int) := oD_q (by assumption)
       have q696 : x7_2 < (t673.length : Int) := oD_q (by assumption)
       obtain ⟨ad696, e696, hx696_0, hx696_1, hx696_2, hx696_3, hx696_4, hx696_5⟩ := at_T27 (rR_q HO_4.out).2.2 x7_2 p696 q696
       obtain rfl : ad692 = ad696 := (by injection e696)
       replace p696 := eq_true p696
       replace q696 := eq_true q696
       obtain ⟨Ao54, co54, eo54⟩ := rS_q HO_5.out
       subst eo54
       go_wp2_with (first | (go_at_call 32; (with_reducible refine (laws_hasInt.calls k3 _ _ t678 x7_2 t697 _ ?side1 ?side2 A51.out).mono ?_); (case side1 => exact cup (rR_q HO_5.out).2.2); (case side2 => exact (rR_q HO_5.out).2.1); rintro e w' ⟨rfl, ⟨nd, rfl⟩⟩; (try first | exact ⟨rfl, _, wD_q _ _ _⟩ | exact ⟨rfl, _, Eq.trans (wD_q _ _ _) (congrArg (World.drewN _) (nA_q _ _ _))⟩)))
       repeat (go_quiet (first | (go_at_call 32; (with_reducible refine (laws_hasInt.calls k3 _ _ t678 x7_2 t697 _ ?side1 ?side2 A51.out).mono ?_); (case side1 => exact cup (rR_q HO_5.out).2.2); (case side2 => exact (rR_q HO_5.out).2.1); rintro e w' ⟨rfl, ⟨nd, rfl⟩⟩; (try first | exact ⟨rfl, _, wD_q _ _ _⟩ | exact ⟨rfl, _, Eq.trans (wD_q _ _ _) (congrArg (World.drewN _) (nA_q _ _ _))⟩))); try go_wp2_with (first | (go_at_call 32; (with_reducible refine (laws_hasInt.calls k3 _ _ t678 x7_2 t697 _ ?side1 ?side2 A51.out).mono ?_); (case side1 => exact cup (rR_q HO_5.out).2.2); (case side2 => exact (rR_q HO_5.out).2.1); rintro e w' ⟨rfl, ⟨nd, rfl⟩⟩; (try first | exact ⟨rfl, _, wD_q _ _ _⟩ | exact ⟨rfl, _, Eq.trans (wD_q _ _ _) (congrArg (World.drewN _) (nA_q _ _ _))⟩))))
       go_roundg k3
       case measure => have := HJ5.out; have := HK2.out; have := HK3.out; omega
       case rel => exact ⟨(wrap64 (x7_2 + 1)), (by first | rfl | (simp; done) | (simp [*]; done)), H', ⟨by have := HJ5.out; have := HK2.out; have := HK3.out; omega⟩, ⟨by (with_reducible repeat (first | apply rA_q | apply rN_q | apply rD_q)); exact HO_4.out⟩, ⟨by (with_reducible repeat (first | apply rA_q | apply rN_q | apply rD_q)); exact HO_5.out⟩, ⟨bel HB.out⟩⟩

def laws_FnWatchMade.Pure : Prop := ∀ (l0 : List Int), l0.length ≤ maxLen → l0.length * 1 ≤ 140737488351232 → (∀ x ∈ l0, (Lit.int .u8 x).wf = true) → ∃ k, laws_FnWatchMade.f k l0 = some true
theorem laws_FnWatchMade.walk (P : laws_FnWatchMade.Pure) (a0 : Option Addr) (len0 cap0 : Nat) (z0 : List Int) (w : World) (w0 : (a0 = none ∧ len0 = 0 ∧ cap0 = 0 ∧ z0 = []) ∨ ∃ x, a0 = some x ∧ len0 ≤ cap0 ∧ cap0 ≤ maxLen ∧ z0.length = cap0 ∧ (∀ i, i < z0.length → w.cell? (x.add i) = some (.int .u8 (z0.getD i 0))) ∧ ∀ n ∈ z0, (Lit.int .u8 n).wf = true) (y0 : len0 * 1 ≤ 140737488351232) :
    Calls Try.prog 12 #[.slice a0 len0 cap0] w fun e w' => e = .returned (.bool true) ∧ Below w.heap.size w w' := by
 obtain ⟨l0, rfl, hr0, hm0, hw0, hc0⟩ := ReadsInt.ofRowC w0
 obtain ⟨k, h⟩ := P l0 hm0 y0 hw0
 refine (laws_FnWatchMade.calls k _ _ l0 true w (Kd.C_of_reads (d := (0 : Int)) (h1 := fun _ => rfl) hr0) hc0 h).mono ?_
 rintro e w' ⟨rfl, hd⟩
 exact ⟨rfl, hd⟩

end Go.Proofs.Ytnhenfmegpjigaa.PEv
