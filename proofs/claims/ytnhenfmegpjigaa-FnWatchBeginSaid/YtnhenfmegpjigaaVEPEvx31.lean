import Derived.Test.YtnhenfmegpjigaaVEPEvx0
import Derived.Test.YtnhenfmegpjigaaVEPEvx6
import Derived.Test.YtnhenfmegpjigaaVEPEvx10
import Derived.Test.YtnhenfmegpjigaaVEPEvx17
import Derived.Test.YtnhenfmegpjigaaVEPEvx20
import Derived.Test.YtnhenfmegpjigaaVEPEvx25
import Derived.Test.YtnhenfmegpjigaaVEPEvx26
import Derived.Test.YtnhenfmegpjigaaVEPEvx29
namespace Go.Proofs.Ytnhenfmegpjigaa.PEv
open Go.RowKit Go.Proofs.YtnhenfmegpjigaaW.PrintWords Go.Proofs.YtnhenfmegpjigaaW.PrintLast Go.Proofs.YtnhenfmegpjigaaW.PrintMore
attribute [local go_sem] max2_int min2_int max_two min_two max_three min_three max_four min_four
set_option linter.unusedVariables false
set_option linter.unusedSimpArgs false

mutual
def laws_FnWatchBegin.j0 : Nat → List Int → List Int → Bool → Option (Bool)
 | 0, _, _, _ => none
 | k + 1, x0, x1, x19 => if x19 = true then (some true) else ((spec_DrawWatchWrong.f k x0).bind fun bt613 => ((impl_WatchWrong.f k bt613.1 bt613.2).bind fun t619 => ((spec_WatchWrong.f k bt613.1 bt613.2).bind fun t622 => ((laws_sameInts.f k t619 t622).bind fun t625 => (if t625 = true then ((spec_GuestsValid.f k bt613.1).bind fun t626 => (if t626 = true then ((spec_EventsValid.f k bt613.2).bind fun t627 => (laws_FnWatchBegin.j1 k x1 bt613.1 bt613.2 t619 t622 (!t627))) else (laws_FnWatchBegin.j1 k x1 bt613.1 bt613.2 t619 t622 true))) else (laws_FnWatchBegin.j1 k x1 bt613.1 bt613.2 t619 t622 true))))))
def laws_FnWatchBegin.j1 : Nat → List Int → List (S50) → List (S27) → List Int → List Int → Bool → Option (Bool)
 | 0, _, _, _, _, _, _ => none
 | k + 1, x1, x5, x6, x7, x8, x44 => if x44 = true then ((laws_sameInts.f k x7 x8).bind fun t628 => (some t628)) else (if (wrap64 ((x6.length : Int) + 1)) = 0 then (none) else (if 0 ≤ ((x1.length : Int) % (wrap64 ((x6.length : Int) + 1))) then (if ((x1.length : Int) % (wrap64 ((x6.length : Int) + 1))) ≤ (x6.length : Int) then ((impl_WatchWrong.f k x5 (x6.take (((x1.length : Int) % (wrap64 ((x6.length : Int) + 1))) : Int).toNat)).bind fun t633 => (laws_FnWatchBegin.l0 k x7 ((x1.length : Int) % (wrap64 ((x6.length : Int) + 1))) t633 0)) else (none)) else (none)))
def laws_FnWatchBegin.l0 : Nat → List Int → Int → List Int → Int → Option (Bool)
 | 0, _, _, _, _ => none
 | k + 1, x7, x9, x10, x11 => if x11 < x9 then ((laws_hasInt.f k x10 x11).bind fun t636 => ((laws_hasInt.f k x7 x11).bind fun t637 => (if (t636 != t637) = true then (some false) else (laws_FnWatchBegin.l0 k x7 x9 x10 (wrap64 (x11 + 1)))))) else (some (decide ((x10.length : Int) ≤ (x7.length : Int))))
end
def laws_FnWatchBegin.f (k : Nat) (l0 : List Int) (l1 : List Int) : Option (Bool) := if (l0.length : Int) > 1048576 then (laws_FnWatchBegin.j0 k l0 l1 true) else (laws_FnWatchBegin.j0 k l0 l1 (decide ((l1.length : Int) > 1048576)))
set_option maxHeartbeats 8000000 in
set_option maxRecDepth 100000 in
theorem laws_FnWatchBegin.calls (k : Nat) (A0 : Option Addr) (c0 : Nat) (l0 : List Int) (A1 : Option Addr) (c1 : Nat) (l1 : List Int) (r : Bool) (w : World) (hr0 : Kd.C (Kd.int .u8) w A0 l0.length l0) (hc0 : l0.length ≤ c0) (hr1 : Kd.C (Kd.int .u8) w A1 l1.length l1) (hc1 : l1.length ≤ c1) (h : laws_FnWatchBegin.f k l0 l1 = some r) :
    Calls Try.prog 10 #[.slice A0 l0.length c0, .slice A1 l1.length c1] w fun e w' => e = .returned (.bool r) ∧ Below w.heap.size w w' := by
 have HR0 := Ae_q hr0
 have HC0 := Ae_q hc0
 clear hr0 hc0
 have HR1 := Ae_q hr1
 have HC1 := Ae_q hc1
 clear hr1 hc1
 have HB := Ae_q (bR_q w.heap.size w)
 have H : (if (l0.length : Int) > 1048576 then (laws_FnWatchBegin.j0 k l0 l1 true) else (laws_FnWatchBegin.j0 k l0 l1 (decide ((l1.length : Int) > 1048576)))) = some r := h
 clear h
 have HC3 := Ae_q H
 clear H
 go_enter Try.func10, Try.ntmps10
 go_upto_region 1 with (fail)
 go_cut [19] (fun v19 wc => ∃ (kq : Nat) (x19_2 : Bool), v19 = .bool x19_2 ∧ Aside0 (laws_FnWatchBegin.j0 kq l0 l1 x19_2 = some r) ∧ Aside0 (kq ≤ k) ∧ Aside0 (Below w.heap.size w wc))
 case first =>
  have H := HC3.out
  clear HC3
  by_cases c4 : (l0.length : Int) > 1048576
  ·rw [if_pos c4] at H
   have c4b0 : decide (1048576 < (l0.length : Int)) = true := dT_q c4
   have c4b1 : decide (1048576 < l0.length) = true := dT_q (by omega)
   clear c4
   (first | rw [c4b0] | (simp only [i64_w, i32_w]; rw [c4b0]) | skip)
   have H' := Ae_q H
   clear H
   go_wp2
   go_meet
   case rel => exact ⟨_, (true), (by first | rfl | (simp; done) | (simp [*]; done)), H', ⟨by first | omega | exact nR_q _⟩, ⟨bel HB.out⟩⟩
  rw [if_neg c4] at H
  have c4b0 : decide (1048576 < (l0.length : Int)) = false := dF_q c4
  have c4b1 : decide (1048576 < l0.length) = false := dF_q (by omega)
  clear c4
  (first | rw [c4b0] | (simp only [i64_w, i32_w]; rw [c4b0]) | skip)
  have H' := Ae_q H
  clear H
  go_wp2
  go_meet
  case rel => exact ⟨_, (decide ((l1.length : Int) > 1048576)), (by first | rfl | (simp; done) | (simp [*]; done)), H', ⟨by first | omega | exact nR_q _⟩, ⟨bel HB.out⟩⟩
 case rest =>
  clear HC3
  try clear c1
  try clear p2
  try clear c4
  try clear c4b0
  try clear c4b1
  obtain ⟨kq, x19_2, rfl, HA, HJ2, HB⟩ := hcut
  cases kq with
  | zero => exact absurd HA.out (by simp [laws_FnWatchBegin.j0])
  | succ kj2 =>
   have H := HA.out
   clear HA
   simp only [laws_FnWatchBegin.j0] at H
   by_cases c5 : x19_2 = true
   ·subst c5
    have H1 : (some true) = some r := by rw [if_pos rfl] at H; exact H
    clear H
    have H := H1
    clear H1
    obtain rfl := oI_q H
    go_wp2
    go_ret
    exact ⟨by first | rfl | (simp [eN_q, eS_q] <;> rfl) | (simp [*, eN_q, eS_q] <;> rfl), bel HB.out⟩
   replace c5 := fM_q.mpr c5
   subst c5
   have H1 : ((spec_DrawWatchWrong.f kj2 l0).bind fun bt613 => ((impl_WatchWrong.f kj2 bt613.1 bt613.2).bind fun t619 => ((spec_WatchWrong.f kj2 bt613.1 bt613.2).bind fun t622 => ((laws_sameInts.f kj2 t619 t622).bind fun t625 => (if t625 = true then ((spec_GuestsValid.f kj2 bt613.1).bind fun t626 => (if t626 = true then ((spec_EventsValid.f kj2 bt613.2).bind fun t627 => (laws_FnWatchBegin.j1 kj2 l1 bt613.1 bt613.2 t619 t622 (!t627))) else (laws_FnWatchBegin.j1 kj2 l1 bt613.1 bt613.2 t619 t622 true))) else (laws_FnWatchBegin.j1 kj2 l1 bt613.1 bt613.2 t619 t622 true)))))) = some r := by rw [if_neg (show ¬ (false = true) by decide)] at H; exact H
   clear H
   have H := H1
   clear H1
   replace H := oB_q.mp H
   obtain ⟨⟨t613, t614⟩, A60, H⟩ := H
   replace H : ((impl_WatchWrong.f kj2 t613 t614).bind fun t619 => ((spec_WatchWrong.f kj2 t613 t614).bind fun t622 => ((laws_sameInts.f kj2 t619 t622).bind fun t625 => (if t625 = true then ((spec_GuestsValid.f kj2 t613).bind fun t626 => (if t626 = true then ((spec_EventsValid.f kj2 t614).bind fun t627 => (laws_FnWatchBegin.j1 kj2 l1 t613 t614 t619 t622 (!t627))) else (laws_FnWatchBegin.j1 kj2 l1 t613 t614 t619 t622 true))) else (laws_FnWatchBegin.j1 kj2 l1 t613 t614 t619 t622 true))))) = some r := H
   have A6 := Ae_q A60
   clear A60
   replace H := oB_q.mp H
   obtain ⟨t619, A70, H⟩ := H
   replace H : ((spec_WatchWrong.f kj2 t613 t614).bind fun t622 => ((laws_sameInts.f kj2 t619 t622).bind fun t625 => (if t625 = true then ((spec_GuestsValid.f kj2 t613).bind fun t626 => (if t626 = true then ((spec_EventsValid.f kj2 t614).bind fun t627 => (laws_FnWatchBegin.j1 kj2 l1 t613 t614 t619 t622 (!t627))) else (laws_FnWatchBegin.j1 kj2 l1 t613 t614 t619 t622 true))) else (laws_FnWatchBegin.j1 kj2 l1 t613 t614 t619 t622 true)))) = some r := H
   have A7 := Ae_q A70
   clear A70
   replace H := oB_q.mp H
   obtain ⟨t622, A80, H⟩ := H
   replace H : ((laws_sameInts.f kj2 t619 t622).bind fun t625 => (if t625 = true then ((spec_GuestsValid.f kj2 t613).bind fun t626 => (if t626 = true then ((spec_EventsValid.f kj2 t614).bind fun t627 => (laws_FnWatchBegin.j1 kj2 l1 t613 t614 t619 t622 (!t627))) else (laws_FnWatchBegin.j1 kj2 l1 t613 t614 t619 t622 true))) else (laws_FnWatchBegin.j1 kj2 l1 t613 t614 t619 t622 true))) = some r := H
   have A8 := Ae_q A80
   clear A80
   have HC9 := Ae_q H
   clear H
   go_upto_region 6 with (first | ((with_reducible refine gC_q (f := 33) rfl ?_); refine gL_q (some 22) rfl rfl Try.func33 (by kernel_rfl) rfl #[.slice A0 l0.length c0] rfl (by (try simp only [lM_q, lC_q, lN_q]); first | done | rfl | (simp only [lD_q, lT_q]; rfl)) ?_; (with_reducible refine (spec_DrawWatchWrong.calls kj2 _ _ l0 t613 t614 _ ?side1 ?side2 A6.out).mono ?_); (case side1 => exact cup (cB_q HR0.out HB.out)); (case side2 => exact HC0.out); rintro e w10 ⟨v615, v617, rfl, ho0, ho1, hb⟩; refine ⟨_, rfl, ?_⟩; have n0_ := Ae_q (rL_q ho0 (bZ_q (bel HB.out))); have n1_ := Ae_q (rL_q ho1 (bZ_q (bel HB.out))); have n2_ := Ae_q (bT_q (bel HB.out) hb); clear HB; have HO616 := n0_; have HO618 := n1_; have HB := n2_; clear n0_ n1_ n2_; (try clear hb); (try clear hb2); (try clear hk); (try clear hi); (try clear ho0); (try clear ho1); obtain ⟨Ao11, co11, eo11⟩ := rS_q HO616.out; subst eo11; obtain ⟨Ao12, co12, eo12⟩ := rS_q HO618.out; subst eo12) | ((with_reducible refine gC_q (f := 34) rfl ?_); refine gL_q (some 27) rfl rfl Try.func34 (by kernel_rfl) rfl #[.slice Ao11 t613.length co11, .slice Ao12 t614.length co12] rfl (by (try simp only [lM_q, lC_q, lN_q]); first | done | rfl | (simp only [lD_q, lT_q]; rfl)) ?_; (with_reducible refine (impl_WatchWrong.calls kj2 _ _ t613 _ _ t614 t619 _ ?side1 ?side2 ?side3 ?side4 A7.out).mono ?_); (case side1 => exact cup (rR_q HO616.out).2.2); (case side2 => exact (rR_q HO616.out).2.1); (case side3 => exact cup (rR_q HO618.out).2.2); (case side4 => exact (rR_q HO618.out).2.1); rintro e w13 ⟨v620, rfl, ho0, hb⟩; refine ⟨_, rfl, ?_⟩; have n0_ := Ae_q (rO_q (rup HO616.out) hb); have n1_ := Ae_q (rO_q (rup HO618.out) hb); have n2_ := Ae_q (rL_q ho0 (bZ_q (bel HB.out))); have n3_ := Ae_q (bT_q (bel HB.out) hb); clear HO616; clear HO618; clear HB; have HO616 := n0_; have HO618 := n1_; have HO621 := n2_; have HB := n3_; clear n0_ n1_ n2_ n3_; (try clear hb); (try clear hb2); (try clear hk); (try clear hi); (try clear ho0)) | ((with_reducible refine gC_q (f := 35) rfl ?_); refine gL_q (some 30) rfl rfl Try.func35 (by kernel_rfl) rfl #[.slice Ao11 t613.length co11, .slice Ao12 t614.length co12] rfl (by (try simp only [lM_q, lC_q, lN_q]); first | done | rfl | (simp only [lD_q, lT_q]; rfl)) ?_; (with_reducible refine (spec_WatchWrong.calls kj2 _ _ t613 _ _ t614 t622 _ ?side1 ?side2 ?side3 ?side4 A8.out).mono ?_); (case side1 => exact cup (rR_q HO616.out).2.2); (case side2 => exact (rR_q HO616.out).2.1); (case side3 => exact cup (rR_q HO618.out).2.2); (case side4 => exact (rR_q HO618.out).2.1); rintro e w14 ⟨v623, rfl, ho0, hb⟩; refine ⟨_, rfl, ?_⟩; have n0_ := Ae_q (rO_q (rup HO616.out) hb); have n1_ := Ae_q (rO_q (rup HO618.out) hb); have n2_ := Ae_q (rE_q (rup HO621.out) (rB_q ho0) hb); have n3_ := Ae_q (rL_q (rW_q ho0 (rT_q (rup HO621.out))) (bZ_q (bel HB.out))); have n4_ := Ae_q (bT_q (bel HB.out) hb); clear HO616; clear HO618; clear HO621; clear HB; have HO616 := n0_; have HO618 := n1_; have HO621 := n2_; have HO624 := n3_; have HB := n4_; clear n0_ n1_ n2_ n3_ n4_; (try clear hb); (try clear hb2); (try clear hk); (try clear hi); (try clear ho0)))
   (try simp only [Act.put, sA_q, sZ_q, sS_q])
   go_cut [44] (fun v44 wc => ∃ (kq : Nat) (x44_8 : Bool), v44 = .bool x44_8 ∧ Aside0 (laws_FnWatchBegin.j1 kq l1 t613 t614 t619 t622 x44_8 = some r) ∧ Aside0 (kq ≤ kj2) ∧ Aside0 (Kd.R k50 50 wc w.heap.size (fun _ => True) (.slice Ao11 t613.length co11) t613) ∧ Aside0 (Kd.R k27 27 wc w.heap.size (fun _ => True) (.slice Ao12 t614.length co12) t614) ∧ Aside0 (Kd.R kI_q 3 wc w.heap.size (fun k_ => some k_ ≠ (v623 : Value).ownBlock) v620 t619) ∧ Aside0 (Kd.R kI_q 3 wc w.heap.size (fun k_ => some k_ ≠ (v620 : Value).ownBlock) v623 t622) ∧ Aside0 (Below w.heap.size w wc))
   case first =>
    have H := HC9.out
    clear HC9
    replace H := oB_q.mp H
    obtain ⟨t625, A150, H⟩ := H
    replace H : (if t625 = true then ((spec_GuestsValid.f kj2 t613).bind fun t626 => (if t626 = true then ((spec_EventsValid.f kj2 t614).bind fun t627 => (laws_FnWatchBegin.j1 kj2 l1 t613 t614 t619 t622 (!t627))) else (laws_FnWatchBegin.j1 kj2 l1 t613 t614 t619 t622 true))) else (laws_FnWatchBegin.j1 kj2 l1 t613 t614 t619 t622 true)) = some r := H
    have A15 := Ae_q A150
    clear A150
    by_cases c16 : t625 = true
    rotate_left
    ·replace c16 := fM_q.mpr c16
     subst c16
     have H1 : (laws_FnWatchBegin.j1 kj2 l1 t613 t614 t619 t622 true) = some r := by rw [if_neg (show ¬ (false = true) by decide)] at H; exact H
     clear H
     have H := H1
     clear H1
     have H' := Ae_q H
     clear H
     obtain ⟨Ao27, co27, eo27⟩ := rS_q HO621.out
     subst eo27
     obtain ⟨Ao28, co28, eo28⟩ := rS_q HO624.out
     subst eo28
     go_wp2_with (first | ((with_reducible refine gC_q (f := 24) rfl ?_); refine gL_q (some 33) rfl rfl Try.func24 (by kernel_rfl) rfl #[.slice Ao27 t619.length co27, .slice Ao28 t622.length co28] rfl (by (try simp only [lM_q, lC_q, lN_q]); first | done | rfl | (simp only [lD_q, lT_q]; rfl)) ?_; (with_reducible refine (laws_sameInts.calls kj2 _ _ t619 _ _ t622 false _ ?side1 ?side2 ?side3 ?side4 A15.out).mono ?_); (case side1 => exact cup (rR_q HO621.out).2.2); (case side2 => exact (rR_q HO621.out).2.1); (case side3 => exact cup (rR_q HO624.out).2.2); (case side4 => exact (rR_q HO624.out).2.1); rintro e w' ⟨rfl, ⟨nd, rfl⟩⟩; refine ⟨_, rfl, ?_⟩))
     go_meet
     case rel => exact ⟨_, (true), (by first | rfl | (simp; done) | (simp [*]; done)), H', ⟨by have := HJ2.out; first | omega | exact nR_q _⟩, ⟨by (with_reducible repeat (first | apply rA_q | apply rN_q | apply rD_q)); exact HO616.out⟩, ⟨by (with_reducible repeat (first | apply rA_q | apply rN_q | apply rD_q)); exact HO618.out⟩, ⟨by (with_reducible repeat (first | apply rA_q | apply rN_q | apply rD_q)); exact rM_q HO621.out (fun _ hk => hk.2)⟩, ⟨by (with_reducible repeat (first | apply rA_q | apply rN_q | apply rD_q)); exact rM_q HO624.out (fun _ hk => hk.2)⟩, ⟨bel HB.out⟩⟩
    subst c16
    have H1 : ((spec_GuestsValid.f kj2 t613).bind fun t626 => (if t626 = true then ((spec_EventsValid.f kj2 t614).bind fun t627 => (laws_FnWatchBegin.j1 kj2 l1 t613 t614 t619 t622 (!t627))) else (laws_FnWatchBegin.j1 kj2 l1 t613 t614 t619 t622 true))) = some r := by rw [if_pos rfl] at H; exact H
    clear H
    have H := H1
    clear H1
    replace H := oB_q.mp H
    obtain ⟨t626, A170, H⟩ := H
    replace H : (if t626 = true then ((spec_EventsValid.f kj2 t614).bind fun t627 => (laws_FnWatchBegin.j1 kj2 l1 t613 t614 t619 t622 (!t627))) else (laws_FnWatchBegin.j1 kj2 l1 t613 t614 t619 t622 true)) = some r := H
    have A17 := Ae_q A170
    clear A170
    by_cases c18 : t626 = true
    rotate_left
    ·replace c18 := fM_q.mpr c18
     subst c18
     have H1 : (laws_FnWatchBegin.j1 kj2 l1 t613 t614 t619 t622 true) = some r := by rw [if_neg (show ¬ (false = true) by decide)] at H; exact H
     clear H
     have H := H1
     clear H1
     have H' := Ae_q H
     clear H
     obtain ⟨Ao24, co24, eo24⟩ := rS_q HO621.out
     subst eo24
     obtain ⟨Ao25, co25, eo25⟩ := rS_q HO624.out
     subst eo25
     go_wp2_with (first | ((with_reducible refine gC_q (f := 24) rfl ?_); refine gL_q (some 33) rfl rfl Try.func24 (by kernel_rfl) rfl #[.slice Ao24 t619.length co24, .slice Ao25 t622.length co25] rfl (by (try simp only [lM_q, lC_q, lN_q]); first | done | rfl | (simp only [lD_q, lT_q]; rfl)) ?_; (with_reducible refine (laws_sameInts.calls kj2 _ _ t619 _ _ t622 true _ ?side1 ?side2 ?side3 ?side4 A15.out).mono ?_); (case side1 => exact cup (rR_q HO621.out).2.2); (case side2 => exact (rR_q HO621.out).2.1); (case side3 => exact cup (rR_q HO624.out).2.2); (case side4 => exact (rR_q HO624.out).2.1); rintro e w' ⟨rfl, ⟨nd, rfl⟩⟩; refine ⟨_, rfl, ?_⟩) | (go_at_call 36; (with_reducible refine (spec_GuestsValid.calls kj2 _ _ t613 false _ ?side1 ?side2 A17.out).mono ?_); (case side1 => exact cup (rR_q HO616.out).2.2); (case side2 => exact (rR_q HO616.out).2.1); rintro e w26 ⟨rfl, hb⟩; have n0_ := Ae_q (rO_q (rup HO616.out) hb); have n1_ := Ae_q (rO_q (rup HO618.out) hb); have n2_ := Ae_q (rO_q (rup HO621.out) hb); have n3_ := Ae_q (rO_q (rup HO624.out) hb); have n4_ := Ae_q (bT_q (bel HB.out) hb); clear HO616; clear HO618; clear HO621; clear HO624; clear HB; have HO616 := n0_; have HO618 := n1_; have HO621 := n2_; have HO624 := n3_; have HB := n4_; clear n0_ n1_ n2_ n3_ n4_; (try clear hb); (try clear hb2); (try clear hk); (try clear hi)))
     go_meet
     case rel => exact ⟨_, (true), (by first | rfl | (simp; done) | (simp [*]; done)), H', ⟨by have := HJ2.out; first | omega | exact nR_q _⟩, ⟨by (with_reducible repeat (first | apply rA_q | apply rN_q | apply rD_q)); exact HO616.out⟩, ⟨by (with_reducible repeat (first | apply rA_q | apply rN_q | apply rD_q)); exact HO618.out⟩, ⟨by (with_reducible repeat (first | apply rA_q | apply rN_q | apply rD_q)); exact rM_q HO621.out (fun _ hk => hk.2)⟩, ⟨by (with_reducible repeat (first | apply rA_q | apply rN_q | apply rD_q)); exact rM_q HO624.out (fun _ hk => hk.2)⟩, ⟨bel HB.out⟩⟩
    subst c18
    have H1 : ((spec_EventsValid.f kj2 t614).bind fun t627 => (laws_FnWatchBegin.j1 kj2 l1 t613 t614 t619 t622 (!t627))) = some r := by rw [if_pos rfl] at H; exact H
    clear H
    have H := H1
    clear H1
    replace H := oB_q.mp H
    obtain ⟨t627, A190, H⟩ := H
    replace H : (laws_FnWatchBegin.j1 kj2 l1 t613 t614 t619 t622 (!t627)) = some r := H
    have A19 := Ae_q A190
    clear A190
    have H' := Ae_q H
    clear H
    obtain ⟨Ao20, co20, eo20⟩ := rS_q HO621.out
    subst eo20
    obtain ⟨Ao21, co21, eo21⟩ := rS_q HO624.out
    subst eo21
    go_wp2_with (first | ((with_reducible refine gC_q (f := 24) rfl ?_); refine gL_q (some 33) rfl rfl Try.func24 (by kernel_rfl) rfl #[.slice Ao20 t619.length co20, .slice Ao21 t622.length co21] rfl (by (try simp only [lM_q, lC_q, lN_q]); first | done | rfl | (simp only [lD_q, lT_q]; rfl)) ?_; (with_reducible refine (laws_sameInts.calls kj2 _ _ t619 _ _ t622 true _ ?side1 ?side2 ?side3 ?side4 A15.out).mono ?_); (case side1 => exact cup (rR_q HO621.out).2.2); (case side2 => exact (rR_q HO621.out).2.1); (case side3 => exact cup (rR_q HO624.out).2.2); (case side4 => exact (rR_q HO624.out).2.1); rintro e w' ⟨rfl, ⟨nd, rfl⟩⟩; refine ⟨_, rfl, ?_⟩) | (go_at_call 36; (with_reducible refine (spec_GuestsValid.calls kj2 _ _ t613 true _ ?side1 ?side2 A17.out).mono ?_); (case side1 => exact cup (rR_q HO616.out).2.2); (case side2 => exact (rR_q HO616.out).2.1); rintro e w22 ⟨rfl, hb⟩; have n0_ := Ae_q (rO_q (rup HO616.out) hb); have n1_ := Ae_q (rO_q (rup HO618.out) hb); have n2_ := Ae_q (rO_q (rup HO621.out) hb); have n3_ := Ae_q (rO_q (rup HO624.out) hb); have n4_ := Ae_q (bT_q (bel HB.out) hb); clear HO616; clear HO618; clear HO621; clear HO624; clear HB; have HO616 := n0_; have HO618 := n1_; have HO621 := n2_; have HO624 := n3_; have HB := n4_; clear n0_ n1_ n2_ n3_ n4_; (try clear hb); (try clear hb2); (try clear hk); (try clear hi)) | (go_at_call 17; (with_reducible refine (spec_EventsValid.calls kj2 _ _ t614 t627 _ ?side1 ?side2 A19.out).mono ?_); (case side1 => exact cup (rR_q HO618.out).2.2); (case side2 => exact (rR_q HO618.out).2.1); rintro e w23 ⟨rfl, hb⟩; have n0_ := Ae_q (rO_q (rup HO616.out) hb); have n1_ := Ae_q (rO_q (rup HO618.out) hb); have n2_ := Ae_q (rO_q (rup HO621.out) hb); have n3_ := Ae_q (rO_q (rup HO624.out) hb); have n4_ := Ae_q (bT_q (bel HB.out) hb); clear HO616; clear HO618; clear HO621; clear HO624; clear HB; have HO616 := n0_; have HO618 := n1_; have HO621 := n2_; have HO624 := n3_; have HB := n4_; clear n0_ n1_ n2_ n3_ n4_; (try clear hb); (try clear hb2); (try clear hk); (try clear hi)))
    go_meet
    case rel => exact ⟨_, (!t627), (by first | rfl | (simp; done) | (simp [*]; done)), H', ⟨by have := HJ2.out; first | omega | exact nR_q _⟩, ⟨by (with_reducible repeat (first | apply rA_q | apply rN_q | apply rD_q)); exact HO616.out⟩, ⟨by (with_reducible repeat (first | apply rA_q | apply rN_q | apply rD_q)); exact HO618.out⟩, ⟨by (with_reducible repeat (first | apply rA_q | apply rN_q | apply rD_q)); exact rM_q HO621.out (fun _ hk => hk.2)⟩, ⟨by (with_reducible repeat (first | apply rA_q | apply rN_q | apply rD_q)); exact rM_q HO624.out (fun _ hk => hk.2)⟩, ⟨bel HB.out⟩⟩
   case rest =>
    clear HC9
    try clear c1
    try clear c2
    try clear p2
    try clear c3
    try clear c4
    try clear c4b0
    try clear c4b1
    try clear c5
    try clear c10
    try clear c16
    try clear c18
    try clear c24
    try clear p2
    obtain ⟨kq, x44_8, rfl, HA, HJ8, HO_5, HO_6, HO_7, HO_8, HB⟩ := hcut
    cases kq with
    | zero => exact absurd HA.out (by simp [laws_FnWatchBegin.j1])
    | succ kj8 =>
     have H := HA.out
     clear HA
     simp only [laws_FnWatchBegin.j1] at H
     by_cases c29 : x44_8 = true
     ·subst c29
      have H1 : ((laws_sameInts.f kj8 t619 t622).bind fun t628 => (some t628)) = some r := by rw [if_pos rfl] at H; exact H
      clear H
      have H := H1
      clear H1
      replace H := oB_q.mp H
      obtain ⟨t628, A300, H⟩ := H
      replace H : (some t628) = some r := H
      have A30 := Ae_q A300
      clear A300
      obtain rfl := oI_q H
      obtain ⟨Ao31, co31, eo31⟩ := rS_q HO_7.out
      subst eo31
      obtain ⟨Ao32, co32, eo32⟩ := rS_q HO_8.out
      subst eo32
      go_wp2_with (first | ((with_reducible refine gC_q (f := 24) rfl ?_); refine gL_q (some 47) rfl rfl Try.func24 (by kernel_rfl) rfl #[.slice Ao31 t619.length co31, .slice Ao32 t622.length co32] rfl (by (try simp only [lM_q, lC_q, lN_q]); first | done | rfl | (simp only [lD_q, lT_q]; rfl)) ?_; (with_reducible refine (laws_sameInts.calls kj8 _ _ t619 _ _ t622 t628 _ ?side1 ?side2 ?side3 ?side4 A30.out).mono ?_); (case side1 => exact cup (rR_q HO_7.out).2.2); (case side2 => exact (rR_q HO_7.out).2.1); (case side3 => exact cup (rR_q HO_8.out).2.2); (case side4 => exact (rR_q HO_8.out).2.1); rintro e w' ⟨rfl, ⟨nd, rfl⟩⟩; refine ⟨_, rfl, ?_⟩))
      go_ret
      exact ⟨by first | rfl | (simp [eN_q, eS_q] <;> rfl) | (simp [*, eN_q, eS_q] <;> rfl), bel HB.out⟩
     replace c29 := fM_q.mpr c29
     subst c29
     have H1 : (if (wrap64 ((t614.length : Int) + 1)) = 0 then (none) else (if 0 ≤ ((l1.length : Int) % (wrap64 ((t614.length : Int) + 1))) then (if ((l1.length : Int) % (wrap64 ((t614.length : Int) + 1))) ≤ (t614.length : Int) then ((impl_WatchWrong.f kj8 t613 (t614.take (((l1.length : Int) % (wrap64 ((t614.length : Int) + 1))) : Int).toNat)).bind fun t633 => (laws_FnWatchBegin.l0 kj8 t619 ((l1.length : Int) % (wrap64 ((t614.length : Int) + 1))) t633 0)) else (none)) else (none))) = some r := by rw [if_neg (show ¬ (false = true) by decide)] at H; exact H
     clear H
     have H := H1
     clear H1
     by_cases c33 : (wrap64 ((t614.length : Int) + 1)) = 0
     ·rw [if_pos c33] at H
      exact absurd H (by simp)
     rw [if_neg c33] at H
     have c33b0 : ((wrap64 ((t614.length : Int) + 1)) == 0) = false := fN_q.mpr c33
     have c33b1 : ((wrap64 ((t614.length : Int) + 1)) != 0) = true := nI_q.mpr c33
     obtain ⟨ji34, hji34⟩ : ∃ j_ : Int, ((l1.length : Int) % (wrap64 ((t614.length : Int) + 1))) = j_ := ⟨_, rfl⟩
     replace H : (if 0 ≤ (ji34) then (if (ji34) ≤ (t614.length : Int) then ((impl_WatchWrong.f kj8 t613 (t614.take ((ji34) : Int).toNat)).bind fun t633 => (laws_FnWatchBegin.l0 kj8 t619 ji34 t633 0)) else (none)) else (none)) = some r := by first | (rw [hji34] at H; exact H) | (simp only [hji34] at H ⊢; exact H)
     by_cases c35 : 0 ≤ (ji34)
     rotate_left
     ·rw [if_neg c35] at H
      exact absurd H (by simp)
     rw [if_pos c35] at H
     have c35b0 := eq_true c35
     have c35b1 : decide (0 ≤ (ji34)) = true := dT_q c35
     clear c35
     by_cases c36 : (ji34) ≤ (t614.length : Int)
     rotate_left
     ·rw [if_neg c36] at H
      exact absurd H (by simp)
     rw [if_pos c36] at H
     have c36b0 := eq_true c36
     have c36b1 : decide ((ji34) ≤ (t614.length : Int)) = true := dT_q c36
     clear c36
     obtain ⟨y629, hy629⟩ : ∃ y_ : List (S27), y_ = (t614.take ((ji34) : Int).toNat) := ⟨_, rfl⟩
     replace H : ((impl_WatchWrong.f kj8 t613 y629).bind fun t633 => (laws_FnWatchBegin.l0 kj8 t619 ji34 t633 0)) = some r := by first | (rw [hy629]; with_reducible exact H) | (have H2_ := (oS_q _ _).symm.trans H; rw [hy629]; with_reducible exact H2_) | (have H2_ := (oS_q _ _).symm.trans H; with_reducible exact H2_) | with_reducible exact H | (rw [hy629]; exact H) | exact H
     have Ny629 := Ae_q hy629
     clear hy629
     replace H := oB_q.mp H
     obtain ⟨t633, A370, H⟩ := H
     replace H : (laws_FnWatchBegin.l0 kj8 t619 ji34 t633 0) = some r := H
     have A37 := Ae_q A370
     clear A370
     have H' := Ae_q H
     clear H
     have q38 : ((ji34) : Int) ≤ ((t614.length : Int) : Int) := oD_q (by assumption)
     obtain ⟨i038, hi038, _, hsz38, _⟩ := info_parts info27
     have hroom38 : t614.length ≤ co12 := (rR_q HO_6.out).2.1
     have hC38 : Kd.C k27 _ Ao12 t614.length t614 := (rR_q HO_6.out).2.2
     have hcut38 := cut_to (P := Try.prog) 23 27 .i64 Try.underlying23 hi038 Ao12 t614.length co12 (ji34) (oD_q (by assumption)) q38 hroom38
     have hr38 := Kd.C_take (m := ((ji34) : Int).toNat) hC38 (by omega)
     have hy38 : y629.length = ((ji34) : Int).toNat := (by rw [Ny629.out, lT_q]; omega)
     rw [← Ny629.out] at hr38
     rw [← hy38] at hcut38
     have HR632 := Ae_q hr38
     have HC632 := Ae_q (show y629.length ≤ co12 from by omega)
     clear hr38 hC38 hroom38 hi038 hsz38
     have KY38 := Ae_q hy38
     clear hy38
     have KL38 := Ae_q (show ((ji34) : Int).toNat ≤ t614.length from by omega)
     replace q38 := eq_true q38
     go_wp2_with (first | ((with_reducible refine gC_q (f := 34) rfl ?_); refine gL_q (some 58) rfl rfl Try.func34 (by kernel_rfl) rfl #[.slice Ao11 t613.length co11, .slice Ao12 y629.length co12] rfl (by (try simp only [lM_q, lC_q, lN_q]); first | done | rfl | (simp only [lD_q, lT_q]; rfl)) ?_; (with_reducible refine (impl_WatchWrong.calls kj8 _ _ t613 _ _ y629 t633 _ ?side1 ?side2 ?side3 ?side4 A37.out).mono ?_); (case side1 => exact cup (rR_q HO_5.out).2.2); (case side2 => exact (rR_q HO_5.out).2.1); (case side3 => repeat (first | exact (by repeat (first | (with_reducible exact HR632.out) | (with_reducible refine cA_q ?_ _) | (with_reducible refine cN_q ?_ _) | (with_reducible refine cD_q ?_) | exact HR632.out)) | (with_reducible refine cA_q ?_ _) | (with_reducible refine cN_q ?_ _) | (with_reducible refine cD_q ?_))); (case side4 => exact HC632.out); rintro e w39 ⟨v634, rfl, ho0, hb⟩; refine ⟨_, rfl, ?_⟩; have n0_ := Ae_q (rO_q (rup HO_5.out) hb); have n1_ := Ae_q (rO_q (rup HO_6.out) hb); have n2_ := Ae_q (rE_q (rup HO_7.out) (rB_q ho0) hb); have n3_ := Ae_q (rE_q (rup HO_8.out) (rB_q ho0) hb); have n4_ := Ae_q (rL_q (rW_q (rW_q ho0 (rT_q (rup HO_7.out))) (rT_q (rup HO_8.out))) (bZ_q (bel HB.out))); have n5_ := Ae_q (cB_q (by repeat (first | (with_reducible exact HR632.out) | (with_reducible refine cA_q ?_ _) | (with_reducible refine cN_q ?_ _) | (with_reducible refine cD_q ?_) | exact HR632.out)) hb); have n6_ := Ae_q (bT_q (bel HB.out) hb); clear HO_5; clear HO_6; clear HO_7; clear HO_8; clear HR632; clear HB; have HO_5 := n0_; have HO_6 := n1_; have HO_7 := n2_; have HO_8 := n3_; have HO635 := n4_; have HR632 := n5_; have HB := n6_; clear n0_ n1_ n2_ n3_ n4_ n5_ n6_; (try clear hb); (try clear hb2); (try clear hk); (try clear hi); (try clear ho0)))
     go_loopg [11] kj8 (fun kq v11 w' => ∃ (x11_3 : Int), v11 = .int .i64 x11_3 ∧ Aside0 (laws_FnWatchBegin.l0 kq t619 ji34 t633 x11_3 = some r) ∧ Aside0 (kq ≤ kj8) ∧ Aside0 (Kd.R kI_q 3 w' w.heap.size (fun k_ => some k_ ≠ (v634 : Value).ownBlock) v620 t619) ∧ Aside0 (Kd.R kI_q 3 w' w.heap.size (fun k_ => some k_ ≠ (v620 : Value).ownBlock) v634 t633) ∧ Aside0 (Kd.C k27 w' Ao12 y629.length y629) ∧ Aside0 (Below w.heap.size w w'))
     case atStart => exact ⟨(0), (by first | rfl | (simp; done) | (simp [*]; done)), H', ⟨nR_q _⟩, ⟨by (with_reducible repeat (first | apply rA_q | apply rN_q | apply rD_q)); exact rM_q HO_7.out (fun _ hk => hk.2)⟩, ⟨by (with_reducible repeat (first | apply rA_q | apply rN_q | apply rD_q)); exact rM_q HO635.out (fun _ hk => hk.1.2)⟩, ⟨by repeat (first | (with_reducible exact HR632.out) | (with_reducible refine cA_q ?_ _) | (with_reducible refine cN_q ?_ _) | (with_reducible refine cD_q ?_) | exact HR632.out)⟩, ⟨bel HB.out⟩⟩
     case round =>
      clear H'
      try clear c1
      try clear c2
      try clear p2
      try clear c3
      try clear q3
      try clear c4
      try clear c4b0
      try clear c4b1
      try clear c5
      try clear p6
      try clear c10
      try clear c16
      try clear c18
      try clear c24
      try clear c29
      try clear c33
      try clear c33b0
      try clear c33b1
      try clear c34
      try clear c35
      try clear c35b0
      try clear c35b1
      try clear c36
      try clear c36b0
      try clear c36b1
      try clear q38
      try clear p2
      try clear q38
      obtain ⟨x11_3, rfl, HA, HK3, HO_7, HO_10, HR632, HB⟩ := hrel
      cases gk with
      | zero => exact absurd HA.out (by simp [laws_FnWatchBegin.l0])
      | succ k3 =>
       have H := HA.out
       clear HA
       simp only [laws_FnWatchBegin.l0] at H
       by_cases c40 : x11_3 < ji34
       rotate_left
       ·rw [if_neg c40] at H
        have c40b0 : decide (x11_3 < ji34) = false := dF_q c40
        clear c40
        obtain rfl := oI_q H
        obtain ⟨Ao48, co48, eo48⟩ := rS_q HO_10.out
        subst eo48
        obtain ⟨Ao49, co49, eo49⟩ := rS_q HO_7.out
        subst eo49
        go_wp2
        go_ret
        exact ⟨by first | rfl | (simp [eN_q, eS_q] <;> rfl) | (simp only [← hji34]; first | rfl | (simp [eN_q, eS_q] <;> rfl)) | (simp [*, eN_q, eS_q] <;> rfl), bel HB.out⟩
       rw [if_pos c40] at H
       have c40b0 : decide (x11_3 < ji34) = true := dT_q c40
       clear c40
       replace H := oB_q.mp H
       obtain ⟨t636, A410, H⟩ := H
       replace H : ((laws_hasInt.f k3 t619 x11_3).bind fun t637 => (if (t636 != t637) = true then (some false) else (laws_FnWatchBegin.l0 k3 t619 ji34 t633 (wrap64 (x11_3 + 1))))) = some r := H
       have A41 := Ae_q A410
       clear A410
       replace H := oB_q.mp H
       obtain ⟨t637, A420, H⟩ := H
       replace H : (if (t636 != t637) = true then (some false) else (laws_FnWatchBegin.l0 k3 t619 ji34 t633 (wrap64 (x11_3 + 1)))) = some r := H
       have A42 := Ae_q A420
       clear A420
       by_cases c43 : (t636 != t637) = true
       ·rw [if_pos c43] at H
        have c43b0 : (t636 != t637) = true := c43
        (try (have c43b1 : decide (t636 = t637) = false := by simpa using c43))
        (try (have c43b2 : (t636 == t637) = false := by simpa using c43))
        (try (have c43b3 : ¬ (t636 = t637) := by simpa using c43))
        clear c43
        obtain rfl := oI_q H
        obtain ⟨Ao44, co44, eo44⟩ := rS_q HO_10.out
        subst eo44
        go_wp2_with (first | ((with_reducible refine gC_q (f := 32) rfl ?_); refine gL_q (some 66) rfl rfl Try.func32 (by kernel_rfl) rfl #[.slice Ao44 t633.length co44, .int .i64 x11_3] rfl (by (try simp only [lM_q, lC_q, lN_q]); first | done | rfl | (simp only [lD_q, lT_q]; rfl)) ?_; (with_reducible refine (laws_hasInt.calls k3 _ _ t633 x11_3 t636 _ ?side1 ?side2 A41.out).mono ?_); (case side1 => exact cup (rR_q HO_10.out).2.2); (case side2 => exact (rR_q HO_10.out).2.1); rintro e w' ⟨rfl, ⟨nd, rfl⟩⟩; refine ⟨_, rfl, ?_⟩; obtain ⟨Ao45, co45, eo45⟩ := rS_q HO_7.out; subst eo45) | ((with_reducible refine gC_q (f := 32) rfl ?_); refine gL_q (some 69) rfl rfl Try.func32 (by kernel_rfl) rfl #[.slice Ao45 t619.length co45, .int .i64 x11_3] rfl (by (try simp only [lM_q, lC_q, lN_q]); first | done | rfl | (simp only [lD_q, lT_q]; rfl)) ?_; (with_reducible refine (laws_hasInt.calls k3 _ _ t619 x11_3 t637 _ ?side1 ?side2 A42.out).mono ?_); (case side1 => exact cup (rR_q HO_7.out).2.2); (case side2 => exact (rR_q HO_7.out).2.1); rintro e w' ⟨rfl, ⟨nd, rfl⟩⟩; refine ⟨_, rfl, ?_⟩))
        go_ret
        exact ⟨by first | rfl | (simp [eN_q, eS_q] <;> rfl) | (simp only [← hji34]; first | rfl | (simp [eN_q, eS_q] <;> rfl)) | (simp [*, eN_q, eS_q] <;> rfl), bel HB.out⟩
       rw [if_neg c43] at H
       have c43b0 : (t636 != t637) = false := by simpa using c43
       (try (have c43b1 : decide (t636 = t637) = true := by simpa using c43))
       (try (have c43b2 : (t636 == t637) = true := by simpa using c43))
       clear c43
       have H' := Ae_q H
       clear H
       obtain ⟨Ao46, co46, eo46⟩ := rS_q HO_10.out
       subst eo46
       go_wp2_with (first | ((with_reducible refine gC_q (f := 32) rfl ?_); refine gL_q (some 66) rfl rfl Try.func32 (by kernel_rfl) rfl #[.slice Ao46 t633.length co46, .int .i64 x11_3] rfl (by (try simp only [lM_q, lC_q, lN_q]); first | done | rfl | (simp only [lD_q, lT_q]; rfl)) ?_; (with_reducible refine (laws_hasInt.calls k3 _ _ t633 x11_3 t636 _ ?side1 ?side2 A41.out).mono ?_); (case side1 => exact cup (rR_q HO_10.out).2.2); (case side2 => exact (rR_q HO_10.out).2.1); rintro e w' ⟨rfl, ⟨nd, rfl⟩⟩; refine ⟨_, rfl, ?_⟩; obtain ⟨Ao47, co47, eo47⟩ := rS_q HO_7.out; subst eo47) | ((with_reducible refine gC_q (f := 32) rfl ?_); refine gL_q (some 69) rfl rfl Try.func32 (by kernel_rfl) rfl #[.slice Ao47 t619.length co47, .int .i64 x11_3] rfl (by (try simp only [lM_q, lC_q, lN_q]); first | done | rfl | (simp only [lD_q, lT_q]; rfl)) ?_; (with_reducible refine (laws_hasInt.calls k3 _ _ t619 x11_3 t637 _ ?side1 ?side2 A42.out).mono ?_); (case side1 => exact cup (rR_q HO_7.out).2.2); (case side2 => exact (rR_q HO_7.out).2.1); rintro e w' ⟨rfl, ⟨nd, rfl⟩⟩; refine ⟨_, rfl, ?_⟩))
       go_roundg k3
       case measure => have := HJ2.out; have := HJ8.out; have := HK3.out; omega
       case rel => exact ⟨(wrap64 (x11_3 + 1)), (by first | rfl | (simp; done) | (simp [*]; done)), H', ⟨by have := HJ2.out; have := HJ8.out; have := HK3.out; omega⟩, ⟨by (with_reducible repeat (first | apply rA_q | apply rN_q | apply rD_q)); exact HO_7.out⟩, ⟨by (with_reducible repeat (first | apply rA_q | apply rN_q | apply rD_q)); exact HO_10.out⟩, ⟨by repeat (first | (with_reducible exact HR632.out) | (with_reducible refine cA_q ?_ _) | (with_reducible refine cN_q ?_ _) | (with_reducible refine cD_q ?_) | exact HR632.out)⟩, ⟨bel HB.out⟩⟩

def laws_FnWatchBegin.Pure : Prop := ∀ (l0 : List Int) (l1 : List Int), l0.length ≤ maxLen → l0.length * 1 ≤ 140737488351232 → (∀ x ∈ l0, (Lit.int .u8 x).wf = true) → l1.length ≤ maxLen → l1.length * 1 ≤ 140737488351232 → (∀ x ∈ l1, (Lit.int .u8 x).wf = true) → ∃ k, laws_FnWatchBegin.f k l0 l1 = some true
theorem laws_FnWatchBegin.walk (P : laws_FnWatchBegin.Pure) (a0 : Option Addr) (len0 cap0 : Nat) (z0 : List Int) (a1 : Option Addr) (len1 cap1 : Nat) (z1 : List Int) (w : World) (w0 : (a0 = none ∧ len0 = 0 ∧ cap0 = 0 ∧ z0 = []) ∨ ∃ x, a0 = some x ∧ len0 ≤ cap0 ∧ cap0 ≤ maxLen ∧ z0.length = cap0 ∧ (∀ i, i < z0.length → w.cell? (x.add i) = some (.int .u8 (z0.getD i 0))) ∧ ∀ n ∈ z0, (Lit.int .u8 n).wf = true) (y0 : len0 * 1 ≤ 140737488351232) (w1 : (a1 = none ∧ len1 = 0 ∧ cap1 = 0 ∧ z1 = []) ∨ ∃ x, a1 = some x ∧ len1 ≤ cap1 ∧ cap1 ≤ maxLen ∧ z1.length = cap1 ∧ (∀ i, i < z1.length → w.cell? (x.add i) = some (.int .u8 (z1.getD i 0))) ∧ ∀ n ∈ z1, (Lit.int .u8 n).wf = true) (y1 : len1 * 1 ≤ 140737488351232) :
    Calls Try.prog 10 #[.slice a0 len0 cap0, .slice a1 len1 cap1] w fun e w' => e = .returned (.bool true) ∧ Below w.heap.size w w' := by
 obtain ⟨l0, rfl, hr0, hm0, hw0, hc0⟩ := ReadsInt.ofRowC w0
 obtain ⟨l1, rfl, hr1, hm1, hw1, hc1⟩ := ReadsInt.ofRowC w1
 obtain ⟨k, h⟩ := P l0 l1 hm0 y0 hw0 hm1 y1 hw1
 refine (laws_FnWatchBegin.calls k _ _ l0 _ _ l1 true w (Kd.C_of_reads (d := (0 : Int)) (h1 := fun _ => rfl) hr0) hc0 (Kd.C_of_reads (d := (0 : Int)) (h1 := fun _ => rfl) hr1) hc1 h).mono ?_
 rintro e w' ⟨rfl, hd⟩
 exact ⟨rfl, hd⟩

end Go.Proofs.Ytnhenfmegpjigaa.PEv
