import Derived.Test.YtnhenfmegpjigaaVKPEvx0
import Derived.Test.YtnhenfmegpjigaaVKPEvx6
import Derived.Test.YtnhenfmegpjigaaVKPEvx10
import Derived.Test.YtnhenfmegpjigaaVKPEvx16
import Derived.Test.YtnhenfmegpjigaaVKPEvx17
import Derived.Test.YtnhenfmegpjigaaVKPEvx20
import Derived.Test.YtnhenfmegpjigaaVKPEvx25
import Derived.Test.YtnhenfmegpjigaaVKPEvx26
import Derived.Test.YtnhenfmegpjigaaVKPEvx29
namespace Go.Proofs.Ytnhenfmegpjigaa.PEv
open Go.RowKit Go.Proofs.YtnhenfmegpjigaaW.PrintWords Go.Proofs.YtnhenfmegpjigaaW.PrintLast Go.Proofs.YtnhenfmegpjigaaW.PrintMore
attribute [local go_sem] max2_int min2_int max_two min_two max_three min_three max_four min_four
set_option linter.unusedVariables false
set_option linter.unusedSimpArgs false

mutual
def laws_FnWatchOpenServed.j0 : Nat → List (S27) → List Int → List Int → Bool → Option (Bool)
 | 0, _, _, _, _ => none
 | k + 1, x4, x5, x6, x35 => if x35 = true then ((laws_sameInts.f k x5 x6).bind fun t713 => (some t713)) else (laws_FnWatchOpenServed.l0 k x4 x5 0)
def laws_FnWatchOpenServed.l0 : Nat → List (S27) → List Int → Int → Option (Bool)
 | 0, _, _, _ => none
 | k + 1, x4, x5, x7 => if x7 < (x4.length : Int) then (if 0 ≤ x7 then (if ((rd_T27 x4 x7).f0) = 2 then ((laws_hasInt.f k x5 x7).bind fun t715 => (if t715 = true then (laws_FnWatchOpenServed.l0 k x4 x5 (wrap64 (x7 + 1))) else (if 0 ≤ (wrap64 (x7 + 1)) then (if (wrap64 (x7 + 1)) ≤ (x4.length : Int) then ((impl_WatchOpen.f k (x4.take ((wrap64 (x7 + 1)) : Int).toNat) ((rd_T27 x4 x7).f1)).bind fun t721 => ((laws_hasInt.f k t721 ((rd_T27 x4 x7).f2)).bind fun t725 => (if t725 = true then (laws_FnWatchOpenServed.l0 k x4 x5 (wrap64 (x7 + 1))) else (some false)))) else (none)) else (none)))) else (laws_FnWatchOpenServed.l0 k x4 x5 (wrap64 (x7 + 1)))) else (none)) else (some true)
end
def laws_FnWatchOpenServed.f (k : Nat) (l0 : List Int) : Option (Bool) := if (l0.length : Int) > 1048576 then (some true) else ((spec_DrawWatchWrong.f k l0).bind fun bt698 => ((impl_WatchWrong.f k bt698.1 bt698.2).bind fun t704 => ((spec_WatchWrong.f k bt698.1 bt698.2).bind fun t707 => ((laws_sameInts.f k t704 t707).bind fun t710 => (if t710 = true then ((spec_GuestsValid.f k bt698.1).bind fun t711 => (if t711 = true then ((spec_EventsValid.f k bt698.2).bind fun t712 => (laws_FnWatchOpenServed.j0 k bt698.2 t704 t707 (!t712))) else (laws_FnWatchOpenServed.j0 k bt698.2 t704 t707 true))) else (laws_FnWatchOpenServed.j0 k bt698.2 t704 t707 true))))))
def laws_FnWatchOpenServed.T11 : Bool × List (List Nat × List Nat) := (true, [([], []), ([], []), ([0, 1], [0, 1]), ([2], [2]), ([3], [3]), ([4], [4]), ([5], [5]), ([6], [6]), ([6], [6]), ([7, 8, 6, 6], [6, 7, 8]), ([9, 6], [6, 9]), ([6, 10], [6, 10]), ([11, 9], [11]), ([12], [12]), ([12], [12]), ([14, 12], [12, 14]), ([13, 15, 12], [12, 13, 15]), ([12], [12]), ([12], [12]), ([17, 18, 12], [12, 17, 18]), ([19, 12], [12, 19]), ([20, 12], [12, 20]), ([16, 21, 12, 12], [12, 16, 21]), ([12], [12]), ([12], [12]), ([23, 24, 12], [12, 23, 24]), ([25, 12], [12, 25]), ([26, 12], [12, 26]), ([22, 27, 22, 12], [12, 22, 27]), ([28, 12], [12, 28]), ([12, 29], [12, 29])])
def laws_FnWatchOpenServed.B11 : List Nat := [0, 0, 3, 7, 15, 31, 63, 127, 127, 511, 1023, 2047, 4095, 8191, 8191, 24575, 65535, 8191, 8191, 401407, 925695, 1974271, 4194303, 8191, 8191, 25174015, 58728447, 125837311, 268435455, 536870911, 1073741823]
theorem laws_FnWatchOpenServed.tab11 : rtab .any (opsOf Try.f13 11) = laws_FnWatchOpenServed.T11 := by kernel_rfl
theorem laws_FnWatchOpenServed.bits11 : waitsOk laws_FnWatchOpenServed.T11.2 laws_FnWatchOpenServed.B11 = true := by kernel_rfl
set_option maxHeartbeats 8000000 in
set_option maxRecDepth 100000 in
theorem laws_FnWatchOpenServed.calls (k : Nat) (A0 : Option Addr) (c0 : Nat) (l0 : List Int) (r : Bool) (w : World) (hr0 : Kd.C (Kd.int .u8) w A0 l0.length l0) (hc0 : l0.length ≤ c0) (h : laws_FnWatchOpenServed.f k l0 = some r) :
    Calls Try.prog 13 #[.slice A0 l0.length c0] w fun e w' => e = .returned (.bool r) ∧ Below w.heap.size w w' := by
 have HR0 := Ae_q hr0
 have HC0 := Ae_q hc0
 clear hr0 hc0
 have HB := Ae_q (bR_q w.heap.size w)
 have H : (if (l0.length : Int) > 1048576 then (some true) else ((spec_DrawWatchWrong.f k l0).bind fun bt698 => ((impl_WatchWrong.f k bt698.1 bt698.2).bind fun t704 => ((spec_WatchWrong.f k bt698.1 bt698.2).bind fun t707 => ((laws_sameInts.f k t704 t707).bind fun t710 => (if t710 = true then ((spec_GuestsValid.f k bt698.1).bind fun t711 => (if t711 = true then ((spec_EventsValid.f k bt698.2).bind fun t712 => (laws_FnWatchOpenServed.j0 k bt698.2 t704 t707 (!t712))) else (laws_FnWatchOpenServed.j0 k bt698.2 t704 t707 true))) else (laws_FnWatchOpenServed.j0 k bt698.2 t704 t707 true))))))) = some r := h
 clear h
 by_cases c2 : (l0.length : Int) > 1048576
 ·rw [if_pos c2] at H
  have c2b0 : decide (1048576 < (l0.length : Int)) = true := dT_q c2
  have c2b1 : decide (1048576 < l0.length) = true := dT_q (by omega)
  clear c2
  obtain rfl := oI_q H
  go_enter Try.func13, Try.ntmps13
  go_wp2
  go_ret
  exact ⟨by first | rfl | (simp [eN_q, eS_q] <;> rfl) | (simp [*, eN_q, eS_q] <;> rfl), bel HB.out⟩
 rw [if_neg c2] at H
 have c2b0 : decide (1048576 < (l0.length : Int)) = false := dF_q c2
 have c2b1 : decide (1048576 < l0.length) = false := dF_q (by omega)
 clear c2
 replace H := oB_q.mp H
 obtain ⟨⟨t698, t699⟩, A30, H⟩ := H
 replace H : ((impl_WatchWrong.f k t698 t699).bind fun t704 => ((spec_WatchWrong.f k t698 t699).bind fun t707 => ((laws_sameInts.f k t704 t707).bind fun t710 => (if t710 = true then ((spec_GuestsValid.f k t698).bind fun t711 => (if t711 = true then ((spec_EventsValid.f k t699).bind fun t712 => (laws_FnWatchOpenServed.j0 k t699 t704 t707 (!t712))) else (laws_FnWatchOpenServed.j0 k t699 t704 t707 true))) else (laws_FnWatchOpenServed.j0 k t699 t704 t707 true))))) = some r := H
 have A3 := Ae_q A30
 clear A30
 replace H := oB_q.mp H
 obtain ⟨t704, A40, H⟩ := H
 replace H : ((spec_WatchWrong.f k t698 t699).bind fun t707 => ((laws_sameInts.f k t704 t707).bind fun t710 => (if t710 = true then ((spec_GuestsValid.f k t698).bind fun t711 => (if t711 = true then ((spec_EventsValid.f k t699).bind fun t712 => (laws_FnWatchOpenServed.j0 k t699 t704 t707 (!t712))) else (laws_FnWatchOpenServed.j0 k t699 t704 t707 true))) else (laws_FnWatchOpenServed.j0 k t699 t704 t707 true)))) = some r := H
 have A4 := Ae_q A40
 clear A40
 replace H := oB_q.mp H
 obtain ⟨t707, A50, H⟩ := H
 replace H : ((laws_sameInts.f k t704 t707).bind fun t710 => (if t710 = true then ((spec_GuestsValid.f k t698).bind fun t711 => (if t711 = true then ((spec_EventsValid.f k t699).bind fun t712 => (laws_FnWatchOpenServed.j0 k t699 t704 t707 (!t712))) else (laws_FnWatchOpenServed.j0 k t699 t704 t707 true))) else (laws_FnWatchOpenServed.j0 k t699 t704 t707 true))) = some r := H
 have A5 := Ae_q A50
 clear A50
 have HC6 := Ae_q H
 clear H
 go_enter Try.func13, Try.ntmps13
 go_upto_region 6 with (first | ((with_reducible refine gC_q (f := 33) rfl ?_); refine gL_q (some 13) rfl rfl Try.func33 (by kernel_rfl) rfl #[.slice A0 l0.length c0] rfl (by (try simp only [lM_q, lC_q, lN_q]); first | done | rfl | (simp only [lD_q, lT_q]; rfl)) ?_; (with_reducible refine (spec_DrawWatchWrong.calls k _ _ l0 t698 t699 _ ?side1 ?side2 A3.out).mono ?_); (case side1 => repeat (first | exact HR0.out | (with_reducible refine cA_q ?_ _) | (with_reducible refine cN_q ?_ _) | (with_reducible refine cD_q ?_))); (case side2 => exact HC0.out); rintro e w7 ⟨v700, v702, rfl, ho0, ho1, hb⟩; refine ⟨_, rfl, ?_⟩; have n0_ := Ae_q (rL_q ho0 (bZ_q (bel HB.out))); have n1_ := Ae_q (rL_q ho1 (bZ_q (bel HB.out))); have n2_ := Ae_q (bT_q (bel HB.out) hb); clear HB; have HO701 := n0_; have HO703 := n1_; have HB := n2_; clear n0_ n1_ n2_; (try clear hb); (try clear hb2); (try clear hk); (try clear hi); (try clear ho0); (try clear ho1); obtain ⟨Ao8, co8, eo8⟩ := rS_q HO701.out; subst eo8; obtain ⟨Ao9, co9, eo9⟩ := rS_q HO703.out; subst eo9) | ((with_reducible refine gC_q (f := 34) rfl ?_); refine gL_q (some 18) rfl rfl Try.func34 (by kernel_rfl) rfl #[.slice Ao8 t698.length co8, .slice Ao9 t699.length co9] rfl (by (try simp only [lM_q, lC_q, lN_q]); first | done | rfl | (simp only [lD_q, lT_q]; rfl)) ?_; (with_reducible refine (impl_WatchWrong.calls k _ _ t698 _ _ t699 t704 _ ?side1 ?side2 ?side3 ?side4 A4.out).mono ?_); (case side1 => exact cup (rR_q HO701.out).2.2); (case side2 => exact (rR_q HO701.out).2.1); (case side3 => exact cup (rR_q HO703.out).2.2); (case side4 => exact (rR_q HO703.out).2.1); rintro e w10 ⟨v705, rfl, ho0, hb⟩; refine ⟨_, rfl, ?_⟩; have n0_ := Ae_q (rO_q (rup HO701.out) hb); have n1_ := Ae_q (rO_q (rup HO703.out) hb); have n2_ := Ae_q (rL_q ho0 (bZ_q (bel HB.out))); have n3_ := Ae_q (bT_q (bel HB.out) hb); clear HO701; clear HO703; clear HB; have HO701 := n0_; have HO703 := n1_; have HO706 := n2_; have HB := n3_; clear n0_ n1_ n2_ n3_; (try clear hb); (try clear hb2); (try clear hk); (try clear hi); (try clear ho0)) | ((with_reducible refine gC_q (f := 35) rfl ?_); refine gL_q (some 21) rfl rfl Try.func35 (by kernel_rfl) rfl #[.slice Ao8 t698.length co8, .slice Ao9 t699.length co9] rfl (by (try simp only [lM_q, lC_q, lN_q]); first | done | rfl | (simp only [lD_q, lT_q]; rfl)) ?_; (with_reducible refine (spec_WatchWrong.calls k _ _ t698 _ _ t699 t707 _ ?side1 ?side2 ?side3 ?side4 A5.out).mono ?_); (case side1 => exact cup (rR_q HO701.out).2.2); (case side2 => exact (rR_q HO701.out).2.1); (case side3 => exact cup (rR_q HO703.out).2.2); (case side4 => exact (rR_q HO703.out).2.1); rintro e w11 ⟨v708, rfl, ho0, hb⟩; refine ⟨_, rfl, ?_⟩; have n0_ := Ae_q (rO_q (rup HO701.out) hb); have n1_ := Ae_q (rO_q (rup HO703.out) hb); have n2_ := Ae_q (rE_q (rup HO706.out) (rB_q ho0) hb); have n3_ := Ae_q (rL_q (rW_q ho0 (rT_q (rup HO706.out))) (bZ_q (bel HB.out))); have n4_ := Ae_q (bT_q (bel HB.out) hb); clear HO701; clear HO703; clear HO706; clear HB; have HO701 := n0_; have HO703 := n1_; have HO706 := n2_; have HO709 := n3_; have HB := n4_; clear n0_ n1_ n2_ n3_ n4_; (try clear hb); (try clear hb2); (try clear hk); (try clear hi); (try clear ho0)))
 (try simp only [Act.put, sA_q, sZ_q, sS_q])
 go_cut [35] (fun v35 wc => ∃ (kq : Nat) (x35_5 : Bool), v35 = .bool x35_5 ∧ Aside0 (laws_FnWatchOpenServed.j0 kq t699 t704 t707 x35_5 = some r) ∧ Aside0 (kq ≤ k) ∧ Aside0 (Kd.R k27 27 wc w.heap.size (fun _ => True) (.slice Ao9 t699.length co9) t699) ∧ Aside0 (Kd.R kI_q 3 wc w.heap.size (fun k_ => some k_ ≠ (v708 : Value).ownBlock) v705 t704) ∧ Aside0 (Kd.R kI_q 3 wc w.heap.size (fun k_ => some k_ ≠ (v705 : Value).ownBlock) v708 t707) ∧ Aside0 (Below w.heap.size w wc))
 case first =>
  have H := HC6.out
  clear HC6
  replace H := oB_q.mp H
  obtain ⟨t710, A120, H⟩ := H
  replace H : (if t710 = true then ((spec_GuestsValid.f k t698).bind fun t711 => (if t711 = true then ((spec_EventsValid.f k t699).bind fun t712 => (laws_FnWatchOpenServed.j0 k t699 t704 t707 (!t712))) else (laws_FnWatchOpenServed.j0 k t699 t704 t707 true))) else (laws_FnWatchOpenServed.j0 k t699 t704 t707 true)) = some r := H
  have A12 := Ae_q A120
  clear A120
  by_cases c13 : t710 = true
  rotate_left
  ·replace c13 := fM_q.mpr c13
   subst c13
   have H1 : (laws_FnWatchOpenServed.j0 k t699 t704 t707 true) = some r := by rw [if_neg (show ¬ (false = true) by decide)] at H; exact H
   clear H
   have H := H1
   clear H1
   have H' := Ae_q H
   clear H
   obtain ⟨Ao24, co24, eo24⟩ := rS_q HO706.out
   subst eo24
   obtain ⟨Ao25, co25, eo25⟩ := rS_q HO709.out
   subst eo25
   go_wp2_with (first | ((with_reducible refine gC_q (f := 24) rfl ?_); refine gL_q (some 24) rfl rfl Try.func24 (by kernel_rfl) rfl #[.slice Ao24 t704.length co24, .slice Ao25 t707.length co25] rfl (by (try simp only [lM_q, lC_q, lN_q]); first | done | rfl | (simp only [lD_q, lT_q]; rfl)) ?_; (with_reducible refine (laws_sameInts.calls k _ _ t704 _ _ t707 false _ ?side1 ?side2 ?side3 ?side4 A12.out).mono ?_); (case side1 => exact cup (rR_q HO706.out).2.2); (case side2 => exact (rR_q HO706.out).2.1); (case side3 => exact cup (rR_q HO709.out).2.2); (case side4 => exact (rR_q HO709.out).2.1); rintro e w' ⟨rfl, ⟨nd, rfl⟩⟩; refine ⟨_, rfl, ?_⟩))
   go_meet
   case rel => exact ⟨_, (true), (by first | rfl | (simp; done) | (simp [*]; done)), H', ⟨by first | omega | exact nR_q _⟩, ⟨rup HO703.out⟩, ⟨by (with_reducible repeat (first | apply rA_q | apply rN_q | apply rD_q)); exact rM_q HO706.out (fun _ hk => hk.2)⟩, ⟨by (with_reducible repeat (first | apply rA_q | apply rN_q | apply rD_q)); exact rM_q HO709.out (fun _ hk => hk.2)⟩, ⟨bel HB.out⟩⟩
  subst c13
  have H1 : ((spec_GuestsValid.f k t698).bind fun t711 => (if t711 = true then ((spec_EventsValid.f k t699).bind fun t712 => (laws_FnWatchOpenServed.j0 k t699 t704 t707 (!t712))) else (laws_FnWatchOpenServed.j0 k t699 t704 t707 true))) = some r := by rw [if_pos rfl] at H; exact H
  clear H
  have H := H1
  clear H1
  replace H := oB_q.mp H
  obtain ⟨t711, A140, H⟩ := H
  replace H : (if t711 = true then ((spec_EventsValid.f k t699).bind fun t712 => (laws_FnWatchOpenServed.j0 k t699 t704 t707 (!t712))) else (laws_FnWatchOpenServed.j0 k t699 t704 t707 true)) = some r := H
  have A14 := Ae_q A140
  clear A140
  by_cases c15 : t711 = true
  rotate_left
  ·replace c15 := fM_q.mpr c15
   subst c15
   have H1 : (laws_FnWatchOpenServed.j0 k t699 t704 t707 true) = some r := by rw [if_neg (show ¬ (false = true) by decide)] at H; exact H
   clear H
   have H := H1
   clear H1
   have H' := Ae_q H
   clear H
   obtain ⟨Ao21, co21, eo21⟩ := rS_q HO706.out
   subst eo21
   obtain ⟨Ao22, co22, eo22⟩ := rS_q HO709.out
   subst eo22
   go_wp2_with (first | ((with_reducible refine gC_q (f := 24) rfl ?_); refine gL_q (some 24) rfl rfl Try.func24 (by kernel_rfl) rfl #[.slice Ao21 t704.length co21, .slice Ao22 t707.length co22] rfl (by (try simp only [lM_q, lC_q, lN_q]); first | done | rfl | (simp only [lD_q, lT_q]; rfl)) ?_; (with_reducible refine (laws_sameInts.calls k _ _ t704 _ _ t707 true _ ?side1 ?side2 ?side3 ?side4 A12.out).mono ?_); (case side1 => exact cup (rR_q HO706.out).2.2); (case side2 => exact (rR_q HO706.out).2.1); (case side3 => exact cup (rR_q HO709.out).2.2); (case side4 => exact (rR_q HO709.out).2.1); rintro e w' ⟨rfl, ⟨nd, rfl⟩⟩; refine ⟨_, rfl, ?_⟩) | (go_at_call 36; (with_reducible refine (spec_GuestsValid.calls k _ _ t698 false _ ?side1 ?side2 A14.out).mono ?_); (case side1 => exact cup (rR_q HO701.out).2.2); (case side2 => exact (rR_q HO701.out).2.1); rintro e w23 ⟨rfl, hb⟩; have n0_ := Ae_q (rO_q (rup HO701.out) hb); have n1_ := Ae_q (rO_q (rup HO703.out) hb); have n2_ := Ae_q (rO_q (rup HO706.out) hb); have n3_ := Ae_q (rO_q (rup HO709.out) hb); have n4_ := Ae_q (bT_q (bel HB.out) hb); clear HO701; clear HO703; clear HO706; clear HO709; clear HB; have HO701 := n0_; have HO703 := n1_; have HO706 := n2_; have HO709 := n3_; have HB := n4_; clear n0_ n1_ n2_ n3_ n4_; (try clear hb); (try clear hb2); (try clear hk); (try clear hi)))
   go_meet
   case rel => exact ⟨_, (true), (by first | rfl | (simp; done) | (simp [*]; done)), H', ⟨by first | omega | exact nR_q _⟩, ⟨rup HO703.out⟩, ⟨by (with_reducible repeat (first | apply rA_q | apply rN_q | apply rD_q)); exact rM_q HO706.out (fun _ hk => hk.2)⟩, ⟨by (with_reducible repeat (first | apply rA_q | apply rN_q | apply rD_q)); exact rM_q HO709.out (fun _ hk => hk.2)⟩, ⟨bel HB.out⟩⟩
  subst c15
  have H1 : ((spec_EventsValid.f k t699).bind fun t712 => (laws_FnWatchOpenServed.j0 k t699 t704 t707 (!t712))) = some r := by rw [if_pos rfl] at H; exact H
  clear H
  have H := H1
  clear H1
  replace H := oB_q.mp H
  obtain ⟨t712, A160, H⟩ := H
  replace H : (laws_FnWatchOpenServed.j0 k t699 t704 t707 (!t712)) = some r := H
  have A16 := Ae_q A160
  clear A160
  have H' := Ae_q H
  clear H
  obtain ⟨Ao17, co17, eo17⟩ := rS_q HO706.out
  subst eo17
  obtain ⟨Ao18, co18, eo18⟩ := rS_q HO709.out
  subst eo18
  go_wp2_with (first | ((with_reducible refine gC_q (f := 24) rfl ?_); refine gL_q (some 24) rfl rfl Try.func24 (by kernel_rfl) rfl #[.slice Ao17 t704.length co17, .slice Ao18 t707.length co18] rfl (by (try simp only [lM_q, lC_q, lN_q]); first | done | rfl | (simp only [lD_q, lT_q]; rfl)) ?_; (with_reducible refine (laws_sameInts.calls k _ _ t704 _ _ t707 true _ ?side1 ?side2 ?side3 ?side4 A12.out).mono ?_); (case side1 => exact cup (rR_q HO706.out).2.2); (case side2 => exact (rR_q HO706.out).2.1); (case side3 => exact cup (rR_q HO709.out).2.2); (case side4 => exact (rR_q HO709.out).2.1); rintro e w' ⟨rfl, ⟨nd, rfl⟩⟩; refine ⟨_, rfl, ?_⟩) | (go_at_call 36; (with_reducible refine (spec_GuestsValid.calls k _ _ t698 true _ ?side1 ?side2 A14.out).mono ?_); (case side1 => exact cup (rR_q HO701.out).2.2); (case side2 => exact (rR_q HO701.out).2.1); rintro e w19 ⟨rfl, hb⟩; have n0_ := Ae_q (rO_q (rup HO701.out) hb); have n1_ := Ae_q (rO_q (rup HO703.out) hb); have n2_ := Ae_q (rO_q (rup HO706.out) hb); have n3_ := Ae_q (rO_q (rup HO709.out) hb); have n4_ := Ae_q (bT_q (bel HB.out) hb); clear HO701; clear HO703; clear HO706; clear HO709; clear HB; have HO701 := n0_; have HO703 := n1_; have HO706 := n2_; have HO709 := n3_; have HB := n4_; clear n0_ n1_ n2_ n3_ n4_; (try clear hb); (try clear hb2); (try clear hk); (try clear hi)) | (go_at_call 17; (with_reducible refine (spec_EventsValid.calls k _ _ t699 t712 _ ?side1 ?side2 A16.out).mono ?_); (case side1 => exact cup (rR_q HO703.out).2.2); (case side2 => exact (rR_q HO703.out).2.1); rintro e w20 ⟨rfl, hb⟩; have n0_ := Ae_q (rO_q (rup HO701.out) hb); have n1_ := Ae_q (rO_q (rup HO703.out) hb); have n2_ := Ae_q (rO_q (rup HO706.out) hb); have n3_ := Ae_q (rO_q (rup HO709.out) hb); have n4_ := Ae_q (bT_q (bel HB.out) hb); clear HO701; clear HO703; clear HO706; clear HO709; clear HB; have HO701 := n0_; have HO703 := n1_; have HO706 := n2_; have HO709 := n3_; have HB := n4_; clear n0_ n1_ n2_ n3_ n4_; (try clear hb); (try clear hb2); (try clear hk); (try clear hi)))
  go_meet
  case rel => exact ⟨_, (!t712), (by first | rfl | (simp; done) | (simp [*]; done)), H', ⟨by first | omega | exact nR_q _⟩, ⟨rup HO703.out⟩, ⟨by (with_reducible repeat (first | apply rA_q | apply rN_q | apply rD_q)); exact rM_q HO706.out (fun _ hk => hk.2)⟩, ⟨by (with_reducible repeat (first | apply rA_q | apply rN_q | apply rD_q)); exact rM_q HO709.out (fun _ hk => hk.2)⟩, ⟨bel HB.out⟩⟩
 case rest =>
  clear HC6
  try clear c1
  try clear c2
  try clear c2b0
  try clear c2b1
  try clear p2
  try clear c3
  try clear c13
  try clear c15
  try clear c24
  obtain ⟨kq, x35_5, rfl, HA, HJ5, HO_4, HO_5, HO_6, HB⟩ := hcut
  cases kq with
  | zero => exact absurd HA.out (by simp [laws_FnWatchOpenServed.j0])
  | succ kj5 =>
   have H := HA.out
   clear HA
   simp only [laws_FnWatchOpenServed.j0] at H
   by_cases c26 : x35_5 = true
   ·subst c26
    have H1 : ((laws_sameInts.f kj5 t704 t707).bind fun t713 => (some t713)) = some r := by rw [if_pos rfl] at H; exact H
    clear H
    have H := H1
    clear H1
    replace H := oB_q.mp H
    obtain ⟨t713, A270, H⟩ := H
    replace H : (some t713) = some r := H
    have A27 := Ae_q A270
    clear A270
    obtain rfl := oI_q H
    obtain ⟨Ao28, co28, eo28⟩ := rS_q HO_5.out
    subst eo28
    obtain ⟨Ao29, co29, eo29⟩ := rS_q HO_6.out
    subst eo29
    go_wp2_with (first | ((with_reducible refine gC_q (f := 24) rfl ?_); refine gL_q (some 38) rfl rfl Try.func24 (by kernel_rfl) rfl #[.slice Ao28 t704.length co28, .slice Ao29 t707.length co29] rfl (by (try simp only [lM_q, lC_q, lN_q]); first | done | rfl | (simp only [lD_q, lT_q]; rfl)) ?_; (with_reducible refine (laws_sameInts.calls kj5 _ _ t704 _ _ t707 t713 _ ?side1 ?side2 ?side3 ?side4 A27.out).mono ?_); (case side1 => exact cup (rR_q HO_5.out).2.2); (case side2 => exact (rR_q HO_5.out).2.1); (case side3 => exact cup (rR_q HO_6.out).2.2); (case side4 => exact (rR_q HO_6.out).2.1); rintro e w' ⟨rfl, ⟨nd, rfl⟩⟩; refine ⟨_, rfl, ?_⟩))
    go_ret
    exact ⟨by first | rfl | (simp [eN_q, eS_q] <;> rfl) | (simp [*, eN_q, eS_q] <;> rfl), bel HB.out⟩
   replace c26 := fM_q.mpr c26
   subst c26
   have H1 : (laws_FnWatchOpenServed.l0 kj5 t699 t704 0) = some r := by rw [if_neg (show ¬ (false = true) by decide)] at H; exact H
   clear H
   have H := H1
   clear H1
   have H' := Ae_q H
   clear H
   go_wp2
   go_loopg [7] kj5 (fun kq v7 w' => ∃ (x7_2 : Int), v7 = .int .i64 x7_2 ∧ Aside0 (laws_FnWatchOpenServed.l0 kq t699 t704 x7_2 = some r) ∧ Aside0 (kq ≤ kj5) ∧ Aside0 (Kd.R k27 27 w' w.heap.size (fun _ => True) (.slice Ao9 t699.length co9) t699) ∧ Aside0 (Kd.R kI_q 3 w' w.heap.size (fun _ => True) v705 t704) ∧ Aside0 (Below w.heap.size w w'))
   case atStart => exact ⟨(0), (by first | rfl | (simp; done) | (simp [*]; done)), H', ⟨nR_q _⟩, ⟨rup HO_4.out⟩, ⟨by (with_reducible repeat (first | apply rA_q | apply rN_q | apply rD_q)); exact rM_q HO_5.out (fun _ hk => trivial)⟩, ⟨bel HB.out⟩⟩
   case round =>
    clear H'
    try clear c1
    try clear c2
    try clear c2b0
    try clear c2b1
    try clear p2
    try clear c3
    try clear c13
    try clear c15
    try clear c24
    try clear c26
    try clear p2
    obtain ⟨x7_2, rfl, HA, HK2, HO_4, HO_5, HB⟩ := hrel
    cases gk with
    | zero => exact absurd HA.out (by simp [laws_FnWatchOpenServed.l0])
    | succ k2 =>
     have H := HA.out
     clear HA
     simp only [laws_FnWatchOpenServed.l0] at H
     by_cases c30 : x7_2 < (t699.length : Int)
     rotate_left
     ·rw [if_neg c30] at H
      have c30b0 : decide (x7_2 < (t699.length : Int)) = false := dF_q c30
      clear c30
      obtain rfl := oI_q H
      go_wp2
      go_ret
      exact ⟨by first | rfl | (simp [eN_q, eS_q] <;> rfl) | (simp [*, eN_q, eS_q] <;> rfl), bel HB.out⟩
     rw [if_pos c30] at H
     have c30b0 : decide (x7_2 < (t699.length : Int)) = true := dT_q c30
     clear c30
     by_cases c31 : 0 ≤ x7_2
     rotate_left
     ·rw [if_neg c31] at H
      exact absurd H (by simp)
     rw [if_pos c31] at H
     have c31b0 : decide (0 ≤ x7_2) = true := dT_q c31
     clear c31
     by_cases c32 : ((rd_T27 t699 x7_2).f0) = 2
     rotate_left
     ·rw [if_neg c32] at H
      have c32b0 : (((rd_T27 t699 x7_2).f0) == 2) = false := fN_q.mpr c32
      have c32b1 : (((rd_T27 t699 x7_2).f0) != 2) = true := nI_q.mpr c32
      have H' := Ae_q H
      clear H
      try go_wp2
      have n0_ := Ae_q (rD_q HO_4.out)
      have n1_ := Ae_q (rD_q HO_5.out)
      have n2_ := Ae_q (bD_q HB.out)
      clear HO_4
      clear HO_5
      clear HB
      have HO_4 := n0_
      have HO_5 := n1_
      have HB := n2_
      clear n0_ n1_ n2_
      have p714 : 0 ≤ (x7_2 : Int) := oD_q (by assumption)
      have q714 : x7_2 < (t699.length : Int) := oD_q (by assumption)
      obtain ⟨ad714, e714, hx714_0, hx714_1, hx714_2, hx714_3, hx714_4, hx714_5⟩ := at_T27 (rR_q HO_4.out).2.2 x7_2 p714 q714
      cases e714
      replace p714 := eq_true p714
      replace q714 := eq_true q714
      refine start_ (n := 31) (S := fun w' => w'.cell? (ad714.add ((x7_2).toNat * 6)) = some (.int .i64 ((rd_T27 t699 x7_2).f0)) ∧ w'.cell? ⟨(ad714.add ((x7_2).toNat * 6)).block, (ad714.add ((x7_2).toNat * 6)).off + 1, none⟩ = some (.int .i64 ((rd_T27 t699 x7_2).f1)) ∧ w'.cell? ⟨(ad714.add ((x7_2).toNat * 6)).block, (ad714.add ((x7_2).toNat * 6)).off + 2, none⟩ = some (.int .i64 ((rd_T27 t699 x7_2).f2)) ∧ w'.cell? ⟨(ad714.add ((x7_2).toNat * 6)).block, (ad714.add ((x7_2).toNat * 6)).off + 3, none⟩ = some (.int .i64 ((rd_T27 t699 x7_2).f3)) ∧ w'.cell? ⟨(ad714.add ((x7_2).toNat * 6)).block, (ad714.add ((x7_2).toNat * 6)).off + 4, none⟩ = some (.int .i64 ((rd_T27 t699 x7_2).f4)) ∧ w'.cell? ⟨(ad714.add ((x7_2).toNat * 6)).block, (ad714.add ((x7_2).toNat * 6)).off + 5, none⟩ = some (.int .i64 ((rd_T27 t699 x7_2).f5))) (ds := []) #[false, false, false, false, false, false, false, false, false, false, false, false, false, false, false, false, false, false, false, false, false, false, false, false, false, false, false, false, false, false, false] (by kernel_rfl) rfl rfl ⟨hx714_0, hx714_1, hx714_2, hx714_3, hx714_4, hx714_5⟩ (fun hHeld => ?_); refine with_tabW laws_FnWatchOpenServed.tab11 laws_FnWatchOpenServed.bits11 (fun HT_ HW_ => ?_)
      generalize wr.drew = w53 at HO_4 HO_5 HB hx714_0 hx714_1 hx714_2 hx714_3 hx714_4 hx714_5 hHeld ⊢
      refine pI (v := ?_) (a' := ?_) HT_ 0 45 rfl rfl (by kernel_rfl) (fun _ _ _ h => h) (by rfl) ?_ ?_ ?_
      rotate_left
      ·intro w'
       go_simp
       with_reducible rfl
      rotate_left
      ·simp only [pS_q]
       rfl
      refine pI (v := ?_) (a' := ?_) HT_ 1 46 rfl rfl (by kernel_rfl) (fun _ _ _ h => h) (by rfl) ?_ ?_ ?_
      rotate_left
      ·intro w'
       go_simp
       with_reducible rfl
      rotate_left
      ·simp only [pS_q]
       rfl
      refine pI (v := ?_) (a' := ?_) HT_ 2 47 rfl rfl (by kernel_rfl) (fun _ _ _ h => h) (by rfl) ?_ ?_ ?_
      rotate_left
      ·intro w'
       go_simp
       with_reducible rfl
      rotate_left
      ·simp only [pS_q]
       rfl
      refine pI (v := ?_) (a' := ?_) HT_ 3 48 rfl rfl (by kernel_rfl) (fun _ _ _ h => h) (by rfl) ?_ ?_ ?_
      rotate_left
      ·intro w'
       go_simp
       with_reducible rfl
      rotate_left
      ·simp only [pS_q]
       rfl
      refine take_ (i := 4) (N := some 49) (v := ?_) (a' := ?_) #[true, true, true, true, true, false, false, false, false, false, false, false, false, false, false, false, false, false, false, false, false, false, false, false, false, false, false, false, false, false, false] rfl rfl (take_ofW HT_.out HW_.out (by kernel_rfl)) (fun _ _ _ h => h) (Or.inl ⟨by rfl, ?_⟩) hHeld ?_ ?_
      rotate_left
      ·rintro w' ⟨s0, s1, s2, s3, s4, s5⟩
       go_simp
       with_reducible rfl
      rotate_left
      ·simp only [pS_q]
       rfl
      refine pI (v := ?_) (a' := ?_) HT_ 5 50 rfl rfl (by kernel_rfl) (fun _ _ _ h => h) (by rfl) ?_ ?_ ?_
      rotate_left
      ·intro w'
       go_simp
       with_reducible rfl
      rotate_left
      ·simp only [pS_q]
       rfl
      refine pI (v := ?_) (a' := ?_) HT_ 6 51 rfl rfl (by kernel_rfl) (fun _ _ _ h => h) (by rfl) ?_ ?_ ?_
      rotate_left
      ·intro w'
       go_simp
       with_reducible rfl
      rotate_left
      ·simp only [pS_q]
       rfl
      refine pU (a' := ?_) HT_ 7 52 rfl rfl (by kernel_rfl) (fun _ _ _ h => h) (by rfl) ?_ ?_
      rotate_left
      ·simp only [pS_q]
       rfl
      refine pU (a' := ?_) HT_ 8 53 rfl rfl (by kernel_rfl) (fun _ _ _ h => h) (by rfl) ?_ ?_
      rotate_left
      ·simp only [pS_q]
       rfl
      refine pU (a' := ?_) HT_ 9 54 rfl rfl (by kernel_rfl) (fun _ _ _ h => h) (by rfl) ?_ ?_
      rotate_left
      ·simp only [pS_q]
       rfl
      refine pU (a' := ?_) HT_ 10 55 rfl rfl (by kernel_rfl) (fun _ _ _ h => h) (by rfl) ?_ ?_
      rotate_left
      ·simp only [pS_q]
       rfl
      refine pI (v := ?_) (a' := ?_) HT_ 11 56 rfl rfl (by kernel_rfl) (fun _ _ _ h => h) (by rfl) ?_ ?_ ?_
      rotate_left
      ·intro w'
       go_simp
       with_reducible rfl
      rotate_left
      ·simp only [pS_q]
       rfl
      refine pI (v := ?_) (a' := ?_) HT_ 12 57 rfl rfl (by kernel_rfl) (fun _ _ _ h => h) (by rfl) ?_ ?_ ?_
      rotate_left
      ·intro w'
       go_simp
       with_reducible rfl
      rotate_left
      ·simp only [pS_q]
       rfl
      refine pU (a' := ?_) HT_ 13 58 rfl rfl (by kernel_rfl) (fun _ _ _ h => h) (by rfl) ?_ ?_
      rotate_left
      ·simp only [pS_q]
       rfl
      refine pU (a' := ?_) HT_ 14 59 rfl rfl (by kernel_rfl) (fun _ _ _ h => h) (by rfl) ?_ ?_
      rotate_left
      ·simp only [pS_q]
       rfl
      refine pU (a' := ?_) HT_ 15 60 rfl rfl (by kernel_rfl) (fun _ _ _ h => h) (by rfl) ?_ ?_
      rotate_left
      ·simp only [pS_q]
       rfl
      refine pU (a' := ?_) HT_ 16 61 rfl rfl (by kernel_rfl) (fun _ _ _ h => h) (by rfl) ?_ ?_
      rotate_left
      ·simp only [pS_q]
       rfl
      refine pU (a' := ?_) HT_ 17 62 rfl rfl (by kernel_rfl) (fun _ _ _ h => h) (by rfl) ?_ ?_
      rotate_left
      ·simp only [pS_q]
       rfl
      refine pU (a' := ?_) HT_ 18 63 rfl rfl (by kernel_rfl) (fun _ _ _ h => h) (by rfl) ?_ ?_
      rotate_left
      ·simp only [pS_q]
       rfl
      refine pU (a' := ?_) HT_ 19 64 rfl rfl (by kernel_rfl) (fun _ _ _ h => h) (by rfl) ?_ ?_
      rotate_left
      ·simp only [pS_q]
       rfl
      refine pU (a' := ?_) HT_ 20 65 rfl rfl (by kernel_rfl) (fun _ _ _ h => h) (by rfl) ?_ ?_
      rotate_left
      ·simp only [pS_q]
       rfl
      refine pU (a' := ?_) HT_ 21 66 rfl rfl (by kernel_rfl) (fun _ _ _ h => h) (by rfl) ?_ ?_
      rotate_left
      ·simp only [pS_q]
       rfl
      refine pU (a' := ?_) HT_ 22 67 rfl rfl (by kernel_rfl) (fun _ _ _ h => h) (by rfl) ?_ ?_
      rotate_left
      ·simp only [pS_q]
       rfl
      refine pU (a' := ?_) HT_ 23 68 rfl rfl (by kernel_rfl) (fun _ _ _ h => h) (by rfl) ?_ ?_
      rotate_left
      ·simp only [pS_q]
       rfl
      refine pU (a' := ?_) HT_ 24 69 rfl rfl (by kernel_rfl) (fun _ _ _ h => h) (by rfl) ?_ ?_
      rotate_left
      ·simp only [pS_q]
       rfl
      refine pU (a' := ?_) HT_ 25 70 rfl rfl (by kernel_rfl) (fun _ _ _ h => h) (by rfl) ?_ ?_
      rotate_left
      ·simp only [pS_q]
       rfl
      refine pU (a' := ?_) HT_ 26 71 rfl rfl (by kernel_rfl) (fun _ _ _ h => h) (by rfl) ?_ ?_
      rotate_left
      ·simp only [pS_q]
       rfl
      refine pU (a' := ?_) HT_ 27 72 rfl rfl (by kernel_rfl) (fun _ _ _ h => h) (by rfl) ?_ ?_
      rotate_left
      ·simp only [pS_q]
       rfl
      refine pU (a' := ?_) HT_ 28 73 rfl rfl (by kernel_rfl) (fun _ _ _ h => h) (by rfl) ?_ ?_
      rotate_left
      ·simp only [pS_q]
       rfl
      refine pU (a' := ?_) HT_ 29 74 rfl rfl (by kernel_rfl) (fun _ _ _ h => h) (by rfl) ?_ ?_
      rotate_left
      ·simp only [pS_q]
       rfl
      refine pI (v := ?_) (a' := ?_) HT_ 30 75 rfl rfl (by kernel_rfl) (fun _ _ _ h => h) (by rfl) ?_ ?_ ?_
      rotate_left
      ·intro w'
       go_simp
       with_reducible rfl
      rotate_left
      ·simp only [pS_q]
       rfl
      refine done_ (done_of HT_.out (by kernel_rfl)) ?_
      try go_wp2
      go_roundg k2
      case measure => have := HJ5.out; have := HK2.out; omega
      case rel => exact ⟨(wrap64 (x7_2 + 1)), (by first | rfl | (simp; done) | (simp [*]; done)), H', ⟨by have := HJ5.out; have := HK2.out; omega⟩, ⟨rup HO_4.out⟩, ⟨rup HO_5.out⟩, ⟨bel HB.out⟩⟩
     rw [if_pos c32] at H
     have c32b0 : (((rd_T27 t699 x7_2).f0) == 2) = true := beq_iff_eq.mpr c32
     have c32b1 : (((rd_T27 t699 x7_2).f0) != 2) = false := nE_q.mpr c32
     clear c32
     replace H := oB_q.mp H
     obtain ⟨t715, A330, H⟩ := H
     replace H : (if t715 = true then (laws_FnWatchOpenServed.l0 k2 t699 t704 (wrap64 (x7_2 + 1))) else (if 0 ≤ (wrap64 (x7_2 + 1)) then (if (wrap64 (x7_2 + 1)) ≤ (t699.length : Int) then ((impl_WatchOpen.f k2 (t699.take ((wrap64 (x7_2 + 1)) : Int).toNat) ((rd_T27 t699 x7_2).f1)).bind fun t721 => ((laws_hasInt.f k2 t721 ((rd_T27 t699 x7_2).f2)).bind fun t725 => (if t725 = true then (laws_FnWatchOpenServed.l0 k2 t699 t704 (wrap64 (x7_2 + 1))) else (some false)))) else (none)) else (none))) = some r := H
     have A33 := Ae_q A330
     clear A330
     by_cases c34 : t715 = true
     ·subst c34
      have H1 : (laws_FnWatchOpenServed.l0 k2 t699 t704 (wrap64 (x7_2 + 1))) = some r := by rw [if_pos rfl] at H; exact H
      clear H
      have H := H1
      clear H1
      have H' := Ae_q H
      clear H
      try go_wp2
      have n0_ := Ae_q (rD_q HO_4.out)
      have n1_ := Ae_q (rD_q HO_5.out)
      have n2_ := Ae_q (bD_q HB.out)
      clear HO_4
      clear HO_5
      clear HB
      have HO_4 := n0_
      have HO_5 := n1_
      have HB := n2_
      clear n0_ n1_ n2_
      have p714 : 0 ≤ (x7_2 : Int) := oD_q (by assumption)
      have q714 : x7_2 < (t699.length : Int) := oD_q (by assumption)
      obtain ⟨ad714, e714, hx714_0, hx714_1, hx714_2, hx714_3, hx714_4, hx714_5⟩ := at_T27 (rR_q HO_4.out).2.2 x7_2 p714 q714
      cases e714
      replace p714 := eq_true p714
      replace q714 := eq_true q714
      obtain ⟨Ao36, co36, eo36⟩ := rS_q HO_5.out
      (first | subst eo36 | (injection eo36 with f1_ f2_ f3_; have f4_ := f1_.symm; have f5_ := f3_.symm; clear f1_ f2_ f3_; subst f4_; subst f5_))
      refine start_ (n := 31) (S := fun w' => w'.cell? (ad714.add ((x7_2).toNat * 6)) = some (.int .i64 ((rd_T27 t699 x7_2).f0)) ∧ w'.cell? ⟨(ad714.add ((x7_2).toNat * 6)).block, (ad714.add ((x7_2).toNat * 6)).off + 1, none⟩ = some (.int .i64 ((rd_T27 t699 x7_2).f1)) ∧ w'.cell? ⟨(ad714.add ((x7_2).toNat * 6)).block, (ad714.add ((x7_2).toNat * 6)).off + 2, none⟩ = some (.int .i64 ((rd_T27 t699 x7_2).f2)) ∧ w'.cell? ⟨(ad714.add ((x7_2).toNat * 6)).block, (ad714.add ((x7_2).toNat * 6)).off + 3, none⟩ = some (.int .i64 ((rd_T27 t699 x7_2).f3)) ∧ w'.cell? ⟨(ad714.add ((x7_2).toNat * 6)).block, (ad714.add ((x7_2).toNat * 6)).off + 4, none⟩ = some (.int .i64 ((rd_T27 t699 x7_2).f4)) ∧ w'.cell? ⟨(ad714.add ((x7_2).toNat * 6)).block, (ad714.add ((x7_2).toNat * 6)).off + 5, none⟩ = some (.int .i64 ((rd_T27 t699 x7_2).f5))) (ds := []) #[false, false, false, false, false, false, false, false, false, false, false, false, false, false, false, false, false, false, false, false, false, false, false, false, false, false, false, false, false, false, false] (by kernel_rfl) rfl rfl ⟨hx714_0, hx714_1, hx714_2, hx714_3, hx714_4, hx714_5⟩ (fun hHeld => ?_); refine with_tabW laws_FnWatchOpenServed.tab11 laws_FnWatchOpenServed.bits11 (fun HT_ HW_ => ?_)
      generalize wr.drew = w35 at HO_4 HO_5 HB hx714_0 hx714_1 hx714_2 hx714_3 hx714_4 hx714_5 hHeld ⊢
      refine pI (v := ?_) (a' := ?_) HT_ 0 45 rfl rfl (by kernel_rfl) (fun _ _ _ h => h) (by rfl) ?_ ?_ ?_
      rotate_left
      ·intro w'
       go_simp
       with_reducible rfl
      rotate_left
      ·simp only [pS_q]
       rfl
      refine pI (v := ?_) (a' := ?_) HT_ 1 46 rfl rfl (by kernel_rfl) (fun _ _ _ h => h) (by rfl) ?_ ?_ ?_
      rotate_left
      ·intro w'
       go_simp
       with_reducible rfl
      rotate_left
      ·simp only [pS_q]
       rfl
      refine pI (v := ?_) (a' := ?_) HT_ 2 47 rfl rfl (by kernel_rfl) (fun _ _ _ h => h) (by rfl) ?_ ?_ ?_
      rotate_left
      ·intro w'
       go_simp
       with_reducible rfl
      rotate_left
      ·simp only [pS_q]
       rfl
      refine pI (v := ?_) (a' := ?_) HT_ 3 48 rfl rfl (by kernel_rfl) (fun _ _ _ h => h) (by rfl) ?_ ?_ ?_
      rotate_left
      ·intro w'
       go_simp
       with_reducible rfl
      rotate_left
      ·simp only [pS_q]
       rfl
      refine take_ (i := 4) (N := some 49) (v := ?_) (a' := ?_) #[true, true, true, true, true, false, false, false, false, false, false, false, false, false, false, false, false, false, false, false, false, false, false, false, false, false, false, false, false, false, false] rfl rfl (take_ofW HT_.out HW_.out (by kernel_rfl)) (fun _ _ _ h => h) (Or.inl ⟨by rfl, ?_⟩) hHeld ?_ ?_
      rotate_left
      ·rintro w' ⟨s0, s1, s2, s3, s4, s5⟩
       go_simp
       with_reducible rfl
      rotate_left
      ·simp only [pS_q]
       rfl
      refine pI (v := ?_) (a' := ?_) HT_ 5 50 rfl rfl (by kernel_rfl) (fun _ _ _ h => h) (by rfl) ?_ ?_ ?_
      rotate_left
      ·intro w'
       go_simp
       with_reducible rfl
      rotate_left
      ·simp only [pS_q]
       rfl
      refine pI (v := ?_) (a' := ?_) HT_ 6 51 rfl rfl (by kernel_rfl) (fun _ _ _ h => h) (by rfl) ?_ ?_ ?_
      rotate_left
      ·intro w'
       go_simp
       with_reducible rfl
      rotate_left
      ·simp only [pS_q]
       rfl
      refine pI (v := ?_) (a' := ?_) HT_ 7 52 rfl rfl (by kernel_rfl) (fun _ _ _ h => h) (by rfl) ?_ ?_ ?_
      rotate_left
      ·intro w'
       go_simp
       with_reducible rfl
      rotate_left
      ·simp only [pS_q]
       rfl
      refine pI (v := ?_) (a' := ?_) HT_ 8 53 rfl rfl (by kernel_rfl) (fun _ _ _ h => h) (by rfl) ?_ ?_ ?_
      rotate_left
      ·intro w'
       go_simp
       with_reducible rfl
      rotate_left
      ·simp only [pS_q]
       rfl
      refine one_ (i := 9) (N := some 54) #[true, true, true, true, true, true, true, true, true, true, false, false, false, false, false, false, false, false, false, false, false, false, false, false, false, false, false, false, false, false, false] rfl rfl (one_of HT_.out (by kernel_rfl)) (by decide) (fun K hK => ?_)
      refine goes_ Try.func32 (by kernel_rfl) rfl #[.slice Ao36 t704.length co36, .int .i64 x7_2] (by rfl) rfl rfl (by (try simp only [lM_q, lC_q, lN_q]); first | done | rfl | (simp only [lD_q, lT_q]; rfl)) ?_
      with_reducible refine (laws_hasInt.calls k2 _ _ t704 x7_2 true _ ?side1 ?side2 A33.out).mono ?_
      (case side1 => exact cup (rR_q HO_5.out).2.2)
      (case side2 => exact (rR_q HO_5.out).2.1)
      rintro e w' ⟨rfl, ⟨nd, rfl⟩⟩
      refine ⟨_, rfl, ?_⟩
      refine hK.out _ _ ⟨hHeld.1, hHeld.2.1, hHeld.2.2.1, hHeld.2.2.2.1, hHeld.2.2.2.2.1, hHeld.2.2.2.2.2⟩ (fun hHeld => ?_)
      clear hK K
      refine norm_ (a' := ?_) ?_ ?_
      rotate_left
      ·show Act.put _ (some 54) _ = _
       simp only [pS_q]
       rfl
      refine pI (v := ?_) (a' := ?_) HT_ 10 55 rfl rfl (by kernel_rfl) (fun _ _ _ h => h) (by rfl) ?_ ?_ ?_
      rotate_left
      ·intro w'
       go_simp
       with_reducible rfl
      rotate_left
      ·simp only [pS_q]
       rfl
      refine pI (v := ?_) (a' := ?_) HT_ 11 56 rfl rfl (by kernel_rfl) (fun _ _ _ h => h) (by rfl) ?_ ?_ ?_
      rotate_left
      ·intro w'
       go_simp
       with_reducible rfl
      rotate_left
      ·simp only [pS_q]
       rfl
      refine pI (v := ?_) (a' := ?_) HT_ 12 57 rfl rfl (by kernel_rfl) (fun _ _ _ h => h) (by rfl) ?_ ?_ ?_
      rotate_left
      ·intro w'
       go_simp
       with_reducible rfl
      rotate_left
      ·simp only [pS_q]
       rfl
      refine pU (a' := ?_) HT_ 13 58 rfl rfl (by kernel_rfl) (fun _ _ _ h => h) (by rfl) ?_ ?_
      rotate_left
      ·simp only [pS_q]
       rfl
      refine pU (a' := ?_) HT_ 14 59 rfl rfl (by kernel_rfl) (fun _ _ _ h => h) (by rfl) ?_ ?_
      rotate_left
      ·simp only [pS_q]
       rfl
      refine pU (a' := ?_) HT_ 15 60 rfl rfl (by kernel_rfl) (fun _ _ _ h => h) (by rfl) ?_ ?_
      rotate_left
      ·simp only [pS_q]
       rfl
      refine pU (a' := ?_) HT_ 16 61 rfl rfl (by kernel_rfl) (fun _ _ _ h => h) (by rfl) ?_ ?_
      rotate_left
      ·simp only [pS_q]
       rfl
      refine pU (a' := ?_) HT_ 17 62 rfl rfl (by kernel_rfl) (fun _ _ _ h => h) (by rfl) ?_ ?_
      rotate_left
      ·simp only [pS_q]
       rfl
      refine pU (a' := ?_) HT_ 18 63 rfl rfl (by kernel_rfl) (fun _ _ _ h => h) (by rfl) ?_ ?_
      rotate_left
      ·simp only [pS_q]
       rfl
      refine pU (a' := ?_) HT_ 19 64 rfl rfl (by kernel_rfl) (fun _ _ _ h => h) (by rfl) ?_ ?_
      rotate_left
      ·simp only [pS_q]
       rfl
      refine pU (a' := ?_) HT_ 20 65 rfl rfl (by kernel_rfl) (fun _ _ _ h => h) (by rfl) ?_ ?_
      rotate_left
      ·simp only [pS_q]
       rfl
      refine pU (a' := ?_) HT_ 21 66 rfl rfl (by kernel_rfl) (fun _ _ _ h => h) (by rfl) ?_ ?_
      rotate_left
      ·simp only [pS_q]
       rfl
      refine pU (a' := ?_) HT_ 22 67 rfl rfl (by kernel_rfl) (fun _ _ _ h => h) (by rfl) ?_ ?_
      rotate_left
      ·simp only [pS_q]
       rfl
      refine pU (a' := ?_) HT_ 23 68 rfl rfl (by kernel_rfl) (fun _ _ _ h => h) (by rfl) ?_ ?_
      rotate_left
      ·simp only [pS_q]
       rfl
      refine pU (a' := ?_) HT_ 24 69 rfl rfl (by kernel_rfl) (fun _ _ _ h => h) (by rfl) ?_ ?_
      rotate_left
      ·simp only [pS_q]
       rfl
      refine pU (a' := ?_) HT_ 25 70 rfl rfl (by kernel_rfl) (fun _ _ _ h => h) (by rfl) ?_ ?_
      rotate_left
      ·simp only [pS_q]
       rfl
      refine pU (a' := ?_) HT_ 26 71 rfl rfl (by kernel_rfl) (fun _ _ _ h => h) (by rfl) ?_ ?_
      rotate_left
      ·simp only [pS_q]
       rfl
      refine pU (a' := ?_) HT_ 27 72 rfl rfl (by kernel_rfl) (fun _ _ _ h => h) (by rfl) ?_ ?_
      rotate_left
      ·simp only [pS_q]
       rfl
      refine pU (a' := ?_) HT_ 28 73 rfl rfl (by kernel_rfl) (fun _ _ _ h => h) (by rfl) ?_ ?_
      rotate_left
      ·simp only [pS_q]
       rfl
      refine pU (a' := ?_) HT_ 29 74 rfl rfl (by kernel_rfl) (fun _ _ _ h => h) (by rfl) ?_ ?_
      rotate_left
      ·simp only [pS_q]
       rfl
      refine pI (v := ?_) (a' := ?_) HT_ 30 75 rfl rfl (by kernel_rfl) (fun _ _ _ h => h) (by rfl) ?_ ?_ ?_
      rotate_left
      ·intro w'
       go_simp
       with_reducible rfl
      rotate_left
      ·simp only [pS_q]
       rfl
      refine done_ (done_of HT_.out (by kernel_rfl)) ?_
      try go_wp2
      go_roundg k2
      case measure => have := HJ5.out; have := HK2.out; omega
      case rel => exact ⟨(wrap64 (x7_2 + 1)), (by first | rfl | (simp; done) | (simp [*]; done)), H', ⟨by have := HJ5.out; have := HK2.out; omega⟩, ⟨rup HO_4.out⟩, ⟨rup HO_5.out⟩, ⟨bel HB.out⟩⟩
     replace c34 := fM_q.mpr c34
     subst c34
     have H1 : (if 0 ≤ (wrap64 (x7_2 + 1)) then (if (wrap64 (x7_2 + 1)) ≤ (t699.length : Int) then ((impl_WatchOpen.f k2 (t699.take ((wrap64 (x7_2 + 1)) : Int).toNat) ((rd_T27 t699 x7_2).f1)).bind fun t721 => ((laws_hasInt.f k2 t721 ((rd_T27 t699 x7_2).f2)).bind fun t725 => (if t725 = true then (laws_FnWatchOpenServed.l0 k2 t699 t704 (wrap64 (x7_2 + 1))) else (some false)))) else (none)) else (none)) = some r := by rw [if_neg (show ¬ (false = true) by decide)] at H; exact H
     clear H
     have H := H1
     clear H1
     obtain ⟨ji37, hji37⟩ : ∃ j_ : Int, (wrap64 (x7_2 + 1)) = j_ := ⟨_, rfl⟩
     replace H : (if 0 ≤ (ji37) then (if (ji37) ≤ (t699.length : Int) then ((impl_WatchOpen.f k2 (t699.take ((ji37) : Int).toNat) ((rd_T27 t699 x7_2).f1)).bind fun t721 => ((laws_hasInt.f k2 t721 ((rd_T27 t699 x7_2).f2)).bind fun t725 => (if t725 = true then (laws_FnWatchOpenServed.l0 k2 t699 t704 ji37) else (some false)))) else (none)) else (none)) = some r := by first | (rw [hji37] at H; exact H) | (simp only [hji37] at H ⊢; exact H)
     (try rw [hji37] at A33)
     have hji37w : (IntKind.i64.wrap (x7_2 + 1)) = ji37 := (i64_w _).trans hji37
     by_cases c38 : 0 ≤ (ji37)
     rotate_left
     ·rw [if_neg c38] at H
      exact absurd H (by simp)
     rw [if_pos c38] at H
     have c38b0 := eq_true c38
     have c38b1 : decide (0 ≤ (ji37)) = true := dT_q c38
     clear c38
     by_cases c39 : (ji37) ≤ (t699.length : Int)
     rotate_left
     ·rw [if_neg c39] at H
      exact absurd H (by simp)
     rw [if_pos c39] at H
     have c39b0 := eq_true c39
     have c39b1 : decide ((ji37) ≤ (t699.length : Int)) = true := dT_q c39
     clear c39
     obtain ⟨y716, hy716⟩ : ∃ y_ : List (S27), y_ = (t699.take ((ji37) : Int).toNat) := ⟨_, rfl⟩
     replace H : ((impl_WatchOpen.f k2 y716 ((rd_T27 t699 x7_2).f1)).bind fun t721 => ((laws_hasInt.f k2 t721 ((rd_T27 t699 x7_2).f2)).bind fun t725 => (if t725 = true then (laws_FnWatchOpenServed.l0 k2 t699 t704 ji37) else (some false)))) = some r := by first | (rw [hy716]; with_reducible exact H) | (have H2_ := (oS_q _ _).symm.trans H; rw [hy716]; with_reducible exact H2_) | (have H2_ := (oS_q _ _).symm.trans H; with_reducible exact H2_) | with_reducible exact H | (rw [hy716]; exact H) | exact H
     have Ny716 := Ae_q hy716
     clear hy716
     replace H := oB_q.mp H
     obtain ⟨t721, A400, H⟩ := H
     replace H : ((laws_hasInt.f k2 t721 ((rd_T27 t699 x7_2).f2)).bind fun t725 => (if t725 = true then (laws_FnWatchOpenServed.l0 k2 t699 t704 ji37) else (some false))) = some r := H
     have A40 := Ae_q A400
     clear A400
     replace H := oB_q.mp H
     obtain ⟨t725, A410, H⟩ := H
     replace H : (if t725 = true then (laws_FnWatchOpenServed.l0 k2 t699 t704 ji37) else (some false)) = some r := H
     have A41 := Ae_q A410
     clear A410
     by_cases c42 : t725 = true
     rotate_left
     ·replace c42 := fM_q.mpr c42
      subst c42
      have H1 : (some false) = some r := by rw [if_neg (show ¬ (false = true) by decide)] at H; exact H
      clear H
      have H := H1
      clear H1
      obtain rfl := oI_q H
      try go_wp2
      have n0_ := Ae_q (rD_q HO_4.out)
      have n1_ := Ae_q (rD_q HO_5.out)
      have n2_ := Ae_q (bD_q HB.out)
      clear HO_4
      clear HO_5
      clear HB
      have HO_4 := n0_
      have HO_5 := n1_
      have HB := n2_
      clear n0_ n1_ n2_
      have p714 : 0 ≤ (x7_2 : Int) := oD_q (by assumption)
      have q714 : x7_2 < (t699.length : Int) := oD_q (by assumption)
      obtain ⟨ad714, e714, hx714_0, hx714_1, hx714_2, hx714_3, hx714_4, hx714_5⟩ := at_T27 (rR_q HO_4.out).2.2 x7_2 p714 q714
      cases e714
      replace p714 := eq_true p714
      replace q714 := eq_true q714
      obtain ⟨Ao49, co49, eo49⟩ := rS_q HO_5.out
      (first | subst eo49 | (injection eo49 with f1_ f2_ f3_; have f4_ := f1_.symm; have f5_ := f3_.symm; clear f1_ f2_ f3_; subst f4_; subst f5_))
      have p720 : 0 ≤ (x7_2 : Int) := oD_q (by assumption)
      have q720 : x7_2 < (t699.length : Int) := oD_q (by assumption)
      obtain ⟨ad720, e720, hx720_0, hx720_1, hx720_2, hx720_3, hx720_4, hx720_5⟩ := at_T27 (rR_q HO_4.out).2.2 x7_2 p720 q720
      obtain rfl : ad714 = ad720 := (by injection e720)
      replace p720 := eq_true p720
      replace q720 := eq_true q720
      have p724 : 0 ≤ (x7_2 : Int) := oD_q (by assumption)
      have q724 : x7_2 < (t699.length : Int) := oD_q (by assumption)
      obtain ⟨ad724, e724, hx724_0, hx724_1, hx724_2, hx724_3, hx724_4, hx724_5⟩ := at_T27 (rR_q HO_4.out).2.2 x7_2 p724 q724
      obtain rfl : ad714 = ad724 := (by injection e724)
      replace p724 := eq_true p724
      replace q724 := eq_true q724
      refine start_ (n := 31) (S := fun w' => w'.cell? (ad714.add ((x7_2).toNat * 6)) = some (.int .i64 ((rd_T27 t699 x7_2).f0)) ∧ w'.cell? ⟨(ad714.add ((x7_2).toNat * 6)).block, (ad714.add ((x7_2).toNat * 6)).off + 1, none⟩ = some (.int .i64 ((rd_T27 t699 x7_2).f1)) ∧ w'.cell? ⟨(ad714.add ((x7_2).toNat * 6)).block, (ad714.add ((x7_2).toNat * 6)).off + 2, none⟩ = some (.int .i64 ((rd_T27 t699 x7_2).f2)) ∧ w'.cell? ⟨(ad714.add ((x7_2).toNat * 6)).block, (ad714.add ((x7_2).toNat * 6)).off + 3, none⟩ = some (.int .i64 ((rd_T27 t699 x7_2).f3)) ∧ w'.cell? ⟨(ad714.add ((x7_2).toNat * 6)).block, (ad714.add ((x7_2).toNat * 6)).off + 4, none⟩ = some (.int .i64 ((rd_T27 t699 x7_2).f4)) ∧ w'.cell? ⟨(ad714.add ((x7_2).toNat * 6)).block, (ad714.add ((x7_2).toNat * 6)).off + 5, none⟩ = some (.int .i64 ((rd_T27 t699 x7_2).f5)) ∧ w'.cell? (ad714.add ((x7_2).toNat * 6)) = some (.int .i64 ((rd_T27 t699 x7_2).f0)) ∧ w'.cell? ⟨(ad714.add ((x7_2).toNat * 6)).block, (ad714.add ((x7_2).toNat * 6)).off + 1, none⟩ = some (.int .i64 ((rd_T27 t699 x7_2).f1)) ∧ w'.cell? ⟨(ad714.add ((x7_2).toNat * 6)).block, (ad714.add ((x7_2).toNat * 6)).off + 2, none⟩ = some (.int .i64 ((rd_T27 t699 x7_2).f2)) ∧ w'.cell? ⟨(ad714.add ((x7_2).toNat * 6)).block, (ad714.add ((x7_2).toNat * 6)).off + 3, none⟩ = some (.int .i64 ((rd_T27 t699 x7_2).f3)) ∧ w'.cell? ⟨(ad714.add ((x7_2).toNat * 6)).block, (ad714.add ((x7_2).toNat * 6)).off + 4, none⟩ = some (.int .i64 ((rd_T27 t699 x7_2).f4)) ∧ w'.cell? ⟨(ad714.add ((x7_2).toNat * 6)).block, (ad714.add ((x7_2).toNat * 6)).off + 5, none⟩ = some (.int .i64 ((rd_T27 t699 x7_2).f5)) ∧ w'.cell? (ad714.add ((x7_2).toNat * 6)) = some (.int .i64 ((rd_T27 t699 x7_2).f0)) ∧ w'.cell? ⟨(ad714.add ((x7_2).toNat * 6)).block, (ad714.add ((x7_2).toNat * 6)).off + 1, none⟩ = some (.int .i64 ((rd_T27 t699 x7_2).f1)) ∧ w'.cell? ⟨(ad714.add ((x7_2).toNat * 6)).block, (ad714.add ((x7_2).toNat * 6)).off + 2, none⟩ = some (.int .i64 ((rd_T27 t699 x7_2).f2)) ∧ w'.cell? ⟨(ad714.add ((x7_2).toNat * 6)).block, (ad714.add ((x7_2).toNat * 6)).off + 3, none⟩ = some (.int .i64 ((rd_T27 t699 x7_2).f3)) ∧ w'.cell? ⟨(ad714.add ((x7_2).toNat * 6)).block, (ad714.add ((x7_2).toNat * 6)).off + 4, none⟩ = some (.int .i64 ((rd_T27 t699 x7_2).f4)) ∧ w'.cell? ⟨(ad714.add ((x7_2).toNat * 6)).block, (ad714.add ((x7_2).toNat * 6)).off + 5, none⟩ = some (.int .i64 ((rd_T27 t699 x7_2).f5))) (ds := []) #[false, false, false, false, false, false, false, false, false, false, false, false, false, false, false, false, false, false, false, false, false, false, false, false, false, false, false, false, false, false, false] (by kernel_rfl) rfl rfl ⟨hx714_0, hx714_1, hx714_2, hx714_3, hx714_4, hx714_5, hx720_0, hx720_1, hx720_2, hx720_3, hx720_4, hx720_5, hx724_0, hx724_1, hx724_2, hx724_3, hx724_4, hx724_5⟩ (fun hHeld => ?_); refine with_tabW laws_FnWatchOpenServed.tab11 laws_FnWatchOpenServed.bits11 (fun HT_ HW_ => ?_)
      generalize wr.drew = w48 at HO_4 HO_5 HB hx714_0 hx714_1 hx714_2 hx714_3 hx714_4 hx714_5 hx720_0 hx720_1 hx720_2 hx720_3 hx720_4 hx720_5 hx724_0 hx724_1 hx724_2 hx724_3 hx724_4 hx724_5 hHeld ⊢
      refine pI (v := ?_) (a' := ?_) HT_ 0 45 rfl rfl (by kernel_rfl) (fun _ _ _ h => h) (by rfl) ?_ ?_ ?_
      rotate_left
      ·intro w'
       go_simp
       with_reducible rfl
      rotate_left
      ·simp only [pS_q]
       rfl
      refine pI (v := ?_) (a' := ?_) HT_ 1 46 rfl rfl (by kernel_rfl) (fun _ _ _ h => h) (by rfl) ?_ ?_ ?_
      rotate_left
      ·intro w'
       go_simp
       with_reducible rfl
      rotate_left
      ·simp only [pS_q]
       rfl
      refine pI (v := ?_) (a' := ?_) HT_ 2 47 rfl rfl (by kernel_rfl) (fun _ _ _ h => h) (by rfl) ?_ ?_ ?_
      rotate_left
      ·intro w'
       go_simp
       with_reducible rfl
      rotate_left
      ·simp only [pS_q]
       rfl
      refine pI (v := ?_) (a' := ?_) HT_ 3 48 rfl rfl (by kernel_rfl) (fun _ _ _ h => h) (by rfl) ?_ ?_ ?_
      rotate_left
      ·intro w'
       go_simp
       with_reducible rfl
      rotate_left
      ·simp only [pS_q]
       rfl
      refine take_ (i := 4) (N := some 49) (v := ?_) (a' := ?_) #[true, true, true, true, true, false, false, false, false, false, false, false, false, false, false, false, false, false, false, false, false, false, false, false, false, false, false, false, false, false, false] rfl rfl (take_ofW HT_.out HW_.out (by kernel_rfl)) (fun _ _ _ h => h) (Or.inl ⟨by rfl, ?_⟩) hHeld ?_ ?_
      rotate_left
      ·rintro w' ⟨s0, s1, s2, s3, s4, s5, s6, s7, s8, s9, s10, s11, s12, s13, s14, s15, s16, s17⟩
       go_simp
       with_reducible rfl
      rotate_left
      ·simp only [pS_q]
       rfl
      refine pI (v := ?_) (a' := ?_) HT_ 5 50 rfl rfl (by kernel_rfl) (fun _ _ _ h => h) (by rfl) ?_ ?_ ?_
      rotate_left
      ·intro w'
       go_simp
       with_reducible rfl
      rotate_left
      ·simp only [pS_q]
       rfl
      refine pI (v := ?_) (a' := ?_) HT_ 6 51 rfl rfl (by kernel_rfl) (fun _ _ _ h => h) (by rfl) ?_ ?_ ?_
      rotate_left
      ·intro w'
       go_simp
       with_reducible rfl
      rotate_left
      ·simp only [pS_q]
       rfl
      refine pI (v := ?_) (a' := ?_) HT_ 7 52 rfl rfl (by kernel_rfl) (fun _ _ _ h => h) (by rfl) ?_ ?_ ?_
      rotate_left
      ·intro w'
       go_simp
       with_reducible rfl
      rotate_left
      ·simp only [pS_q]
       rfl
      refine pI (v := ?_) (a' := ?_) HT_ 8 53 rfl rfl (by kernel_rfl) (fun _ _ _ h => h) (by rfl) ?_ ?_ ?_
      rotate_left
      ·intro w'
       go_simp
       with_reducible rfl
      rotate_left
      ·simp only [pS_q]
       rfl
      refine one_ (i := 9) (N := some 54) #[true, true, true, true, true, true, true, true, true, true, false, false, false, false, false, false, false, false, false, false, false, false, false, false, false, false, false, false, false, false, false] rfl rfl (one_of HT_.out (by kernel_rfl)) (by decide) (fun K hK => ?_)
      refine goes_ Try.func32 (by kernel_rfl) rfl #[.slice Ao49 t704.length co49, .int .i64 x7_2] (by rfl) rfl rfl (by (try simp only [lM_q, lC_q, lN_q]); first | done | rfl | (simp only [lD_q, lT_q]; rfl)) ?_
      with_reducible refine (laws_hasInt.calls k2 _ _ t704 x7_2 false _ ?side1 ?side2 A33.out).mono ?_
      (case side1 => exact cup (rR_q HO_5.out).2.2)
      (case side2 => exact (rR_q HO_5.out).2.1)
      rintro e w' ⟨rfl, ⟨nd, rfl⟩⟩
      refine ⟨_, rfl, ?_⟩
      have q50 : ((ji37) : Int) ≤ ((t699.length : Int) : Int) := oD_q (by assumption)
      obtain ⟨i050, hi050, _, hsz50, _⟩ := info_parts info27
      have hroom50 : t699.length ≤ co9 := (rR_q HO_4.out).2.1
      have hC50 : Kd.C k27 _ (some ad714) t699.length t699 := (rR_q HO_4.out).2.2
      have hcut50 := cut_to (P := Try.prog) 23 27 .i64 Try.underlying23 hi050 (some ad714) t699.length co9 (ji37) (oD_q (by assumption)) q50 hroom50
      have hr50 := Kd.C_take (m := ((ji37) : Int).toNat) hC50 (by omega)
      have hy50 : y716.length = ((ji37) : Int).toNat := (by rw [Ny716.out, lT_q]; omega)
      rw [← Ny716.out] at hr50
      rw [← hy50] at hcut50
      have HR719 := Ae_q hr50
      have HC719 := Ae_q (show y716.length ≤ co9 from by omega)
      clear hr50 hC50 hroom50 hi050 hsz50
      have KY50 := Ae_q hy50
      clear hy50
      have KL50 := Ae_q (show ((ji37) : Int).toNat ≤ t699.length from by omega)
      replace q50 := eq_true q50
      refine hK.out _ _ ⟨hHeld.1, hHeld.2.1, hHeld.2.2.1, hHeld.2.2.2.1, hHeld.2.2.2.2.1, hHeld.2.2.2.2.2.1, hHeld.2.2.2.2.2.2.1, hHeld.2.2.2.2.2.2.2.1, hHeld.2.2.2.2.2.2.2.2.1, hHeld.2.2.2.2.2.2.2.2.2.1, hHeld.2.2.2.2.2.2.2.2.2.2.1, hHeld.2.2.2.2.2.2.2.2.2.2.2.1, hHeld.2.2.2.2.2.2.2.2.2.2.2.2.1, hHeld.2.2.2.2.2.2.2.2.2.2.2.2.2.1, hHeld.2.2.2.2.2.2.2.2.2.2.2.2.2.2.1, hHeld.2.2.2.2.2.2.2.2.2.2.2.2.2.2.2.1, hHeld.2.2.2.2.2.2.2.2.2.2.2.2.2.2.2.2.1, hHeld.2.2.2.2.2.2.2.2.2.2.2.2.2.2.2.2.2⟩ (fun hHeld => ?_)
      clear hK K
      refine norm_ (a' := ?_) ?_ ?_
      rotate_left
      ·show Act.put _ (some 54) _ = _
       simp only [pS_q]
       rfl
      refine pI (v := ?_) (a' := ?_) HT_ 10 55 rfl rfl (by kernel_rfl) (fun _ _ _ h => h) (by rfl) ?_ ?_ ?_
      rotate_left
      ·intro w'
       go_simp
       with_reducible rfl
      rotate_left
      ·simp only [pS_q]
       rfl
      refine pI (v := ?_) (a' := ?_) HT_ 11 56 rfl rfl (by kernel_rfl) (fun _ _ _ h => h) (by rfl) ?_ ?_ ?_
      rotate_left
      ·intro w'
       go_simp
       with_reducible rfl
      rotate_left
      ·simp only [pS_q]
       rfl
      refine pI (v := ?_) (a' := ?_) HT_ 12 57 rfl rfl (by kernel_rfl) (fun _ _ _ h => h) (by rfl) ?_ ?_ ?_
      rotate_left
      ·intro w'
       go_simp
       with_reducible rfl
      rotate_left
      ·simp only [pS_q]
       rfl
      refine pI (v := ?_) (a' := ?_) HT_ 13 58 rfl rfl (by kernel_rfl) (fun _ _ _ h => h) (by rfl) ?_ ?_ ?_
      rotate_left
      ·intro w'
       go_simp
       with_reducible rfl
      rotate_left
      ·simp only [pS_q]
       rfl
      refine pI (v := ?_) (a' := ?_) HT_ 14 59 rfl rfl (by kernel_rfl) (fun _ _ _ h => h) (by rfl) ?_ ?_ ?_
      rotate_left
      ·intro w'
       go_simp
       with_reducible rfl
      rotate_left
      ·simp only [pS_q]
       rfl
      refine pI (v := ?_) (a' := ?_) HT_ 15 60 rfl rfl (by kernel_rfl) (fun _ _ _ h => h) (by rfl) ?_ ?_ ?_
      rotate_left
      ·intro w'
       go_simp
       with_reducible rfl
      rotate_left
      ·simp only [pS_q]
       rfl
      refine pI (v := ?_) (a' := ?_) HT_ 16 61 rfl rfl (by kernel_rfl) (fun _ _ _ h => h) (by rfl) ?_ ?_ ?_
      rotate_left
      ·intro w'
       go_simp
       with_reducible rfl
      rotate_left
      ·simp only [pS_q]
       rfl
      refine pI (v := ?_) (a' := ?_) HT_ 17 62 rfl rfl (by kernel_rfl) (fun _ _ _ h => h) (by rfl) ?_ ?_ ?_
      rotate_left
      ·intro w'
       go_simp
       with_reducible rfl
      rotate_left
      ·simp only [pS_q]
       rfl
      refine pI (v := ?_) (a' := ?_) HT_ 18 63 rfl rfl (by kernel_rfl) (fun _ _ _ h => h) (by rfl) ?_ ?_ ?_
      rotate_left
      ·intro w'
       go_simp
       with_reducible rfl
      rotate_left
      ·simp only [pS_q]
       rfl
      refine pI (v := ?_) (a' := ?_) HT_ 19 64 rfl rfl (by kernel_rfl) (fun _ _ _ h => h) (by rfl) ?_ ?_ ?_
      rotate_left
      ·intro w'
       go_simp
       with_reducible rfl
      rotate_left
      ·simp only [pS_q]
       rfl
      refine pI (v := ?_) (a' := ?_) HT_ 20 65 rfl rfl (by kernel_rfl) (fun _ _ _ h => h) (by rfl) ?_ ?_ ?_
      rotate_left
      ·intro w'
       go_simp
       with_reducible rfl
      rotate_left
      ·simp only [pS_q]
       rfl
      refine pI (v := ?_) (a' := ?_) HT_ 23 68 rfl rfl (by kernel_rfl) (fun _ _ _ h => h) (by rfl) ?_ ?_ ?_
      rotate_left
      ·intro w'
       go_simp
       with_reducible rfl
      rotate_left
      ·simp only [pS_q]
       rfl
      refine pI (v := ?_) (a' := ?_) HT_ 24 69 rfl rfl (by kernel_rfl) (fun _ _ _ h => h) (by rfl) ?_ ?_ ?_
      rotate_left
      ·intro w'
       go_simp
       with_reducible rfl
      rotate_left
      ·simp only [pS_q]
       rfl
      refine pI (v := ?_) (a' := ?_) HT_ 25 70 rfl rfl (by kernel_rfl) (fun _ _ _ h => h) (by rfl) ?_ ?_ ?_
      rotate_left
      ·intro w'
       go_simp
       with_reducible rfl
      rotate_left
      ·simp only [pS_q]
       rfl
      refine pI (v := ?_) (a' := ?_) HT_ 26 71 rfl rfl (by kernel_rfl) (fun _ _ _ h => h) (by rfl) ?_ ?_ ?_
      rotate_left
      ·intro w'
       go_simp
       with_reducible rfl
      rotate_left
      ·simp only [pS_q]
       rfl
      refine take_ (i := 21) (N := some 66) (v := ?_) (a' := ?_) #[true, true, true, true, true, true, true, true, true, true, true, true, true, true, true, true, true, true, true, true, true, true, false, true, true, true, true, false, false, false, false] rfl rfl (take_ofW HT_.out HW_.out (by kernel_rfl)) (fun _ _ _ h => h) (Or.inl ⟨by rfl, ?_⟩) hHeld ?_ ?_
      rotate_left
      ·rintro w' ⟨s0, s1, s2, s3, s4, s5, s6, s7, s8, s9, s10, s11, s12, s13, s14, s15, s16, s17⟩
       go_simp
       with_reducible rfl
      rotate_left
      ·simp only [pS_q]
       rfl
      refine take_ (i := 27) (N := some 72) (v := ?_) (a' := ?_) #[true, true, true, true, true, true, true, true, true, true, true, true, true, true, true, true, true, true, true, true, true, true, false, true, true, true, true, true, false, false, false] rfl rfl (take_ofW HT_.out HW_.out (by kernel_rfl)) (fun _ _ _ h => h) (Or.inl ⟨by rfl, ?_⟩) hHeld ?_ ?_
      rotate_left
      ·rintro w' ⟨s0, s1, s2, s3, s4, s5, s6, s7, s8, s9, s10, s11, s12, s13, s14, s15, s16, s17⟩
       go_simp
       with_reducible rfl
      rotate_left
      ·simp only [pS_q]
       rfl
      refine one_ (i := 22) (N := some 67) #[true, true, true, true, true, true, true, true, true, true, true, true, true, true, true, true, true, true, true, true, true, true, true, true, true, true, true, true, false, false, false] rfl rfl (one_of HT_.out (by kernel_rfl)) (by decide) (fun K hK => ?_)
      refine goes_ Try.func30 (by kernel_rfl) rfl #[.slice (some ad714) y716.length co9, .int .i64 ((rd_T27 t699 x7_2).f1)] (by rfl) rfl rfl (by (try simp only [lM_q, lC_q, lN_q]); first | done | rfl | (simp only [lD_q, lT_q]; rfl)) ?_
      with_reducible refine (impl_WatchOpen.calls k2 _ _ y716 ((rd_T27 t699 x7_2).f1) t721 _ ?side1 ?side2 A40.out).mono ?_
      (case side1 => repeat (first | exact (by repeat (first | (with_reducible exact HR719.out) | (with_reducible refine cA_q ?_ _) | (with_reducible refine cN_q ?_ _) | (with_reducible refine cD_q ?_) | exact HR719.out)) | (with_reducible refine cA_q ?_ _) | (with_reducible refine cN_q ?_ _) | (with_reducible refine cD_q ?_)))
      (case side2 => exact HC719.out)
      rintro e w51 ⟨v722, rfl, ho0, hb⟩
      have HS0_ := (hb.cell (wL_q _ _ (hHeld.1))).trans (hHeld.1)
      have HS1_ := (hb.cell (wL_q _ _ (hHeld.2.1))).trans (hHeld.2.1)
      have HS2_ := (hb.cell (wL_q _ _ (hHeld.2.2.1))).trans (hHeld.2.2.1)
      have HS3_ := (hb.cell (wL_q _ _ (hHeld.2.2.2.1))).trans (hHeld.2.2.2.1)
      have HS4_ := (hb.cell (wL_q _ _ (hHeld.2.2.2.2.1))).trans (hHeld.2.2.2.2.1)
      have HS5_ := (hb.cell (wL_q _ _ (hHeld.2.2.2.2.2.1))).trans (hHeld.2.2.2.2.2.1)
      have HS6_ := (hb.cell (wL_q _ _ (hHeld.2.2.2.2.2.2.1))).trans (hHeld.2.2.2.2.2.2.1)
      have HS7_ := (hb.cell (wL_q _ _ (hHeld.2.2.2.2.2.2.2.1))).trans (hHeld.2.2.2.2.2.2.2.1)
      have HS8_ := (hb.cell (wL_q _ _ (hHeld.2.2.2.2.2.2.2.2.1))).trans (hHeld.2.2.2.2.2.2.2.2.1)
      have HS9_ := (hb.cell (wL_q _ _ (hHeld.2.2.2.2.2.2.2.2.2.1))).trans (hHeld.2.2.2.2.2.2.2.2.2.1)
      have HS10_ := (hb.cell (wL_q _ _ (hHeld.2.2.2.2.2.2.2.2.2.2.1))).trans (hHeld.2.2.2.2.2.2.2.2.2.2.1)
      have HS11_ := (hb.cell (wL_q _ _ (hHeld.2.2.2.2.2.2.2.2.2.2.2.1))).trans (hHeld.2.2.2.2.2.2.2.2.2.2.2.1)
      have HS12_ := (hb.cell (wL_q _ _ (hHeld.2.2.2.2.2.2.2.2.2.2.2.2.1))).trans (hHeld.2.2.2.2.2.2.2.2.2.2.2.2.1)
      have HS13_ := (hb.cell (wL_q _ _ (hHeld.2.2.2.2.2.2.2.2.2.2.2.2.2.1))).trans (hHeld.2.2.2.2.2.2.2.2.2.2.2.2.2.1)
      have HS14_ := (hb.cell (wL_q _ _ (hHeld.2.2.2.2.2.2.2.2.2.2.2.2.2.2.1))).trans (hHeld.2.2.2.2.2.2.2.2.2.2.2.2.2.2.1)
      have HS15_ := (hb.cell (wL_q _ _ (hHeld.2.2.2.2.2.2.2.2.2.2.2.2.2.2.2.1))).trans (hHeld.2.2.2.2.2.2.2.2.2.2.2.2.2.2.2.1)
      have HS16_ := (hb.cell (wL_q _ _ (hHeld.2.2.2.2.2.2.2.2.2.2.2.2.2.2.2.2.1))).trans (hHeld.2.2.2.2.2.2.2.2.2.2.2.2.2.2.2.2.1)
      have HS17_ := (hb.cell (wL_q _ _ (hHeld.2.2.2.2.2.2.2.2.2.2.2.2.2.2.2.2.2))).trans (hHeld.2.2.2.2.2.2.2.2.2.2.2.2.2.2.2.2.2)
      refine ⟨_, rfl, ?_⟩
      have n0_ := Ae_q (rO_q (rup HO_4.out) hb)
      have n1_ := Ae_q (rE_q (rup HO_5.out) (rB_q ho0) hb)
      have n2_ := Ae_q (rL_q (rW_q ho0 (rT_q (rup HO_5.out))) (bZ_q (bel HB.out)))
      have n3_ := Ae_q (cB_q (by repeat (first | (with_reducible exact HR719.out) | (with_reducible refine cA_q ?_ _) | (with_reducible refine cN_q ?_ _) | (with_reducible refine cD_q ?_) | exact HR719.out)) hb)
      have n4_ := Ae_q (bT_q (bel HB.out) hb)
      clear HO_4
      clear HO_5
      clear HR719
      clear HB
      have HO_4 := n0_
      have HO_5 := n1_
      have HO723 := n2_
      have HR719 := n3_
      have HB := n4_
      clear n0_ n1_ n2_ n3_ n4_
      (try clear hb)
      (try clear hb2)
      (try clear hk)
      (try clear hi)
      (try clear ho0)
      obtain ⟨Ao52, co52, eo52⟩ := rS_q HO723.out
      (first | subst eo52 | (injection eo52 with f1_ f2_ f3_; have f4_ := f1_.symm; have f5_ := f3_.symm; clear f1_ f2_ f3_; subst f4_; subst f5_))
      refine hK.out _ _ ⟨HS0_, HS1_, HS2_, HS3_, HS4_, HS5_, HS6_, HS7_, HS8_, HS9_, HS10_, HS11_, HS12_, HS13_, HS14_, HS15_, HS16_, HS17_⟩ (fun hHeld => ?_)
      clear hK K
      refine norm_ (a' := ?_) ?_ ?_
      rotate_left
      ·show Act.put _ (some 67) _ = _
       simp only [pS_q]
       rfl
      refine one_ (i := 28) (N := some 73) #[true, true, true, true, true, true, true, true, true, true, true, true, true, true, true, true, true, true, true, true, true, true, true, true, true, true, true, true, true, false, false] rfl rfl (one_of HT_.out (by kernel_rfl)) (by decide) (fun K hK => ?_)
      refine goes_ Try.func32 (by kernel_rfl) rfl #[.slice Ao52 t721.length co52, .int .i64 ((rd_T27 t699 x7_2).f2)] (by rfl) rfl rfl (by (try simp only [lM_q, lC_q, lN_q]); first | done | rfl | (simp only [lD_q, lT_q]; rfl)) ?_
      with_reducible refine (laws_hasInt.calls k2 _ _ t721 ((rd_T27 t699 x7_2).f2) false _ ?side1 ?side2 A41.out).mono ?_
      (case side1 => exact cup (rR_q HO723.out).2.2)
      (case side2 => exact (rR_q HO723.out).2.1)
      rintro e w' ⟨rfl, ⟨nd, rfl⟩⟩
      refine ⟨_, rfl, ?_⟩
      refine hK.out _ _ ⟨hHeld.1, hHeld.2.1, hHeld.2.2.1, hHeld.2.2.2.1, hHeld.2.2.2.2.1, hHeld.2.2.2.2.2.1, hHeld.2.2.2.2.2.2.1, hHeld.2.2.2.2.2.2.2.1, hHeld.2.2.2.2.2.2.2.2.1, hHeld.2.2.2.2.2.2.2.2.2.1, hHeld.2.2.2.2.2.2.2.2.2.2.1, hHeld.2.2.2.2.2.2.2.2.2.2.2.1, hHeld.2.2.2.2.2.2.2.2.2.2.2.2.1, hHeld.2.2.2.2.2.2.2.2.2.2.2.2.2.1, hHeld.2.2.2.2.2.2.2.2.2.2.2.2.2.2.1, hHeld.2.2.2.2.2.2.2.2.2.2.2.2.2.2.2.1, hHeld.2.2.2.2.2.2.2.2.2.2.2.2.2.2.2.2.1, hHeld.2.2.2.2.2.2.2.2.2.2.2.2.2.2.2.2.2⟩ (fun hHeld => ?_)
      clear hK K
      refine norm_ (a' := ?_) ?_ ?_
      rotate_left
      ·show Act.put _ (some 73) _ = _
       simp only [pS_q]
       rfl
      refine pI (v := ?_) (a' := ?_) HT_ 29 74 rfl rfl (by kernel_rfl) (fun _ _ _ h => h) (by rfl) ?_ ?_ ?_
      rotate_left
      ·intro w'
       go_simp
       with_reducible rfl
      rotate_left
      ·simp only [pS_q]
       rfl
      refine pI (v := ?_) (a' := ?_) HT_ 30 75 rfl rfl (by kernel_rfl) (fun _ _ _ h => h) (by rfl) ?_ ?_ ?_
      rotate_left
      ·intro w'
       go_simp
       with_reducible rfl
      rotate_left
      ·simp only [pS_q]
       rfl
      refine done_ (done_of HT_.out (by kernel_rfl)) ?_
      try go_wp2
      go_ret
      exact ⟨by first | rfl | (simp [eN_q, eS_q] <;> rfl) | (simp only [← hji37]; first | rfl | (simp [eN_q, eS_q] <;> rfl)) | (simp [*, eN_q, eS_q] <;> rfl), bel HB.out⟩
     subst c42
     have H1 : (laws_FnWatchOpenServed.l0 k2 t699 t704 ji37) = some r := by rw [if_pos rfl] at H; exact H
     clear H
     have H := H1
     clear H1
     have H' := Ae_q H
     clear H
     try go_wp2
     have n0_ := Ae_q (rD_q HO_4.out)
     have n1_ := Ae_q (rD_q HO_5.out)
     have n2_ := Ae_q (bD_q HB.out)
     clear HO_4
     clear HO_5
     clear HB
     have HO_4 := n0_
     have HO_5 := n1_
     have HB := n2_
     clear n0_ n1_ n2_
     have p714 : 0 ≤ (x7_2 : Int) := oD_q (by assumption)
     have q714 : x7_2 < (t699.length : Int) := oD_q (by assumption)
     obtain ⟨ad714, e714, hx714_0, hx714_1, hx714_2, hx714_3, hx714_4, hx714_5⟩ := at_T27 (rR_q HO_4.out).2.2 x7_2 p714 q714
     cases e714
     replace p714 := eq_true p714
     replace q714 := eq_true q714
     obtain ⟨Ao44, co44, eo44⟩ := rS_q HO_5.out
     (first | subst eo44 | (injection eo44 with f1_ f2_ f3_; have f4_ := f1_.symm; have f5_ := f3_.symm; clear f1_ f2_ f3_; subst f4_; subst f5_))
     have p720 : 0 ≤ (x7_2 : Int) := oD_q (by assumption)
     have q720 : x7_2 < (t699.length : Int) := oD_q (by assumption)
     obtain ⟨ad720, e720, hx720_0, hx720_1, hx720_2, hx720_3, hx720_4, hx720_5⟩ := at_T27 (rR_q HO_4.out).2.2 x7_2 p720 q720
     obtain rfl : ad714 = ad720 := (by injection e720)
     replace p720 := eq_true p720
     replace q720 := eq_true q720
     have p724 : 0 ≤ (x7_2 : Int) := oD_q (by assumption)
     have q724 : x7_2 < (t699.length : Int) := oD_q (by assumption)
     obtain ⟨ad724, e724, hx724_0, hx724_1, hx724_2, hx724_3, hx724_4, hx724_5⟩ := at_T27 (rR_q HO_4.out).2.2 x7_2 p724 q724
     obtain rfl : ad714 = ad724 := (by injection e724)
     replace p724 := eq_true p724
     replace q724 := eq_true q724
     refine start_ (n := 31) (S := fun w' => w'.cell? (ad714.add ((x7_2).toNat * 6)) = some (.int .i64 ((rd_T27 t699 x7_2).f0)) ∧ w'.cell? ⟨(ad714.add ((x7_2).toNat * 6)).block, (ad714.add ((x7_2).toNat * 6)).off + 1, none⟩ = some (.int .i64 ((rd_T27 t699 x7_2).f1)) ∧ w'.cell? ⟨(ad714.add ((x7_2).toNat * 6)).block, (ad714.add ((x7_2).toNat * 6)).off + 2, none⟩ = some (.int .i64 ((rd_T27 t699 x7_2).f2)) ∧ w'.cell? ⟨(ad714.add ((x7_2).toNat * 6)).block, (ad714.add ((x7_2).toNat * 6)).off + 3, none⟩ = some (.int .i64 ((rd_T27 t699 x7_2).f3)) ∧ w'.cell? ⟨(ad714.add ((x7_2).toNat * 6)).block, (ad714.add ((x7_2).toNat * 6)).off + 4, none⟩ = some (.int .i64 ((rd_T27 t699 x7_2).f4)) ∧ w'.cell? ⟨(ad714.add ((x7_2).toNat * 6)).block, (ad714.add ((x7_2).toNat * 6)).off + 5, none⟩ = some (.int .i64 ((rd_T27 t699 x7_2).f5)) ∧ w'.cell? (ad714.add ((x7_2).toNat * 6)) = some (.int .i64 ((rd_T27 t699 x7_2).f0)) ∧ w'.cell? ⟨(ad714.add ((x7_2).toNat * 6)).block, (ad714.add ((x7_2).toNat * 6)).off + 1, none⟩ = some (.int .i64 ((rd_T27 t699 x7_2).f1)) ∧ w'.cell? ⟨(ad714.add ((x7_2).toNat * 6)).block, (ad714.add ((x7_2).toNat * 6)).off + 2, none⟩ = some (.int .i64 ((rd_T27 t699 x7_2).f2)) ∧ w'.cell? ⟨(ad714.add ((x7_2).toNat * 6)).block, (ad714.add ((x7_2).toNat * 6)).off + 3, none⟩ = some (.int .i64 ((rd_T27 t699 x7_2).f3)) ∧ w'.cell? ⟨(ad714.add ((x7_2).toNat * 6)).block, (ad714.add ((x7_2).toNat * 6)).off + 4, none⟩ = some (.int .i64 ((rd_T27 t699 x7_2).f4)) ∧ w'.cell? ⟨(ad714.add ((x7_2).toNat * 6)).block, (ad714.add ((x7_2).toNat * 6)).off + 5, none⟩ = some (.int .i64 ((rd_T27 t699 x7_2).f5)) ∧ w'.cell? (ad714.add ((x7_2).toNat * 6)) = some (.int .i64 ((rd_T27 t699 x7_2).f0)) ∧ w'.cell? ⟨(ad714.add ((x7_2).toNat * 6)).block, (ad714.add ((x7_2).toNat * 6)).off + 1, none⟩ = some (.int .i64 ((rd_T27 t699 x7_2).f1)) ∧ w'.cell? ⟨(ad714.add ((x7_2).toNat * 6)).block, (ad714.add ((x7_2).toNat * 6)).off + 2, none⟩ = some (.int .i64 ((rd_T27 t699 x7_2).f2)) ∧ w'.cell? ⟨(ad714.add ((x7_2).toNat * 6)).block, (ad714.add ((x7_2).toNat * 6)).off + 3, none⟩ = some (.int .i64 ((rd_T27 t699 x7_2).f3)) ∧ w'.cell? ⟨(ad714.add ((x7_2).toNat * 6)).block, (ad714.add ((x7_2).toNat * 6)).off + 4, none⟩ = some (.int .i64 ((rd_T27 t699 x7_2).f4)) ∧ w'.cell? ⟨(ad714.add ((x7_2).toNat * 6)).block, (ad714.add ((x7_2).toNat * 6)).off + 5, none⟩ = some (.int .i64 ((rd_T27 t699 x7_2).f5))) (ds := []) #[false, false, false, false, false, false, false, false, false, false, false, false, false, false, false, false, false, false, false, false, false, false, false, false, false, false, false, false, false, false, false] (by kernel_rfl) rfl rfl ⟨hx714_0, hx714_1, hx714_2, hx714_3, hx714_4, hx714_5, hx720_0, hx720_1, hx720_2, hx720_3, hx720_4, hx720_5, hx724_0, hx724_1, hx724_2, hx724_3, hx724_4, hx724_5⟩ (fun hHeld => ?_); refine with_tabW laws_FnWatchOpenServed.tab11 laws_FnWatchOpenServed.bits11 (fun HT_ HW_ => ?_)
     generalize wr.drew = w43 at HO_4 HO_5 HB hx714_0 hx714_1 hx714_2 hx714_3 hx714_4 hx714_5 hx720_0 hx720_1 hx720_2 hx720_3 hx720_4 hx720_5 hx724_0 hx724_1 hx724_2 hx724_3 hx724_4 hx724_5 hHeld ⊢
     refine pI (v := ?_) (a' := ?_) HT_ 0 45 rfl rfl (by kernel_rfl) (fun _ _ _ h => h) (by rfl) ?_ ?_ ?_
     rotate_left
     ·intro w'
      go_simp
      with_reducible rfl
     rotate_left
     ·simp only [pS_q]
      rfl
     refine pI (v := ?_) (a' := ?_) HT_ 1 46 rfl rfl (by kernel_rfl) (fun _ _ _ h => h) (by rfl) ?_ ?_ ?_
     rotate_left
     ·intro w'
      go_simp
      with_reducible rfl
     rotate_left
     ·simp only [pS_q]
      rfl
     refine pI (v := ?_) (a' := ?_) HT_ 2 47 rfl rfl (by kernel_rfl) (fun _ _ _ h => h) (by rfl) ?_ ?_ ?_
     rotate_left
     ·intro w'
      go_simp
      with_reducible rfl
     rotate_left
     ·simp only [pS_q]
      rfl
     refine pI (v := ?_) (a' := ?_) HT_ 3 48 rfl rfl (by kernel_rfl) (fun _ _ _ h => h) (by rfl) ?_ ?_ ?_
     rotate_left
     ·intro w'
      go_simp
      with_reducible rfl
     rotate_left
     ·simp only [pS_q]
      rfl
     refine take_ (i := 4) (N := some 49) (v := ?_) (a' := ?_) #[true, true, true, true, true, false, false, false, false, false, false, false, false, false, false, false, false, false, false, false, false, false, false, false, false, false, false, false, false, false, false] rfl rfl (take_ofW HT_.out HW_.out (by kernel_rfl)) (fun _ _ _ h => h) (Or.inl ⟨by rfl, ?_⟩) hHeld ?_ ?_
     rotate_left
     ·rintro w' ⟨s0, s1, s2, s3, s4, s5, s6, s7, s8, s9, s10, s11, s12, s13, s14, s15, s16, s17⟩
      go_simp
      with_reducible rfl
     rotate_left
     ·simp only [pS_q]
      rfl
     refine pI (v := ?_) (a' := ?_) HT_ 5 50 rfl rfl (by kernel_rfl) (fun _ _ _ h => h) (by rfl) ?_ ?_ ?_
     rotate_left
     ·intro w'
      go_simp
      with_reducible rfl
     rotate_left
     ·simp only [pS_q]
      rfl
     refine pI (v := ?_) (a' := ?_) HT_ 6 51 rfl rfl (by kernel_rfl) (fun _ _ _ h => h) (by rfl) ?_ ?_ ?_
     rotate_left
     ·intro w'
      go_simp
      with_reducible rfl
     rotate_left
     ·simp only [pS_q]
      rfl
     refine pI (v := ?_) (a' := ?_) HT_ 7 52 rfl rfl (by kernel_rfl) (fun _ _ _ h => h) (by rfl) ?_ ?_ ?_
     rotate_left
     ·intro w'
      go_simp
      with_reducible rfl
     rotate_left
     ·simp only [pS_q]
      rfl
     refine pI (v := ?_) (a' := ?_) HT_ 8 53 rfl rfl (by kernel_rfl) (fun _ _ _ h => h) (by rfl) ?_ ?_ ?_
     rotate_left
     ·intro w'
      go_simp
      with_reducible rfl
     rotate_left
     ·simp only [pS_q]
      rfl
     refine one_ (i := 9) (N := some 54) #[true, true, true, true, true, true, true, true, true, true, false, false, false, false, false, false, false, false, false, false, false, false, false, false, false, false, false, false, false, false, false] rfl rfl (one_of HT_.out (by kernel_rfl)) (by decide) (fun K hK => ?_)
     refine goes_ Try.func32 (by kernel_rfl) rfl #[.slice Ao44 t704.length co44, .int .i64 x7_2] (by rfl) rfl rfl (by (try simp only [lM_q, lC_q, lN_q]); first | done | rfl | (simp only [lD_q, lT_q]; rfl)) ?_
     with_reducible refine (laws_hasInt.calls k2 _ _ t704 x7_2 false _ ?side1 ?side2 A33.out).mono ?_
     (case side1 => exact cup (rR_q HO_5.out).2.2)
     (case side2 => exact (rR_q HO_5.out).2.1)
     rintro e w' ⟨rfl, ⟨nd, rfl⟩⟩
     refine ⟨_, rfl, ?_⟩
     have q45 : ((ji37) : Int) ≤ ((t699.length : Int) : Int) := oD_q (by assumption)
     obtain ⟨i045, hi045, _, hsz45, _⟩ := info_parts info27
     have hroom45 : t699.length ≤ co9 := (rR_q HO_4.out).2.1
     have hC45 : Kd.C k27 _ (some ad714) t699.length t699 := (rR_q HO_4.out).2.2
     have hcut45 := cut_to (P := Try.prog) 23 27 .i64 Try.underlying23 hi045 (some ad714) t699.length co9 (ji37) (oD_q (by assumption)) q45 hroom45
     have hr45 := Kd.C_take (m := ((ji37) : Int).toNat) hC45 (by omega)
     have hy45 : y716.length = ((ji37) : Int).toNat := (by rw [Ny716.out, lT_q]; omega)
     rw [← Ny716.out] at hr45
     rw [← hy45] at hcut45
     have HR719 := Ae_q hr45
     have HC719 := Ae_q (show y716.length ≤ co9 from by omega)
     clear hr45 hC45 hroom45 hi045 hsz45
     have KY45 := Ae_q hy45
     clear hy45
     have KL45 := Ae_q (show ((ji37) : Int).toNat ≤ t699.length from by omega)
     replace q45 := eq_true q45
     refine hK.out _ _ ⟨hHeld.1, hHeld.2.1, hHeld.2.2.1, hHeld.2.2.2.1, hHeld.2.2.2.2.1, hHeld.2.2.2.2.2.1, hHeld.2.2.2.2.2.2.1, hHeld.2.2.2.2.2.2.2.1, hHeld.2.2.2.2.2.2.2.2.1, hHeld.2.2.2.2.2.2.2.2.2.1, hHeld.2.2.2.2.2.2.2.2.2.2.1, hHeld.2.2.2.2.2.2.2.2.2.2.2.1, hHeld.2.2.2.2.2.2.2.2.2.2.2.2.1, hHeld.2.2.2.2.2.2.2.2.2.2.2.2.2.1, hHeld.2.2.2.2.2.2.2.2.2.2.2.2.2.2.1, hHeld.2.2.2.2.2.2.2.2.2.2.2.2.2.2.2.1, hHeld.2.2.2.2.2.2.2.2.2.2.2.2.2.2.2.2.1, hHeld.2.2.2.2.2.2.2.2.2.2.2.2.2.2.2.2.2⟩ (fun hHeld => ?_)
     clear hK K
     refine norm_ (a' := ?_) ?_ ?_
     rotate_left
     ·show Act.put _ (some 54) _ = _
      simp only [pS_q]
      rfl
     refine pI (v := ?_) (a' := ?_) HT_ 10 55 rfl rfl (by kernel_rfl) (fun _ _ _ h => h) (by rfl) ?_ ?_ ?_
     rotate_left
     ·intro w'
      go_simp
      with_reducible rfl
     rotate_left
     ·simp only [pS_q]
      rfl
     refine pI (v := ?_) (a' := ?_) HT_ 11 56 rfl rfl (by kernel_rfl) (fun _ _ _ h => h) (by rfl) ?_ ?_ ?_
     rotate_left
     ·intro w'
      go_simp
      with_reducible rfl
     rotate_left
     ·simp only [pS_q]
      rfl
     refine pI (v := ?_) (a' := ?_) HT_ 12 57 rfl rfl (by kernel_rfl) (fun _ _ _ h => h) (by rfl) ?_ ?_ ?_
     rotate_left
     ·intro w'
      go_simp
      with_reducible rfl
     rotate_left
     ·simp only [pS_q]
      rfl
     refine pI (v := ?_) (a' := ?_) HT_ 13 58 rfl rfl (by kernel_rfl) (fun _ _ _ h => h) (by rfl) ?_ ?_ ?_
     rotate_left
     ·intro w'
      go_simp
      with_reducible rfl
     rotate_left
     ·simp only [pS_q]
      rfl
     refine pI (v := ?_) (a' := ?_) HT_ 14 59 rfl rfl (by kernel_rfl) (fun _ _ _ h => h) (by rfl) ?_ ?_ ?_
     rotate_left
     ·intro w'
      go_simp
      with_reducible rfl
     rotate_left
     ·simp only [pS_q]
      rfl
     refine pI (v := ?_) (a' := ?_) HT_ 15 60 rfl rfl (by kernel_rfl) (fun _ _ _ h => h) (by rfl) ?_ ?_ ?_
     rotate_left
     ·intro w'
      go_simp
      with_reducible rfl
     rotate_left
     ·simp only [pS_q]
      rfl
     refine pI (v := ?_) (a' := ?_) HT_ 16 61 rfl rfl (by kernel_rfl) (fun _ _ _ h => h) (by rfl) ?_ ?_ ?_
     rotate_left
     ·intro w'
      go_simp
      with_reducible rfl
     rotate_left
     ·simp only [pS_q]
      rfl
     refine pI (v := ?_) (a' := ?_) HT_ 17 62 rfl rfl (by kernel_rfl) (fun _ _ _ h => h) (by rfl) ?_ ?_ ?_
     rotate_left
     ·intro w'
      go_simp
      with_reducible rfl
     rotate_left
     ·simp only [pS_q]
      rfl
     refine pI (v := ?_) (a' := ?_) HT_ 18 63 rfl rfl (by kernel_rfl) (fun _ _ _ h => h) (by rfl) ?_ ?_ ?_
     rotate_left
     ·intro w'
      go_simp
      with_reducible rfl
     rotate_left
     ·simp only [pS_q]
      rfl
     refine pI (v := ?_) (a' := ?_) HT_ 19 64 rfl rfl (by kernel_rfl) (fun _ _ _ h => h) (by rfl) ?_ ?_ ?_
     rotate_left
     ·intro w'
      go_simp
      with_reducible rfl
     rotate_left
     ·simp only [pS_q]
      rfl
     refine pI (v := ?_) (a' := ?_) HT_ 20 65 rfl rfl (by kernel_rfl) (fun _ _ _ h => h) (by rfl) ?_ ?_ ?_
     rotate_left
     ·intro w'
      go_simp
      with_reducible rfl
     rotate_left
     ·simp only [pS_q]
      rfl
     refine pI (v := ?_) (a' := ?_) HT_ 23 68 rfl rfl (by kernel_rfl) (fun _ _ _ h => h) (by rfl) ?_ ?_ ?_
     rotate_left
     ·intro w'
      go_simp
      with_reducible rfl
     rotate_left
     ·simp only [pS_q]
      rfl
     refine pI (v := ?_) (a' := ?_) HT_ 24 69 rfl rfl (by kernel_rfl) (fun _ _ _ h => h) (by rfl) ?_ ?_ ?_
     rotate_left
     ·intro w'
      go_simp
      with_reducible rfl
     rotate_left
     ·simp only [pS_q]
      rfl
     refine pI (v := ?_) (a' := ?_) HT_ 25 70 rfl rfl (by kernel_rfl) (fun _ _ _ h => h) (by rfl) ?_ ?_ ?_
     rotate_left
     ·intro w'
      go_simp
      with_reducible rfl
     rotate_left
     ·simp only [pS_q]
      rfl
     refine pI (v := ?_) (a' := ?_) HT_ 26 71 rfl rfl (by kernel_rfl) (fun _ _ _ h => h) (by rfl) ?_ ?_ ?_
     rotate_left
     ·intro w'
      go_simp
      with_reducible rfl
     rotate_left
     ·simp only [pS_q]
      rfl
     refine take_ (i := 21) (N := some 66) (v := ?_) (a' := ?_) #[true, true, true, true, true, true, true, true, true, true, true, true, true, true, true, true, true, true, true, true, true, true, false, true, true, true, true, false, false, false, false] rfl rfl (take_ofW HT_.out HW_.out (by kernel_rfl)) (fun _ _ _ h => h) (Or.inl ⟨by rfl, ?_⟩) hHeld ?_ ?_
     rotate_left
     ·rintro w' ⟨s0, s1, s2, s3, s4, s5, s6, s7, s8, s9, s10, s11, s12, s13, s14, s15, s16, s17⟩
      go_simp
      with_reducible rfl
     rotate_left
     ·simp only [pS_q]
      rfl
     refine take_ (i := 27) (N := some 72) (v := ?_) (a' := ?_) #[true, true, true, true, true, true, true, true, true, true, true, true, true, true, true, true, true, true, true, true, true, true, false, true, true, true, true, true, false, false, false] rfl rfl (take_ofW HT_.out HW_.out (by kernel_rfl)) (fun _ _ _ h => h) (Or.inl ⟨by rfl, ?_⟩) hHeld ?_ ?_
     rotate_left
     ·rintro w' ⟨s0, s1, s2, s3, s4, s5, s6, s7, s8, s9, s10, s11, s12, s13, s14, s15, s16, s17⟩
      go_simp
      with_reducible rfl
     rotate_left
     ·simp only [pS_q]
      rfl
     refine one_ (i := 22) (N := some 67) #[true, true, true, true, true, true, true, true, true, true, true, true, true, true, true, true, true, true, true, true, true, true, true, true, true, true, true, true, false, false, false] rfl rfl (one_of HT_.out (by kernel_rfl)) (by decide) (fun K hK => ?_)
     refine goes_ Try.func30 (by kernel_rfl) rfl #[.slice (some ad714) y716.length co9, .int .i64 ((rd_T27 t699 x7_2).f1)] (by rfl) rfl rfl (by (try simp only [lM_q, lC_q, lN_q]); first | done | rfl | (simp only [lD_q, lT_q]; rfl)) ?_
     with_reducible refine (impl_WatchOpen.calls k2 _ _ y716 ((rd_T27 t699 x7_2).f1) t721 _ ?side1 ?side2 A40.out).mono ?_
     (case side1 => repeat (first | exact (by repeat (first | (with_reducible exact HR719.out) | (with_reducible refine cA_q ?_ _) | (with_reducible refine cN_q ?_ _) | (with_reducible refine cD_q ?_) | exact HR719.out)) | (with_reducible refine cA_q ?_ _) | (with_reducible refine cN_q ?_ _) | (with_reducible refine cD_q ?_)))
     (case side2 => exact HC719.out)
     rintro e w46 ⟨v722, rfl, ho0, hb⟩
     have HS0_ := (hb.cell (wL_q _ _ (hHeld.1))).trans (hHeld.1)
     have HS1_ := (hb.cell (wL_q _ _ (hHeld.2.1))).trans (hHeld.2.1)
     have HS2_ := (hb.cell (wL_q _ _ (hHeld.2.2.1))).trans (hHeld.2.2.1)
     have HS3_ := (hb.cell (wL_q _ _ (hHeld.2.2.2.1))).trans (hHeld.2.2.2.1)
     have HS4_ := (hb.cell (wL_q _ _ (hHeld.2.2.2.2.1))).trans (hHeld.2.2.2.2.1)
     have HS5_ := (hb.cell (wL_q _ _ (hHeld.2.2.2.2.2.1))).trans (hHeld.2.2.2.2.2.1)
     have HS6_ := (hb.cell (wL_q _ _ (hHeld.2.2.2.2.2.2.1))).trans (hHeld.2.2.2.2.2.2.1)
     have HS7_ := (hb.cell (wL_q _ _ (hHeld.2.2.2.2.2.2.2.1))).trans (hHeld.2.2.2.2.2.2.2.1)
     have HS8_ := (hb.cell (wL_q _ _ (hHeld.2.2.2.2.2.2.2.2.1))).trans (hHeld.2.2.2.2.2.2.2.2.1)
     have HS9_ := (hb.cell (wL_q _ _ (hHeld.2.2.2.2.2.2.2.2.2.1))).trans (hHeld.2.2.2.2.2.2.2.2.2.1)
     have HS10_ := (hb.cell (wL_q _ _ (hHeld.2.2.2.2.2.2.2.2.2.2.1))).trans (hHeld.2.2.2.2.2.2.2.2.2.2.1)
     have HS11_ := (hb.cell (wL_q _ _ (hHeld.2.2.2.2.2.2.2.2.2.2.2.1))).trans (hHeld.2.2.2.2.2.2.2.2.2.2.2.1)
     have HS12_ := (hb.cell (wL_q _ _ (hHeld.2.2.2.2.2.2.2.2.2.2.2.2.1))).trans (hHeld.2.2.2.2.2.2.2.2.2.2.2.2.1)
     have HS13_ := (hb.cell (wL_q _ _ (hHeld.2.2.2.2.2.2.2.2.2.2.2.2.2.1))).trans (hHeld.2.2.2.2.2.2.2.2.2.2.2.2.2.1)
     have HS14_ := (hb.cell (wL_q _ _ (hHeld.2.2.2.2.2.2.2.2.2.2.2.2.2.2.1))).trans (hHeld.2.2.2.2.2.2.2.2.2.2.2.2.2.2.1)
     have HS15_ := (hb.cell (wL_q _ _ (hHeld.2.2.2.2.2.2.2.2.2.2.2.2.2.2.2.1))).trans (hHeld.2.2.2.2.2.2.2.2.2.2.2.2.2.2.2.1)
     have HS16_ := (hb.cell (wL_q _ _ (hHeld.2.2.2.2.2.2.2.2.2.2.2.2.2.2.2.2.1))).trans (hHeld.2.2.2.2.2.2.2.2.2.2.2.2.2.2.2.2.1)
     have HS17_ := (hb.cell (wL_q _ _ (hHeld.2.2.2.2.2.2.2.2.2.2.2.2.2.2.2.2.2))).trans (hHeld.2.2.2.2.2.2.2.2.2.2.2.2.2.2.2.2.2)
     refine ⟨_, rfl, ?_⟩
     have n0_ := Ae_q (rO_q (rup HO_4.out) hb)
     have n1_ := Ae_q (rE_q (rup HO_5.out) (rB_q ho0) hb)
     have n2_ := Ae_q (rL_q (rW_q ho0 (rT_q (rup HO_5.out))) (bZ_q (bel HB.out)))
     have n3_ := Ae_q (cB_q (by repeat (first | (with_reducible exact HR719.out) | (with_reducible refine cA_q ?_ _) | (with_reducible refine cN_q ?_ _) | (with_reducible refine cD_q ?_) | exact HR719.out)) hb)
     have n4_ := Ae_q (bT_q (bel HB.out) hb)
     clear HO_4
     clear HO_5
     clear HR719
     clear HB
     have HO_4 := n0_
     have HO_5 := n1_
     have HO723 := n2_
     have HR719 := n3_
     have HB := n4_
     clear n0_ n1_ n2_ n3_ n4_
     (try clear hb)
     (try clear hb2)
     (try clear hk)
     (try clear hi)
     (try clear ho0)
     obtain ⟨Ao47, co47, eo47⟩ := rS_q HO723.out
     (first | subst eo47 | (injection eo47 with f1_ f2_ f3_; have f4_ := f1_.symm; have f5_ := f3_.symm; clear f1_ f2_ f3_; subst f4_; subst f5_))
     refine hK.out _ _ ⟨HS0_, HS1_, HS2_, HS3_, HS4_, HS5_, HS6_, HS7_, HS8_, HS9_, HS10_, HS11_, HS12_, HS13_, HS14_, HS15_, HS16_, HS17_⟩ (fun hHeld => ?_)
     clear hK K
     refine norm_ (a' := ?_) ?_ ?_
     rotate_left
     ·show Act.put _ (some 67) _ = _
      simp only [pS_q]
      rfl
     refine one_ (i := 28) (N := some 73) #[true, true, true, true, true, true, true, true, true, true, true, true, true, true, true, true, true, true, true, true, true, true, true, true, true, true, true, true, true, false, false] rfl rfl (one_of HT_.out (by kernel_rfl)) (by decide) (fun K hK => ?_)
     refine goes_ Try.func32 (by kernel_rfl) rfl #[.slice Ao47 t721.length co47, .int .i64 ((rd_T27 t699 x7_2).f2)] (by rfl) rfl rfl (by (try simp only [lM_q, lC_q, lN_q]); first | done | rfl | (simp only [lD_q, lT_q]; rfl)) ?_
     with_reducible refine (laws_hasInt.calls k2 _ _ t721 ((rd_T27 t699 x7_2).f2) true _ ?side1 ?side2 A41.out).mono ?_
     (case side1 => exact cup (rR_q HO723.out).2.2)
     (case side2 => exact (rR_q HO723.out).2.1)
     rintro e w' ⟨rfl, ⟨nd, rfl⟩⟩
     refine ⟨_, rfl, ?_⟩
     refine hK.out _ _ ⟨hHeld.1, hHeld.2.1, hHeld.2.2.1, hHeld.2.2.2.1, hHeld.2.2.2.2.1, hHeld.2.2.2.2.2.1, hHeld.2.2.2.2.2.2.1, hHeld.2.2.2.2.2.2.2.1, hHeld.2.2.2.2.2.2.2.2.1, hHeld.2.2.2.2.2.2.2.2.2.1, hHeld.2.2.2.2.2.2.2.2.2.2.1, hHeld.2.2.2.2.2.2.2.2.2.2.2.1, hHeld.2.2.2.2.2.2.2.2.2.2.2.2.1, hHeld.2.2.2.2.2.2.2.2.2.2.2.2.2.1, hHeld.2.2.2.2.2.2.2.2.2.2.2.2.2.2.1, hHeld.2.2.2.2.2.2.2.2.2.2.2.2.2.2.2.1, hHeld.2.2.2.2.2.2.2.2.2.2.2.2.2.2.2.2.1, hHeld.2.2.2.2.2.2.2.2.2.2.2.2.2.2.2.2.2⟩ (fun hHeld => ?_)
     clear hK K
     refine norm_ (a' := ?_) ?_ ?_
     rotate_left
     ·show Act.put _ (some 73) _ = _
      simp only [pS_q]
      rfl
     refine pI (v := ?_) (a' := ?_) HT_ 29 74 rfl rfl (by kernel_rfl) (fun _ _ _ h => h) (by rfl) ?_ ?_ ?_
     rotate_left
     ·intro w'
      go_simp
      with_reducible rfl
     rotate_left
     ·simp only [pS_q]
      rfl
     refine pI (v := ?_) (a' := ?_) HT_ 30 75 rfl rfl (by kernel_rfl) (fun _ _ _ h => h) (by rfl) ?_ ?_ ?_
     rotate_left
     ·intro w'
      go_simp
      with_reducible rfl
     rotate_left
     ·simp only [pS_q]
      rfl
     refine done_ (done_of HT_.out (by kernel_rfl)) ?_
     try go_wp2
     go_roundg k2
     case measure => have := HJ5.out; have := HK2.out; omega
     case rel => exact ⟨(ji37), (by first | rfl | (simp; done) | (simp only [← hji37] <;> (first | rfl | simp)) | (simp [*]; done)), H', ⟨by have := HJ5.out; have := HK2.out; omega⟩, ⟨rup HO_4.out⟩, ⟨by (with_reducible repeat (first | apply rA_q | apply rN_q | apply rD_q)); exact rM_q HO_5.out (fun _ hk => trivial)⟩, ⟨bel HB.out⟩⟩

def laws_FnWatchOpenServed.Pure : Prop := ∀ (l0 : List Int), l0.length ≤ maxLen → l0.length * 1 ≤ 140737488351232 → (∀ x ∈ l0, (Lit.int .u8 x).wf = true) → ∃ k, laws_FnWatchOpenServed.f k l0 = some true
theorem laws_FnWatchOpenServed.walk (P : laws_FnWatchOpenServed.Pure) (a0 : Option Addr) (len0 cap0 : Nat) (z0 : List Int) (w : World) (w0 : (a0 = none ∧ len0 = 0 ∧ cap0 = 0 ∧ z0 = []) ∨ ∃ x, a0 = some x ∧ len0 ≤ cap0 ∧ cap0 ≤ maxLen ∧ z0.length = cap0 ∧ (∀ i, i < z0.length → w.cell? (x.add i) = some (.int .u8 (z0.getD i 0))) ∧ ∀ n ∈ z0, (Lit.int .u8 n).wf = true) (y0 : len0 * 1 ≤ 140737488351232) :
    Calls Try.prog 13 #[.slice a0 len0 cap0] w fun e w' => e = .returned (.bool true) ∧ Below w.heap.size w w' := by
 obtain ⟨l0, rfl, hr0, hm0, hw0, hc0⟩ := ReadsInt.ofRowC w0
 obtain ⟨k, h⟩ := P l0 hm0 y0 hw0
 refine (laws_FnWatchOpenServed.calls k _ _ l0 true w (Kd.C_of_reads (d := (0 : Int)) (h1 := fun _ => rfl) hr0) hc0 h).mono ?_
 rintro e w' ⟨rfl, hd⟩
 exact ⟨rfl, hd⟩

end Go.Proofs.Ytnhenfmegpjigaa.PEv
