import Derived.Test.YtnhenfmegpjigaaVJPEvx0
import Derived.Test.YtnhenfmegpjigaaVJPEvx6
import Derived.Test.YtnhenfmegpjigaaVJPEvx10
import Derived.Test.YtnhenfmegpjigaaVJPEvx17
import Derived.Test.YtnhenfmegpjigaaVJPEvx20
import Derived.Test.YtnhenfmegpjigaaVJPEvx22
import Derived.Test.YtnhenfmegpjigaaVJPEvx25
import Derived.Test.YtnhenfmegpjigaaVJPEvx26
import Derived.Test.YtnhenfmegpjigaaVJPEvx29
namespace Go.Proofs.Ytnhenfmegpjigaa.PEv
open Go.RowKit Go.Proofs.YtnhenfmegpjigaaW.PrintWords Go.Proofs.YtnhenfmegpjigaaW.PrintLast Go.Proofs.YtnhenfmegpjigaaW.PrintMore
attribute [local go_sem] max2_int min2_int max_two min_two max_three min_three max_four min_four
set_option linter.unusedVariables false
set_option linter.unusedSimpArgs false

mutual
def laws_FnWatch.j0 : Nat → List (S50) → List (S27) → List Int → List Int → Bool → Option (Bool)
 | 0, _, _, _, _, _ => none
 | k + 1, x3, x4, x5, x6, x38 => if x38 = true then ((laws_sameInts.f k x5 x6).bind fun t598 => (some t598)) else (laws_FnWatch.l0 k x3 x4 x5 0)
def laws_FnWatch.l0 : Nat → List (S50) → List (S27) → List Int → Int → Option (Bool)
 | 0, _, _, _, _ => none
 | k + 1, x3, x4, x5, x7 => if x7 < (x4.length : Int) then (if 0 ≤ x7 then (if ((rd_T27 x4 x7).f0) = 2 then ((laws_hasInt.f k x5 x7).bind fun t600 => (laws_FnWatch.j2 k x3 x4 x5 x7 (!t600))) else (laws_FnWatch.j2 k x3 x4 x5 x7 false)) else (none)) else (some true)
def laws_FnWatch.j2 : Nat → List (S50) → List (S27) → List Int → Int → Bool → Option (Bool)
 | 0, _, _, _, _, _ => none
 | k + 1, x3, x4, x5, x7, x59 => if x59 = true then (laws_FnWatch.l1 k x3 x4 x5 x7 false 0) else (laws_FnWatch.l0 k x3 x4 x5 (wrap64 (x7 + 1)))
def laws_FnWatch.l1 : Nat → List (S50) → List (S27) → List Int → Int → Bool → Int → Option (Bool)
 | 0, _, _, _, _, _, _ => none
 | k + 1, x3, x4, x5, x7, x8, x9 => if x9 < x7 then (if 0 ≤ x9 then (if x9 < (x4.length : Int) then (if 0 ≤ x7 then (if x7 < (x4.length : Int) then (if ((rd_T27 x4 x9).f2) = ((rd_T27 x4 x7).f2) then (laws_FnWatch.j4 k x3 x4 x5 x7 x8 x9 (((rd_T27 x4 x9).f0) != 2)) else (laws_FnWatch.j4 k x3 x4 x5 x7 x8 x9 false)) else (none)) else (none)) else (none)) else (none)) else (if x8 = true then (laws_FnWatch.l0 k x3 x4 x5 (wrap64 (x7 + 1))) else (some false))
def laws_FnWatch.j4 : Nat → List (S50) → List (S27) → List Int → Int → Bool → Int → Bool → Option (Bool)
 | 0, _, _, _, _, _, _, _ => none
 | k + 1, x3, x4, x5, x7, x8, x9, x83 => if x83 = true then (laws_FnWatch.l2 k x3 x4 x5 x7 false x9 0) else (laws_FnWatch.l1 k x3 x4 x5 x7 x8 (wrap64 (x9 + 1)))
def laws_FnWatch.l2 : Nat → List (S50) → List (S27) → List Int → Int → Bool → Int → Int → Option (Bool)
 | 0, _, _, _, _, _, _, _ => none
 | k + 1, x3, x4, x5, x7, x8, x9, x10 => if x10 < (x3.length : Int) then (if 0 ≤ x9 then (if x9 < (x4.length : Int) then (if ((rd_T27 x4 x9).f0) = 1 then (if x8 = true then (laws_FnWatch.l2 k x3 x4 x5 x7 true x9 (wrap64 (x10 + 1))) else (if 0 ≤ x10 then (if 0 ≤ x7 then (if x7 < (x4.length : Int) then (if ((rd_T50 x3 x10).f0) = ((rd_T27 x4 x7).f3) then ((impl_GuestMay.f ((rd_T50 x3 x10).f0) ((rd_T50 x3 x10).f1) ((rd_T50 x3 x10).f2) ((rd_T27 x4 x9).f4) ((rd_T27 x4 x9).f5)).bind fun t610 => (if t610 = true then (laws_FnWatch.l2 k x3 x4 x5 x7 (decide (((rd_T27 x4 x7).f1) ≤ (wrap64 (((rd_T27 x4 x9).f1) + 120)))) x9 (wrap64 (x10 + 1))) else (laws_FnWatch.l2 k x3 x4 x5 x7 false x9 (wrap64 (x10 + 1))))) else (laws_FnWatch.l2 k x3 x4 x5 x7 false x9 (wrap64 (x10 + 1)))) else (none)) else (none)) else (none))) else (laws_FnWatch.l1 k x3 x4 x5 x7 x8 (wrap64 (x9 + 1)))) else (none)) else (none)) else (laws_FnWatch.l1 k x3 x4 x5 x7 x8 (wrap64 (x9 + 1)))
end
def laws_FnWatch.f (k : Nat) (l0 : List Int) : Option (Bool) := if (l0.length : Int) > 1048576 then (some true) else ((spec_DrawWatchWrong.f k l0).bind fun bt583 => ((impl_WatchWrong.f k bt583.1 bt583.2).bind fun t589 => ((spec_WatchWrong.f k bt583.1 bt583.2).bind fun t592 => ((laws_sameInts.f k t589 t592).bind fun t595 => (if t595 = true then ((spec_GuestsValid.f k bt583.1).bind fun t596 => (if t596 = true then ((spec_EventsValid.f k bt583.2).bind fun t597 => (laws_FnWatch.j0 k bt583.1 bt583.2 t589 t592 (!t597))) else (laws_FnWatch.j0 k bt583.1 bt583.2 t589 t592 true))) else (laws_FnWatch.j0 k bt583.1 bt583.2 t589 t592 true))))))
def laws_FnWatch.T16 : Bool × List (List Nat × List Nat) := (true, [([], []), ([], []), ([0, 1], [0, 1]), ([2], [2]), ([3], [3]), ([], []), ([], []), ([5, 6], [5, 6]), ([7], [7]), ([8], [8]), ([4, 9], [4, 9]), ([10], [10]), ([11], [11]), ([11], [11]), ([12, 13, 11], [11, 12, 13]), ([14, 11], [11, 14]), ([15, 11], [11, 15]), ([16, 11], [11, 16]), ([11, 17], [11, 17])])
def laws_FnWatch.B16 : List Nat := [0, 0, 3, 7, 15, 0, 0, 96, 224, 480, 1023, 2047, 4095, 4095, 16383, 32767, 65535, 131071, 262143]
theorem laws_FnWatch.tab16 : rtab .any (opsOf Try.f9 16) = laws_FnWatch.T16 := by kernel_rfl
theorem laws_FnWatch.bits16 : waitsOk laws_FnWatch.T16.2 laws_FnWatch.B16 = true := by kernel_rfl
def laws_FnWatch.T21 : Bool × List (List Nat × List Nat) := (true, [([], []), ([0], [0]), ([1], [1]), ([1], [1]), ([2, 3, 1], [1, 2, 3]), ([4, 1], [1, 4]), ([5, 1], [1, 5]), ([1], [1]), ([1], [1]), ([7, 8, 1], [1, 7, 8]), ([9, 1], [1, 9]), ([10, 1], [1, 10]), ([6, 11, 1], [1, 6, 11]), ([12, 1, 1], [1, 12]), ([13], [13]), ([13], [13]), ([14, 15, 13], [13, 14, 15]), ([16, 13], [13, 16]), ([13], [13]), ([13], [13]), ([18, 19, 13], [13, 18, 19]), ([20, 13], [13, 20]), ([21, 13], [13, 21]), ([13], [13]), ([13], [13]), ([23, 24, 13], [13, 23, 24]), ([25, 13], [13, 25]), ([26, 13], [13, 26]), ([17, 22, 27, 13, 13], [13, 17, 22, 27]), ([13, 28, 1], [1, 13, 28]), ([29, 28, 1], [1, 29]), ([30], [30]), ([30], [30]), ([31, 32, 30], [30, 31, 32]), ([33, 30], [30, 33]), ([34, 30], [30, 34]), ([30], [30]), ([30], [30]), ([36, 37, 30], [30, 36, 37]), ([38, 30], [30, 38]), ([39, 30], [30, 39]), ([40, 30], [30, 40]), ([35, 41, 30], [30, 35, 41]), ([30, 42, 1], [1, 30, 42]), ([1, 43], [1, 43]), ([44, 30, 0, 1, 2, 3, 4, 5, 6, 7, 8, 9, 10, 11, 12, 13, 14, 15, 16, 17, 18, 19, 20, 21, 22, 23, 24, 25, 26, 27, 28, 29, 30, 31, 32, 33, 34, 35, 36, 37, 38, 39, 40, 41, 42, 43, 44], [0, 44])])
def laws_FnWatch.B21 : List Nat := [0, 1, 3, 3, 15, 31, 63, 3, 3, 387, 899, 1923, 4095, 8191, 16383, 16383, 65535, 131071, 16383, 16383, 802815, 1851391, 3948543, 16383, 16383, 25182207, 58736639, 125845503, 268435455, 536870911, 1073741823, 2147483647, 2147483647, 8589934591, 17179869183, 34359738367, 2147483647, 2147483647, 208305913855, 483183820799, 1032939634687, 2132451262463, 4398046511103, 8796093022207, 17592186044415, 35184372088831]
theorem laws_FnWatch.tab21 : rtab .any (opsOf Try.f9 21) = laws_FnWatch.T21 := by kernel_rfl
theorem laws_FnWatch.bits21 : waitsOk laws_FnWatch.T21.2 laws_FnWatch.B21 = true := by kernel_rfl
set_option maxHeartbeats 8000000 in
set_option maxRecDepth 100000 in
theorem laws_FnWatch.calls (k : Nat) (A0 : Option Addr) (c0 : Nat) (l0 : List Int) (r : Bool) (w : World) (hr0 : Kd.C (Kd.int .u8) w A0 l0.length l0) (hc0 : l0.length ≤ c0) (h : laws_FnWatch.f k l0 = some r) :
    Calls Try.prog 9 #[.slice A0 l0.length c0] w fun e w' => e = .returned (.bool r) ∧ Below w.heap.size w w' := by
 have hu50 := Try.underlying50
 have HR0 := Ae_q hr0
 have HC0 := Ae_q hc0
 clear hr0 hc0
 have HB := Ae_q (bR_q w.heap.size w)
 have H : (if (l0.length : Int) > 1048576 then (some true) else ((spec_DrawWatchWrong.f k l0).bind fun bt583 => ((impl_WatchWrong.f k bt583.1 bt583.2).bind fun t589 => ((spec_WatchWrong.f k bt583.1 bt583.2).bind fun t592 => ((laws_sameInts.f k t589 t592).bind fun t595 => (if t595 = true then ((spec_GuestsValid.f k bt583.1).bind fun t596 => (if t596 = true then ((spec_EventsValid.f k bt583.2).bind fun t597 => (laws_FnWatch.j0 k bt583.1 bt583.2 t589 t592 (!t597))) else (laws_FnWatch.j0 k bt583.1 bt583.2 t589 t592 true))) else (laws_FnWatch.j0 k bt583.1 bt583.2 t589 t592 true))))))) = some r := h
 clear h
 by_cases c2 : (l0.length : Int) > 1048576
 ·rw [if_pos c2] at H
  have c2b0 : decide (1048576 < (l0.length : Int)) = true := dT_q c2
  have c2b1 : decide (1048576 < l0.length) = true := dT_q (by omega)
  clear c2
  obtain rfl := oI_q H
  go_enter Try.func9, Try.ntmps9
  go_wp2
  go_ret
  exact ⟨by first | rfl | (simp [eN_q, eS_q] <;> rfl) | (simp [*, eN_q, eS_q] <;> rfl), bel HB.out⟩
 rw [if_neg c2] at H
 have c2b0 : decide (1048576 < (l0.length : Int)) = false := dF_q c2
 have c2b1 : decide (1048576 < l0.length) = false := dF_q (by omega)
 clear c2
 replace H := oB_q.mp H
 obtain ⟨⟨t583, t584⟩, A30, H⟩ := H
 replace H : ((impl_WatchWrong.f k t583 t584).bind fun t589 => ((spec_WatchWrong.f k t583 t584).bind fun t592 => ((laws_sameInts.f k t589 t592).bind fun t595 => (if t595 = true then ((spec_GuestsValid.f k t583).bind fun t596 => (if t596 = true then ((spec_EventsValid.f k t584).bind fun t597 => (laws_FnWatch.j0 k t583 t584 t589 t592 (!t597))) else (laws_FnWatch.j0 k t583 t584 t589 t592 true))) else (laws_FnWatch.j0 k t583 t584 t589 t592 true))))) = some r := H
 have A3 := Ae_q A30
 clear A30
 replace H := oB_q.mp H
 obtain ⟨t589, A40, H⟩ := H
 replace H : ((spec_WatchWrong.f k t583 t584).bind fun t592 => ((laws_sameInts.f k t589 t592).bind fun t595 => (if t595 = true then ((spec_GuestsValid.f k t583).bind fun t596 => (if t596 = true then ((spec_EventsValid.f k t584).bind fun t597 => (laws_FnWatch.j0 k t583 t584 t589 t592 (!t597))) else (laws_FnWatch.j0 k t583 t584 t589 t592 true))) else (laws_FnWatch.j0 k t583 t584 t589 t592 true)))) = some r := H
 have A4 := Ae_q A40
 clear A40
 replace H := oB_q.mp H
 obtain ⟨t592, A50, H⟩ := H
 replace H : ((laws_sameInts.f k t589 t592).bind fun t595 => (if t595 = true then ((spec_GuestsValid.f k t583).bind fun t596 => (if t596 = true then ((spec_EventsValid.f k t584).bind fun t597 => (laws_FnWatch.j0 k t583 t584 t589 t592 (!t597))) else (laws_FnWatch.j0 k t583 t584 t589 t592 true))) else (laws_FnWatch.j0 k t583 t584 t589 t592 true))) = some r := H
 have A5 := Ae_q A50
 clear A50
 have HC6 := Ae_q H
 clear H
 go_enter Try.func9, Try.ntmps9
 go_upto_region 6 with (first | ((with_reducible refine gC_q (f := 33) rfl ?_); refine gL_q (some 16) rfl rfl Try.func33 (by kernel_rfl) rfl #[.slice A0 l0.length c0] rfl (by (try simp only [lM_q, lC_q, lN_q]); first | done | rfl | (simp only [lD_q, lT_q]; rfl)) ?_; (with_reducible refine (spec_DrawWatchWrong.calls k _ _ l0 t583 t584 _ ?side1 ?side2 A3.out).mono ?_); (case side1 => repeat (first | exact HR0.out | (with_reducible refine cA_q ?_ _) | (with_reducible refine cN_q ?_ _) | (with_reducible refine cD_q ?_))); (case side2 => exact HC0.out); rintro e w7 ⟨v585, v587, rfl, ho0, ho1, hb⟩; refine ⟨_, rfl, ?_⟩; have n0_ := Ae_q (rL_q ho0 (bZ_q (bel HB.out))); have n1_ := Ae_q (rL_q ho1 (bZ_q (bel HB.out))); have n2_ := Ae_q (bT_q (bel HB.out) hb); clear HB; have HO586 := n0_; have HO588 := n1_; have HB := n2_; clear n0_ n1_ n2_; (try clear hb); (try clear hb2); (try clear hk); (try clear hi); (try clear ho0); (try clear ho1); obtain ⟨Ao8, co8, eo8⟩ := rS_q HO586.out; subst eo8; obtain ⟨Ao9, co9, eo9⟩ := rS_q HO588.out; subst eo9) | ((with_reducible refine gC_q (f := 34) rfl ?_); refine gL_q (some 21) rfl rfl Try.func34 (by kernel_rfl) rfl #[.slice Ao8 t583.length co8, .slice Ao9 t584.length co9] rfl (by (try simp only [lM_q, lC_q, lN_q]); first | done | rfl | (simp only [lD_q, lT_q]; rfl)) ?_; (with_reducible refine (impl_WatchWrong.calls k _ _ t583 _ _ t584 t589 _ ?side1 ?side2 ?side3 ?side4 A4.out).mono ?_); (case side1 => exact cup (rR_q HO586.out).2.2); (case side2 => exact (rR_q HO586.out).2.1); (case side3 => exact cup (rR_q HO588.out).2.2); (case side4 => exact (rR_q HO588.out).2.1); rintro e w10 ⟨v590, rfl, ho0, hb⟩; refine ⟨_, rfl, ?_⟩; have n0_ := Ae_q (rO_q (rup HO586.out) hb); have n1_ := Ae_q (rO_q (rup HO588.out) hb); have n2_ := Ae_q (rL_q ho0 (bZ_q (bel HB.out))); have n3_ := Ae_q (bT_q (bel HB.out) hb); clear HO586; clear HO588; clear HB; have HO586 := n0_; have HO588 := n1_; have HO591 := n2_; have HB := n3_; clear n0_ n1_ n2_ n3_; (try clear hb); (try clear hb2); (try clear hk); (try clear hi); (try clear ho0)) | ((with_reducible refine gC_q (f := 35) rfl ?_); refine gL_q (some 24) rfl rfl Try.func35 (by kernel_rfl) rfl #[.slice Ao8 t583.length co8, .slice Ao9 t584.length co9] rfl (by (try simp only [lM_q, lC_q, lN_q]); first | done | rfl | (simp only [lD_q, lT_q]; rfl)) ?_; (with_reducible refine (spec_WatchWrong.calls k _ _ t583 _ _ t584 t592 _ ?side1 ?side2 ?side3 ?side4 A5.out).mono ?_); (case side1 => exact cup (rR_q HO586.out).2.2); (case side2 => exact (rR_q HO586.out).2.1); (case side3 => exact cup (rR_q HO588.out).2.2); (case side4 => exact (rR_q HO588.out).2.1); rintro e w11 ⟨v593, rfl, ho0, hb⟩; refine ⟨_, rfl, ?_⟩; have n0_ := Ae_q (rO_q (rup HO586.out) hb); have n1_ := Ae_q (rO_q (rup HO588.out) hb); have n2_ := Ae_q (rE_q (rup HO591.out) (rB_q ho0) hb); have n3_ := Ae_q (rL_q (rW_q ho0 (rT_q (rup HO591.out))) (bZ_q (bel HB.out))); have n4_ := Ae_q (bT_q (bel HB.out) hb); clear HO586; clear HO588; clear HO591; clear HB; have HO586 := n0_; have HO588 := n1_; have HO591 := n2_; have HO594 := n3_; have HB := n4_; clear n0_ n1_ n2_ n3_ n4_; (try clear hb); (try clear hb2); (try clear hk); (try clear hi); (try clear ho0)))
 (try simp only [Act.put, sA_q, sZ_q, sS_q])
 go_cut [38] (fun v38 wc => ∃ (kq : Nat) (x38_5 : Bool), v38 = .bool x38_5 ∧ Aside0 (laws_FnWatch.j0 kq t583 t584 t589 t592 x38_5 = some r) ∧ Aside0 (kq ≤ k) ∧ Aside0 (Kd.R k50 50 wc w.heap.size (fun _ => True) (.slice Ao8 t583.length co8) t583) ∧ Aside0 (Kd.R k27 27 wc w.heap.size (fun _ => True) (.slice Ao9 t584.length co9) t584) ∧ Aside0 (Kd.R kI_q 3 wc w.heap.size (fun k_ => some k_ ≠ (v593 : Value).ownBlock) v590 t589) ∧ Aside0 (Kd.R kI_q 3 wc w.heap.size (fun k_ => some k_ ≠ (v590 : Value).ownBlock) v593 t592) ∧ Aside0 (Below w.heap.size w wc))
 case first =>
  have H := HC6.out
  clear HC6
  replace H := oB_q.mp H
  obtain ⟨t595, A120, H⟩ := H
  replace H : (if t595 = true then ((spec_GuestsValid.f k t583).bind fun t596 => (if t596 = true then ((spec_EventsValid.f k t584).bind fun t597 => (laws_FnWatch.j0 k t583 t584 t589 t592 (!t597))) else (laws_FnWatch.j0 k t583 t584 t589 t592 true))) else (laws_FnWatch.j0 k t583 t584 t589 t592 true)) = some r := H
  have A12 := Ae_q A120
  clear A120
  by_cases c13 : t595 = true
  rotate_left
  ·replace c13 := fM_q.mpr c13
   subst c13
   have H1 : (laws_FnWatch.j0 k t583 t584 t589 t592 true) = some r := by rw [if_neg (show ¬ (false = true) by decide)] at H; exact H
   clear H
   have H := H1
   clear H1
   have H' := Ae_q H
   clear H
   obtain ⟨Ao24, co24, eo24⟩ := rS_q HO591.out
   subst eo24
   obtain ⟨Ao25, co25, eo25⟩ := rS_q HO594.out
   subst eo25
   go_wp2_with (first | ((with_reducible refine gC_q (f := 24) rfl ?_); refine gL_q (some 27) rfl rfl Try.func24 (by kernel_rfl) rfl #[.slice Ao24 t589.length co24, .slice Ao25 t592.length co25] rfl (by (try simp only [lM_q, lC_q, lN_q]); first | done | rfl | (simp only [lD_q, lT_q]; rfl)) ?_; (with_reducible refine (laws_sameInts.calls k _ _ t589 _ _ t592 false _ ?side1 ?side2 ?side3 ?side4 A12.out).mono ?_); (case side1 => exact cup (rR_q HO591.out).2.2); (case side2 => exact (rR_q HO591.out).2.1); (case side3 => exact cup (rR_q HO594.out).2.2); (case side4 => exact (rR_q HO594.out).2.1); rintro e w' ⟨rfl, ⟨nd, rfl⟩⟩; refine ⟨_, rfl, ?_⟩))
   go_meet
   case rel => exact ⟨_, (true), (by first | rfl | (simp; done) | (simp [*]; done)), H', ⟨by first | omega | exact nR_q _⟩, ⟨rup HO586.out⟩, ⟨rup HO588.out⟩, ⟨by (with_reducible repeat (first | apply rA_q | apply rN_q | apply rD_q)); exact rM_q HO591.out (fun _ hk => hk.2)⟩, ⟨by (with_reducible repeat (first | apply rA_q | apply rN_q | apply rD_q)); exact rM_q HO594.out (fun _ hk => hk.2)⟩, ⟨bel HB.out⟩⟩
  subst c13
  have H1 : ((spec_GuestsValid.f k t583).bind fun t596 => (if t596 = true then ((spec_EventsValid.f k t584).bind fun t597 => (laws_FnWatch.j0 k t583 t584 t589 t592 (!t597))) else (laws_FnWatch.j0 k t583 t584 t589 t592 true))) = some r := by rw [if_pos rfl] at H; exact H
  clear H
  have H := H1
  clear H1
  replace H := oB_q.mp H
  obtain ⟨t596, A140, H⟩ := H
  replace H : (if t596 = true then ((spec_EventsValid.f k t584).bind fun t597 => (laws_FnWatch.j0 k t583 t584 t589 t592 (!t597))) else (laws_FnWatch.j0 k t583 t584 t589 t592 true)) = some r := H
  have A14 := Ae_q A140
  clear A140
  by_cases c15 : t596 = true
  rotate_left
  ·replace c15 := fM_q.mpr c15
   subst c15
   have H1 : (laws_FnWatch.j0 k t583 t584 t589 t592 true) = some r := by rw [if_neg (show ¬ (false = true) by decide)] at H; exact H
   clear H
   have H := H1
   clear H1
   have H' := Ae_q H
   clear H
   obtain ⟨Ao21, co21, eo21⟩ := rS_q HO591.out
   subst eo21
   obtain ⟨Ao22, co22, eo22⟩ := rS_q HO594.out
   subst eo22
   go_wp2_with (first | ((with_reducible refine gC_q (f := 24) rfl ?_); refine gL_q (some 27) rfl rfl Try.func24 (by kernel_rfl) rfl #[.slice Ao21 t589.length co21, .slice Ao22 t592.length co22] rfl (by (try simp only [lM_q, lC_q, lN_q]); first | done | rfl | (simp only [lD_q, lT_q]; rfl)) ?_; (with_reducible refine (laws_sameInts.calls k _ _ t589 _ _ t592 true _ ?side1 ?side2 ?side3 ?side4 A12.out).mono ?_); (case side1 => exact cup (rR_q HO591.out).2.2); (case side2 => exact (rR_q HO591.out).2.1); (case side3 => exact cup (rR_q HO594.out).2.2); (case side4 => exact (rR_q HO594.out).2.1); rintro e w' ⟨rfl, ⟨nd, rfl⟩⟩; refine ⟨_, rfl, ?_⟩) | (go_at_call 36; (with_reducible refine (spec_GuestsValid.calls k _ _ t583 false _ ?side1 ?side2 A14.out).mono ?_); (case side1 => exact cup (rR_q HO586.out).2.2); (case side2 => exact (rR_q HO586.out).2.1); rintro e w23 ⟨rfl, hb⟩; have n0_ := Ae_q (rO_q (rup HO586.out) hb); have n1_ := Ae_q (rO_q (rup HO588.out) hb); have n2_ := Ae_q (rO_q (rup HO591.out) hb); have n3_ := Ae_q (rO_q (rup HO594.out) hb); have n4_ := Ae_q (bT_q (bel HB.out) hb); clear HO586; clear HO588; clear HO591; clear HO594; clear HB; have HO586 := n0_; have HO588 := n1_; have HO591 := n2_; have HO594 := n3_; have HB := n4_; clear n0_ n1_ n2_ n3_ n4_; (try clear hb); (try clear hb2); (try clear hk); (try clear hi)))
   go_meet
   case rel => exact ⟨_, (true), (by first | rfl | (simp; done) | (simp [*]; done)), H', ⟨by first | omega | exact nR_q _⟩, ⟨rup HO586.out⟩, ⟨rup HO588.out⟩, ⟨by (with_reducible repeat (first | apply rA_q | apply rN_q | apply rD_q)); exact rM_q HO591.out (fun _ hk => hk.2)⟩, ⟨by (with_reducible repeat (first | apply rA_q | apply rN_q | apply rD_q)); exact rM_q HO594.out (fun _ hk => hk.2)⟩, ⟨bel HB.out⟩⟩
  subst c15
  have H1 : ((spec_EventsValid.f k t584).bind fun t597 => (laws_FnWatch.j0 k t583 t584 t589 t592 (!t597))) = some r := by rw [if_pos rfl] at H; exact H
  clear H
  have H := H1
  clear H1
  replace H := oB_q.mp H
  obtain ⟨t597, A160, H⟩ := H
  replace H : (laws_FnWatch.j0 k t583 t584 t589 t592 (!t597)) = some r := H
  have A16 := Ae_q A160
  clear A160
  have H' := Ae_q H
  clear H
  obtain ⟨Ao17, co17, eo17⟩ := rS_q HO591.out
  subst eo17
  obtain ⟨Ao18, co18, eo18⟩ := rS_q HO594.out
  subst eo18
  go_wp2_with (first | ((with_reducible refine gC_q (f := 24) rfl ?_); refine gL_q (some 27) rfl rfl Try.func24 (by kernel_rfl) rfl #[.slice Ao17 t589.length co17, .slice Ao18 t592.length co18] rfl (by (try simp only [lM_q, lC_q, lN_q]); first | done | rfl | (simp only [lD_q, lT_q]; rfl)) ?_; (with_reducible refine (laws_sameInts.calls k _ _ t589 _ _ t592 true _ ?side1 ?side2 ?side3 ?side4 A12.out).mono ?_); (case side1 => exact cup (rR_q HO591.out).2.2); (case side2 => exact (rR_q HO591.out).2.1); (case side3 => exact cup (rR_q HO594.out).2.2); (case side4 => exact (rR_q HO594.out).2.1); rintro e w' ⟨rfl, ⟨nd, rfl⟩⟩; refine ⟨_, rfl, ?_⟩) | (go_at_call 36; (with_reducible refine (spec_GuestsValid.calls k _ _ t583 true _ ?side1 ?side2 A14.out).mono ?_); (case side1 => exact cup (rR_q HO586.out).2.2); (case side2 => exact (rR_q HO586.out).2.1); rintro e w19 ⟨rfl, hb⟩; have n0_ := Ae_q (rO_q (rup HO586.out) hb); have n1_ := Ae_q (rO_q (rup HO588.out) hb); have n2_ := Ae_q (rO_q (rup HO591.out) hb); have n3_ := Ae_q (rO_q (rup HO594.out) hb); have n4_ := Ae_q (bT_q (bel HB.out) hb); clear HO586; clear HO588; clear HO591; clear HO594; clear HB; have HO586 := n0_; have HO588 := n1_; have HO591 := n2_; have HO594 := n3_; have HB := n4_; clear n0_ n1_ n2_ n3_ n4_; (try clear hb); (try clear hb2); (try clear hk); (try clear hi)) | (go_at_call 17; (with_reducible refine (spec_EventsValid.calls k _ _ t584 t597 _ ?side1 ?side2 A16.out).mono ?_); (case side1 => exact cup (rR_q HO588.out).2.2); (case side2 => exact (rR_q HO588.out).2.1); rintro e w20 ⟨rfl, hb⟩; have n0_ := Ae_q (rO_q (rup HO586.out) hb); have n1_ := Ae_q (rO_q (rup HO588.out) hb); have n2_ := Ae_q (rO_q (rup HO591.out) hb); have n3_ := Ae_q (rO_q (rup HO594.out) hb); have n4_ := Ae_q (bT_q (bel HB.out) hb); clear HO586; clear HO588; clear HO591; clear HO594; clear HB; have HO586 := n0_; have HO588 := n1_; have HO591 := n2_; have HO594 := n3_; have HB := n4_; clear n0_ n1_ n2_ n3_ n4_; (try clear hb); (try clear hb2); (try clear hk); (try clear hi)))
  go_meet
  case rel => exact ⟨_, (!t597), (by first | rfl | (simp; done) | (simp [*]; done)), H', ⟨by first | omega | exact nR_q _⟩, ⟨rup HO586.out⟩, ⟨rup HO588.out⟩, ⟨by (with_reducible repeat (first | apply rA_q | apply rN_q | apply rD_q)); exact rM_q HO591.out (fun _ hk => hk.2)⟩, ⟨by (with_reducible repeat (first | apply rA_q | apply rN_q | apply rD_q)); exact rM_q HO594.out (fun _ hk => hk.2)⟩, ⟨bel HB.out⟩⟩
 case rest =>
  clear HC6
  try clear c1
  try clear c2
  try clear c2b0
  try clear c2b1
  try clear p2
  try clear c3
  try clear c9
  try clear c13
  try clear c15
  try clear c24
  obtain ⟨kq, x38_5, rfl, HA, HJ5, HO_3, HO_4, HO_5, HO_6, HB⟩ := hcut
  cases kq with
  | zero => exact absurd HA.out (by simp [laws_FnWatch.j0])
  | succ kj5 =>
   have H := HA.out
   clear HA
   simp only [laws_FnWatch.j0] at H
   by_cases c26 : x38_5 = true
   ·subst c26
    have H1 : ((laws_sameInts.f kj5 t589 t592).bind fun t598 => (some t598)) = some r := by rw [if_pos rfl] at H; exact H
    clear H
    have H := H1
    clear H1
    replace H := oB_q.mp H
    obtain ⟨t598, A270, H⟩ := H
    replace H : (some t598) = some r := H
    have A27 := Ae_q A270
    clear A270
    obtain rfl := oI_q H
    obtain ⟨Ao28, co28, eo28⟩ := rS_q HO_5.out
    subst eo28
    obtain ⟨Ao29, co29, eo29⟩ := rS_q HO_6.out
    subst eo29
    go_wp2_with (first | ((with_reducible refine gC_q (f := 24) rfl ?_); refine gL_q (some 41) rfl rfl Try.func24 (by kernel_rfl) rfl #[.slice Ao28 t589.length co28, .slice Ao29 t592.length co29] rfl (by (try simp only [lM_q, lC_q, lN_q]); first | done | rfl | (simp only [lD_q, lT_q]; rfl)) ?_; (with_reducible refine (laws_sameInts.calls kj5 _ _ t589 _ _ t592 t598 _ ?side1 ?side2 ?side3 ?side4 A27.out).mono ?_); (case side1 => exact cup (rR_q HO_5.out).2.2); (case side2 => exact (rR_q HO_5.out).2.1); (case side3 => exact cup (rR_q HO_6.out).2.2); (case side4 => exact (rR_q HO_6.out).2.1); rintro e w' ⟨rfl, ⟨nd, rfl⟩⟩; refine ⟨_, rfl, ?_⟩))
    go_ret
    exact ⟨by first | rfl | (simp [eN_q, eS_q] <;> rfl) | (simp [*, eN_q, eS_q] <;> rfl), bel HB.out⟩
   replace c26 := fM_q.mpr c26
   subst c26
   have H1 : (laws_FnWatch.l0 kj5 t583 t584 t589 0) = some r := by rw [if_neg (show ¬ (false = true) by decide)] at H; exact H
   clear H
   have H := H1
   clear H1
   have H' := Ae_q H
   clear H
   go_wp2
   go_loopg [7] kj5 (fun kq v7 w' => ∃ (x7_2 : Int), v7 = .int .i64 x7_2 ∧ Aside0 (laws_FnWatch.l0 kq t583 t584 t589 x7_2 = some r) ∧ Aside0 (kq ≤ kj5) ∧ Aside0 (Kd.R k50 50 w' w.heap.size (fun _ => True) (.slice Ao8 t583.length co8) t583) ∧ Aside0 (Kd.R k27 27 w' w.heap.size (fun _ => True) (.slice Ao9 t584.length co9) t584) ∧ Aside0 (Kd.R kI_q 3 w' w.heap.size (fun _ => True) v590 t589) ∧ Aside0 (Below w.heap.size w w'))
   case atStart => exact ⟨(0), (by first | rfl | (simp; done) | (simp [*]; done)), H', ⟨nR_q _⟩, ⟨rup HO_3.out⟩, ⟨rup HO_4.out⟩, ⟨by (with_reducible repeat (first | apply rA_q | apply rN_q | apply rD_q)); exact rM_q HO_5.out (fun _ hk => trivial)⟩, ⟨bel HB.out⟩⟩
   case round =>
    clear H'
    try clear c1
    try clear c2
    try clear c2b0
    try clear c2b1
    try clear p2
    try clear c3
    try clear c9
    try clear c13
    try clear c15
    try clear c24
    try clear c26
    try clear p2
    obtain ⟨x7_2, rfl, HA, HK2, HO_3, HO_4, HO_5, HB⟩ := hrel
    cases gk with
    | zero => exact absurd HA.out (by simp [laws_FnWatch.l0])
    | succ k2 =>
     have H := HA.out
     clear HA
     simp only [laws_FnWatch.l0] at H
     by_cases c30 : x7_2 < (t584.length : Int)
     rotate_left
     ·rw [if_neg c30] at H
      have c30b0 : decide (x7_2 < (t584.length : Int)) = false := dF_q c30
      clear c30
      obtain rfl := oI_q H
      go_wp2
      go_ret
      exact ⟨by first | rfl | (simp [eN_q, eS_q] <;> rfl) | (simp [*, eN_q, eS_q] <;> rfl), bel HB.out⟩
     rw [if_pos c30] at H
     have c30b0 : decide (x7_2 < (t584.length : Int)) = true := dT_q c30
     clear c30
     have HC31 := Ae_q H
     clear H
     go_upto_region 11 with (fail)
     go_cut [59] (fun v59 wc => ∃ (kq : Nat) (x59_30 : Bool), v59 = .bool x59_30 ∧ Aside0 (laws_FnWatch.j2 kq t583 t584 t589 x7_2 x59_30 = some r) ∧ Aside0 (kq ≤ k2) ∧ Aside0 (Kd.R k50 50 wc w.heap.size (fun _ => True) (.slice Ao8 t583.length co8) t583) ∧ Aside0 (Kd.R k27 27 wc w.heap.size (fun _ => True) (.slice Ao9 t584.length co9) t584) ∧ Aside0 (Kd.R kI_q 3 wc w.heap.size (fun _ => True) v590 t589) ∧ Aside0 (Below w.heap.size w wc))
     case first =>
      have H := HC31.out
      clear HC31
      by_cases c32 : 0 ≤ x7_2
      rotate_left
      ·rw [if_neg c32] at H
       exact absurd H (by simp)
      rw [if_pos c32] at H
      have c32b0 : decide (0 ≤ x7_2) = true := dT_q c32
      clear c32
      (first | rw [c32b0] | (simp only [i64_w, i32_w]; rw [c32b0]) | skip)
      by_cases c33 : ((rd_T27 t584 x7_2).f0) = 2
      rotate_left
      ·rw [if_neg c33] at H
       have c33b0 : (((rd_T27 t584 x7_2).f0) == 2) = false := fN_q.mpr c33
       have c33b1 : (((rd_T27 t584 x7_2).f0) != 2) = true := nI_q.mpr c33
       have H' := Ae_q H
       clear H
       have p599 : 0 ≤ (x7_2 : Int) := oD_q (by assumption)
       have q599 : x7_2 < (t584.length : Int) := oD_q (by assumption)
       obtain ⟨ad599, e599, hx599_0, hx599_1, hx599_2, hx599_3, hx599_4, hx599_5⟩ := at_T27 (rR_q HO_4.out).2.2 x7_2 p599 q599
       cases e599
       replace p599 := eq_true p599
       replace q599 := eq_true q599
       go_wp2
       go_meet
       case rel => exact ⟨_, (false), (by first | rfl | (simp; done) | (simp [*]; done)), H', ⟨by have := HJ5.out; have := HK2.out; first | omega | exact nR_q _⟩, ⟨rup HO_3.out⟩, ⟨rup HO_4.out⟩, ⟨rup HO_5.out⟩, ⟨bel HB.out⟩⟩
      rw [if_pos c33] at H
      have c33b0 : (((rd_T27 t584 x7_2).f0) == 2) = true := beq_iff_eq.mpr c33
      have c33b1 : (((rd_T27 t584 x7_2).f0) != 2) = false := nE_q.mpr c33
      clear c33
      replace H := oB_q.mp H
      obtain ⟨t600, A340, H⟩ := H
      replace H : (laws_FnWatch.j2 k2 t583 t584 t589 x7_2 (!t600)) = some r := H
      have A34 := Ae_q A340
      clear A340
      have H' := Ae_q H
      clear H
      have p599 : 0 ≤ (x7_2 : Int) := oD_q (by assumption)
      have q599 : x7_2 < (t584.length : Int) := oD_q (by assumption)
      obtain ⟨ad599, e599, hx599_0, hx599_1, hx599_2, hx599_3, hx599_4, hx599_5⟩ := at_T27 (rR_q HO_4.out).2.2 x7_2 p599 q599
      cases e599
      replace p599 := eq_true p599
      replace q599 := eq_true q599
      obtain ⟨Ao35, co35, eo35⟩ := rS_q HO_5.out
      subst eo35
      go_wp2_with (first | (go_at_call 32; (with_reducible refine (laws_hasInt.calls k2 _ _ t589 x7_2 t600 _ ?side1 ?side2 A34.out).mono ?_); (case side1 => exact cup (rR_q HO_5.out).2.2); (case side2 => exact (rR_q HO_5.out).2.1); rintro e w' ⟨rfl, ⟨nd, rfl⟩⟩))
      go_meet
      case rel => exact ⟨_, (!t600), (by first | rfl | (simp; done) | (simp [*]; done)), H', ⟨by have := HJ5.out; have := HK2.out; first | omega | exact nR_q _⟩, ⟨rup HO_3.out⟩, ⟨rup HO_4.out⟩, ⟨rup HO_5.out⟩, ⟨bel HB.out⟩⟩
     case rest =>
      clear HC31
      try clear c1
      try clear c2
      try clear c2b0
      try clear c2b1
      try clear p2
      try clear c3
      try clear p5
      try clear q5
      try clear hx5
      try clear c9
      try clear c13
      try clear c15
      try clear c24
      try clear c26
      try clear c30
      try clear c30b0
      try clear c32
      try clear c32b0
      try clear c33
      try clear c33b0
      try clear c33b1
      try clear c34
      try clear c35
      try clear hx599_0
      try clear hx599_1
      try clear hx599_2
      try clear hx599_3
      try clear hx599_4
      try clear hx599_5
      try clear p2
      try clear p599
      try clear q599
      obtain ⟨kq, x59_30, rfl, HA, HJ30, HO_3, HO_4, HO_5, HB⟩ := hcut
      cases kq with
      | zero => exact absurd HA.out (by simp [laws_FnWatch.j2])
      | succ kj30 =>
       have H := HA.out
       clear HA
       simp only [laws_FnWatch.j2] at H
       by_cases c36 : x59_30 = true
       rotate_left
       ·replace c36 := fM_q.mpr c36
        subst c36
        have H1 : (laws_FnWatch.l0 kj30 t583 t584 t589 (wrap64 (x7_2 + 1))) = some r := by rw [if_neg (show ¬ (false = true) by decide)] at H; exact H
        clear H
        have H := H1
        clear H1
        have H' := Ae_q H
        clear H
        go_wp2
        go_roundg kj30
        case measure => have := HJ5.out; have := HK2.out; have := HJ30.out; omega
        case rel => exact ⟨(wrap64 (x7_2 + 1)), (by first | rfl | (simp; done) | (simp [*]; done)), H', ⟨by have := HJ5.out; have := HK2.out; have := HJ30.out; omega⟩, ⟨rup HO_3.out⟩, ⟨rup HO_4.out⟩, ⟨rup HO_5.out⟩, ⟨bel HB.out⟩⟩
       subst c36
       have H1 : (laws_FnWatch.l1 kj30 t583 t584 t589 x7_2 false 0) = some r := by rw [if_pos rfl] at H; exact H
       clear H
       have H := H1
       clear H1
       have H' := Ae_q H
       clear H
       go_wp2
       go_loopg [8, 9] kj30 (fun kq v8 v9 w' => ∃ (x8_4 : Bool) (x9_4 : Int), v8 = .bool x8_4 ∧ v9 = .int .i64 x9_4 ∧ Aside0 (laws_FnWatch.l1 kq t583 t584 t589 x7_2 x8_4 x9_4 = some r) ∧ Aside0 (kq ≤ kj30) ∧ Aside0 (Kd.R k50 50 w' w.heap.size (fun _ => True) (.slice Ao8 t583.length co8) t583) ∧ Aside0 (Kd.R k27 27 w' w.heap.size (fun _ => True) (.slice Ao9 t584.length co9) t584) ∧ Aside0 (Kd.R kI_q 3 w' w.heap.size (fun _ => True) v590 t589) ∧ Aside0 (Below w.heap.size w w'))
       case atStart => exact ⟨(false), (0), (by first | rfl | (simp; done) | (simp [*]; done)), (by first | rfl | (simp; done) | (simp [*]; done)), H', ⟨nR_q _⟩, ⟨rup HO_3.out⟩, ⟨rup HO_4.out⟩, ⟨rup HO_5.out⟩, ⟨bel HB.out⟩⟩
       case round =>
        clear H'
        try clear c1
        try clear c2
        try clear c2b0
        try clear c2b1
        try clear p2
        try clear c3
        try clear p5
        try clear q5
        try clear hx5
        try clear c9
        try clear c13
        try clear c15
        try clear c24
        try clear c26
        try clear c30
        try clear c30b0
        try clear c32
        try clear c32b0
        try clear c33
        try clear c33b0
        try clear c33b1
        try clear c34
        try clear c35
        try clear c36
        try clear hx599_0
        try clear hx599_1
        try clear hx599_2
        try clear hx599_3
        try clear hx599_4
        try clear hx599_5
        try clear p2
        try clear p5
        try clear p599
        try clear q5
        try clear q599
        obtain ⟨x8_4, x9_4, rfl, rfl, HA, HK4, HO_3, HO_4, HO_5, HB⟩ := hrel
        cases gk with
        | zero => exact absurd HA.out (by simp [laws_FnWatch.l1])
        | succ k4 =>
         have H := HA.out
         clear HA
         simp only [laws_FnWatch.l1] at H
         by_cases c37 : x9_4 < x7_2
         rotate_left
         ·rw [if_neg c37] at H
          have c37b0 : decide (x9_4 < x7_2) = false := dF_q c37
          clear c37
          by_cases c64 : x8_4 = true
          rotate_left
          ·replace c64 := fM_q.mpr c64
           subst c64
           have H1 : (some false) = some r := by rw [if_neg (show ¬ (false = true) by decide)] at H; exact H
           clear H
           have H := H1
           clear H1
           obtain rfl := oI_q H
           go_wp2
           go_ret
           exact ⟨by first | rfl | (simp [eN_q, eS_q] <;> rfl) | (simp [*, eN_q, eS_q] <;> rfl), bel HB.out⟩
          subst c64
          have H1 : (laws_FnWatch.l0 k4 t583 t584 t589 (wrap64 (x7_2 + 1))) = some r := by rw [if_pos rfl] at H; exact H
          clear H
          have H := H1
          clear H1
          have H' := Ae_q H
          clear H
          go_wp2
          go_roundg k4
          case measure => have := HJ5.out; have := HK2.out; have := HJ30.out; have := HK4.out; omega
          case rel => exact ⟨(wrap64 (x7_2 + 1)), (by first | rfl | (simp; done) | (simp [*]; done)), H', ⟨by have := HJ5.out; have := HK2.out; have := HJ30.out; have := HK4.out; omega⟩, ⟨rup HO_3.out⟩, ⟨rup HO_4.out⟩, ⟨rup HO_5.out⟩, ⟨bel HB.out⟩⟩
         rw [if_pos c37] at H
         have c37b0 : decide (x9_4 < x7_2) = true := dT_q c37
         clear c37
         have HC38 := Ae_q H
         clear H
         go_upto_region 16 with (fail)
         go_cut [83] (fun v83 wc => ∃ (kq : Nat) (x83_37 : Bool), v83 = .bool x83_37 ∧ Aside0 (laws_FnWatch.j4 kq t583 t584 t589 x7_2 x8_4 x9_4 x83_37 = some r) ∧ Aside0 (kq ≤ k4) ∧ Aside0 (Kd.R k50 50 wc w.heap.size (fun _ => True) (.slice Ao8 t583.length co8) t583) ∧ Aside0 (Kd.R k27 27 wc w.heap.size (fun _ => True) (.slice Ao9 t584.length co9) t584) ∧ Aside0 (Kd.R kI_q 3 wc w.heap.size (fun _ => True) v590 t589) ∧ Aside0 (Below w.heap.size w wc))
         case first =>
          have H := HC38.out
          clear HC38
          by_cases c39 : 0 ≤ x9_4
          rotate_left
          ·rw [if_neg c39] at H
           exact absurd H (by simp)
          rw [if_pos c39] at H
          have c39b0 : decide (0 ≤ x9_4) = true := dT_q c39
          clear c39
          (first | rw [c39b0] | (simp only [i64_w, i32_w]; rw [c39b0]) | skip)
          by_cases c40 : x9_4 < (t584.length : Int)
          rotate_left
          ·rw [if_neg c40] at H
           exact absurd H (by simp)
          rw [if_pos c40] at H
          have c40b0 : decide (x9_4 < (t584.length : Int)) = true := dT_q c40
          clear c40
          by_cases c41 : 0 ≤ x7_2
          rotate_left
          ·rw [if_neg c41] at H
           exact absurd H (by simp)
          rw [if_pos c41] at H
          have c41b0 : decide (0 ≤ x7_2) = true := dT_q c41
          clear c41
          by_cases c42 : x7_2 < (t584.length : Int)
          rotate_left
          ·rw [if_neg c42] at H
           exact absurd H (by simp)
          rw [if_pos c42] at H
          have c42b0 : decide (x7_2 < (t584.length : Int)) = true := dT_q c42
          clear c42
          by_cases c43 : ((rd_T27 t584 x9_4).f2) = ((rd_T27 t584 x7_2).f2)
          rotate_left
          ·rw [if_neg c43] at H
           have c43b0 : (((rd_T27 t584 x9_4).f2) == ((rd_T27 t584 x7_2).f2)) = false := fN_q.mpr c43
           have c43b1 : (((rd_T27 t584 x9_4).f2) != ((rd_T27 t584 x7_2).f2)) = true := nI_q.mpr c43
           have H' := Ae_q H
           clear H
           try go_wp2
           have n0_ := Ae_q (rD_q HO_3.out)
           have n1_ := Ae_q (rD_q HO_4.out)
           have n2_ := Ae_q (rD_q HO_5.out)
           have n3_ := Ae_q (bD_q HB.out)
           clear HO_3
           clear HO_4
           clear HO_5
           clear HB
           have HO_3 := n0_
           have HO_4 := n1_
           have HO_5 := n2_
           have HB := n3_
           clear n0_ n1_ n2_ n3_
           have p601 : 0 ≤ (x9_4 : Int) := oD_q (by assumption)
           have q601 : x9_4 < (t584.length : Int) := oD_q (by assumption)
           obtain ⟨ad601, e601, hx601_0, hx601_1, hx601_2, hx601_3, hx601_4, hx601_5⟩ := at_T27 (rR_q HO_4.out).2.2 x9_4 p601 q601
           cases e601
           replace p601 := eq_true p601
           replace q601 := eq_true q601
           have p602 : 0 ≤ (x7_2 : Int) := oD_q (by assumption)
           have q602 : x7_2 < (t584.length : Int) := oD_q (by assumption)
           obtain ⟨ad602, e602, hx602_0, hx602_1, hx602_2, hx602_3, hx602_4, hx602_5⟩ := at_T27 (rR_q HO_4.out).2.2 x7_2 p602 q602
           obtain rfl : ad601 = ad602 := (by injection e602)
           replace p602 := eq_true p602
           replace q602 := eq_true q602
           refine start_ (n := 19) (S := fun w' => w'.cell? (ad601.add ((x9_4).toNat * 6)) = some (.int .i64 ((rd_T27 t584 x9_4).f0)) ∧ w'.cell? ⟨(ad601.add ((x9_4).toNat * 6)).block, (ad601.add ((x9_4).toNat * 6)).off + 1, none⟩ = some (.int .i64 ((rd_T27 t584 x9_4).f1)) ∧ w'.cell? ⟨(ad601.add ((x9_4).toNat * 6)).block, (ad601.add ((x9_4).toNat * 6)).off + 2, none⟩ = some (.int .i64 ((rd_T27 t584 x9_4).f2)) ∧ w'.cell? ⟨(ad601.add ((x9_4).toNat * 6)).block, (ad601.add ((x9_4).toNat * 6)).off + 3, none⟩ = some (.int .i64 ((rd_T27 t584 x9_4).f3)) ∧ w'.cell? ⟨(ad601.add ((x9_4).toNat * 6)).block, (ad601.add ((x9_4).toNat * 6)).off + 4, none⟩ = some (.int .i64 ((rd_T27 t584 x9_4).f4)) ∧ w'.cell? ⟨(ad601.add ((x9_4).toNat * 6)).block, (ad601.add ((x9_4).toNat * 6)).off + 5, none⟩ = some (.int .i64 ((rd_T27 t584 x9_4).f5)) ∧ w'.cell? (ad601.add ((x7_2).toNat * 6)) = some (.int .i64 ((rd_T27 t584 x7_2).f0)) ∧ w'.cell? ⟨(ad601.add ((x7_2).toNat * 6)).block, (ad601.add ((x7_2).toNat * 6)).off + 1, none⟩ = some (.int .i64 ((rd_T27 t584 x7_2).f1)) ∧ w'.cell? ⟨(ad601.add ((x7_2).toNat * 6)).block, (ad601.add ((x7_2).toNat * 6)).off + 2, none⟩ = some (.int .i64 ((rd_T27 t584 x7_2).f2)) ∧ w'.cell? ⟨(ad601.add ((x7_2).toNat * 6)).block, (ad601.add ((x7_2).toNat * 6)).off + 3, none⟩ = some (.int .i64 ((rd_T27 t584 x7_2).f3)) ∧ w'.cell? ⟨(ad601.add ((x7_2).toNat * 6)).block, (ad601.add ((x7_2).toNat * 6)).off + 4, none⟩ = some (.int .i64 ((rd_T27 t584 x7_2).f4)) ∧ w'.cell? ⟨(ad601.add ((x7_2).toNat * 6)).block, (ad601.add ((x7_2).toNat * 6)).off + 5, none⟩ = some (.int .i64 ((rd_T27 t584 x7_2).f5))) (ds := []) #[false, false, false, false, false, false, false, false, false, false, false, false, false, false, false, false, false, false, false] (by kernel_rfl) rfl rfl ⟨hx601_0, hx601_1, hx601_2, hx601_3, hx601_4, hx601_5, hx602_0, hx602_1, hx602_2, hx602_3, hx602_4, hx602_5⟩ (fun hHeld => ?_); refine with_tabW laws_FnWatch.tab16 laws_FnWatch.bits16 (fun HT_ HW_ => ?_)
           generalize wr.drew = w45 at HO_3 HO_4 HO_5 HB hx601_0 hx601_1 hx601_2 hx601_3 hx601_4 hx601_5 hx602_0 hx602_1 hx602_2 hx602_3 hx602_4 hx602_5 hHeld ⊢
           refine pI (v := ?_) (a' := ?_) HT_ 0 65 rfl rfl (by kernel_rfl) (fun _ _ _ h => h) (by rfl) ?_ ?_ ?_
           rotate_left
           ·intro w'
            go_simp
            with_reducible rfl
           rotate_left
           ·simp only [pS_q]
            rfl
           refine pI (v := ?_) (a' := ?_) HT_ 1 66 rfl rfl (by kernel_rfl) (fun _ _ _ h => h) (by rfl) ?_ ?_ ?_
           rotate_left
           ·intro w'
            go_simp
            with_reducible rfl
           rotate_left
           ·simp only [pS_q]
            rfl
           refine pI (v := ?_) (a' := ?_) HT_ 2 67 rfl rfl (by kernel_rfl) (fun _ _ _ h => h) (by rfl) ?_ ?_ ?_
           rotate_left
           ·intro w'
            go_simp
            with_reducible rfl
           rotate_left
           ·simp only [pS_q]
            rfl
           refine pI (v := ?_) (a' := ?_) HT_ 3 68 rfl rfl (by kernel_rfl) (fun _ _ _ h => h) (by rfl) ?_ ?_ ?_
           rotate_left
           ·intro w'
            go_simp
            with_reducible rfl
           rotate_left
           ·simp only [pS_q]
            rfl
           refine pI (v := ?_) (a' := ?_) HT_ 5 70 rfl rfl (by kernel_rfl) (fun _ _ _ h => h) (by rfl) ?_ ?_ ?_
           rotate_left
           ·intro w'
            go_simp
            with_reducible rfl
           rotate_left
           ·simp only [pS_q]
            rfl
           refine pI (v := ?_) (a' := ?_) HT_ 6 71 rfl rfl (by kernel_rfl) (fun _ _ _ h => h) (by rfl) ?_ ?_ ?_
           rotate_left
           ·intro w'
            go_simp
            with_reducible rfl
           rotate_left
           ·simp only [pS_q]
            rfl
           refine pI (v := ?_) (a' := ?_) HT_ 7 72 rfl rfl (by kernel_rfl) (fun _ _ _ h => h) (by rfl) ?_ ?_ ?_
           rotate_left
           ·intro w'
            go_simp
            with_reducible rfl
           rotate_left
           ·simp only [pS_q]
            rfl
           refine pI (v := ?_) (a' := ?_) HT_ 8 73 rfl rfl (by kernel_rfl) (fun _ _ _ h => h) (by rfl) ?_ ?_ ?_
           rotate_left
           ·intro w'
            go_simp
            with_reducible rfl
           rotate_left
           ·simp only [pS_q]
            rfl
           refine take_ (i := 4) (N := some 69) (v := ?_) (a' := ?_) #[true, true, true, true, true, true, true, true, true, false, false, false, false, false, false, false, false, false, false] rfl rfl (take_ofW HT_.out HW_.out (by kernel_rfl)) (fun _ _ _ h => h) (Or.inl ⟨by rfl, ?_⟩) hHeld ?_ ?_
           rotate_left
           ·rintro w' ⟨s0, s1, s2, s3, s4, s5, s6, s7, s8, s9, s10, s11⟩
            go_simp
            with_reducible rfl
           rotate_left
           ·simp only [pS_q]
            rfl
           refine take_ (i := 9) (N := some 74) (v := ?_) (a' := ?_) #[true, true, true, true, true, true, true, true, true, true, false, false, false, false, false, false, false, false, false] rfl rfl (take_ofW HT_.out HW_.out (by kernel_rfl)) (fun _ _ _ h => h) (Or.inl ⟨by rfl, ?_⟩) hHeld ?_ ?_
           rotate_left
           ·rintro w' ⟨s0, s1, s2, s3, s4, s5, s6, s7, s8, s9, s10, s11⟩
            go_simp
            with_reducible rfl
           rotate_left
           ·simp only [pS_q]
            rfl
           refine pI (v := ?_) (a' := ?_) HT_ 10 75 rfl rfl (by kernel_rfl) (fun _ _ _ h => h) (by rfl) ?_ ?_ ?_
           rotate_left
           ·intro w'
            go_simp
            with_reducible rfl
           rotate_left
           ·simp only [pS_q]
            rfl
           refine pI (v := ?_) (a' := ?_) HT_ 11 76 rfl rfl (by kernel_rfl) (fun _ _ _ h => h) (by rfl) ?_ ?_ ?_
           rotate_left
           ·intro w'
            go_simp
            with_reducible rfl
           rotate_left
           ·simp only [pS_q]
            rfl
           refine pU (a' := ?_) HT_ 12 77 rfl rfl (by kernel_rfl) (fun _ _ _ h => h) (by rfl) ?_ ?_
           rotate_left
           ·simp only [pS_q]
            rfl
           refine pU (a' := ?_) HT_ 13 78 rfl rfl (by kernel_rfl) (fun _ _ _ h => h) (by rfl) ?_ ?_
           rotate_left
           ·simp only [pS_q]
            rfl
           refine pU (a' := ?_) HT_ 14 79 rfl rfl (by kernel_rfl) (fun _ _ _ h => h) (by rfl) ?_ ?_
           rotate_left
           ·simp only [pS_q]
            rfl
           refine pU (a' := ?_) HT_ 15 80 rfl rfl (by kernel_rfl) (fun _ _ _ h => h) (by rfl) ?_ ?_
           rotate_left
           ·simp only [pS_q]
            rfl
           refine pU (a' := ?_) HT_ 16 81 rfl rfl (by kernel_rfl) (fun _ _ _ h => h) (by rfl) ?_ ?_
           rotate_left
           ·simp only [pS_q]
            rfl
           refine pU (a' := ?_) HT_ 17 82 rfl rfl (by kernel_rfl) (fun _ _ _ h => h) (by rfl) ?_ ?_
           rotate_left
           ·simp only [pS_q]
            rfl
           refine pI (v := ?_) (a' := ?_) HT_ 18 83 rfl rfl (by kernel_rfl) (fun _ _ _ h => h) (by rfl) ?_ ?_ ?_
           rotate_left
           ·intro w'
            go_simp
            with_reducible rfl
           rotate_left
           ·simp only [pS_q]
            rfl
           refine done_ (done_of HT_.out (by kernel_rfl)) ?_
           try go_wp2
           go_meet
           case rel => exact ⟨_, (false), (by first | rfl | (simp; done) | (simp [*]; done)), H', ⟨by have := HJ5.out; have := HK2.out; have := HJ30.out; have := HK4.out; first | omega | exact nR_q _⟩, ⟨rup HO_3.out⟩, ⟨rup HO_4.out⟩, ⟨rup HO_5.out⟩, ⟨bel HB.out⟩⟩
          rw [if_pos c43] at H
          have c43b0 : (((rd_T27 t584 x9_4).f2) == ((rd_T27 t584 x7_2).f2)) = true := beq_iff_eq.mpr c43
          have c43b1 : (((rd_T27 t584 x9_4).f2) != ((rd_T27 t584 x7_2).f2)) = false := nE_q.mpr c43
          clear c43
          have H' := Ae_q H
          clear H
          try go_wp2
          have n0_ := Ae_q (rD_q HO_3.out)
          have n1_ := Ae_q (rD_q HO_4.out)
          have n2_ := Ae_q (rD_q HO_5.out)
          have n3_ := Ae_q (bD_q HB.out)
          clear HO_3
          clear HO_4
          clear HO_5
          clear HB
          have HO_3 := n0_
          have HO_4 := n1_
          have HO_5 := n2_
          have HB := n3_
          clear n0_ n1_ n2_ n3_
          have p601 : 0 ≤ (x9_4 : Int) := oD_q (by assumption)
          have q601 : x9_4 < (t584.length : Int) := oD_q (by assumption)
          obtain ⟨ad601, e601, hx601_0, hx601_1, hx601_2, hx601_3, hx601_4, hx601_5⟩ := at_T27 (rR_q HO_4.out).2.2 x9_4 p601 q601
          cases e601
          replace p601 := eq_true p601
          replace q601 := eq_true q601
          have p602 : 0 ≤ (x7_2 : Int) := oD_q (by assumption)
          have q602 : x7_2 < (t584.length : Int) := oD_q (by assumption)
          obtain ⟨ad602, e602, hx602_0, hx602_1, hx602_2, hx602_3, hx602_4, hx602_5⟩ := at_T27 (rR_q HO_4.out).2.2 x7_2 p602 q602
          obtain rfl : ad601 = ad602 := (by injection e602)
          replace p602 := eq_true p602
          replace q602 := eq_true q602
          have p603 : 0 ≤ (x9_4 : Int) := oD_q (by assumption)
          have q603 : x9_4 < (t584.length : Int) := oD_q (by assumption)
          obtain ⟨ad603, e603, hx603_0, hx603_1, hx603_2, hx603_3, hx603_4, hx603_5⟩ := at_T27 (rR_q HO_4.out).2.2 x9_4 p603 q603
          obtain rfl : ad601 = ad603 := (by injection e603)
          replace p603 := eq_true p603
          replace q603 := eq_true q603
          refine start_ (n := 19) (S := fun w' => w'.cell? (ad601.add ((x9_4).toNat * 6)) = some (.int .i64 ((rd_T27 t584 x9_4).f0)) ∧ w'.cell? ⟨(ad601.add ((x9_4).toNat * 6)).block, (ad601.add ((x9_4).toNat * 6)).off + 1, none⟩ = some (.int .i64 ((rd_T27 t584 x9_4).f1)) ∧ w'.cell? ⟨(ad601.add ((x9_4).toNat * 6)).block, (ad601.add ((x9_4).toNat * 6)).off + 2, none⟩ = some (.int .i64 ((rd_T27 t584 x9_4).f2)) ∧ w'.cell? ⟨(ad601.add ((x9_4).toNat * 6)).block, (ad601.add ((x9_4).toNat * 6)).off + 3, none⟩ = some (.int .i64 ((rd_T27 t584 x9_4).f3)) ∧ w'.cell? ⟨(ad601.add ((x9_4).toNat * 6)).block, (ad601.add ((x9_4).toNat * 6)).off + 4, none⟩ = some (.int .i64 ((rd_T27 t584 x9_4).f4)) ∧ w'.cell? ⟨(ad601.add ((x9_4).toNat * 6)).block, (ad601.add ((x9_4).toNat * 6)).off + 5, none⟩ = some (.int .i64 ((rd_T27 t584 x9_4).f5)) ∧ w'.cell? (ad601.add ((x7_2).toNat * 6)) = some (.int .i64 ((rd_T27 t584 x7_2).f0)) ∧ w'.cell? ⟨(ad601.add ((x7_2).toNat * 6)).block, (ad601.add ((x7_2).toNat * 6)).off + 1, none⟩ = some (.int .i64 ((rd_T27 t584 x7_2).f1)) ∧ w'.cell? ⟨(ad601.add ((x7_2).toNat * 6)).block, (ad601.add ((x7_2).toNat * 6)).off + 2, none⟩ = some (.int .i64 ((rd_T27 t584 x7_2).f2)) ∧ w'.cell? ⟨(ad601.add ((x7_2).toNat * 6)).block, (ad601.add ((x7_2).toNat * 6)).off + 3, none⟩ = some (.int .i64 ((rd_T27 t584 x7_2).f3)) ∧ w'.cell? ⟨(ad601.add ((x7_2).toNat * 6)).block, (ad601.add ((x7_2).toNat * 6)).off + 4, none⟩ = some (.int .i64 ((rd_T27 t584 x7_2).f4)) ∧ w'.cell? ⟨(ad601.add ((x7_2).toNat * 6)).block, (ad601.add ((x7_2).toNat * 6)).off + 5, none⟩ = some (.int .i64 ((rd_T27 t584 x7_2).f5)) ∧ w'.cell? (ad601.add ((x9_4).toNat * 6)) = some (.int .i64 ((rd_T27 t584 x9_4).f0)) ∧ w'.cell? ⟨(ad601.add ((x9_4).toNat * 6)).block, (ad601.add ((x9_4).toNat * 6)).off + 1, none⟩ = some (.int .i64 ((rd_T27 t584 x9_4).f1)) ∧ w'.cell? ⟨(ad601.add ((x9_4).toNat * 6)).block, (ad601.add ((x9_4).toNat * 6)).off + 2, none⟩ = some (.int .i64 ((rd_T27 t584 x9_4).f2)) ∧ w'.cell? ⟨(ad601.add ((x9_4).toNat * 6)).block, (ad601.add ((x9_4).toNat * 6)).off + 3, none⟩ = some (.int .i64 ((rd_T27 t584 x9_4).f3)) ∧ w'.cell? ⟨(ad601.add ((x9_4).toNat * 6)).block, (ad601.add ((x9_4).toNat * 6)).off + 4, none⟩ = some (.int .i64 ((rd_T27 t584 x9_4).f4)) ∧ w'.cell? ⟨(ad601.add ((x9_4).toNat * 6)).block, (ad601.add ((x9_4).toNat * 6)).off + 5, none⟩ = some (.int .i64 ((rd_T27 t584 x9_4).f5))) (ds := []) #[false, false, false, false, false, false, false, false, false, false, false, false, false, false, false, false, false, false, false] (by kernel_rfl) rfl rfl ⟨hx601_0, hx601_1, hx601_2, hx601_3, hx601_4, hx601_5, hx602_0, hx602_1, hx602_2, hx602_3, hx602_4, hx602_5, hx603_0, hx603_1, hx603_2, hx603_3, hx603_4, hx603_5⟩ (fun hHeld => ?_); refine with_tabW laws_FnWatch.tab16 laws_FnWatch.bits16 (fun HT_ HW_ => ?_)
          generalize wr.drew = w44 at HO_3 HO_4 HO_5 HB hx601_0 hx601_1 hx601_2 hx601_3 hx601_4 hx601_5 hx602_0 hx602_1 hx602_2 hx602_3 hx602_4 hx602_5 hx603_0 hx603_1 hx603_2 hx603_3 hx603_4 hx603_5 hHeld ⊢
          refine pI (v := ?_) (a' := ?_) HT_ 0 65 rfl rfl (by kernel_rfl) (fun _ _ _ h => h) (by rfl) ?_ ?_ ?_
          rotate_left
          ·intro w'
           go_simp
           with_reducible rfl
          rotate_left
          ·simp only [pS_q]
           rfl
          refine pI (v := ?_) (a' := ?_) HT_ 1 66 rfl rfl (by kernel_rfl) (fun _ _ _ h => h) (by rfl) ?_ ?_ ?_
          rotate_left
          ·intro w'
           go_simp
           with_reducible rfl
          rotate_left
          ·simp only [pS_q]
           rfl
          refine pI (v := ?_) (a' := ?_) HT_ 2 67 rfl rfl (by kernel_rfl) (fun _ _ _ h => h) (by rfl) ?_ ?_ ?_
          rotate_left
          ·intro w'
           go_simp
           with_reducible rfl
          rotate_left
          ·simp only [pS_q]
           rfl
          refine pI (v := ?_) (a' := ?_) HT_ 3 68 rfl rfl (by kernel_rfl) (fun _ _ _ h => h) (by rfl) ?_ ?_ ?_
          rotate_left
          ·intro w'
           go_simp
           with_reducible rfl
          rotate_left
          ·simp only [pS_q]
           rfl
          refine pI (v := ?_) (a' := ?_) HT_ 5 70 rfl rfl (by kernel_rfl) (fun _ _ _ h => h) (by rfl) ?_ ?_ ?_
          rotate_left
          ·intro w'
           go_simp
           with_reducible rfl
          rotate_left
          ·simp only [pS_q]
           rfl
          refine pI (v := ?_) (a' := ?_) HT_ 6 71 rfl rfl (by kernel_rfl) (fun _ _ _ h => h) (by rfl) ?_ ?_ ?_
          rotate_left
          ·intro w'
           go_simp
           with_reducible rfl
          rotate_left
          ·simp only [pS_q]
           rfl
          refine pI (v := ?_) (a' := ?_) HT_ 7 72 rfl rfl (by kernel_rfl) (fun _ _ _ h => h) (by rfl) ?_ ?_ ?_
          rotate_left
          ·intro w'
           go_simp
           with_reducible rfl
          rotate_left
          ·simp only [pS_q]
           rfl
          refine pI (v := ?_) (a' := ?_) HT_ 8 73 rfl rfl (by kernel_rfl) (fun _ _ _ h => h) (by rfl) ?_ ?_ ?_
          rotate_left
          ·intro w'
           go_simp
           with_reducible rfl
          rotate_left
          ·simp only [pS_q]
           rfl
          refine take_ (i := 4) (N := some 69) (v := ?_) (a' := ?_) #[true, true, true, true, true, true, true, true, true, false, false, false, false, false, false, false, false, false, false] rfl rfl (take_ofW HT_.out HW_.out (by kernel_rfl)) (fun _ _ _ h => h) (Or.inl ⟨by rfl, ?_⟩) hHeld ?_ ?_
          rotate_left
          ·rintro w' ⟨s0, s1, s2, s3, s4, s5, s6, s7, s8, s9, s10, s11, s12, s13, s14, s15, s16, s17⟩
           go_simp
           with_reducible rfl
          rotate_left
          ·simp only [pS_q]
           rfl
          refine take_ (i := 9) (N := some 74) (v := ?_) (a' := ?_) #[true, true, true, true, true, true, true, true, true, true, false, false, false, false, false, false, false, false, false] rfl rfl (take_ofW HT_.out HW_.out (by kernel_rfl)) (fun _ _ _ h => h) (Or.inl ⟨by rfl, ?_⟩) hHeld ?_ ?_
          rotate_left
          ·rintro w' ⟨s0, s1, s2, s3, s4, s5, s6, s7, s8, s9, s10, s11, s12, s13, s14, s15, s16, s17⟩
           go_simp
           with_reducible rfl
          rotate_left
          ·simp only [pS_q]
           rfl
          refine pI (v := ?_) (a' := ?_) HT_ 10 75 rfl rfl (by kernel_rfl) (fun _ _ _ h => h) (by rfl) ?_ ?_ ?_
          rotate_left
          ·intro w'
           go_simp
           with_reducible rfl
          rotate_left
          ·simp only [pS_q]
           rfl
          refine pI (v := ?_) (a' := ?_) HT_ 11 76 rfl rfl (by kernel_rfl) (fun _ _ _ h => h) (by rfl) ?_ ?_ ?_
          rotate_left
          ·intro w'
           go_simp
           with_reducible rfl
          rotate_left
          ·simp only [pS_q]
           rfl
          refine pI (v := ?_) (a' := ?_) HT_ 12 77 rfl rfl (by kernel_rfl) (fun _ _ _ h => h) (by rfl) ?_ ?_ ?_
          rotate_left
          ·intro w'
           go_simp
           with_reducible rfl
          rotate_left
          ·simp only [pS_q]
           rfl
          refine pI (v := ?_) (a' := ?_) HT_ 13 78 rfl rfl (by kernel_rfl) (fun _ _ _ h => h) (by rfl) ?_ ?_ ?_
          rotate_left
          ·intro w'
           go_simp
           with_reducible rfl
          rotate_left
          ·simp only [pS_q]
           rfl
          refine pI (v := ?_) (a' := ?_) HT_ 14 79 rfl rfl (by kernel_rfl) (fun _ _ _ h => h) (by rfl) ?_ ?_ ?_
          rotate_left
          ·intro w'
           go_simp
           with_reducible rfl
          rotate_left
          ·simp only [pS_q]
           rfl
          refine pI (v := ?_) (a' := ?_) HT_ 15 80 rfl rfl (by kernel_rfl) (fun _ _ _ h => h) (by rfl) ?_ ?_ ?_
          rotate_left
          ·intro w'
           go_simp
           with_reducible rfl
          rotate_left
          ·simp only [pS_q]
           rfl
          refine take_ (i := 16) (N := some 81) (v := ?_) (a' := ?_) #[true, true, true, true, true, true, true, true, true, true, true, true, true, true, true, true, true, false, false] rfl rfl (take_ofW HT_.out HW_.out (by kernel_rfl)) (fun _ _ _ h => h) (Or.inl ⟨by rfl, ?_⟩) hHeld ?_ ?_
          rotate_left
          ·rintro w' ⟨s0, s1, s2, s3, s4, s5, s6, s7, s8, s9, s10, s11, s12, s13, s14, s15, s16, s17⟩
           go_simp
           with_reducible rfl
          rotate_left
          ·simp only [pS_q]
           rfl
          refine pI (v := ?_) (a' := ?_) HT_ 17 82 rfl rfl (by kernel_rfl) (fun _ _ _ h => h) (by rfl) ?_ ?_ ?_
          rotate_left
          ·intro w'
           go_simp
           with_reducible rfl
          rotate_left
          ·simp only [pS_q]
           rfl
          refine pI (v := ?_) (a' := ?_) HT_ 18 83 rfl rfl (by kernel_rfl) (fun _ _ _ h => h) (by rfl) ?_ ?_ ?_
          rotate_left
          ·intro w'
           go_simp
           with_reducible rfl
          rotate_left
          ·simp only [pS_q]
           rfl
          refine done_ (done_of HT_.out (by kernel_rfl)) ?_
          try go_wp2
          go_meet
          case rel => exact ⟨_, ((((rd_T27 t584 x9_4).f0) != 2)), (by first | rfl | (simp; done) | (simp [*]; done)), H', ⟨by have := HJ5.out; have := HK2.out; have := HJ30.out; have := HK4.out; first | omega | exact nR_q _⟩, ⟨rup HO_3.out⟩, ⟨rup HO_4.out⟩, ⟨rup HO_5.out⟩, ⟨bel HB.out⟩⟩
         case rest =>
          clear HC38
          try clear c1
          try clear c2
          try clear c2b0
          try clear c2b1
          try clear p2
          try clear c3
          try clear c4
          try clear p5
          try clear q5
          try clear hx5
          try clear p6
          try clear q6
          try clear hx6
          try clear c9
          try clear c13
          try clear c15
          try clear c24
          try clear c26
          try clear c30
          try clear c30b0
          try clear c32
          try clear c32b0
          try clear c33
          try clear c33b0
          try clear c33b1
          try clear c34
          try clear c35
          try clear c36
          try clear c37
          try clear c37b0
          try clear c39
          try clear c39b0
          try clear c40
          try clear c40b0
          try clear c41
          try clear c41b0
          try clear c42
          try clear c42b0
          try clear c43
          try clear c43b0
          try clear c43b1
          try clear hx599_0
          try clear hx599_1
          try clear hx599_2
          try clear hx599_3
          try clear hx599_4
          try clear hx599_5
          try clear hx601_0
          try clear hx601_1
          try clear hx601_2
          try clear hx601_3
          try clear hx601_4
          try clear hx601_5
          try clear hx602_0
          try clear hx602_1
          try clear hx602_2
          try clear hx602_3
          try clear hx602_4
          try clear hx602_5
          try clear hx603_0
          try clear hx603_1
          try clear hx603_2
          try clear hx603_3
          try clear hx603_4
          try clear hx603_5
          try clear p2
          try clear p5
          try clear p599
          try clear p601
          try clear p602
          try clear p603
          try clear q5
          try clear q599
          try clear q601
          try clear q602
          try clear q603
          obtain ⟨kq, x83_37, rfl, HA, HJ37, HO_3, HO_4, HO_5, HB⟩ := hcut
          cases kq with
          | zero => exact absurd HA.out (by simp [laws_FnWatch.j4])
          | succ kj37 =>
           have H := HA.out
           clear HA
           simp only [laws_FnWatch.j4] at H
           by_cases c46 : x83_37 = true
           rotate_left
           ·replace c46 := fM_q.mpr c46
            subst c46
            have H1 : (laws_FnWatch.l1 kj37 t583 t584 t589 x7_2 x8_4 (wrap64 (x9_4 + 1))) = some r := by rw [if_neg (show ¬ (false = true) by decide)] at H; exact H
            clear H
            have H := H1
            clear H1
            have H' := Ae_q H
            clear H
            go_wp2
            go_roundg kj37
            case measure => have := HJ5.out; have := HK2.out; have := HJ30.out; have := HK4.out; have := HJ37.out; omega
            case rel => exact ⟨(x8_4), (wrap64 (x9_4 + 1)), (by first | rfl | (simp; done) | (simp [*]; done)), (by first | rfl | (simp; done) | (simp [*]; done)), H', ⟨by have := HJ5.out; have := HK2.out; have := HJ30.out; have := HK4.out; have := HJ37.out; omega⟩, ⟨rup HO_3.out⟩, ⟨rup HO_4.out⟩, ⟨rup HO_5.out⟩, ⟨bel HB.out⟩⟩
           subst c46
           have H1 : (laws_FnWatch.l2 kj37 t583 t584 t589 x7_2 false x9_4 0) = some r := by rw [if_pos rfl] at H; exact H
           clear H
           have H := H1
           clear H1
           have H' := Ae_q H
           clear H
           go_wp2
           go_loopg [8, 10] kj37 (fun kq v8 v10 w' => ∃ (x8_6 : Bool) (x10_6 : Int), v8 = .bool x8_6 ∧ v10 = .int .i64 x10_6 ∧ Aside0 (laws_FnWatch.l2 kq t583 t584 t589 x7_2 x8_6 x9_4 x10_6 = some r) ∧ Aside0 (kq ≤ kj37) ∧ Aside0 (Kd.R k50 50 w' w.heap.size (fun _ => True) (.slice Ao8 t583.length co8) t583) ∧ Aside0 (Kd.R k27 27 w' w.heap.size (fun _ => True) (.slice Ao9 t584.length co9) t584) ∧ Aside0 (Kd.R kI_q 3 w' w.heap.size (fun _ => True) v590 t589) ∧ Aside0 (Below w.heap.size w w'))
           case atStart => exact ⟨(false), (0), (by first | rfl | (simp; done) | (simp [*]; done)), (by first | rfl | (simp; done) | (simp [*]; done)), H', ⟨nR_q _⟩, ⟨rup HO_3.out⟩, ⟨rup HO_4.out⟩, ⟨rup HO_5.out⟩, ⟨bel HB.out⟩⟩
           case round =>
            clear H'
            try clear c1
            try clear c2
            try clear c2b0
            try clear c2b1
            try clear p2
            try clear c3
            try clear c4
            try clear p5
            try clear q5
            try clear hx5
            try clear p6
            try clear q6
            try clear hx6
            try clear c9
            try clear c13
            try clear c15
            try clear c24
            try clear c26
            try clear c30
            try clear c30b0
            try clear c32
            try clear c32b0
            try clear c33
            try clear c33b0
            try clear c33b1
            try clear c34
            try clear c35
            try clear c36
            try clear c37
            try clear c37b0
            try clear c39
            try clear c39b0
            try clear c40
            try clear c40b0
            try clear c41
            try clear c41b0
            try clear c42
            try clear c42b0
            try clear c43
            try clear c43b0
            try clear c43b1
            try clear c46
            try clear hx599_0
            try clear hx599_1
            try clear hx599_2
            try clear hx599_3
            try clear hx599_4
            try clear hx599_5
            try clear hx601_0
            try clear hx601_1
            try clear hx601_2
            try clear hx601_3
            try clear hx601_4
            try clear hx601_5
            try clear hx602_0
            try clear hx602_1
            try clear hx602_2
            try clear hx602_3
            try clear hx602_4
            try clear hx602_5
            try clear hx603_0
            try clear hx603_1
            try clear hx603_2
            try clear hx603_3
            try clear hx603_4
            try clear hx603_5
            try clear p2
            try clear p5
            try clear p599
            try clear p6
            try clear p601
            try clear p602
            try clear p603
            try clear q5
            try clear q599
            try clear q6
            try clear q601
            try clear q602
            try clear q603
            obtain ⟨x8_6, x10_6, rfl, rfl, HA, HK6, HO_3, HO_4, HO_5, HB⟩ := hrel
            cases gk with
            | zero => exact absurd HA.out (by simp [laws_FnWatch.l2])
            | succ k6 =>
             have H := HA.out
             clear HA
             simp only [laws_FnWatch.l2] at H
             by_cases c47 : x10_6 < (t583.length : Int)
             rotate_left
             ·rw [if_neg c47] at H
              have c47b0 : decide (x10_6 < (t583.length : Int)) = false := dF_q c47
              clear c47
              have H' := Ae_q H
              clear H
              go_wp2
              go_roundg k6
              case measure => have := HJ5.out; have := HK2.out; have := HJ30.out; have := HK4.out; have := HJ37.out; have := HK6.out; omega
              case rel => exact ⟨(x8_6), (wrap64 (x9_4 + 1)), (by first | rfl | (simp; done) | (simp [*]; done)), (by first | rfl | (simp; done) | (simp [*]; done)), H', ⟨by have := HJ5.out; have := HK2.out; have := HJ30.out; have := HK4.out; have := HJ37.out; have := HK6.out; omega⟩, ⟨rup HO_3.out⟩, ⟨rup HO_4.out⟩, ⟨rup HO_5.out⟩, ⟨bel HB.out⟩⟩
             rw [if_pos c47] at H
             have c47b0 : decide (x10_6 < (t583.length : Int)) = true := dT_q c47
             clear c47
             by_cases c48 : 0 ≤ x9_4
             rotate_left
             ·rw [if_neg c48] at H
              exact absurd H (by simp)
             rw [if_pos c48] at H
             have c48b0 : decide (0 ≤ x9_4) = true := dT_q c48
             clear c48
             by_cases c49 : x9_4 < (t584.length : Int)
             rotate_left
             ·rw [if_neg c49] at H
              exact absurd H (by simp)
             rw [if_pos c49] at H
             have c49b0 : decide (x9_4 < (t584.length : Int)) = true := dT_q c49
             clear c49
             by_cases c50 : ((rd_T27 t584 x9_4).f0) = 1
             rotate_left
             ·rw [if_neg c50] at H
              have c50b0 : (((rd_T27 t584 x9_4).f0) == 1) = false := fN_q.mpr c50
              have c50b1 : (((rd_T27 t584 x9_4).f0) != 1) = true := nI_q.mpr c50
              have H' := Ae_q H
              clear H
              have p604 : 0 ≤ (x9_4 : Int) := oD_q (by assumption)
              have q604 : x9_4 < (t584.length : Int) := oD_q (by assumption)
              obtain ⟨ad604, e604, hx604_0, hx604_1, hx604_2, hx604_3, hx604_4, hx604_5⟩ := at_T27 (rR_q HO_4.out).2.2 x9_4 p604 q604
              cases e604
              replace p604 := eq_true p604
              replace q604 := eq_true q604
              go_wp2
              go_roundg k6
              case measure => have := HJ5.out; have := HK2.out; have := HJ30.out; have := HK4.out; have := HJ37.out; have := HK6.out; omega
              case rel => exact ⟨(x8_6), (wrap64 (x9_4 + 1)), (by first | rfl | (simp; done) | (simp [*]; done)), (by first | rfl | (simp; done) | (simp [*]; done)), H', ⟨by have := HJ5.out; have := HK2.out; have := HJ30.out; have := HK4.out; have := HJ37.out; have := HK6.out; omega⟩, ⟨rup HO_3.out⟩, ⟨rup HO_4.out⟩, ⟨rup HO_5.out⟩, ⟨bel HB.out⟩⟩
             rw [if_pos c50] at H
             have c50b0 : (((rd_T27 t584 x9_4).f0) == 1) = true := beq_iff_eq.mpr c50
             have c50b1 : (((rd_T27 t584 x9_4).f0) != 1) = false := nE_q.mpr c50
             clear c50
             by_cases c51 : x8_6 = true
             ·subst c51
              have H1 : (laws_FnWatch.l2 k6 t583 t584 t589 x7_2 true x9_4 (wrap64 (x10_6 + 1))) = some r := by rw [if_pos rfl] at H; exact H
              clear H
              have H := H1
              clear H1
              have H' := Ae_q H
              clear H
              have p604 : 0 ≤ (x9_4 : Int) := oD_q (by assumption)
              have q604 : x9_4 < (t584.length : Int) := oD_q (by assumption)
              obtain ⟨ad604, e604, hx604_0, hx604_1, hx604_2, hx604_3, hx604_4, hx604_5⟩ := at_T27 (rR_q HO_4.out).2.2 x9_4 p604 q604
              cases e604
              replace p604 := eq_true p604
              replace q604 := eq_true q604
              try go_wp2
              have n0_ := Ae_q (rD_q HO_3.out)
              have n1_ := Ae_q (rD_q HO_4.out)
              have n2_ := Ae_q (rD_q HO_5.out)
              have n3_ := Ae_q (bD_q HB.out)
              clear HO_3
              clear HO_4
              clear HO_5
              clear HB
              have HO_3 := n0_
              have HO_4 := n1_
              have HO_5 := n2_
              have HB := n3_
              clear n0_ n1_ n2_ n3_
              refine start_ (n := 46) (S := fun w' => True) (ds := []) #[false, false, false, false, false, false, false, false, false, false, false, false, false, false, false, false, false, false, false, false, false, false, false, false, false, false, false, false, false, false, false, false, false, false, false, false, false, false, false, false, false, false, false, false, false, false] (by kernel_rfl) rfl rfl trivial (fun hHeld => ?_); refine with_tabW laws_FnWatch.tab21 laws_FnWatch.bits21 (fun HT_ HW_ => ?_)
              generalize wr.drew = w52 at HO_3 HO_4 HO_5 HB hHeld ⊢
              refine pI (v := ?_) (a' := ?_) HT_ 0 98 rfl rfl (by kernel_rfl) (fun _ _ _ h => h) (by rfl) ?_ ?_ ?_
              rotate_left
              ·intro w'
               go_simp
               with_reducible rfl
              rotate_left
              ·simp only [pS_q]
               rfl
              refine pI (v := ?_) (a' := ?_) HT_ 1 99 rfl rfl (by kernel_rfl) (fun _ _ _ h => h) (by rfl) ?_ ?_ ?_
              rotate_left
              ·intro w'
               go_simp
               with_reducible rfl
              rotate_left
              ·simp only [pS_q]
               rfl
              refine pU (a' := ?_) HT_ 2 100 rfl rfl (by kernel_rfl) (fun _ _ _ h => h) (by rfl) ?_ ?_
              rotate_left
              ·simp only [pS_q]
               rfl
              refine pU (a' := ?_) HT_ 3 101 rfl rfl (by kernel_rfl) (fun _ _ _ h => h) (by rfl) ?_ ?_
              rotate_left
              ·simp only [pS_q]
               rfl
              refine pU (a' := ?_) HT_ 4 102 rfl rfl (by kernel_rfl) (fun _ _ _ h => h) (by rfl) ?_ ?_
              rotate_left
              ·simp only [pS_q]
               rfl
              refine pU (a' := ?_) HT_ 5 103 rfl rfl (by kernel_rfl) (fun _ _ _ h => h) (by rfl) ?_ ?_
              rotate_left
              ·simp only [pS_q]
               rfl
              refine pU (a' := ?_) HT_ 6 104 rfl rfl (by kernel_rfl) (fun _ _ _ h => h) (by rfl) ?_ ?_
              rotate_left
              ·simp only [pS_q]
               rfl
              refine pU (a' := ?_) HT_ 7 105 rfl rfl (by kernel_rfl) (fun _ _ _ h => h) (by rfl) ?_ ?_
              rotate_left
              ·simp only [pS_q]
               rfl
              refine pU (a' := ?_) HT_ 8 106 rfl rfl (by kernel_rfl) (fun _ _ _ h => h) (by rfl) ?_ ?_
              rotate_left
              ·simp only [pS_q]
               rfl
              refine pU (a' := ?_) HT_ 9 107 rfl rfl (by kernel_rfl) (fun _ _ _ h => h) (by rfl) ?_ ?_
              rotate_left
              ·simp only [pS_q]
               rfl
              refine pU (a' := ?_) HT_ 10 108 rfl rfl (by kernel_rfl) (fun _ _ _ h => h) (by rfl) ?_ ?_
              rotate_left
              ·simp only [pS_q]
               rfl
              refine pU (a' := ?_) HT_ 11 109 rfl rfl (by kernel_rfl) (fun _ _ _ h => h) (by rfl) ?_ ?_
              rotate_left
              ·simp only [pS_q]
               rfl
              refine pU (a' := ?_) HT_ 12 110 rfl rfl (by kernel_rfl) (fun _ _ _ h => h) (by rfl) ?_ ?_
              rotate_left
              ·simp only [pS_q]
               rfl
              refine pU (a' := ?_) HT_ 13 111 rfl rfl (by kernel_rfl) (fun _ _ _ h => h) (by rfl) ?_ ?_
              rotate_left
              ·simp only [pS_q]
               rfl
              refine pU (a' := ?_) HT_ 14 112 rfl rfl (by kernel_rfl) (fun _ _ _ h => h) (by rfl) ?_ ?_
              rotate_left
              ·simp only [pS_q]
               rfl
              refine pU (a' := ?_) HT_ 15 113 rfl rfl (by kernel_rfl) (fun _ _ _ h => h) (by rfl) ?_ ?_
              rotate_left
              ·simp only [pS_q]
               rfl
              refine pU (a' := ?_) HT_ 16 114 rfl rfl (by kernel_rfl) (fun _ _ _ h => h) (by rfl) ?_ ?_
              rotate_left
              ·simp only [pS_q]
               rfl
              refine pU (a' := ?_) HT_ 17 115 rfl rfl (by kernel_rfl) (fun _ _ _ h => h) (by rfl) ?_ ?_
              rotate_left
              ·simp only [pS_q]
               rfl
              refine pU (a' := ?_) HT_ 18 116 rfl rfl (by kernel_rfl) (fun _ _ _ h => h) (by rfl) ?_ ?_
              rotate_left
              ·simp only [pS_q]
               rfl
              refine pU (a' := ?_) HT_ 19 117 rfl rfl (by kernel_rfl) (fun _ _ _ h => h) (by rfl) ?_ ?_
              rotate_left
              ·simp only [pS_q]
               rfl
              refine pU (a' := ?_) HT_ 20 118 rfl rfl (by kernel_rfl) (fun _ _ _ h => h) (by rfl) ?_ ?_
              rotate_left
              ·simp only [pS_q]
               rfl
              refine pU (a' := ?_) HT_ 21 119 rfl rfl (by kernel_rfl) (fun _ _ _ h => h) (by rfl) ?_ ?_
              rotate_left
              ·simp only [pS_q]
               rfl
              refine pU (a' := ?_) HT_ 22 120 rfl rfl (by kernel_rfl) (fun _ _ _ h => h) (by rfl) ?_ ?_
              rotate_left
              ·simp only [pS_q]
               rfl
              refine pU (a' := ?_) HT_ 23 121 rfl rfl (by kernel_rfl) (fun _ _ _ h => h) (by rfl) ?_ ?_
              rotate_left
              ·simp only [pS_q]
               rfl
              refine pU (a' := ?_) HT_ 24 122 rfl rfl (by kernel_rfl) (fun _ _ _ h => h) (by rfl) ?_ ?_
              rotate_left
              ·simp only [pS_q]
               rfl
              refine pU (a' := ?_) HT_ 25 123 rfl rfl (by kernel_rfl) (fun _ _ _ h => h) (by rfl) ?_ ?_
              rotate_left
              ·simp only [pS_q]
               rfl
              refine pU (a' := ?_) HT_ 26 124 rfl rfl (by kernel_rfl) (fun _ _ _ h => h) (by rfl) ?_ ?_
              rotate_left
              ·simp only [pS_q]
               rfl
              refine pU (a' := ?_) HT_ 27 125 rfl rfl (by kernel_rfl) (fun _ _ _ h => h) (by rfl) ?_ ?_
              rotate_left
              ·simp only [pS_q]
               rfl
              refine pU (a' := ?_) HT_ 28 126 rfl rfl (by kernel_rfl) (fun _ _ _ h => h) (by rfl) ?_ ?_
              rotate_left
              ·simp only [pS_q]
               rfl
              refine pU (a' := ?_) HT_ 29 127 rfl rfl (by kernel_rfl) (fun _ _ _ h => h) (by rfl) ?_ ?_
              rotate_left
              ·simp only [pS_q]
               rfl
              refine pU (a' := ?_) HT_ 30 128 rfl rfl (by kernel_rfl) (fun _ _ _ h => h) (by rfl) ?_ ?_
              rotate_left
              ·simp only [pS_q]
               rfl
              refine pU (a' := ?_) HT_ 31 129 rfl rfl (by kernel_rfl) (fun _ _ _ h => h) (by rfl) ?_ ?_
              rotate_left
              ·simp only [pS_q]
               rfl
              refine pU (a' := ?_) HT_ 32 130 rfl rfl (by kernel_rfl) (fun _ _ _ h => h) (by rfl) ?_ ?_
              rotate_left
              ·simp only [pS_q]
               rfl
              refine pU (a' := ?_) HT_ 33 131 rfl rfl (by kernel_rfl) (fun _ _ _ h => h) (by rfl) ?_ ?_
              rotate_left
              ·simp only [pS_q]
               rfl
              refine pU (a' := ?_) HT_ 34 132 rfl rfl (by kernel_rfl) (fun _ _ _ h => h) (by rfl) ?_ ?_
              rotate_left
              ·simp only [pS_q]
               rfl
              refine pU (a' := ?_) HT_ 35 133 rfl rfl (by kernel_rfl) (fun _ _ _ h => h) (by rfl) ?_ ?_
              rotate_left
              ·simp only [pS_q]
               rfl
              refine pU (a' := ?_) HT_ 36 134 rfl rfl (by kernel_rfl) (fun _ _ _ h => h) (by rfl) ?_ ?_
              rotate_left
              ·simp only [pS_q]
               rfl
              refine pU (a' := ?_) HT_ 37 135 rfl rfl (by kernel_rfl) (fun _ _ _ h => h) (by rfl) ?_ ?_
              rotate_left
              ·simp only [pS_q]
               rfl
              refine pU (a' := ?_) HT_ 38 136 rfl rfl (by kernel_rfl) (fun _ _ _ h => h) (by rfl) ?_ ?_
              rotate_left
              ·simp only [pS_q]
               rfl
              refine pU (a' := ?_) HT_ 39 137 rfl rfl (by kernel_rfl) (fun _ _ _ h => h) (by rfl) ?_ ?_
              rotate_left
              ·simp only [pS_q]
               rfl
              refine pU (a' := ?_) HT_ 40 138 rfl rfl (by kernel_rfl) (fun _ _ _ h => h) (by rfl) ?_ ?_
              rotate_left
              ·simp only [pS_q]
               rfl
              refine pU (a' := ?_) HT_ 41 139 rfl rfl (by kernel_rfl) (fun _ _ _ h => h) (by rfl) ?_ ?_
              rotate_left
              ·simp only [pS_q]
               rfl
              refine pU (a' := ?_) HT_ 42 140 rfl rfl (by kernel_rfl) (fun _ _ _ h => h) (by rfl) ?_ ?_
              rotate_left
              ·simp only [pS_q]
               rfl
              refine pU (a' := ?_) HT_ 43 141 rfl rfl (by kernel_rfl) (fun _ _ _ h => h) (by rfl) ?_ ?_
              rotate_left
              ·simp only [pS_q]
               rfl
              refine pI (v := ?_) (a' := ?_) HT_ 44 142 rfl rfl (by kernel_rfl) (fun _ _ _ h => h) (by rfl) ?_ ?_ ?_
              rotate_left
              ·intro w'
               go_simp
               with_reducible rfl
              rotate_left
              ·simp only [pS_q]
               rfl
              refine pI (v := ?_) (a' := ?_) HT_ 45 8 rfl rfl (by kernel_rfl) (fun _ _ _ h => h) (by rfl) ?_ ?_ ?_
              rotate_left
              ·intro w'
               go_simp
               with_reducible rfl
              rotate_left
              ·simp only [pS_q]
               rfl
              refine done_ (done_of HT_.out (by kernel_rfl)) ?_
              try go_wp2
              go_roundg k6
              case measure => have := HJ5.out; have := HK2.out; have := HJ30.out; have := HK4.out; have := HJ37.out; have := HK6.out; omega
              case rel => exact ⟨(true), (wrap64 (x10_6 + 1)), (by first | rfl | (simp; done) | (simp [*]; done)), (by first | rfl | (simp; done) | (simp [*]; done)), H', ⟨by have := HJ5.out; have := HK2.out; have := HJ30.out; have := HK4.out; have := HJ37.out; have := HK6.out; omega⟩, ⟨rup HO_3.out⟩, ⟨rup HO_4.out⟩, ⟨rup HO_5.out⟩, ⟨bel HB.out⟩⟩
             replace c51 := fM_q.mpr c51
             subst c51
             have H1 : (if 0 ≤ x10_6 then (if 0 ≤ x7_2 then (if x7_2 < (t584.length : Int) then (if ((rd_T50 t583 x10_6).f0) = ((rd_T27 t584 x7_2).f3) then ((impl_GuestMay.f ((rd_T50 t583 x10_6).f0) ((rd_T50 t583 x10_6).f1) ((rd_T50 t583 x10_6).f2) ((rd_T27 t584 x9_4).f4) ((rd_T27 t584 x9_4).f5)).bind fun t610 => (if t610 = true then (laws_FnWatch.l2 k6 t583 t584 t589 x7_2 (decide (((rd_T27 t584 x7_2).f1) ≤ (wrap64 (((rd_T27 t584 x9_4).f1) + 120)))) x9_4 (wrap64 (x10_6 + 1))) else (laws_FnWatch.l2 k6 t583 t584 t589 x7_2 false x9_4 (wrap64 (x10_6 + 1))))) else (laws_FnWatch.l2 k6 t583 t584 t589 x7_2 false x9_4 (wrap64 (x10_6 + 1)))) else (none)) else (none)) else (none)) = some r := by rw [if_neg (show ¬ (false = true) by decide)] at H; exact H
             clear H
             have H := H1
             clear H1
             by_cases c53 : 0 ≤ x10_6
             rotate_left
             ·rw [if_neg c53] at H
              exact absurd H (by simp)
             rw [if_pos c53] at H
             have c53b0 : decide (0 ≤ x10_6) = true := dT_q c53
             clear c53
             by_cases c54 : 0 ≤ x7_2
             rotate_left
             ·rw [if_neg c54] at H
              exact absurd H (by simp)
             rw [if_pos c54] at H
             have c54b0 : decide (0 ≤ x7_2) = true := dT_q c54
             clear c54
             by_cases c55 : x7_2 < (t584.length : Int)
             rotate_left
             ·rw [if_neg c55] at H
              exact absurd H (by simp)
             rw [if_pos c55] at H
             have c55b0 : decide (x7_2 < (t584.length : Int)) = true := dT_q c55
             clear c55
             by_cases c56 : ((rd_T50 t583 x10_6).f0) = ((rd_T27 t584 x7_2).f3)
             rotate_left
             ·rw [if_neg c56] at H
              have c56b0 : (((rd_T50 t583 x10_6).f0) == ((rd_T27 t584 x7_2).f3)) = false := fN_q.mpr c56
              have c56b1 : (((rd_T50 t583 x10_6).f0) != ((rd_T27 t584 x7_2).f3)) = true := nI_q.mpr c56
              have H' := Ae_q H
              clear H
              have p604 : 0 ≤ (x9_4 : Int) := oD_q (by assumption)
              have q604 : x9_4 < (t584.length : Int) := oD_q (by assumption)
              obtain ⟨ad604, e604, hx604_0, hx604_1, hx604_2, hx604_3, hx604_4, hx604_5⟩ := at_T27 (rR_q HO_4.out).2.2 x9_4 p604 q604
              cases e604
              replace p604 := eq_true p604
              replace q604 := eq_true q604
              try go_wp2
              have n0_ := Ae_q (rD_q HO_3.out)
              have n1_ := Ae_q (rD_q HO_4.out)
              have n2_ := Ae_q (rD_q HO_5.out)
              have n3_ := Ae_q (bD_q HB.out)
              clear HO_3
              clear HO_4
              clear HO_5
              clear HB
              have HO_3 := n0_
              have HO_4 := n1_
              have HO_5 := n2_
              have HB := n3_
              clear n0_ n1_ n2_ n3_
              have p605 : 0 ≤ (x10_6 : Int) := oD_q (by assumption)
              have q605 : x10_6 < (t583.length : Int) := oD_q (by assumption)
              obtain ⟨ad605, e605, hx605_0, hx605_1, hx605_2⟩ := at_T50 (rR_q HO_3.out).2.2 x10_6 p605 q605
              cases e605
              replace p605 := eq_true p605
              replace q605 := eq_true q605
              have p606 : 0 ≤ (x7_2 : Int) := oD_q (by assumption)
              have q606 : x7_2 < (t584.length : Int) := oD_q (by assumption)
              obtain ⟨ad606, e606, hx606_0, hx606_1, hx606_2, hx606_3, hx606_4, hx606_5⟩ := at_T27 (rR_q HO_4.out).2.2 x7_2 p606 q606
              obtain rfl : ad604 = ad606 := (by injection e606)
              replace p606 := eq_true p606
              replace q606 := eq_true q606
              refine start_ (n := 46) (S := fun w' => w'.cell? (ad605.add ((x10_6).toNat * 3)) = some (.int .i64 ((rd_T50 t583 x10_6).f0)) ∧ w'.cell? ⟨(ad605.add ((x10_6).toNat * 3)).block, (ad605.add ((x10_6).toNat * 3)).off + 1, none⟩ = some (.int .i64 ((rd_T50 t583 x10_6).f1)) ∧ w'.cell? ⟨(ad605.add ((x10_6).toNat * 3)).block, (ad605.add ((x10_6).toNat * 3)).off + 2, none⟩ = some (.int .i64 ((rd_T50 t583 x10_6).f2)) ∧ w'.cell? (ad604.add ((x7_2).toNat * 6)) = some (.int .i64 ((rd_T27 t584 x7_2).f0)) ∧ w'.cell? ⟨(ad604.add ((x7_2).toNat * 6)).block, (ad604.add ((x7_2).toNat * 6)).off + 1, none⟩ = some (.int .i64 ((rd_T27 t584 x7_2).f1)) ∧ w'.cell? ⟨(ad604.add ((x7_2).toNat * 6)).block, (ad604.add ((x7_2).toNat * 6)).off + 2, none⟩ = some (.int .i64 ((rd_T27 t584 x7_2).f2)) ∧ w'.cell? ⟨(ad604.add ((x7_2).toNat * 6)).block, (ad604.add ((x7_2).toNat * 6)).off + 3, none⟩ = some (.int .i64 ((rd_T27 t584 x7_2).f3)) ∧ w'.cell? ⟨(ad604.add ((x7_2).toNat * 6)).block, (ad604.add ((x7_2).toNat * 6)).off + 4, none⟩ = some (.int .i64 ((rd_T27 t584 x7_2).f4)) ∧ w'.cell? ⟨(ad604.add ((x7_2).toNat * 6)).block, (ad604.add ((x7_2).toNat * 6)).off + 5, none⟩ = some (.int .i64 ((rd_T27 t584 x7_2).f5))) (ds := []) #[false, false, false, false, false, false, false, false, false, false, false, false, false, false, false, false, false, false, false, false, false, false, false, false, false, false, false, false, false, false, false, false, false, false, false, false, false, false, false, false, false, false, false, false, false, false] (by kernel_rfl) rfl rfl ⟨hx605_0, hx605_1, hx605_2, hx606_0, hx606_1, hx606_2, hx606_3, hx606_4, hx606_5⟩ (fun hHeld => ?_); refine with_tabW laws_FnWatch.tab21 laws_FnWatch.bits21 (fun HT_ HW_ => ?_)
              generalize wr.drew = w63 at HO_3 HO_4 HO_5 HB hx605_0 hx605_1 hx605_2 hx606_0 hx606_1 hx606_2 hx606_3 hx606_4 hx606_5 hHeld ⊢
              refine pI (v := ?_) (a' := ?_) HT_ 0 98 rfl rfl (by kernel_rfl) (fun _ _ _ h => h) (by rfl) ?_ ?_ ?_
              rotate_left
              ·intro w'
               go_simp
               with_reducible rfl
              rotate_left
              ·simp only [pS_q]
               rfl
              refine pI (v := ?_) (a' := ?_) HT_ 1 99 rfl rfl (by kernel_rfl) (fun _ _ _ h => h) (by rfl) ?_ ?_ ?_
              rotate_left
              ·intro w'
               go_simp
               with_reducible rfl
              rotate_left
              ·simp only [pS_q]
               rfl
              refine pI (v := ?_) (a' := ?_) HT_ 2 100 rfl rfl (by kernel_rfl) (fun _ _ _ h => h) (by rfl) ?_ ?_ ?_
              rotate_left
              ·intro w'
               go_simp
               with_reducible rfl
              rotate_left
              ·simp only [pS_q]
               rfl
              refine pI (v := ?_) (a' := ?_) HT_ 3 101 rfl rfl (by kernel_rfl) (fun _ _ _ h => h) (by rfl) ?_ ?_ ?_
              rotate_left
              ·intro w'
               go_simp
               with_reducible rfl
              rotate_left
              ·simp only [pS_q]
               rfl
              refine pI (v := ?_) (a' := ?_) HT_ 4 102 rfl rfl (by kernel_rfl) (fun _ _ _ h => h) (by rfl) ?_ ?_ ?_
              rotate_left
              ·intro w'
               go_simp
               with_reducible rfl
              rotate_left
              ·simp only [pS_q]
               rfl
              refine pI (v := ?_) (a' := ?_) HT_ 5 103 rfl rfl (by kernel_rfl) (fun _ _ _ h => h) (by rfl) ?_ ?_ ?_
              rotate_left
              ·intro w'
               go_simp
               with_reducible rfl
              rotate_left
              ·simp only [pS_q]
               rfl
              refine pI (v := ?_) (a' := ?_) HT_ 7 105 rfl rfl (by kernel_rfl) (fun _ _ _ h => h) (by rfl) ?_ ?_ ?_
              rotate_left
              ·intro w'
               go_simp
               with_reducible rfl
              rotate_left
              ·simp only [pS_q]
               rfl
              refine pI (v := ?_) (a' := ?_) HT_ 8 106 rfl rfl (by kernel_rfl) (fun _ _ _ h => h) (by rfl) ?_ ?_ ?_
              rotate_left
              ·intro w'
               go_simp
               with_reducible rfl
              rotate_left
              ·simp only [pS_q]
               rfl
              refine pI (v := ?_) (a' := ?_) HT_ 9 107 rfl rfl (by kernel_rfl) (fun _ _ _ h => h) (by rfl) ?_ ?_ ?_
              rotate_left
              ·intro w'
               go_simp
               with_reducible rfl
              rotate_left
              ·simp only [pS_q]
               rfl
              refine pI (v := ?_) (a' := ?_) HT_ 10 108 rfl rfl (by kernel_rfl) (fun _ _ _ h => h) (by rfl) ?_ ?_ ?_
              rotate_left
              ·intro w'
               go_simp
               with_reducible rfl
              rotate_left
              ·simp only [pS_q]
               rfl
              refine take_ (i := 6) (N := some 104) (v := ?_) (a' := ?_) #[true, true, true, true, true, true, true, true, true, true, true, false, false, false, false, false, false, false, false, false, false, false, false, false, false, false, false, false, false, false, false, false, false, false, false, false, false, false, false, false, false, false, false, false, false, false] rfl rfl (take_ofW HT_.out HW_.out (by kernel_rfl)) (fun _ _ _ h => h) (Or.inl ⟨by rfl, ?_⟩) hHeld ?_ ?_
              rotate_left
              ·rintro w' ⟨s0, s1, s2, s3, s4, s5, s6, s7, s8⟩
               go_simp
               with_reducible rfl
              rotate_left
              ·simp only [pS_q]
               rfl
              refine take_ (i := 11) (N := some 109) (v := ?_) (a' := ?_) #[true, true, true, true, true, true, true, true, true, true, true, true, false, false, false, false, false, false, false, false, false, false, false, false, false, false, false, false, false, false, false, false, false, false, false, false, false, false, false, false, false, false, false, false, false, false] rfl rfl (take_ofW HT_.out HW_.out (by kernel_rfl)) (fun _ _ _ h => h) (Or.inl ⟨by rfl, ?_⟩) hHeld ?_ ?_
              rotate_left
              ·rintro w' ⟨s0, s1, s2, s3, s4, s5, s6, s7, s8⟩
               go_simp
               with_reducible rfl
              rotate_left
              ·simp only [pS_q]
               rfl
              refine pI (v := ?_) (a' := ?_) HT_ 12 110 rfl rfl (by kernel_rfl) (fun _ _ _ h => h) (by rfl) ?_ ?_ ?_
              rotate_left
              ·intro w'
               go_simp
               with_reducible rfl
              rotate_left
              ·simp only [pS_q]
               rfl
              refine pI (v := ?_) (a' := ?_) HT_ 13 111 rfl rfl (by kernel_rfl) (fun _ _ _ h => h) (by rfl) ?_ ?_ ?_
              rotate_left
              ·intro w'
               go_simp
               with_reducible rfl
              rotate_left
              ·simp only [pS_q]
               rfl
              refine pU (a' := ?_) HT_ 14 112 rfl rfl (by kernel_rfl) (fun _ _ _ h => h) (by rfl) ?_ ?_
              rotate_left
              ·simp only [pS_q]
               rfl
              refine pU (a' := ?_) HT_ 15 113 rfl rfl (by kernel_rfl) (fun _ _ _ h => h) (by rfl) ?_ ?_
              rotate_left
              ·simp only [pS_q]
               rfl
              refine pU (a' := ?_) HT_ 16 114 rfl rfl (by kernel_rfl) (fun _ _ _ h => h) (by rfl) ?_ ?_
              rotate_left
              ·simp only [pS_q]
               rfl
              refine pU (a' := ?_) HT_ 17 115 rfl rfl (by kernel_rfl) (fun _ _ _ h => h) (by rfl) ?_ ?_
              rotate_left
              ·simp only [pS_q]
               rfl
              refine pU (a' := ?_) HT_ 18 116 rfl rfl (by kernel_rfl) (fun _ _ _ h => h) (by rfl) ?_ ?_
              rotate_left
              ·simp only [pS_q]
               rfl
              refine pU (a' := ?_) HT_ 19 117 rfl rfl (by kernel_rfl) (fun _ _ _ h => h) (by rfl) ?_ ?_
              rotate_left
              ·simp only [pS_q]
               rfl
              refine pU (a' := ?_) HT_ 20 118 rfl rfl (by kernel_rfl) (fun _ _ _ h => h) (by rfl) ?_ ?_
              rotate_left
              ·simp only [pS_q]
               rfl
              refine pU (a' := ?_) HT_ 21 119 rfl rfl (by kernel_rfl) (fun _ _ _ h => h) (by rfl) ?_ ?_
              rotate_left
              ·simp only [pS_q]
               rfl
              refine pU (a' := ?_) HT_ 22 120 rfl rfl (by kernel_rfl) (fun _ _ _ h => h) (by rfl) ?_ ?_
              rotate_left
              ·simp only [pS_q]
               rfl
              refine pU (a' := ?_) HT_ 23 121 rfl rfl (by kernel_rfl) (fun _ _ _ h => h) (by rfl) ?_ ?_
              rotate_left
              ·simp only [pS_q]
               rfl
              refine pU (a' := ?_) HT_ 24 122 rfl rfl (by kernel_rfl) (fun _ _ _ h => h) (by rfl) ?_ ?_
              rotate_left
              ·simp only [pS_q]
               rfl
              refine pU (a' := ?_) HT_ 25 123 rfl rfl (by kernel_rfl) (fun _ _ _ h => h) (by rfl) ?_ ?_
              rotate_left
              ·simp only [pS_q]
               rfl
              refine pU (a' := ?_) HT_ 26 124 rfl rfl (by kernel_rfl) (fun _ _ _ h => h) (by rfl) ?_ ?_
              rotate_left
              ·simp only [pS_q]
               rfl
              refine pU (a' := ?_) HT_ 27 125 rfl rfl (by kernel_rfl) (fun _ _ _ h => h) (by rfl) ?_ ?_
              rotate_left
              ·simp only [pS_q]
               rfl
              refine pU (a' := ?_) HT_ 28 126 rfl rfl (by kernel_rfl) (fun _ _ _ h => h) (by rfl) ?_ ?_
              rotate_left
              ·simp only [pS_q]
               rfl
              refine pI (v := ?_) (a' := ?_) HT_ 29 127 rfl rfl (by kernel_rfl) (fun _ _ _ h => h) (by rfl) ?_ ?_ ?_
              rotate_left
              ·intro w'
               go_simp
               with_reducible rfl
              rotate_left
              ·simp only [pS_q]
               rfl
              refine pI (v := ?_) (a' := ?_) HT_ 30 128 rfl rfl (by kernel_rfl) (fun _ _ _ h => h) (by rfl) ?_ ?_ ?_
              rotate_left
              ·intro w'
               go_simp
               with_reducible rfl
              rotate_left
              ·simp only [pS_q]
               rfl
              refine pU (a' := ?_) HT_ 31 129 rfl rfl (by kernel_rfl) (fun _ _ _ h => h) (by rfl) ?_ ?_
              rotate_left
              ·simp only [pS_q]
               rfl
              refine pU (a' := ?_) HT_ 32 130 rfl rfl (by kernel_rfl) (fun _ _ _ h => h) (by rfl) ?_ ?_
              rotate_left
              ·simp only [pS_q]
               rfl
              refine pU (a' := ?_) HT_ 33 131 rfl rfl (by kernel_rfl) (fun _ _ _ h => h) (by rfl) ?_ ?_
              rotate_left
              ·simp only [pS_q]
               rfl
              refine pU (a' := ?_) HT_ 34 132 rfl rfl (by kernel_rfl) (fun _ _ _ h => h) (by rfl) ?_ ?_
              rotate_left
              ·simp only [pS_q]
               rfl
              refine pU (a' := ?_) HT_ 35 133 rfl rfl (by kernel_rfl) (fun _ _ _ h => h) (by rfl) ?_ ?_
              rotate_left
              ·simp only [pS_q]
               rfl
              refine pU (a' := ?_) HT_ 36 134 rfl rfl (by kernel_rfl) (fun _ _ _ h => h) (by rfl) ?_ ?_
              rotate_left
              ·simp only [pS_q]
               rfl
              refine pU (a' := ?_) HT_ 37 135 rfl rfl (by kernel_rfl) (fun _ _ _ h => h) (by rfl) ?_ ?_
              rotate_left
              ·simp only [pS_q]
               rfl
              refine pU (a' := ?_) HT_ 38 136 rfl rfl (by kernel_rfl) (fun _ _ _ h => h) (by rfl) ?_ ?_
              rotate_left
              ·simp only [pS_q]
               rfl
              refine pU (a' := ?_) HT_ 39 137 rfl rfl (by kernel_rfl) (fun _ _ _ h => h) (by rfl) ?_ ?_
              rotate_left
              ·simp only [pS_q]
               rfl
              refine pU (a' := ?_) HT_ 40 138 rfl rfl (by kernel_rfl) (fun _ _ _ h => h) (by rfl) ?_ ?_
              rotate_left
              ·simp only [pS_q]
               rfl
              refine pU (a' := ?_) HT_ 41 139 rfl rfl (by kernel_rfl) (fun _ _ _ h => h) (by rfl) ?_ ?_
              rotate_left
              ·simp only [pS_q]
               rfl
              refine pU (a' := ?_) HT_ 42 140 rfl rfl (by kernel_rfl) (fun _ _ _ h => h) (by rfl) ?_ ?_
              rotate_left
              ·simp only [pS_q]
               rfl
              refine pI (v := ?_) (a' := ?_) HT_ 43 141 rfl rfl (by kernel_rfl) (fun _ _ _ h => h) (by rfl) ?_ ?_ ?_
              rotate_left
              ·intro w'
               go_simp
               with_reducible rfl
              rotate_left
              ·simp only [pS_q]
               rfl
              refine pI (v := ?_) (a' := ?_) HT_ 44 142 rfl rfl (by kernel_rfl) (fun _ _ _ h => h) (by rfl) ?_ ?_ ?_
              rotate_left
              ·intro w'
               go_simp
               with_reducible rfl
              rotate_left
              ·simp only [pS_q]
               rfl
              refine pI (v := ?_) (a' := ?_) HT_ 45 8 rfl rfl (by kernel_rfl) (fun _ _ _ h => h) (by rfl) ?_ ?_ ?_
              rotate_left
              ·intro w'
               go_simp
               with_reducible rfl
              rotate_left
              ·simp only [pS_q]
               rfl
              refine done_ (done_of HT_.out (by kernel_rfl)) ?_
              try go_wp2
              go_roundg k6
              case measure => have := HJ5.out; have := HK2.out; have := HJ30.out; have := HK4.out; have := HJ37.out; have := HK6.out; omega
              case rel => exact ⟨(false), (wrap64 (x10_6 + 1)), (by first | rfl | (simp; done) | (simp [*]; done)), (by first | rfl | (simp; done) | (simp [*]; done)), H', ⟨by have := HJ5.out; have := HK2.out; have := HJ30.out; have := HK4.out; have := HJ37.out; have := HK6.out; omega⟩, ⟨rup HO_3.out⟩, ⟨rup HO_4.out⟩, ⟨rup HO_5.out⟩, ⟨bel HB.out⟩⟩
             rw [if_pos c56] at H
             have c56b0 : (((rd_T50 t583 x10_6).f0) == ((rd_T27 t584 x7_2).f3)) = true := beq_iff_eq.mpr c56
             have c56b1 : (((rd_T50 t583 x10_6).f0) != ((rd_T27 t584 x7_2).f3)) = false := nE_q.mpr c56
             clear c56
             replace H := oB_q.mp H
             obtain ⟨t610, A570, H⟩ := H
             replace H : (if t610 = true then (laws_FnWatch.l2 k6 t583 t584 t589 x7_2 (decide (((rd_T27 t584 x7_2).f1) ≤ (wrap64 (((rd_T27 t584 x9_4).f1) + 120)))) x9_4 (wrap64 (x10_6 + 1))) else (laws_FnWatch.l2 k6 t583 t584 t589 x7_2 false x9_4 (wrap64 (x10_6 + 1)))) = some r := H
             have A57 := Ae_q A570
             clear A570
             by_cases c58 : t610 = true
             rotate_left
             ·replace c58 := fM_q.mpr c58
              subst c58
              have H1 : (laws_FnWatch.l2 k6 t583 t584 t589 x7_2 false x9_4 (wrap64 (x10_6 + 1))) = some r := by rw [if_neg (show ¬ (false = true) by decide)] at H; exact H
              clear H
              have H := H1
              clear H1
              have H' := Ae_q H
              clear H
              have p604 : 0 ≤ (x9_4 : Int) := oD_q (by assumption)
              have q604 : x9_4 < (t584.length : Int) := oD_q (by assumption)
              obtain ⟨ad604, e604, hx604_0, hx604_1, hx604_2, hx604_3, hx604_4, hx604_5⟩ := at_T27 (rR_q HO_4.out).2.2 x9_4 p604 q604
              cases e604
              replace p604 := eq_true p604
              replace q604 := eq_true q604
              try go_wp2
              have n0_ := Ae_q (rD_q HO_3.out)
              have n1_ := Ae_q (rD_q HO_4.out)
              have n2_ := Ae_q (rD_q HO_5.out)
              have n3_ := Ae_q (bD_q HB.out)
              clear HO_3
              clear HO_4
              clear HO_5
              clear HB
              have HO_3 := n0_
              have HO_4 := n1_
              have HO_5 := n2_
              have HB := n3_
              clear n0_ n1_ n2_ n3_
              have p605 : 0 ≤ (x10_6 : Int) := oD_q (by assumption)
              have q605 : x10_6 < (t583.length : Int) := oD_q (by assumption)
              obtain ⟨ad605, e605, hx605_0, hx605_1, hx605_2⟩ := at_T50 (rR_q HO_3.out).2.2 x10_6 p605 q605
              cases e605
              replace p605 := eq_true p605
              replace q605 := eq_true q605
              have p606 : 0 ≤ (x7_2 : Int) := oD_q (by assumption)
              have q606 : x7_2 < (t584.length : Int) := oD_q (by assumption)
              obtain ⟨ad606, e606, hx606_0, hx606_1, hx606_2, hx606_3, hx606_4, hx606_5⟩ := at_T27 (rR_q HO_4.out).2.2 x7_2 p606 q606
              obtain rfl : ad604 = ad606 := (by injection e606)
              replace p606 := eq_true p606
              replace q606 := eq_true q606
              have p607 : 0 ≤ (x10_6 : Int) := oD_q (by assumption)
              have q607 : x10_6 < (t583.length : Int) := oD_q (by assumption)
              obtain ⟨ad607, e607, hx607_0, hx607_1, hx607_2⟩ := at_T50 (rR_q HO_3.out).2.2 x10_6 p607 q607
              obtain rfl : ad605 = ad607 := (by injection e607)
              replace p607 := eq_true p607
              replace q607 := eq_true q607
              have p608 : 0 ≤ (x9_4 : Int) := oD_q (by assumption)
              have q608 : x9_4 < (t584.length : Int) := oD_q (by assumption)
              obtain ⟨ad608, e608, hx608_0, hx608_1, hx608_2, hx608_3, hx608_4, hx608_5⟩ := at_T27 (rR_q HO_4.out).2.2 x9_4 p608 q608
              obtain rfl : ad604 = ad608 := (by injection e608)
              replace p608 := eq_true p608
              replace q608 := eq_true q608
              have p609 : 0 ≤ (x9_4 : Int) := oD_q (by assumption)
              have q609 : x9_4 < (t584.length : Int) := oD_q (by assumption)
              obtain ⟨ad609, e609, hx609_0, hx609_1, hx609_2, hx609_3, hx609_4, hx609_5⟩ := at_T27 (rR_q HO_4.out).2.2 x9_4 p609 q609
              obtain rfl : ad604 = ad609 := (by injection e609)
              replace p609 := eq_true p609
              replace q609 := eq_true q609
              refine start_ (n := 46) (S := fun w' => w'.cell? (ad605.add ((x10_6).toNat * 3)) = some (.int .i64 ((rd_T50 t583 x10_6).f0)) ∧ w'.cell? ⟨(ad605.add ((x10_6).toNat * 3)).block, (ad605.add ((x10_6).toNat * 3)).off + 1, none⟩ = some (.int .i64 ((rd_T50 t583 x10_6).f1)) ∧ w'.cell? ⟨(ad605.add ((x10_6).toNat * 3)).block, (ad605.add ((x10_6).toNat * 3)).off + 2, none⟩ = some (.int .i64 ((rd_T50 t583 x10_6).f2)) ∧ w'.cell? (ad604.add ((x7_2).toNat * 6)) = some (.int .i64 ((rd_T27 t584 x7_2).f0)) ∧ w'.cell? ⟨(ad604.add ((x7_2).toNat * 6)).block, (ad604.add ((x7_2).toNat * 6)).off + 1, none⟩ = some (.int .i64 ((rd_T27 t584 x7_2).f1)) ∧ w'.cell? ⟨(ad604.add ((x7_2).toNat * 6)).block, (ad604.add ((x7_2).toNat * 6)).off + 2, none⟩ = some (.int .i64 ((rd_T27 t584 x7_2).f2)) ∧ w'.cell? ⟨(ad604.add ((x7_2).toNat * 6)).block, (ad604.add ((x7_2).toNat * 6)).off + 3, none⟩ = some (.int .i64 ((rd_T27 t584 x7_2).f3)) ∧ w'.cell? ⟨(ad604.add ((x7_2).toNat * 6)).block, (ad604.add ((x7_2).toNat * 6)).off + 4, none⟩ = some (.int .i64 ((rd_T27 t584 x7_2).f4)) ∧ w'.cell? ⟨(ad604.add ((x7_2).toNat * 6)).block, (ad604.add ((x7_2).toNat * 6)).off + 5, none⟩ = some (.int .i64 ((rd_T27 t584 x7_2).f5)) ∧ w'.cell? (ad605.add ((x10_6).toNat * 3)) = some (.int .i64 ((rd_T50 t583 x10_6).f0)) ∧ w'.cell? ⟨(ad605.add ((x10_6).toNat * 3)).block, (ad605.add ((x10_6).toNat * 3)).off + 1, none⟩ = some (.int .i64 ((rd_T50 t583 x10_6).f1)) ∧ w'.cell? ⟨(ad605.add ((x10_6).toNat * 3)).block, (ad605.add ((x10_6).toNat * 3)).off + 2, none⟩ = some (.int .i64 ((rd_T50 t583 x10_6).f2)) ∧ w'.cell? (ad604.add ((x9_4).toNat * 6)) = some (.int .i64 ((rd_T27 t584 x9_4).f0)) ∧ w'.cell? ⟨(ad604.add ((x9_4).toNat * 6)).block, (ad604.add ((x9_4).toNat * 6)).off + 1, none⟩ = some (.int .i64 ((rd_T27 t584 x9_4).f1)) ∧ w'.cell? ⟨(ad604.add ((x9_4).toNat * 6)).block, (ad604.add ((x9_4).toNat * 6)).off + 2, none⟩ = some (.int .i64 ((rd_T27 t584 x9_4).f2)) ∧ w'.cell? ⟨(ad604.add ((x9_4).toNat * 6)).block, (ad604.add ((x9_4).toNat * 6)).off + 3, none⟩ = some (.int .i64 ((rd_T27 t584 x9_4).f3)) ∧ w'.cell? ⟨(ad604.add ((x9_4).toNat * 6)).block, (ad604.add ((x9_4).toNat * 6)).off + 4, none⟩ = some (.int .i64 ((rd_T27 t584 x9_4).f4)) ∧ w'.cell? ⟨(ad604.add ((x9_4).toNat * 6)).block, (ad604.add ((x9_4).toNat * 6)).off + 5, none⟩ = some (.int .i64 ((rd_T27 t584 x9_4).f5)) ∧ w'.cell? (ad604.add ((x9_4).toNat * 6)) = some (.int .i64 ((rd_T27 t584 x9_4).f0)) ∧ w'.cell? ⟨(ad604.add ((x9_4).toNat * 6)).block, (ad604.add ((x9_4).toNat * 6)).off + 1, none⟩ = some (.int .i64 ((rd_T27 t584 x9_4).f1)) ∧ w'.cell? ⟨(ad604.add ((x9_4).toNat * 6)).block, (ad604.add ((x9_4).toNat * 6)).off + 2, none⟩ = some (.int .i64 ((rd_T27 t584 x9_4).f2)) ∧ w'.cell? ⟨(ad604.add ((x9_4).toNat * 6)).block, (ad604.add ((x9_4).toNat * 6)).off + 3, none⟩ = some (.int .i64 ((rd_T27 t584 x9_4).f3)) ∧ w'.cell? ⟨(ad604.add ((x9_4).toNat * 6)).block, (ad604.add ((x9_4).toNat * 6)).off + 4, none⟩ = some (.int .i64 ((rd_T27 t584 x9_4).f4)) ∧ w'.cell? ⟨(ad604.add ((x9_4).toNat * 6)).block, (ad604.add ((x9_4).toNat * 6)).off + 5, none⟩ = some (.int .i64 ((rd_T27 t584 x9_4).f5))) (ds := []) #[false, false, false, false, false, false, false, false, false, false, false, false, false, false, false, false, false, false, false, false, false, false, false, false, false, false, false, false, false, false, false, false, false, false, false, false, false, false, false, false, false, false, false, false, false, false] (by kernel_rfl) rfl rfl ⟨hx605_0, hx605_1, hx605_2, hx606_0, hx606_1, hx606_2, hx606_3, hx606_4, hx606_5, hx607_0, hx607_1, hx607_2, hx608_0, hx608_1, hx608_2, hx608_3, hx608_4, hx608_5, hx609_0, hx609_1, hx609_2, hx609_3, hx609_4, hx609_5⟩ (fun hHeld => ?_); refine with_tabW laws_FnWatch.tab21 laws_FnWatch.bits21 (fun HT_ HW_ => ?_)
              generalize wr.drew = w61 at HO_3 HO_4 HO_5 HB hx605_0 hx605_1 hx605_2 hx606_0 hx606_1 hx606_2 hx606_3 hx606_4 hx606_5 hx607_0 hx607_1 hx607_2 hx608_0 hx608_1 hx608_2 hx608_3 hx608_4 hx608_5 hx609_0 hx609_1 hx609_2 hx609_3 hx609_4 hx609_5 hHeld ⊢
              refine pI (v := ?_) (a' := ?_) HT_ 0 98 rfl rfl (by kernel_rfl) (fun _ _ _ h => h) (by rfl) ?_ ?_ ?_
              rotate_left
              ·intro w'
               go_simp
               with_reducible rfl
              rotate_left
              ·simp only [pS_q]
               rfl
              refine pI (v := ?_) (a' := ?_) HT_ 1 99 rfl rfl (by kernel_rfl) (fun _ _ _ h => h) (by rfl) ?_ ?_ ?_
              rotate_left
              ·intro w'
               go_simp
               with_reducible rfl
              rotate_left
              ·simp only [pS_q]
               rfl
              refine pI (v := ?_) (a' := ?_) HT_ 2 100 rfl rfl (by kernel_rfl) (fun _ _ _ h => h) (by rfl) ?_ ?_ ?_
              rotate_left
              ·intro w'
               go_simp
               with_reducible rfl
              rotate_left
              ·simp only [pS_q]
               rfl
              refine pI (v := ?_) (a' := ?_) HT_ 3 101 rfl rfl (by kernel_rfl) (fun _ _ _ h => h) (by rfl) ?_ ?_ ?_
              rotate_left
              ·intro w'
               go_simp
               with_reducible rfl
              rotate_left
              ·simp only [pS_q]
               rfl
              refine pI (v := ?_) (a' := ?_) HT_ 4 102 rfl rfl (by kernel_rfl) (fun _ _ _ h => h) (by rfl) ?_ ?_ ?_
              rotate_left
              ·intro w'
               go_simp
               with_reducible rfl
              rotate_left
              ·simp only [pS_q]
               rfl
              refine pI (v := ?_) (a' := ?_) HT_ 5 103 rfl rfl (by kernel_rfl) (fun _ _ _ h => h) (by rfl) ?_ ?_ ?_
              rotate_left
              ·intro w'
               go_simp
               with_reducible rfl
              rotate_left
              ·simp only [pS_q]
               rfl
              refine pI (v := ?_) (a' := ?_) HT_ 7 105 rfl rfl (by kernel_rfl) (fun _ _ _ h => h) (by rfl) ?_ ?_ ?_
              rotate_left
              ·intro w'
               go_simp
               with_reducible rfl
              rotate_left
              ·simp only [pS_q]
               rfl
              refine pI (v := ?_) (a' := ?_) HT_ 8 106 rfl rfl (by kernel_rfl) (fun _ _ _ h => h) (by rfl) ?_ ?_ ?_
              rotate_left
              ·intro w'
               go_simp
               with_reducible rfl
              rotate_left
              ·simp only [pS_q]
               rfl
              refine pI (v := ?_) (a' := ?_) HT_ 9 107 rfl rfl (by kernel_rfl) (fun _ _ _ h => h) (by rfl) ?_ ?_ ?_
              rotate_left
              ·intro w'
               go_simp
               with_reducible rfl
              rotate_left
              ·simp only [pS_q]
               rfl
              refine pI (v := ?_) (a' := ?_) HT_ 10 108 rfl rfl (by kernel_rfl) (fun _ _ _ h => h) (by rfl) ?_ ?_ ?_
              rotate_left
              ·intro w'
               go_simp
               with_reducible rfl
              rotate_left
              ·simp only [pS_q]
               rfl
              refine take_ (i := 6) (N := some 104) (v := ?_) (a' := ?_) #[true, true, true, true, true, true, true, true, true, true, true, false, false, false, false, false, false, false, false, false, false, false, false, false, false, false, false, false, false, false, false, false, false, false, false, false, false, false, false, false, false, false, false, false, false, false] rfl rfl (take_ofW HT_.out HW_.out (by kernel_rfl)) (fun _ _ _ h => h) (Or.inl ⟨by rfl, ?_⟩) hHeld ?_ ?_
              rotate_left
              ·rintro w' ⟨s0, s1, s2, s3, s4, s5, s6, s7, s8, s9, s10, s11, s12, s13, s14, s15, s16, s17, s18, s19, s20, s21, s22, s23⟩
               go_simp
               with_reducible rfl
              rotate_left
              ·simp only [pS_q]
               rfl
              refine take_ (i := 11) (N := some 109) (v := ?_) (a' := ?_) #[true, true, true, true, true, true, true, true, true, true, true, true, false, false, false, false, false, false, false, false, false, false, false, false, false, false, false, false, false, false, false, false, false, false, false, false, false, false, false, false, false, false, false, false, false, false] rfl rfl (take_ofW HT_.out HW_.out (by kernel_rfl)) (fun _ _ _ h => h) (Or.inl ⟨by rfl, ?_⟩) hHeld ?_ ?_
              rotate_left
              ·rintro w' ⟨s0, s1, s2, s3, s4, s5, s6, s7, s8, s9, s10, s11, s12, s13, s14, s15, s16, s17, s18, s19, s20, s21, s22, s23⟩
               go_simp
               with_reducible rfl
              rotate_left
              ·simp only [pS_q]
               rfl
              refine pI (v := ?_) (a' := ?_) HT_ 12 110 rfl rfl (by kernel_rfl) (fun _ _ _ h => h) (by rfl) ?_ ?_ ?_
              rotate_left
              ·intro w'
               go_simp
               with_reducible rfl
              rotate_left
              ·simp only [pS_q]
               rfl
              refine pI (v := ?_) (a' := ?_) HT_ 13 111 rfl rfl (by kernel_rfl) (fun _ _ _ h => h) (by rfl) ?_ ?_ ?_
              rotate_left
              ·intro w'
               go_simp
               with_reducible rfl
              rotate_left
              ·simp only [pS_q]
               rfl
              refine pI (v := ?_) (a' := ?_) HT_ 14 112 rfl rfl (by kernel_rfl) (fun _ _ _ h => h) (by rfl) ?_ ?_ ?_
              rotate_left
              ·intro w'
               go_simp
               with_reducible rfl
              rotate_left
              ·simp only [pS_q]
               rfl
              refine pI (v := ?_) (a' := ?_) HT_ 15 113 rfl rfl (by kernel_rfl) (fun _ _ _ h => h) (by rfl) ?_ ?_ ?_
              rotate_left
              ·intro w'
               go_simp
               with_reducible rfl
              rotate_left
              ·simp only [pS_q]
               rfl
              refine pI (v := ?_) (a' := ?_) HT_ 16 114 rfl rfl (by kernel_rfl) (fun _ _ _ h => h) (by rfl) ?_ ?_ ?_
              rotate_left
              ·intro w'
               go_simp
               with_reducible rfl
              rotate_left
              ·simp only [pS_q]
               rfl
              refine pI (v := ?_) (a' := ?_) HT_ 18 116 rfl rfl (by kernel_rfl) (fun _ _ _ h => h) (by rfl) ?_ ?_ ?_
              rotate_left
              ·intro w'
               go_simp
               with_reducible rfl
              rotate_left
              ·simp only [pS_q]
               rfl
              refine pI (v := ?_) (a' := ?_) HT_ 19 117 rfl rfl (by kernel_rfl) (fun _ _ _ h => h) (by rfl) ?_ ?_ ?_
              rotate_left
              ·intro w'
               go_simp
               with_reducible rfl
              rotate_left
              ·simp only [pS_q]
               rfl
              refine pI (v := ?_) (a' := ?_) HT_ 20 118 rfl rfl (by kernel_rfl) (fun _ _ _ h => h) (by rfl) ?_ ?_ ?_
              rotate_left
              ·intro w'
               go_simp
               with_reducible rfl
              rotate_left
              ·simp only [pS_q]
               rfl
              refine pI (v := ?_) (a' := ?_) HT_ 21 119 rfl rfl (by kernel_rfl) (fun _ _ _ h => h) (by rfl) ?_ ?_ ?_
              rotate_left
              ·intro w'
               go_simp
               with_reducible rfl
              rotate_left
              ·simp only [pS_q]
               rfl
              refine pI (v := ?_) (a' := ?_) HT_ 23 121 rfl rfl (by kernel_rfl) (fun _ _ _ h => h) (by rfl) ?_ ?_ ?_
              rotate_left
              ·intro w'
               go_simp
               with_reducible rfl
              rotate_left
              ·simp only [pS_q]
               rfl
              refine pI (v := ?_) (a' := ?_) HT_ 24 122 rfl rfl (by kernel_rfl) (fun _ _ _ h => h) (by rfl) ?_ ?_ ?_
              rotate_left
              ·intro w'
               go_simp
               with_reducible rfl
              rotate_left
              ·simp only [pS_q]
               rfl
              refine pI (v := ?_) (a' := ?_) HT_ 25 123 rfl rfl (by kernel_rfl) (fun _ _ _ h => h) (by rfl) ?_ ?_ ?_
              rotate_left
              ·intro w'
               go_simp
               with_reducible rfl
              rotate_left
              ·simp only [pS_q]
               rfl
              refine pI (v := ?_) (a' := ?_) HT_ 26 124 rfl rfl (by kernel_rfl) (fun _ _ _ h => h) (by rfl) ?_ ?_ ?_
              rotate_left
              ·intro w'
               go_simp
               with_reducible rfl
              rotate_left
              ·simp only [pS_q]
               rfl
              refine take_ (i := 17) (N := some 115) (v := ?_) (a' := ?_) #[true, true, true, true, true, true, true, true, true, true, true, true, true, true, true, true, true, true, true, true, true, true, false, true, true, true, true, false, false, false, false, false, false, false, false, false, false, false, false, false, false, false, false, false, false, false] rfl rfl (take_ofW HT_.out HW_.out (by kernel_rfl)) (fun _ _ _ h => h) (Or.inl ⟨by rfl, ?_⟩) hHeld ?_ ?_
              rotate_left
              ·rintro w' ⟨s0, s1, s2, s3, s4, s5, s6, s7, s8, s9, s10, s11, s12, s13, s14, s15, s16, s17, s18, s19, s20, s21, s22, s23⟩
               go_simp
               with_reducible rfl
              rotate_left
              ·simp only [pS_q]
               rfl
              refine take_ (i := 22) (N := some 120) (v := ?_) (a' := ?_) #[true, true, true, true, true, true, true, true, true, true, true, true, true, true, true, true, true, true, true, true, true, true, true, true, true, true, true, false, false, false, false, false, false, false, false, false, false, false, false, false, false, false, false, false, false, false] rfl rfl (take_ofW HT_.out HW_.out (by kernel_rfl)) (fun _ _ _ h => h) (Or.inl ⟨by rfl, ?_⟩) hHeld ?_ ?_
              rotate_left
              ·rintro w' ⟨s0, s1, s2, s3, s4, s5, s6, s7, s8, s9, s10, s11, s12, s13, s14, s15, s16, s17, s18, s19, s20, s21, s22, s23⟩
               go_simp
               with_reducible rfl
              rotate_left
              ·simp only [pS_q]
               rfl
              refine take_ (i := 27) (N := some 125) (v := ?_) (a' := ?_) #[true, true, true, true, true, true, true, true, true, true, true, true, true, true, true, true, true, true, true, true, true, true, true, true, true, true, true, true, false, false, false, false, false, false, false, false, false, false, false, false, false, false, false, false, false, false] rfl rfl (take_ofW HT_.out HW_.out (by kernel_rfl)) (fun _ _ _ h => h) (Or.inl ⟨by rfl, ?_⟩) hHeld ?_ ?_
              rotate_left
              ·rintro w' ⟨s0, s1, s2, s3, s4, s5, s6, s7, s8, s9, s10, s11, s12, s13, s14, s15, s16, s17, s18, s19, s20, s21, s22, s23⟩
               go_simp
               with_reducible rfl
              rotate_left
              ·simp only [pS_q]
               rfl
              refine one_ (i := 28) (N := some 126) #[true, true, true, true, true, true, true, true, true, true, true, true, true, true, true, true, true, true, true, true, true, true, true, true, true, true, true, true, true, false, false, false, false, false, false, false, false, false, false, false, false, false, false, false, false, false] rfl rfl (one_of HT_.out (by kernel_rfl)) (by decide) (fun K hK => ?_)
              refine goes_ Try.func37 (by kernel_rfl) rfl #[.agg #[.int .i64 ((rd_T50 t583 x10_6).f0), .int .i64 ((rd_T50 t583 x10_6).f1), .int .i64 ((rd_T50 t583 x10_6).f2)], .int .i64 ((rd_T27 t584 x9_4).f4), .int .i64 ((rd_T27 t584 x9_4).f5)] (by rfl) rfl rfl (by (try simp only [lM_q, lC_q, lN_q]); first | done | rfl | (simp only [lD_q, lT_q]; rfl)) ?_
              with_reducible refine (impl_GuestMay.calls ((rd_T50 t583 x10_6).f0) ((rd_T50 t583 x10_6).f1) ((rd_T50 t583 x10_6).f2) ((rd_T27 t584 x9_4).f4) ((rd_T27 t584 x9_4).f5) false _ A57.out).mono ?_
              rintro e w62 ⟨rfl, hb⟩
              have HS0_ := (hb.cell (wL_q _ _ (hHeld.1))).trans (hHeld.1)
              have HS1_ := (hb.cell (wL_q _ _ (hHeld.2.1))).trans (hHeld.2.1)
              have HS2_ := (hb.cell (wL_q _ _ (hHeld.2.2.1))).trans (hHeld.2.2.1)
              have HS3_ := (hb.cell (wL_q _ _ (hHeld.2.2.2.1))).trans (hHeld.2.2.2.1)
              have HS4_ := (hb.cell (wL_q _ _ (hHeld.2.2.2.2.1))).trans (hHeld.2.2.2.2.1)
              have HS5_ := (hb.cell (wL_q _ _ (hHeld.2.2.2.2.2.1))).trans (hHeld.2.2.2.2.2.1)
              have HS6_ := (hb.cell (wL_q _ _ (hHeld.2.2.2.2.2.2.1))).trans (hHeld.2.2.2.2.2.2.1)
              have HS7_ := (hb.cell (wL_q _ _ (hHeld.2.2.2.2.2.2.2.1))).trans (hHeld.2.2.2.2.2.2.2.1)
              have HS8_ := (hb.cell (wL_q _ _ (hHeld.2.2.2.2.2.2.2.2.1))).trans (hHeld.2.2.2.2.2.2.2.2.1)
              have HS9_ := (hb.cell (wL_q _ _ (hHeld.2.2.2.2.2.2.2.2.2.1))).trans (hHeld.2.2.2.2.2.2.2.2.2.1)
              have HS10_ := (hb.cell (wL_q _ _ (hHeld.2.2.2.2.2.2.2.2.2.2.1))).trans (hHeld.2.2.2.2.2.2.2.2.2.2.1)
              have HS11_ := (hb.cell (wL_q _ _ (hHeld.2.2.2.2.2.2.2.2.2.2.2.1))).trans (hHeld.2.2.2.2.2.2.2.2.2.2.2.1)
              have HS12_ := (hb.cell (wL_q _ _ (hHeld.2.2.2.2.2.2.2.2.2.2.2.2.1))).trans (hHeld.2.2.2.2.2.2.2.2.2.2.2.2.1)
              have HS13_ := (hb.cell (wL_q _ _ (hHeld.2.2.2.2.2.2.2.2.2.2.2.2.2.1))).trans (hHeld.2.2.2.2.2.2.2.2.2.2.2.2.2.1)
              have HS14_ := (hb.cell (wL_q _ _ (hHeld.2.2.2.2.2.2.2.2.2.2.2.2.2.2.1))).trans (hHeld.2.2.2.2.2.2.2.2.2.2.2.2.2.2.1)
              have HS15_ := (hb.cell (wL_q _ _ (hHeld.2.2.2.2.2.2.2.2.2.2.2.2.2.2.2.1))).trans (hHeld.2.2.2.2.2.2.2.2.2.2.2.2.2.2.2.1)
              have HS16_ := (hb.cell (wL_q _ _ (hHeld.2.2.2.2.2.2.2.2.2.2.2.2.2.2.2.2.1))).trans (hHeld.2.2.2.2.2.2.2.2.2.2.2.2.2.2.2.2.1)
              have HS17_ := (hb.cell (wL_q _ _ (hHeld.2.2.2.2.2.2.2.2.2.2.2.2.2.2.2.2.2.1))).trans (hHeld.2.2.2.2.2.2.2.2.2.2.2.2.2.2.2.2.2.1)
              have HS18_ := (hb.cell (wL_q _ _ (hHeld.2.2.2.2.2.2.2.2.2.2.2.2.2.2.2.2.2.2.1))).trans (hHeld.2.2.2.2.2.2.2.2.2.2.2.2.2.2.2.2.2.2.1)
              have HS19_ := (hb.cell (wL_q _ _ (hHeld.2.2.2.2.2.2.2.2.2.2.2.2.2.2.2.2.2.2.2.1))).trans (hHeld.2.2.2.2.2.2.2.2.2.2.2.2.2.2.2.2.2.2.2.1)
              have HS20_ := (hb.cell (wL_q _ _ (hHeld.2.2.2.2.2.2.2.2.2.2.2.2.2.2.2.2.2.2.2.2.1))).trans (hHeld.2.2.2.2.2.2.2.2.2.2.2.2.2.2.2.2.2.2.2.2.1)
              have HS21_ := (hb.cell (wL_q _ _ (hHeld.2.2.2.2.2.2.2.2.2.2.2.2.2.2.2.2.2.2.2.2.2.1))).trans (hHeld.2.2.2.2.2.2.2.2.2.2.2.2.2.2.2.2.2.2.2.2.2.1)
              have HS22_ := (hb.cell (wL_q _ _ (hHeld.2.2.2.2.2.2.2.2.2.2.2.2.2.2.2.2.2.2.2.2.2.2.1))).trans (hHeld.2.2.2.2.2.2.2.2.2.2.2.2.2.2.2.2.2.2.2.2.2.2.1)
              have HS23_ := (hb.cell (wL_q _ _ (hHeld.2.2.2.2.2.2.2.2.2.2.2.2.2.2.2.2.2.2.2.2.2.2.2))).trans (hHeld.2.2.2.2.2.2.2.2.2.2.2.2.2.2.2.2.2.2.2.2.2.2.2)
              refine ⟨_, rfl, ?_⟩
              have n0_ := Ae_q (rO_q (rup HO_3.out) hb)
              have n1_ := Ae_q (rO_q (rup HO_4.out) hb)
              have n2_ := Ae_q (rO_q (rup HO_5.out) hb)
              have n3_ := Ae_q (bT_q (bel HB.out) hb)
              clear HO_3
              clear HO_4
              clear HO_5
              clear HB
              have HO_3 := n0_
              have HO_4 := n1_
              have HO_5 := n2_
              have HB := n3_
              clear n0_ n1_ n2_ n3_
              (try clear hb)
              (try clear hb2)
              (try clear hk)
              (try clear hi)
              refine hK.out _ _ ⟨HS0_, HS1_, HS2_, HS3_, HS4_, HS5_, HS6_, HS7_, HS8_, HS9_, HS10_, HS11_, HS12_, HS13_, HS14_, HS15_, HS16_, HS17_, HS18_, HS19_, HS20_, HS21_, HS22_, HS23_⟩ (fun hHeld => ?_)
              clear hK K
              refine norm_ (a' := ?_) ?_ ?_
              rotate_left
              ·show Act.put _ (some 126) _ = _
               simp only [pS_q]
               rfl
              refine pI (v := ?_) (a' := ?_) HT_ 29 127 rfl rfl (by kernel_rfl) (fun _ _ _ h => h) (by rfl) ?_ ?_ ?_
              rotate_left
              ·intro w'
               go_simp
               with_reducible rfl
              rotate_left
              ·simp only [pS_q]
               rfl
              refine pI (v := ?_) (a' := ?_) HT_ 30 128 rfl rfl (by kernel_rfl) (fun _ _ _ h => h) (by rfl) ?_ ?_ ?_
              rotate_left
              ·intro w'
               go_simp
               with_reducible rfl
              rotate_left
              ·simp only [pS_q]
               rfl
              refine pU (a' := ?_) HT_ 31 129 rfl rfl (by kernel_rfl) (fun _ _ _ h => h) (by rfl) ?_ ?_
              rotate_left
              ·simp only [pS_q]
               rfl
              refine pU (a' := ?_) HT_ 32 130 rfl rfl (by kernel_rfl) (fun _ _ _ h => h) (by rfl) ?_ ?_
              rotate_left
              ·simp only [pS_q]
               rfl
              refine pU (a' := ?_) HT_ 33 131 rfl rfl (by kernel_rfl) (fun _ _ _ h => h) (by rfl) ?_ ?_
              rotate_left
              ·simp only [pS_q]
               rfl
              refine pU (a' := ?_) HT_ 34 132 rfl rfl (by kernel_rfl) (fun _ _ _ h => h) (by rfl) ?_ ?_
              rotate_left
              ·simp only [pS_q]
               rfl
              refine pU (a' := ?_) HT_ 35 133 rfl rfl (by kernel_rfl) (fun _ _ _ h => h) (by rfl) ?_ ?_
              rotate_left
              ·simp only [pS_q]
               rfl
              refine pU (a' := ?_) HT_ 36 134 rfl rfl (by kernel_rfl) (fun _ _ _ h => h) (by rfl) ?_ ?_
              rotate_left
              ·simp only [pS_q]
               rfl
              refine pU (a' := ?_) HT_ 37 135 rfl rfl (by kernel_rfl) (fun _ _ _ h => h) (by rfl) ?_ ?_
              rotate_left
              ·simp only [pS_q]
               rfl
              refine pU (a' := ?_) HT_ 38 136 rfl rfl (by kernel_rfl) (fun _ _ _ h => h) (by rfl) ?_ ?_
              rotate_left
              ·simp only [pS_q]
               rfl
              refine pU (a' := ?_) HT_ 39 137 rfl rfl (by kernel_rfl) (fun _ _ _ h => h) (by rfl) ?_ ?_
              rotate_left
              ·simp only [pS_q]
               rfl
              refine pU (a' := ?_) HT_ 40 138 rfl rfl (by kernel_rfl) (fun _ _ _ h => h) (by rfl) ?_ ?_
              rotate_left
              ·simp only [pS_q]
               rfl
              refine pU (a' := ?_) HT_ 41 139 rfl rfl (by kernel_rfl) (fun _ _ _ h => h) (by rfl) ?_ ?_
              rotate_left
              ·simp only [pS_q]
               rfl
              refine pU (a' := ?_) HT_ 42 140 rfl rfl (by kernel_rfl) (fun _ _ _ h => h) (by rfl) ?_ ?_
              rotate_left
              ·simp only [pS_q]
               rfl
              refine pI (v := ?_) (a' := ?_) HT_ 43 141 rfl rfl (by kernel_rfl) (fun _ _ _ h => h) (by rfl) ?_ ?_ ?_
              rotate_left
              ·intro w'
               go_simp
               with_reducible rfl
              rotate_left
              ·simp only [pS_q]
               rfl
              refine pI (v := ?_) (a' := ?_) HT_ 44 142 rfl rfl (by kernel_rfl) (fun _ _ _ h => h) (by rfl) ?_ ?_ ?_
              rotate_left
              ·intro w'
               go_simp
               with_reducible rfl
              rotate_left
              ·simp only [pS_q]
               rfl
              refine pI (v := ?_) (a' := ?_) HT_ 45 8 rfl rfl (by kernel_rfl) (fun _ _ _ h => h) (by rfl) ?_ ?_ ?_
              rotate_left
              ·intro w'
               go_simp
               with_reducible rfl
              rotate_left
              ·simp only [pS_q]
               rfl
              refine done_ (done_of HT_.out (by kernel_rfl)) ?_
              try go_wp2
              go_roundg k6
              case measure => have := HJ5.out; have := HK2.out; have := HJ30.out; have := HK4.out; have := HJ37.out; have := HK6.out; omega
              case rel => exact ⟨(false), (wrap64 (x10_6 + 1)), (by first | rfl | (simp; done) | (simp [*]; done)), (by first | rfl | (simp; done) | (simp [*]; done)), H', ⟨by have := HJ5.out; have := HK2.out; have := HJ30.out; have := HK4.out; have := HJ37.out; have := HK6.out; omega⟩, ⟨rup HO_3.out⟩, ⟨rup HO_4.out⟩, ⟨rup HO_5.out⟩, ⟨bel HB.out⟩⟩
             subst c58
             have H1 : (laws_FnWatch.l2 k6 t583 t584 t589 x7_2 (decide (((rd_T27 t584 x7_2).f1) ≤ (wrap64 (((rd_T27 t584 x9_4).f1) + 120)))) x9_4 (wrap64 (x10_6 + 1))) = some r := by rw [if_pos rfl] at H; exact H
             clear H
             have H := H1
             clear H1
             have H' := Ae_q H
             clear H
             have p604 : 0 ≤ (x9_4 : Int) := oD_q (by assumption)
             have q604 : x9_4 < (t584.length : Int) := oD_q (by assumption)
             obtain ⟨ad604, e604, hx604_0, hx604_1, hx604_2, hx604_3, hx604_4, hx604_5⟩ := at_T27 (rR_q HO_4.out).2.2 x9_4 p604 q604
             cases e604
             replace p604 := eq_true p604
             replace q604 := eq_true q604
             try go_wp2
             have n0_ := Ae_q (rD_q HO_3.out)
             have n1_ := Ae_q (rD_q HO_4.out)
             have n2_ := Ae_q (rD_q HO_5.out)
             have n3_ := Ae_q (bD_q HB.out)
             clear HO_3
             clear HO_4
             clear HO_5
             clear HB
             have HO_3 := n0_
             have HO_4 := n1_
             have HO_5 := n2_
             have HB := n3_
             clear n0_ n1_ n2_ n3_
             have p605 : 0 ≤ (x10_6 : Int) := oD_q (by assumption)
             have q605 : x10_6 < (t583.length : Int) := oD_q (by assumption)
             obtain ⟨ad605, e605, hx605_0, hx605_1, hx605_2⟩ := at_T50 (rR_q HO_3.out).2.2 x10_6 p605 q605
             cases e605
             replace p605 := eq_true p605
             replace q605 := eq_true q605
             have p606 : 0 ≤ (x7_2 : Int) := oD_q (by assumption)
             have q606 : x7_2 < (t584.length : Int) := oD_q (by assumption)
             obtain ⟨ad606, e606, hx606_0, hx606_1, hx606_2, hx606_3, hx606_4, hx606_5⟩ := at_T27 (rR_q HO_4.out).2.2 x7_2 p606 q606
             obtain rfl : ad604 = ad606 := (by injection e606)
             replace p606 := eq_true p606
             replace q606 := eq_true q606
             have p607 : 0 ≤ (x10_6 : Int) := oD_q (by assumption)
             have q607 : x10_6 < (t583.length : Int) := oD_q (by assumption)
             obtain ⟨ad607, e607, hx607_0, hx607_1, hx607_2⟩ := at_T50 (rR_q HO_3.out).2.2 x10_6 p607 q607
             obtain rfl : ad605 = ad607 := (by injection e607)
             replace p607 := eq_true p607
             replace q607 := eq_true q607
             have p608 : 0 ≤ (x9_4 : Int) := oD_q (by assumption)
             have q608 : x9_4 < (t584.length : Int) := oD_q (by assumption)
             obtain ⟨ad608, e608, hx608_0, hx608_1, hx608_2, hx608_3, hx608_4, hx608_5⟩ := at_T27 (rR_q HO_4.out).2.2 x9_4 p608 q608
             obtain rfl : ad604 = ad608 := (by injection e608)
             replace p608 := eq_true p608
             replace q608 := eq_true q608
             have p609 : 0 ≤ (x9_4 : Int) := oD_q (by assumption)
             have q609 : x9_4 < (t584.length : Int) := oD_q (by assumption)
             obtain ⟨ad609, e609, hx609_0, hx609_1, hx609_2, hx609_3, hx609_4, hx609_5⟩ := at_T27 (rR_q HO_4.out).2.2 x9_4 p609 q609
             obtain rfl : ad604 = ad609 := (by injection e609)
             replace p609 := eq_true p609
             replace q609 := eq_true q609
             have p611 : 0 ≤ (x7_2 : Int) := oD_q (by assumption)
             have q611 : x7_2 < (t584.length : Int) := oD_q (by assumption)
             obtain ⟨ad611, e611, hx611_0, hx611_1, hx611_2, hx611_3, hx611_4, hx611_5⟩ := at_T27 (rR_q HO_4.out).2.2 x7_2 p611 q611
             obtain rfl : ad604 = ad611 := (by injection e611)
             replace p611 := eq_true p611
             replace q611 := eq_true q611
             have p612 : 0 ≤ (x9_4 : Int) := oD_q (by assumption)
             have q612 : x9_4 < (t584.length : Int) := oD_q (by assumption)
             obtain ⟨ad612, e612, hx612_0, hx612_1, hx612_2, hx612_3, hx612_4, hx612_5⟩ := at_T27 (rR_q HO_4.out).2.2 x9_4 p612 q612
             obtain rfl : ad604 = ad612 := (by injection e612)
             replace p612 := eq_true p612
             replace q612 := eq_true q612
             refine start_ (n := 46) (S := fun w' => w'.cell? (ad605.add ((x10_6).toNat * 3)) = some (.int .i64 ((rd_T50 t583 x10_6).f0)) ∧ w'.cell? ⟨(ad605.add ((x10_6).toNat * 3)).block, (ad605.add ((x10_6).toNat * 3)).off + 1, none⟩ = some (.int .i64 ((rd_T50 t583 x10_6).f1)) ∧ w'.cell? ⟨(ad605.add ((x10_6).toNat * 3)).block, (ad605.add ((x10_6).toNat * 3)).off + 2, none⟩ = some (.int .i64 ((rd_T50 t583 x10_6).f2)) ∧ w'.cell? (ad604.add ((x7_2).toNat * 6)) = some (.int .i64 ((rd_T27 t584 x7_2).f0)) ∧ w'.cell? ⟨(ad604.add ((x7_2).toNat * 6)).block, (ad604.add ((x7_2).toNat * 6)).off + 1, none⟩ = some (.int .i64 ((rd_T27 t584 x7_2).f1)) ∧ w'.cell? ⟨(ad604.add ((x7_2).toNat * 6)).block, (ad604.add ((x7_2).toNat * 6)).off + 2, none⟩ = some (.int .i64 ((rd_T27 t584 x7_2).f2)) ∧ w'.cell? ⟨(ad604.add ((x7_2).toNat * 6)).block, (ad604.add ((x7_2).toNat * 6)).off + 3, none⟩ = some (.int .i64 ((rd_T27 t584 x7_2).f3)) ∧ w'.cell? ⟨(ad604.add ((x7_2).toNat * 6)).block, (ad604.add ((x7_2).toNat * 6)).off + 4, none⟩ = some (.int .i64 ((rd_T27 t584 x7_2).f4)) ∧ w'.cell? ⟨(ad604.add ((x7_2).toNat * 6)).block, (ad604.add ((x7_2).toNat * 6)).off + 5, none⟩ = some (.int .i64 ((rd_T27 t584 x7_2).f5)) ∧ w'.cell? (ad605.add ((x10_6).toNat * 3)) = some (.int .i64 ((rd_T50 t583 x10_6).f0)) ∧ w'.cell? ⟨(ad605.add ((x10_6).toNat * 3)).block, (ad605.add ((x10_6).toNat * 3)).off + 1, none⟩ = some (.int .i64 ((rd_T50 t583 x10_6).f1)) ∧ w'.cell? ⟨(ad605.add ((x10_6).toNat * 3)).block, (ad605.add ((x10_6).toNat * 3)).off + 2, none⟩ = some (.int .i64 ((rd_T50 t583 x10_6).f2)) ∧ w'.cell? (ad604.add ((x9_4).toNat * 6)) = some (.int .i64 ((rd_T27 t584 x9_4).f0)) ∧ w'.cell? ⟨(ad604.add ((x9_4).toNat * 6)).block, (ad604.add ((x9_4).toNat * 6)).off + 1, none⟩ = some (.int .i64 ((rd_T27 t584 x9_4).f1)) ∧ w'.cell? ⟨(ad604.add ((x9_4).toNat * 6)).block, (ad604.add ((x9_4).toNat * 6)).off + 2, none⟩ = some (.int .i64 ((rd_T27 t584 x9_4).f2)) ∧ w'.cell? ⟨(ad604.add ((x9_4).toNat * 6)).block, (ad604.add ((x9_4).toNat * 6)).off + 3, none⟩ = some (.int .i64 ((rd_T27 t584 x9_4).f3)) ∧ w'.cell? ⟨(ad604.add ((x9_4).toNat * 6)).block, (ad604.add ((x9_4).toNat * 6)).off + 4, none⟩ = some (.int .i64 ((rd_T27 t584 x9_4).f4)) ∧ w'.cell? ⟨(ad604.add ((x9_4).toNat * 6)).block, (ad604.add ((x9_4).toNat * 6)).off + 5, none⟩ = some (.int .i64 ((rd_T27 t584 x9_4).f5)) ∧ w'.cell? (ad604.add ((x9_4).toNat * 6)) = some (.int .i64 ((rd_T27 t584 x9_4).f0)) ∧ w'.cell? ⟨(ad604.add ((x9_4).toNat * 6)).block, (ad604.add ((x9_4).toNat * 6)).off + 1, none⟩ = some (.int .i64 ((rd_T27 t584 x9_4).f1)) ∧ w'.cell? ⟨(ad604.add ((x9_4).toNat * 6)).block, (ad604.add ((x9_4).toNat * 6)).off + 2, none⟩ = some (.int .i64 ((rd_T27 t584 x9_4).f2)) ∧ w'.cell? ⟨(ad604.add ((x9_4).toNat * 6)).block, (ad604.add ((x9_4).toNat * 6)).off + 3, none⟩ = some (.int .i64 ((rd_T27 t584 x9_4).f3)) ∧ w'.cell? ⟨(ad604.add ((x9_4).toNat * 6)).block, (ad604.add ((x9_4).toNat * 6)).off + 4, none⟩ = some (.int .i64 ((rd_T27 t584 x9_4).f4)) ∧ w'.cell? ⟨(ad604.add ((x9_4).toNat * 6)).block, (ad604.add ((x9_4).toNat * 6)).off + 5, none⟩ = some (.int .i64 ((rd_T27 t584 x9_4).f5)) ∧ w'.cell? (ad604.add ((x7_2).toNat * 6)) = some (.int .i64 ((rd_T27 t584 x7_2).f0)) ∧ w'.cell? ⟨(ad604.add ((x7_2).toNat * 6)).block, (ad604.add ((x7_2).toNat * 6)).off + 1, none⟩ = some (.int .i64 ((rd_T27 t584 x7_2).f1)) ∧ w'.cell? ⟨(ad604.add ((x7_2).toNat * 6)).block, (ad604.add ((x7_2).toNat * 6)).off + 2, none⟩ = some (.int .i64 ((rd_T27 t584 x7_2).f2)) ∧ w'.cell? ⟨(ad604.add ((x7_2).toNat * 6)).block, (ad604.add ((x7_2).toNat * 6)).off + 3, none⟩ = some (.int .i64 ((rd_T27 t584 x7_2).f3)) ∧ w'.cell? ⟨(ad604.add ((x7_2).toNat * 6)).block, (ad604.add ((x7_2).toNat * 6)).off + 4, none⟩ = some (.int .i64 ((rd_T27 t584 x7_2).f4)) ∧ w'.cell? ⟨(ad604.add ((x7_2).toNat * 6)).block, (ad604.add ((x7_2).toNat * 6)).off + 5, none⟩ = some (.int .i64 ((rd_T27 t584 x7_2).f5)) ∧ w'.cell? (ad604.add ((x9_4).toNat * 6)) = some (.int .i64 ((rd_T27 t584 x9_4).f0)) ∧ w'.cell? ⟨(ad604.add ((x9_4).toNat * 6)).block, (ad604.add ((x9_4).toNat * 6)).off + 1, none⟩ = some (.int .i64 ((rd_T27 t584 x9_4).f1)) ∧ w'.cell? ⟨(ad604.add ((x9_4).toNat * 6)).block, (ad604.add ((x9_4).toNat * 6)).off + 2, none⟩ = some (.int .i64 ((rd_T27 t584 x9_4).f2)) ∧ w'.cell? ⟨(ad604.add ((x9_4).toNat * 6)).block, (ad604.add ((x9_4).toNat * 6)).off + 3, none⟩ = some (.int .i64 ((rd_T27 t584 x9_4).f3)) ∧ w'.cell? ⟨(ad604.add ((x9_4).toNat * 6)).block, (ad604.add ((x9_4).toNat * 6)).off + 4, none⟩ = some (.int .i64 ((rd_T27 t584 x9_4).f4)) ∧ w'.cell? ⟨(ad604.add ((x9_4).toNat * 6)).block, (ad604.add ((x9_4).toNat * 6)).off + 5, none⟩ = some (.int .i64 ((rd_T27 t584 x9_4).f5))) (ds := []) #[false, false, false, false, false, false, false, false, false, false, false, false, false, false, false, false, false, false, false, false, false, false, false, false, false, false, false, false, false, false, false, false, false, false, false, false, false, false, false, false, false, false, false, false, false, false] (by kernel_rfl) rfl rfl ⟨hx605_0, hx605_1, hx605_2, hx606_0, hx606_1, hx606_2, hx606_3, hx606_4, hx606_5, hx607_0, hx607_1, hx607_2, hx608_0, hx608_1, hx608_2, hx608_3, hx608_4, hx608_5, hx609_0, hx609_1, hx609_2, hx609_3, hx609_4, hx609_5, hx611_0, hx611_1, hx611_2, hx611_3, hx611_4, hx611_5, hx612_0, hx612_1, hx612_2, hx612_3, hx612_4, hx612_5⟩ (fun hHeld => ?_); refine with_tabW laws_FnWatch.tab21 laws_FnWatch.bits21 (fun HT_ HW_ => ?_)
             generalize wr.drew = w59 at HO_3 HO_4 HO_5 HB hx605_0 hx605_1 hx605_2 hx606_0 hx606_1 hx606_2 hx606_3 hx606_4 hx606_5 hx607_0 hx607_1 hx607_2 hx608_0 hx608_1 hx608_2 hx608_3 hx608_4 hx608_5 hx609_0 hx609_1 hx609_2 hx609_3 hx609_4 hx609_5 hx611_0 hx611_1 hx611_2 hx611_3 hx611_4 hx611_5 hx612_0 hx612_1 hx612_2 hx612_3 hx612_4 hx612_5 hHeld ⊢
             refine pI (v := ?_) (a' := ?_) HT_ 0 98 rfl rfl (by kernel_rfl) (fun _ _ _ h => h) (by rfl) ?_ ?_ ?_
             rotate_left
             ·intro w'
              go_simp
              with_reducible rfl
             rotate_left
             ·simp only [pS_q]
              rfl
             refine pI (v := ?_) (a' := ?_) HT_ 1 99 rfl rfl (by kernel_rfl) (fun _ _ _ h => h) (by rfl) ?_ ?_ ?_
             rotate_left
             ·intro w'
              go_simp
              with_reducible rfl
             rotate_left
             ·simp only [pS_q]
              rfl
             refine pI (v := ?_) (a' := ?_) HT_ 2 100 rfl rfl (by kernel_rfl) (fun _ _ _ h => h) (by rfl) ?_ ?_ ?_
             rotate_left
             ·intro w'
              go_simp
              with_reducible rfl
             rotate_left
             ·simp only [pS_q]
              rfl
             refine pI (v := ?_) (a' := ?_) HT_ 3 101 rfl rfl (by kernel_rfl) (fun _ _ _ h => h) (by rfl) ?_ ?_ ?_
             rotate_left
             ·intro w'
              go_simp
              with_reducible rfl
             rotate_left
             ·simp only [pS_q]
              rfl
             refine pI (v := ?_) (a' := ?_) HT_ 4 102 rfl rfl (by kernel_rfl) (fun _ _ _ h => h) (by rfl) ?_ ?_ ?_
             rotate_left
             ·intro w'
              go_simp
              with_reducible rfl
             rotate_left
             ·simp only [pS_q]
              rfl
             refine pI (v := ?_) (a' := ?_) HT_ 5 103 rfl rfl (by kernel_rfl) (fun _ _ _ h => h) (by rfl) ?_ ?_ ?_
             rotate_left
             ·intro w'
              go_simp
              with_reducible rfl
             rotate_left
             ·simp only [pS_q]
              rfl
             refine pI (v := ?_) (a' := ?_) HT_ 7 105 rfl rfl (by kernel_rfl) (fun _ _ _ h => h) (by rfl) ?_ ?_ ?_
             rotate_left
             ·intro w'
              go_simp
              with_reducible rfl
             rotate_left
             ·simp only [pS_q]
              rfl
             refine pI (v := ?_) (a' := ?_) HT_ 8 106 rfl rfl (by kernel_rfl) (fun _ _ _ h => h) (by rfl) ?_ ?_ ?_
             rotate_left
             ·intro w'
              go_simp
              with_reducible rfl
             rotate_left
             ·simp only [pS_q]
              rfl
             refine pI (v := ?_) (a' := ?_) HT_ 9 107 rfl rfl (by kernel_rfl) (fun _ _ _ h => h) (by rfl) ?_ ?_ ?_
             rotate_left
             ·intro w'
              go_simp
              with_reducible rfl
             rotate_left
             ·simp only [pS_q]
              rfl
             refine pI (v := ?_) (a' := ?_) HT_ 10 108 rfl rfl (by kernel_rfl) (fun _ _ _ h => h) (by rfl) ?_ ?_ ?_
             rotate_left
             ·intro w'
              go_simp
              with_reducible rfl
             rotate_left
             ·simp only [pS_q]
              rfl
             refine take_ (i := 6) (N := some 104) (v := ?_) (a' := ?_) #[true, true, true, true, true, true, true, true, true, true, true, false, false, false, false, false, false, false, false, false, false, false, false, false, false, false, false, false, false, false, false, false, false, false, false, false, false, false, false, false, false, false, false, false, false, false] rfl rfl (take_ofW HT_.out HW_.out (by kernel_rfl)) (fun _ _ _ h => h) (Or.inl ⟨by rfl, ?_⟩) hHeld ?_ ?_
             rotate_left
             ·rintro w' ⟨s0, s1, s2, s3, s4, s5, s6, s7, s8, s9, s10, s11, s12, s13, s14, s15, s16, s17, s18, s19, s20, s21, s22, s23, s24, s25, s26, s27, s28, s29, s30, s31, s32, s33, s34, s35⟩
              go_simp
              with_reducible rfl
             rotate_left
             ·simp only [pS_q]
              rfl
             refine take_ (i := 11) (N := some 109) (v := ?_) (a' := ?_) #[true, true, true, true, true, true, true, true, true, true, true, true, false, false, false, false, false, false, false, false, false, false, false, false, false, false, false, false, false, false, false, false, false, false, false, false, false, false, false, false, false, false, false, false, false, false] rfl rfl (take_ofW HT_.out HW_.out (by kernel_rfl)) (fun _ _ _ h => h) (Or.inl ⟨by rfl, ?_⟩) hHeld ?_ ?_
             rotate_left
             ·rintro w' ⟨s0, s1, s2, s3, s4, s5, s6, s7, s8, s9, s10, s11, s12, s13, s14, s15, s16, s17, s18, s19, s20, s21, s22, s23, s24, s25, s26, s27, s28, s29, s30, s31, s32, s33, s34, s35⟩
              go_simp
              with_reducible rfl
             rotate_left
             ·simp only [pS_q]
              rfl
             refine pI (v := ?_) (a' := ?_) HT_ 12 110 rfl rfl (by kernel_rfl) (fun _ _ _ h => h) (by rfl) ?_ ?_ ?_
             rotate_left
             ·intro w'
              go_simp
              with_reducible rfl
             rotate_left
             ·simp only [pS_q]
              rfl
             refine pI (v := ?_) (a' := ?_) HT_ 13 111 rfl rfl (by kernel_rfl) (fun _ _ _ h => h) (by rfl) ?_ ?_ ?_
             rotate_left
             ·intro w'
              go_simp
              with_reducible rfl
             rotate_left
             ·simp only [pS_q]
              rfl
             refine pI (v := ?_) (a' := ?_) HT_ 14 112 rfl rfl (by kernel_rfl) (fun _ _ _ h => h) (by rfl) ?_ ?_ ?_
             rotate_left
             ·intro w'
              go_simp
              with_reducible rfl
             rotate_left
             ·simp only [pS_q]
              rfl
             refine pI (v := ?_) (a' := ?_) HT_ 15 113 rfl rfl (by kernel_rfl) (fun _ _ _ h => h) (by rfl) ?_ ?_ ?_
             rotate_left
             ·intro w'
              go_simp
              with_reducible rfl
             rotate_left
             ·simp only [pS_q]
              rfl
             refine pI (v := ?_) (a' := ?_) HT_ 16 114 rfl rfl (by kernel_rfl) (fun _ _ _ h => h) (by rfl) ?_ ?_ ?_
             rotate_left
             ·intro w'
              go_simp
              with_reducible rfl
             rotate_left
             ·simp only [pS_q]
              rfl
             refine pI (v := ?_) (a' := ?_) HT_ 18 116 rfl rfl (by kernel_rfl) (fun _ _ _ h => h) (by rfl) ?_ ?_ ?_
             rotate_left
             ·intro w'
              go_simp
              with_reducible rfl
             rotate_left
             ·simp only [pS_q]
              rfl
             refine pI (v := ?_) (a' := ?_) HT_ 19 117 rfl rfl (by kernel_rfl) (fun _ _ _ h => h) (by rfl) ?_ ?_ ?_
             rotate_left
             ·intro w'
              go_simp
              with_reducible rfl
             rotate_left
             ·simp only [pS_q]
              rfl
             refine pI (v := ?_) (a' := ?_) HT_ 20 118 rfl rfl (by kernel_rfl) (fun _ _ _ h => h) (by rfl) ?_ ?_ ?_
             rotate_left
             ·intro w'
              go_simp
              with_reducible rfl
             rotate_left
             ·simp only [pS_q]
              rfl
             refine pI (v := ?_) (a' := ?_) HT_ 21 119 rfl rfl (by kernel_rfl) (fun _ _ _ h => h) (by rfl) ?_ ?_ ?_
             rotate_left
             ·intro w'
              go_simp
              with_reducible rfl
             rotate_left
             ·simp only [pS_q]
              rfl
             refine pI (v := ?_) (a' := ?_) HT_ 23 121 rfl rfl (by kernel_rfl) (fun _ _ _ h => h) (by rfl) ?_ ?_ ?_
             rotate_left
             ·intro w'
              go_simp
              with_reducible rfl
             rotate_left
             ·simp only [pS_q]
              rfl
             refine pI (v := ?_) (a' := ?_) HT_ 24 122 rfl rfl (by kernel_rfl) (fun _ _ _ h => h) (by rfl) ?_ ?_ ?_
             rotate_left
             ·intro w'
              go_simp
              with_reducible rfl
             rotate_left
             ·simp only [pS_q]
              rfl
             refine pI (v := ?_) (a' := ?_) HT_ 25 123 rfl rfl (by kernel_rfl) (fun _ _ _ h => h) (by rfl) ?_ ?_ ?_
             rotate_left
             ·intro w'
              go_simp
              with_reducible rfl
             rotate_left
             ·simp only [pS_q]
              rfl
             refine pI (v := ?_) (a' := ?_) HT_ 26 124 rfl rfl (by kernel_rfl) (fun _ _ _ h => h) (by rfl) ?_ ?_ ?_
             rotate_left
             ·intro w'
              go_simp
              with_reducible rfl
             rotate_left
             ·simp only [pS_q]
              rfl
             refine take_ (i := 17) (N := some 115) (v := ?_) (a' := ?_) #[true, true, true, true, true, true, true, true, true, true, true, true, true, true, true, true, true, true, true, true, true, true, false, true, true, true, true, false, false, false, false, false, false, false, false, false, false, false, false, false, false, false, false, false, false, false] rfl rfl (take_ofW HT_.out HW_.out (by kernel_rfl)) (fun _ _ _ h => h) (Or.inl ⟨by rfl, ?_⟩) hHeld ?_ ?_
             rotate_left
             ·rintro w' ⟨s0, s1, s2, s3, s4, s5, s6, s7, s8, s9, s10, s11, s12, s13, s14, s15, s16, s17, s18, s19, s20, s21, s22, s23, s24, s25, s26, s27, s28, s29, s30, s31, s32, s33, s34, s35⟩
              go_simp
              with_reducible rfl
             rotate_left
             ·simp only [pS_q]
              rfl
             refine take_ (i := 22) (N := some 120) (v := ?_) (a' := ?_) #[true, true, true, true, true, true, true, true, true, true, true, true, true, true, true, true, true, true, true, true, true, true, true, true, true, true, true, false, false, false, false, false, false, false, false, false, false, false, false, false, false, false, false, false, false, false] rfl rfl (take_ofW HT_.out HW_.out (by kernel_rfl)) (fun _ _ _ h => h) (Or.inl ⟨by rfl, ?_⟩) hHeld ?_ ?_
             rotate_left
             ·rintro w' ⟨s0, s1, s2, s3, s4, s5, s6, s7, s8, s9, s10, s11, s12, s13, s14, s15, s16, s17, s18, s19, s20, s21, s22, s23, s24, s25, s26, s27, s28, s29, s30, s31, s32, s33, s34, s35⟩
              go_simp
              with_reducible rfl
             rotate_left
             ·simp only [pS_q]
              rfl
             refine take_ (i := 27) (N := some 125) (v := ?_) (a' := ?_) #[true, true, true, true, true, true, true, true, true, true, true, true, true, true, true, true, true, true, true, true, true, true, true, true, true, true, true, true, false, false, false, false, false, false, false, false, false, false, false, false, false, false, false, false, false, false] rfl rfl (take_ofW HT_.out HW_.out (by kernel_rfl)) (fun _ _ _ h => h) (Or.inl ⟨by rfl, ?_⟩) hHeld ?_ ?_
             rotate_left
             ·rintro w' ⟨s0, s1, s2, s3, s4, s5, s6, s7, s8, s9, s10, s11, s12, s13, s14, s15, s16, s17, s18, s19, s20, s21, s22, s23, s24, s25, s26, s27, s28, s29, s30, s31, s32, s33, s34, s35⟩
              go_simp
              with_reducible rfl
             rotate_left
             ·simp only [pS_q]
              rfl
             refine one_ (i := 28) (N := some 126) #[true, true, true, true, true, true, true, true, true, true, true, true, true, true, true, true, true, true, true, true, true, true, true, true, true, true, true, true, true, false, false, false, false, false, false, false, false, false, false, false, false, false, false, false, false, false] rfl rfl (one_of HT_.out (by kernel_rfl)) (by decide) (fun K hK => ?_)
             refine goes_ Try.func37 (by kernel_rfl) rfl #[.agg #[.int .i64 ((rd_T50 t583 x10_6).f0), .int .i64 ((rd_T50 t583 x10_6).f1), .int .i64 ((rd_T50 t583 x10_6).f2)], .int .i64 ((rd_T27 t584 x9_4).f4), .int .i64 ((rd_T27 t584 x9_4).f5)] (by rfl) rfl rfl (by (try simp only [lM_q, lC_q, lN_q]); first | done | rfl | (simp only [lD_q, lT_q]; rfl)) ?_
             with_reducible refine (impl_GuestMay.calls ((rd_T50 t583 x10_6).f0) ((rd_T50 t583 x10_6).f1) ((rd_T50 t583 x10_6).f2) ((rd_T27 t584 x9_4).f4) ((rd_T27 t584 x9_4).f5) true _ A57.out).mono ?_
             rintro e w60 ⟨rfl, hb⟩
             have HS0_ := (hb.cell (wL_q _ _ (hHeld.1))).trans (hHeld.1)
             have HS1_ := (hb.cell (wL_q _ _ (hHeld.2.1))).trans (hHeld.2.1)
             have HS2_ := (hb.cell (wL_q _ _ (hHeld.2.2.1))).trans (hHeld.2.2.1)
             have HS3_ := (hb.cell (wL_q _ _ (hHeld.2.2.2.1))).trans (hHeld.2.2.2.1)
             have HS4_ := (hb.cell (wL_q _ _ (hHeld.2.2.2.2.1))).trans (hHeld.2.2.2.2.1)
             have HS5_ := (hb.cell (wL_q _ _ (hHeld.2.2.2.2.2.1))).trans (hHeld.2.2.2.2.2.1)
             have HS6_ := (hb.cell (wL_q _ _ (hHeld.2.2.2.2.2.2.1))).trans (hHeld.2.2.2.2.2.2.1)
             have HS7_ := (hb.cell (wL_q _ _ (hHeld.2.2.2.2.2.2.2.1))).trans (hHeld.2.2.2.2.2.2.2.1)
             have HS8_ := (hb.cell (wL_q _ _ (hHeld.2.2.2.2.2.2.2.2.1))).trans (hHeld.2.2.2.2.2.2.2.2.1)
             have HS9_ := (hb.cell (wL_q _ _ (hHeld.2.2.2.2.2.2.2.2.2.1))).trans (hHeld.2.2.2.2.2.2.2.2.2.1)
             have HS10_ := (hb.cell (wL_q _ _ (hHeld.2.2.2.2.2.2.2.2.2.2.1))).trans (hHeld.2.2.2.2.2.2.2.2.2.2.1)
             have HS11_ := (hb.cell (wL_q _ _ (hHeld.2.2.2.2.2.2.2.2.2.2.2.1))).trans (hHeld.2.2.2.2.2.2.2.2.2.2.2.1)
             have HS12_ := (hb.cell (wL_q _ _ (hHeld.2.2.2.2.2.2.2.2.2.2.2.2.1))).trans (hHeld.2.2.2.2.2.2.2.2.2.2.2.2.1)
             have HS13_ := (hb.cell (wL_q _ _ (hHeld.2.2.2.2.2.2.2.2.2.2.2.2.2.1))).trans (hHeld.2.2.2.2.2.2.2.2.2.2.2.2.2.1)
             have HS14_ := (hb.cell (wL_q _ _ (hHeld.2.2.2.2.2.2.2.2.2.2.2.2.2.2.1))).trans (hHeld.2.2.2.2.2.2.2.2.2.2.2.2.2.2.1)
             have HS15_ := (hb.cell (wL_q _ _ (hHeld.2.2.2.2.2.2.2.2.2.2.2.2.2.2.2.1))).trans (hHeld.2.2.2.2.2.2.2.2.2.2.2.2.2.2.2.1)
             have HS16_ := (hb.cell (wL_q _ _ (hHeld.2.2.2.2.2.2.2.2.2.2.2.2.2.2.2.2.1))).trans (hHeld.2.2.2.2.2.2.2.2.2.2.2.2.2.2.2.2.1)
             have HS17_ := (hb.cell (wL_q _ _ (hHeld.2.2.2.2.2.2.2.2.2.2.2.2.2.2.2.2.2.1))).trans (hHeld.2.2.2.2.2.2.2.2.2.2.2.2.2.2.2.2.2.1)
             have HS18_ := (hb.cell (wL_q _ _ (hHeld.2.2.2.2.2.2.2.2.2.2.2.2.2.2.2.2.2.2.1))).trans (hHeld.2.2.2.2.2.2.2.2.2.2.2.2.2.2.2.2.2.2.1)
             have HS19_ := (hb.cell (wL_q _ _ (hHeld.2.2.2.2.2.2.2.2.2.2.2.2.2.2.2.2.2.2.2.1))).trans (hHeld.2.2.2.2.2.2.2.2.2.2.2.2.2.2.2.2.2.2.2.1)
             have HS20_ := (hb.cell (wL_q _ _ (hHeld.2.2.2.2.2.2.2.2.2.2.2.2.2.2.2.2.2.2.2.2.1))).trans (hHeld.2.2.2.2.2.2.2.2.2.2.2.2.2.2.2.2.2.2.2.2.1)
             have HS21_ := (hb.cell (wL_q _ _ (hHeld.2.2.2.2.2.2.2.2.2.2.2.2.2.2.2.2.2.2.2.2.2.1))).trans (hHeld.2.2.2.2.2.2.2.2.2.2.2.2.2.2.2.2.2.2.2.2.2.1)
             have HS22_ := (hb.cell (wL_q _ _ (hHeld.2.2.2.2.2.2.2.2.2.2.2.2.2.2.2.2.2.2.2.2.2.2.1))).trans (hHeld.2.2.2.2.2.2.2.2.2.2.2.2.2.2.2.2.2.2.2.2.2.2.1)
             have HS23_ := (hb.cell (wL_q _ _ (hHeld.2.2.2.2.2.2.2.2.2.2.2.2.2.2.2.2.2.2.2.2.2.2.2.1))).trans (hHeld.2.2.2.2.2.2.2.2.2.2.2.2.2.2.2.2.2.2.2.2.2.2.2.1)
             have HS24_ := (hb.cell (wL_q _ _ (hHeld.2.2.2.2.2.2.2.2.2.2.2.2.2.2.2.2.2.2.2.2.2.2.2.2.1))).trans (hHeld.2.2.2.2.2.2.2.2.2.2.2.2.2.2.2.2.2.2.2.2.2.2.2.2.1)
             have HS25_ := (hb.cell (wL_q _ _ (hHeld.2.2.2.2.2.2.2.2.2.2.2.2.2.2.2.2.2.2.2.2.2.2.2.2.2.1))).trans (hHeld.2.2.2.2.2.2.2.2.2.2.2.2.2.2.2.2.2.2.2.2.2.2.2.2.2.1)
             have HS26_ := (hb.cell (wL_q _ _ (hHeld.2.2.2.2.2.2.2.2.2.2.2.2.2.2.2.2.2.2.2.2.2.2.2.2.2.2.1))).trans (hHeld.2.2.2.2.2.2.2.2.2.2.2.2.2.2.2.2.2.2.2.2.2.2.2.2.2.2.1)
             have HS27_ := (hb.cell (wL_q _ _ (hHeld.2.2.2.2.2.2.2.2.2.2.2.2.2.2.2.2.2.2.2.2.2.2.2.2.2.2.2.1))).trans (hHeld.2.2.2.2.2.2.2.2.2.2.2.2.2.2.2.2.2.2.2.2.2.2.2.2.2.2.2.1)
             have HS28_ := (hb.cell (wL_q _ _ (hHeld.2.2.2.2.2.2.2.2.2.2.2.2.2.2.2.2.2.2.2.2.2.2.2.2.2.2.2.2.1))).trans (hHeld.2.2.2.2.2.2.2.2.2.2.2.2.2.2.2.2.2.2.2.2.2.2.2.2.2.2.2.2.1)
             have HS29_ := (hb.cell (wL_q _ _ (hHeld.2.2.2.2.2.2.2.2.2.2.2.2.2.2.2.2.2.2.2.2.2.2.2.2.2.2.2.2.2.1))).trans (hHeld.2.2.2.2.2.2.2.2.2.2.2.2.2.2.2.2.2.2.2.2.2.2.2.2.2.2.2.2.2.1)
             have HS30_ := (hb.cell (wL_q _ _ (hHeld.2.2.2.2.2.2.2.2.2.2.2.2.2.2.2.2.2.2.2.2.2.2.2.2.2.2.2.2.2.2.1))).trans (hHeld.2.2.2.2.2.2.2.2.2.2.2.2.2.2.2.2.2.2.2.2.2.2.2.2.2.2.2.2.2.2.1)
             have HS31_ := (hb.cell (wL_q _ _ (hHeld.2.2.2.2.2.2.2.2.2.2.2.2.2.2.2.2.2.2.2.2.2.2.2.2.2.2.2.2.2.2.2.1))).trans (hHeld.2.2.2.2.2.2.2.2.2.2.2.2.2.2.2.2.2.2.2.2.2.2.2.2.2.2.2.2.2.2.2.1)
             have HS32_ := (hb.cell (wL_q _ _ (hHeld.2.2.2.2.2.2.2.2.2.2.2.2.2.2.2.2.2.2.2.2.2.2.2.2.2.2.2.2.2.2.2.2.1))).trans (hHeld.2.2.2.2.2.2.2.2.2.2.2.2.2.2.2.2.2.2.2.2.2.2.2.2.2.2.2.2.2.2.2.2.1)
             have HS33_ := (hb.cell (wL_q _ _ (hHeld.2.2.2.2.2.2.2.2.2.2.2.2.2.2.2.2.2.2.2.2.2.2.2.2.2.2.2.2.2.2.2.2.2.1))).trans (hHeld.2.2.2.2.2.2.2.2.2.2.2.2.2.2.2.2.2.2.2.2.2.2.2.2.2.2.2.2.2.2.2.2.2.1)
             have HS34_ := (hb.cell (wL_q _ _ (hHeld.2.2.2.2.2.2.2.2.2.2.2.2.2.2.2.2.2.2.2.2.2.2.2.2.2.2.2.2.2.2.2.2.2.2.1))).trans (hHeld.2.2.2.2.2.2.2.2.2.2.2.2.2.2.2.2.2.2.2.2.2.2.2.2.2.2.2.2.2.2.2.2.2.2.1)
             have HS35_ := (hb.cell (wL_q _ _ (hHeld.2.2.2.2.2.2.2.2.2.2.2.2.2.2.2.2.2.2.2.2.2.2.2.2.2.2.2.2.2.2.2.2.2.2.2))).trans (hHeld.2.2.2.2.2.2.2.2.2.2.2.2.2.2.2.2.2.2.2.2.2.2.2.2.2.2.2.2.2.2.2.2.2.2.2)
             refine ⟨_, rfl, ?_⟩
             have n0_ := Ae_q (rO_q (rup HO_3.out) hb)
             have n1_ := Ae_q (rO_q (rup HO_4.out) hb)
             have n2_ := Ae_q (rO_q (rup HO_5.out) hb)
             have n3_ := Ae_q (bT_q (bel HB.out) hb)
             clear HO_3
             clear HO_4
             clear HO_5
             clear HB
             have HO_3 := n0_
             have HO_4 := n1_
             have HO_5 := n2_
             have HB := n3_
             clear n0_ n1_ n2_ n3_
             (try clear hb)
             (try clear hb2)
             (try clear hk)
             (try clear hi)
             refine hK.out _ _ ⟨HS0_, HS1_, HS2_, HS3_, HS4_, HS5_, HS6_, HS7_, HS8_, HS9_, HS10_, HS11_, HS12_, HS13_, HS14_, HS15_, HS16_, HS17_, HS18_, HS19_, HS20_, HS21_, HS22_, HS23_, HS24_, HS25_, HS26_, HS27_, HS28_, HS29_, HS30_, HS31_, HS32_, HS33_, HS34_, HS35_⟩ (fun hHeld => ?_)
             clear hK K
             refine norm_ (a' := ?_) ?_ ?_
             rotate_left
             ·show Act.put _ (some 126) _ = _
              simp only [pS_q]
              rfl
             refine pI (v := ?_) (a' := ?_) HT_ 29 127 rfl rfl (by kernel_rfl) (fun _ _ _ h => h) (by rfl) ?_ ?_ ?_
             rotate_left
             ·intro w'
              go_simp
              with_reducible rfl
             rotate_left
             ·simp only [pS_q]
              rfl
             refine pI (v := ?_) (a' := ?_) HT_ 30 128 rfl rfl (by kernel_rfl) (fun _ _ _ h => h) (by rfl) ?_ ?_ ?_
             rotate_left
             ·intro w'
              go_simp
              with_reducible rfl
             rotate_left
             ·simp only [pS_q]
              rfl
             refine pI (v := ?_) (a' := ?_) HT_ 31 129 rfl rfl (by kernel_rfl) (fun _ _ _ h => h) (by rfl) ?_ ?_ ?_
             rotate_left
             ·intro w'
              go_simp
              with_reducible rfl
             rotate_left
             ·simp only [pS_q]
              rfl
             refine pI (v := ?_) (a' := ?_) HT_ 32 130 rfl rfl (by kernel_rfl) (fun _ _ _ h => h) (by rfl) ?_ ?_ ?_
             rotate_left
             ·intro w'
              go_simp
              with_reducible rfl
             rotate_left
             ·simp only [pS_q]
              rfl
             refine pI (v := ?_) (a' := ?_) HT_ 33 131 rfl rfl (by kernel_rfl) (fun _ _ _ h => h) (by rfl) ?_ ?_ ?_
             rotate_left
             ·intro w'
              go_simp
              with_reducible rfl
             rotate_left
             ·simp only [pS_q]
              rfl
             refine pI (v := ?_) (a' := ?_) HT_ 34 132 rfl rfl (by kernel_rfl) (fun _ _ _ h => h) (by rfl) ?_ ?_ ?_
             rotate_left
             ·intro w'
              go_simp
              with_reducible rfl
             rotate_left
             ·simp only [pS_q]
              rfl
             refine pI (v := ?_) (a' := ?_) HT_ 36 134 rfl rfl (by kernel_rfl) (fun _ _ _ h => h) (by rfl) ?_ ?_ ?_
             rotate_left
             ·intro w'
              go_simp
              with_reducible rfl
             rotate_left
             ·simp only [pS_q]
              rfl
             refine pI (v := ?_) (a' := ?_) HT_ 37 135 rfl rfl (by kernel_rfl) (fun _ _ _ h => h) (by rfl) ?_ ?_ ?_
             rotate_left
             ·intro w'
              go_simp
              with_reducible rfl
             rotate_left
             ·simp only [pS_q]
              rfl
             refine pI (v := ?_) (a' := ?_) HT_ 38 136 rfl rfl (by kernel_rfl) (fun _ _ _ h => h) (by rfl) ?_ ?_ ?_
             rotate_left
             ·intro w'
              go_simp
              with_reducible rfl
             rotate_left
             ·simp only [pS_q]
              rfl
             refine pI (v := ?_) (a' := ?_) HT_ 39 137 rfl rfl (by kernel_rfl) (fun _ _ _ h => h) (by rfl) ?_ ?_ ?_
             rotate_left
             ·intro w'
              go_simp
              with_reducible rfl
             rotate_left
             ·simp only [pS_q]
              rfl
             refine take_ (i := 35) (N := some 133) (v := ?_) (a' := ?_) #[true, true, true, true, true, true, true, true, true, true, true, true, true, true, true, true, true, true, true, true, true, true, true, true, true, true, true, true, true, true, true, true, true, true, true, true, true, true, true, true, false, false, false, false, false, false] rfl rfl (take_ofW HT_.out HW_.out (by kernel_rfl)) (fun _ _ _ h => h) (Or.inl ⟨by rfl, ?_⟩) hHeld ?_ ?_
             rotate_left
             ·rintro w' ⟨s0, s1, s2, s3, s4, s5, s6, s7, s8, s9, s10, s11, s12, s13, s14, s15, s16, s17, s18, s19, s20, s21, s22, s23, s24, s25, s26, s27, s28, s29, s30, s31, s32, s33, s34, s35⟩
              go_simp
              with_reducible rfl
             rotate_left
             ·simp only [pS_q]
              rfl
             refine take_ (i := 40) (N := some 138) (v := ?_) (a' := ?_) #[true, true, true, true, true, true, true, true, true, true, true, true, true, true, true, true, true, true, true, true, true, true, true, true, true, true, true, true, true, true, true, true, true, true, true, true, true, true, true, true, true, false, false, false, false, false] rfl rfl (take_ofW HT_.out HW_.out (by kernel_rfl)) (fun _ _ _ h => h) (Or.inl ⟨by rfl, ?_⟩) hHeld ?_ ?_
             rotate_left
             ·rintro w' ⟨s0, s1, s2, s3, s4, s5, s6, s7, s8, s9, s10, s11, s12, s13, s14, s15, s16, s17, s18, s19, s20, s21, s22, s23, s24, s25, s26, s27, s28, s29, s30, s31, s32, s33, s34, s35⟩
              go_simp
              with_reducible rfl
             rotate_left
             ·simp only [pS_q]
              rfl
             refine pI (v := ?_) (a' := ?_) HT_ 41 139 rfl rfl (by kernel_rfl) (fun _ _ _ h => h) (by rfl) ?_ ?_ ?_
             rotate_left
             ·intro w'
              go_simp
              with_reducible rfl
             rotate_left
             ·simp only [pS_q]
              rfl
             refine pI (v := ?_) (a' := ?_) HT_ 42 140 rfl rfl (by kernel_rfl) (fun _ _ _ h => h) (by rfl) ?_ ?_ ?_
             rotate_left
             ·intro w'
              go_simp
              with_reducible rfl
             rotate_left
             ·simp only [pS_q]
              rfl
             refine pI (v := ?_) (a' := ?_) HT_ 43 141 rfl rfl (by kernel_rfl) (fun _ _ _ h => h) (by rfl) ?_ ?_ ?_
             rotate_left
             ·intro w'
              go_simp
              with_reducible rfl
             rotate_left
             ·simp only [pS_q]
              rfl
             refine pI (v := ?_) (a' := ?_) HT_ 44 142 rfl rfl (by kernel_rfl) (fun _ _ _ h => h) (by rfl) ?_ ?_ ?_
             rotate_left
             ·intro w'
              go_simp
              with_reducible rfl
             rotate_left
             ·simp only [pS_q]
              rfl
             refine pI (v := ?_) (a' := ?_) HT_ 45 8 rfl rfl (by kernel_rfl) (fun _ _ _ h => h) (by rfl) ?_ ?_ ?_
             rotate_left
             ·intro w'
              go_simp
              with_reducible rfl
             rotate_left
             ·simp only [pS_q]
              rfl
             refine done_ (done_of HT_.out (by kernel_rfl)) ?_
             try go_wp2
             go_roundg k6
             case measure => have := HJ5.out; have := HK2.out; have := HJ30.out; have := HK4.out; have := HJ37.out; have := HK6.out; omega
             case rel => exact ⟨(decide (((rd_T27 t584 x7_2).f1) ≤ (wrap64 (((rd_T27 t584 x9_4).f1) + 120)))), (wrap64 (x10_6 + 1)), (by first | rfl | (simp; done) | (simp [*]; done)), (by first | rfl | (simp; done) | (simp [*]; done)), H', ⟨by have := HJ5.out; have := HK2.out; have := HJ30.out; have := HK4.out; have := HJ37.out; have := HK6.out; omega⟩, ⟨rup HO_3.out⟩, ⟨rup HO_4.out⟩, ⟨rup HO_5.out⟩, ⟨bel HB.out⟩⟩

def laws_FnWatch.Pure : Prop := ∀ (l0 : List Int), l0.length ≤ maxLen → l0.length * 1 ≤ 140737488351232 → (∀ x ∈ l0, (Lit.int .u8 x).wf = true) → ∃ k, laws_FnWatch.f k l0 = some true
theorem laws_FnWatch.walk (P : laws_FnWatch.Pure) (a0 : Option Addr) (len0 cap0 : Nat) (z0 : List Int) (w : World) (w0 : (a0 = none ∧ len0 = 0 ∧ cap0 = 0 ∧ z0 = []) ∨ ∃ x, a0 = some x ∧ len0 ≤ cap0 ∧ cap0 ≤ maxLen ∧ z0.length = cap0 ∧ (∀ i, i < z0.length → w.cell? (x.add i) = some (.int .u8 (z0.getD i 0))) ∧ ∀ n ∈ z0, (Lit.int .u8 n).wf = true) (y0 : len0 * 1 ≤ 140737488351232) :
    Calls Try.prog 9 #[.slice a0 len0 cap0] w fun e w' => e = .returned (.bool true) ∧ Below w.heap.size w w' := by
 obtain ⟨l0, rfl, hr0, hm0, hw0, hc0⟩ := ReadsInt.ofRowC w0
 obtain ⟨k, h⟩ := P l0 hm0 y0 hw0
 refine (laws_FnWatch.calls k _ _ l0 true w (Kd.C_of_reads (d := (0 : Int)) (h1 := fun _ => rfl) hr0) hc0 h).mono ?_
 rintro e w' ⟨rfl, hd⟩
 exact ⟨rfl, hd⟩

end Go.Proofs.Ytnhenfmegpjigaa.PEv
