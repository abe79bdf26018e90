import Derived.Test.YtnhenfmegpjigaaVFPEvx0
import Derived.Test.YtnhenfmegpjigaaVFPEvx6
import Derived.Test.YtnhenfmegpjigaaVFPEvx10
import Derived.Test.YtnhenfmegpjigaaVFPEvx17
import Derived.Test.YtnhenfmegpjigaaVFPEvx20
import Derived.Test.YtnhenfmegpjigaaVFPEvx25
import Derived.Test.YtnhenfmegpjigaaVFPEvx26
import Derived.Test.YtnhenfmegpjigaaVFPEvx29
namespace Go.Proofs.Ytnhenfmegpjigaa.PEv
open Go.RowKit Go.Proofs.YtnhenfmegpjigaaW.PrintWords Go.Proofs.YtnhenfmegpjigaaW.PrintLast Go.Proofs.YtnhenfmegpjigaaW.PrintMore
attribute [local go_sem] max2_int min2_int max_two min_two max_three min_three max_four min_four
set_option linter.unusedVariables false
set_option linter.unusedSimpArgs false

theorem wm9_ (n : Nat) : wrap64 (1 + (n : Int).tmod 9) = 1 + (n : Int) % 9 := by
 rw [Int.tmod_eq_emod_of_nonneg (by omega)]; unfold wrap64; omega
mutual
def laws_FnWatchDrop.j0 : Nat → List Int → List Int → Bool → Option (Bool)
 | 0, _, _, _ => none
 | k + 1, x0, x1, x18 => if x18 = true then (some true) else ((spec_DrawWatchWrong.f k x0).bind fun bt638 => ((impl_WatchWrong.f k bt638.1 bt638.2).bind fun t644 => ((spec_WatchWrong.f k bt638.1 bt638.2).bind fun t647 => ((laws_sameInts.f k t644 t647).bind fun t650 => (if t650 = true then ((spec_GuestsValid.f k bt638.1).bind fun t651 => (if t651 = true then ((spec_EventsValid.f k bt638.2).bind fun t652 => (if t652 = true then (if (bt638.2.length : Int) = 0 then (laws_FnWatchDrop.j1 k x1 bt638.1 bt638.2 t644 t647 true) else (laws_FnWatchDrop.j1 k x1 bt638.1 bt638.2 t644 t647 (decide ((bt638.2.length : Int) > 22)))) else (laws_FnWatchDrop.j1 k x1 bt638.1 bt638.2 t644 t647 true))) else (laws_FnWatchDrop.j1 k x1 bt638.1 bt638.2 t644 t647 true))) else (laws_FnWatchDrop.j1 k x1 bt638.1 bt638.2 t644 t647 true))))))
def laws_FnWatchDrop.j1 : Nat → List Int → List (S50) → List (S27) → List Int → List Int → Bool → Option (Bool)
 | 0, _, _, _, _, _, _ => none
 | k + 1, x1, x5, x6, x7, x8, x53 => if x53 = true then ((laws_sameInts.f k x7 x8).bind fun t653 => (some t653)) else (if 0 ≤ (wrap64 ((x6.length : Int) - 1)) then (if (wrap64 ((x6.length : Int) - 1)) < (x6.length : Int) then ((some (([] : List (S27)) : List (S27))).bind fun y656 => (if y656.length + x6.length < 2932031007402 then ((some (y656 ++ x6 : List (S27))).bind fun y659 => ((some (([(⟨3, (rd_T27 x6 (wrap64 ((x6.length : Int) - 1))).f1, (rd_T27 x6 (wrap64 ((x6.length : Int) - 1))).f2, 0, 0, 0⟩ : S27), (⟨2, (rd_T27 x6 (wrap64 ((x6.length : Int) - 1))).f1, (rd_T27 x6 (wrap64 ((x6.length : Int) - 1))).f2, 1 + ((x1.length : Int) % 9), 0, 0⟩ : S27)] : List (S27)) : List (S27))).bind fun y662 => (if y659.length + y662.length < 2932031007402 then ((some (y659 ++ y662 : List (S27))).bind fun y665 => ((impl_WatchWrong.f k x5 y665).bind fun t668 => ((laws_hasInt.f k t668 (wrap64 ((y665.length : Int) - 1))).bind fun t671 => (some t671)))) else (none)))) else (none))) else (none)) else (none))
end
def laws_FnWatchDrop.f (k : Nat) (l0 : List Int) (l1 : List Int) : Option (Bool) := if (l0.length : Int) > 1048576 then (laws_FnWatchDrop.j0 k l0 l1 true) else (laws_FnWatchDrop.j0 k l0 l1 (decide ((l1.length : Int) > 1048576)))
def laws_FnWatchDrop.T9 : Bool × List (List Nat × List Nat) := (true, [([], []), ([], []), ([0, 1], [0, 1]), ([], []), ([3], [3]), ([], []), ([5], [5]), ([4, 6], [4, 6]), ([], []), ([8], [8]), ([], []), ([10], [10]), ([], []), ([12], [12]), ([13], [13]), ([14], [14]), ([9, 11, 15], [9, 11, 15]), ([7, 16], [7, 16]), ([2, 17, 2], [2, 17]), ([18, 18, 0, 1, 2, 3, 4, 5, 6, 7, 8, 9, 10, 11, 12, 13, 14, 15, 16, 17, 18], [18])])
def laws_FnWatchDrop.B9 : List Nat := [0, 0, 3, 0, 8, 0, 32, 120, 0, 256, 0, 1024, 0, 4096, 12288, 28672, 65280, 131064, 262143, 524287]
theorem laws_FnWatchDrop.tab9 : rtab .any (opsOf Try.f11 9) = laws_FnWatchDrop.T9 := by kernel_rfl
theorem laws_FnWatchDrop.bits9 : waitsOk laws_FnWatchDrop.T9.2 laws_FnWatchDrop.B9 = true := by kernel_rfl
set_option maxHeartbeats 8000000 in
set_option maxRecDepth 100000 in
theorem laws_FnWatchDrop.calls (k : Nat) (A0 : Option Addr) (c0 : Nat) (l0 : List Int) (A1 : Option Addr) (c1 : Nat) (l1 : List Int) (r : Bool) (w : World) (hr0 : Kd.C (Kd.int .u8) w A0 l0.length l0) (hc0 : l0.length ≤ c0) (hr1 : Kd.C (Kd.int .u8) w A1 l1.length l1) (hc1 : l1.length ≤ c1) (h : laws_FnWatchDrop.f k l0 l1 = some r) :
    Calls Try.prog 11 #[.slice A0 l0.length c0, .slice A1 l1.length c1] w fun e w' => e = .returned (.bool r) ∧ Below w.heap.size w w' := by
 have hu27 := Try.underlying27
 have HR0 := Ae_q hr0
 have HC0 := Ae_q hc0
 clear hr0 hc0
 have HR1 := Ae_q hr1
 have HC1 := Ae_q hc1
 clear hr1 hc1
 have HB := Ae_q (bR_q w.heap.size w)
 have H : (if (l0.length : Int) > 1048576 then (laws_FnWatchDrop.j0 k l0 l1 true) else (laws_FnWatchDrop.j0 k l0 l1 (decide ((l1.length : Int) > 1048576)))) = some r := h
 clear h
 have HC3 := Ae_q H
 clear H
 go_enter Try.func11, Try.ntmps11
 go_upto_region 1 with (fail)
 go_cut [18] (fun v18 wc => ∃ (kq : Nat) (x18_2 : Bool), v18 = .bool x18_2 ∧ Aside0 (laws_FnWatchDrop.j0 kq l0 l1 x18_2 = some r) ∧ Aside0 (kq ≤ k) ∧ Aside0 (Below w.heap.size w wc))
 case first =>
  have H := HC3.out
  clear HC3
  by_cases c4 : (l0.length : Int) > 1048576
  ·rw [if_pos c4] at H
   have c4b0 : decide (1048576 < (l0.length : Int)) = true := dT_q c4
   have c4b1 : decide (1048576 < l0.length) = true := dT_q (by omega)
   clear c4
   (first | rw [c4b0] | (simp only [i64_w, i32_w]; rw [c4b0]) | skip)
   have H' := Ae_q H
   clear H
   go_wp2
   go_meet
   case rel => exact ⟨_, (true), (by first | rfl | (simp; done) | (simp [*]; done)), H', ⟨by first | omega | exact nR_q _⟩, ⟨bel HB.out⟩⟩
  rw [if_neg c4] at H
  have c4b0 : decide (1048576 < (l0.length : Int)) = false := dF_q c4
  have c4b1 : decide (1048576 < l0.length) = false := dF_q (by omega)
  clear c4
  (first | rw [c4b0] | (simp only [i64_w, i32_w]; rw [c4b0]) | skip)
  have H' := Ae_q H
  clear H
  go_wp2
  go_meet
  case rel => exact ⟨_, (decide ((l1.length : Int) > 1048576)), (by first | rfl | (simp; done) | (simp [*]; done)), H', ⟨by first | omega | exact nR_q _⟩, ⟨bel HB.out⟩⟩
 case rest =>
  clear HC3
  try clear c1
  try clear p2
  try clear c4
  try clear c4b0
  try clear c4b1
  obtain ⟨kq, x18_2, rfl, HA, HJ2, HB⟩ := hcut
  cases kq with
  | zero => exact absurd HA.out (by simp [laws_FnWatchDrop.j0])
  | succ kj2 =>
   have H := HA.out
   clear HA
   simp only [laws_FnWatchDrop.j0] at H
   by_cases c5 : x18_2 = true
   ·subst c5
    have H1 : (some true) = some r := by rw [if_pos rfl] at H; exact H
    clear H
    have H := H1
    clear H1
    obtain rfl := oI_q H
    go_wp2
    go_ret
    exact ⟨by first | rfl | (simp [eN_q, eS_q] <;> rfl) | (simp [*, eN_q, eS_q] <;> rfl), bel HB.out⟩
   replace c5 := fM_q.mpr c5
   subst c5
   have H1 : ((spec_DrawWatchWrong.f kj2 l0).bind fun bt638 => ((impl_WatchWrong.f kj2 bt638.1 bt638.2).bind fun t644 => ((spec_WatchWrong.f kj2 bt638.1 bt638.2).bind fun t647 => ((laws_sameInts.f kj2 t644 t647).bind fun t650 => (if t650 = true then ((spec_GuestsValid.f kj2 bt638.1).bind fun t651 => (if t651 = true then ((spec_EventsValid.f kj2 bt638.2).bind fun t652 => (if t652 = true then (if (bt638.2.length : Int) = 0 then (laws_FnWatchDrop.j1 kj2 l1 bt638.1 bt638.2 t644 t647 true) else (laws_FnWatchDrop.j1 kj2 l1 bt638.1 bt638.2 t644 t647 (decide ((bt638.2.length : Int) > 22)))) else (laws_FnWatchDrop.j1 kj2 l1 bt638.1 bt638.2 t644 t647 true))) else (laws_FnWatchDrop.j1 kj2 l1 bt638.1 bt638.2 t644 t647 true))) else (laws_FnWatchDrop.j1 kj2 l1 bt638.1 bt638.2 t644 t647 true)))))) = some r := by rw [if_neg (show ¬ (false = true) by decide)] at H; exact H
   clear H
   have H := H1
   clear H1
   replace H := oB_q.mp H
   obtain ⟨⟨t638, t639⟩, A60, H⟩ := H
   replace H : ((impl_WatchWrong.f kj2 t638 t639).bind fun t644 => ((spec_WatchWrong.f kj2 t638 t639).bind fun t647 => ((laws_sameInts.f kj2 t644 t647).bind fun t650 => (if t650 = true then ((spec_GuestsValid.f kj2 t638).bind fun t651 => (if t651 = true then ((spec_EventsValid.f kj2 t639).bind fun t652 => (if t652 = true then (if (t639.length : Int) = 0 then (laws_FnWatchDrop.j1 kj2 l1 t638 t639 t644 t647 true) else (laws_FnWatchDrop.j1 kj2 l1 t638 t639 t644 t647 (decide ((t639.length : Int) > 22)))) else (laws_FnWatchDrop.j1 kj2 l1 t638 t639 t644 t647 true))) else (laws_FnWatchDrop.j1 kj2 l1 t638 t639 t644 t647 true))) else (laws_FnWatchDrop.j1 kj2 l1 t638 t639 t644 t647 true))))) = some r := H
   have A6 := Ae_q A60
   clear A60
   replace H := oB_q.mp H
   obtain ⟨t644, A70, H⟩ := H
   replace H : ((spec_WatchWrong.f kj2 t638 t639).bind fun t647 => ((laws_sameInts.f kj2 t644 t647).bind fun t650 => (if t650 = true then ((spec_GuestsValid.f kj2 t638).bind fun t651 => (if t651 = true then ((spec_EventsValid.f kj2 t639).bind fun t652 => (if t652 = true then (if (t639.length : Int) = 0 then (laws_FnWatchDrop.j1 kj2 l1 t638 t639 t644 t647 true) else (laws_FnWatchDrop.j1 kj2 l1 t638 t639 t644 t647 (decide ((t639.length : Int) > 22)))) else (laws_FnWatchDrop.j1 kj2 l1 t638 t639 t644 t647 true))) else (laws_FnWatchDrop.j1 kj2 l1 t638 t639 t644 t647 true))) else (laws_FnWatchDrop.j1 kj2 l1 t638 t639 t644 t647 true)))) = some r := H
   have A7 := Ae_q A70
   clear A70
   replace H := oB_q.mp H
   obtain ⟨t647, A80, H⟩ := H
   replace H : ((laws_sameInts.f kj2 t644 t647).bind fun t650 => (if t650 = true then ((spec_GuestsValid.f kj2 t638).bind fun t651 => (if t651 = true then ((spec_EventsValid.f kj2 t639).bind fun t652 => (if t652 = true then (if (t639.length : Int) = 0 then (laws_FnWatchDrop.j1 kj2 l1 t638 t639 t644 t647 true) else (laws_FnWatchDrop.j1 kj2 l1 t638 t639 t644 t647 (decide ((t639.length : Int) > 22)))) else (laws_FnWatchDrop.j1 kj2 l1 t638 t639 t644 t647 true))) else (laws_FnWatchDrop.j1 kj2 l1 t638 t639 t644 t647 true))) else (laws_FnWatchDrop.j1 kj2 l1 t638 t639 t644 t647 true))) = some r := H
   have A8 := Ae_q A80
   clear A80
   have HC9 := Ae_q H
   clear H
   go_upto_region 6 with (first | ((with_reducible refine gC_q (f := 33) rfl ?_); refine gL_q (some 21) rfl rfl Try.func33 (by kernel_rfl) rfl #[.slice A0 l0.length c0] rfl (by (try simp only [lM_q, lC_q, lN_q]); first | done | rfl | (simp only [lD_q, lT_q]; rfl)) ?_; (with_reducible refine (spec_DrawWatchWrong.calls kj2 _ _ l0 t638 t639 _ ?side1 ?side2 A6.out).mono ?_); (case side1 => exact cup (cB_q HR0.out HB.out)); (case side2 => exact HC0.out); rintro e w10 ⟨v640, v642, rfl, ho0, ho1, hb⟩; refine ⟨_, rfl, ?_⟩; have n0_ := Ae_q (rL_q ho0 (bZ_q (bel HB.out))); have n1_ := Ae_q (rL_q ho1 (bZ_q (bel HB.out))); have n2_ := Ae_q (bT_q (bel HB.out) hb); clear HB; have HO641 := n0_; have HO643 := n1_; have HB := n2_; clear n0_ n1_ n2_; (try clear hb); (try clear hb2); (try clear hk); (try clear hi); (try clear ho0); (try clear ho1); obtain ⟨Ao11, co11, eo11⟩ := rS_q HO641.out; subst eo11; obtain ⟨Ao12, co12, eo12⟩ := rS_q HO643.out; subst eo12) | ((with_reducible refine gC_q (f := 34) rfl ?_); refine gL_q (some 26) rfl rfl Try.func34 (by kernel_rfl) rfl #[.slice Ao11 t638.length co11, .slice Ao12 t639.length co12] rfl (by (try simp only [lM_q, lC_q, lN_q]); first | done | rfl | (simp only [lD_q, lT_q]; rfl)) ?_; (with_reducible refine (impl_WatchWrong.calls kj2 _ _ t638 _ _ t639 t644 _ ?side1 ?side2 ?side3 ?side4 A7.out).mono ?_); (case side1 => exact cup (rR_q HO641.out).2.2); (case side2 => exact (rR_q HO641.out).2.1); (case side3 => exact cup (rR_q HO643.out).2.2); (case side4 => exact (rR_q HO643.out).2.1); rintro e w13 ⟨v645, rfl, ho0, hb⟩; refine ⟨_, rfl, ?_⟩; have n0_ := Ae_q (rO_q (rup HO641.out) hb); have n1_ := Ae_q (rO_q (rup HO643.out) hb); have n2_ := Ae_q (rL_q ho0 (bZ_q (bel HB.out))); have n3_ := Ae_q (bT_q (bel HB.out) hb); clear HO641; clear HO643; clear HB; have HO641 := n0_; have HO643 := n1_; have HO646 := n2_; have HB := n3_; clear n0_ n1_ n2_ n3_; (try clear hb); (try clear hb2); (try clear hk); (try clear hi); (try clear ho0)) | ((with_reducible refine gC_q (f := 35) rfl ?_); refine gL_q (some 29) rfl rfl Try.func35 (by kernel_rfl) rfl #[.slice Ao11 t638.length co11, .slice Ao12 t639.length co12] rfl (by (try simp only [lM_q, lC_q, lN_q]); first | done | rfl | (simp only [lD_q, lT_q]; rfl)) ?_; (with_reducible refine (spec_WatchWrong.calls kj2 _ _ t638 _ _ t639 t647 _ ?side1 ?side2 ?side3 ?side4 A8.out).mono ?_); (case side1 => exact cup (rR_q HO641.out).2.2); (case side2 => exact (rR_q HO641.out).2.1); (case side3 => exact cup (rR_q HO643.out).2.2); (case side4 => exact (rR_q HO643.out).2.1); rintro e w14 ⟨v648, rfl, ho0, hb⟩; refine ⟨_, rfl, ?_⟩; have n0_ := Ae_q (rO_q (rup HO641.out) hb); have n1_ := Ae_q (rO_q (rup HO643.out) hb); have n2_ := Ae_q (rE_q (rup HO646.out) (rB_q ho0) hb); have n3_ := Ae_q (rL_q (rW_q ho0 (rT_q (rup HO646.out))) (bZ_q (bel HB.out))); have n4_ := Ae_q (bT_q (bel HB.out) hb); clear HO641; clear HO643; clear HO646; clear HB; have HO641 := n0_; have HO643 := n1_; have HO646 := n2_; have HO649 := n3_; have HB := n4_; clear n0_ n1_ n2_ n3_ n4_; (try clear hb); (try clear hb2); (try clear hk); (try clear hi); (try clear ho0)))
   (try simp only [Act.put, sA_q, sZ_q, sS_q])
   go_cut [53] (fun v53 wc => ∃ (kq : Nat) (x53_8 : Bool), v53 = .bool x53_8 ∧ Aside0 (laws_FnWatchDrop.j1 kq l1 t638 t639 t644 t647 x53_8 = some r) ∧ Aside0 (kq ≤ kj2) ∧ Aside0 (Kd.R k50 50 wc w.heap.size (fun _ => True) (.slice Ao11 t638.length co11) t638) ∧ Aside0 (Kd.R k27 27 wc w.heap.size (fun _ => True) (.slice Ao12 t639.length co12) t639) ∧ Aside0 (Kd.R kI_q 3 wc w.heap.size (fun k_ => some k_ ≠ (v648 : Value).ownBlock) v645 t644) ∧ Aside0 (Kd.R kI_q 3 wc w.heap.size (fun k_ => some k_ ≠ (v645 : Value).ownBlock) v648 t647) ∧ Aside0 (Below w.heap.size w wc))
   case first =>
    have H := HC9.out
    clear HC9
    replace H := oB_q.mp H
    obtain ⟨t650, A150, H⟩ := H
    replace H : (if t650 = true then ((spec_GuestsValid.f kj2 t638).bind fun t651 => (if t651 = true then ((spec_EventsValid.f kj2 t639).bind fun t652 => (if t652 = true then (if (t639.length : Int) = 0 then (laws_FnWatchDrop.j1 kj2 l1 t638 t639 t644 t647 true) else (laws_FnWatchDrop.j1 kj2 l1 t638 t639 t644 t647 (decide ((t639.length : Int) > 22)))) else (laws_FnWatchDrop.j1 kj2 l1 t638 t639 t644 t647 true))) else (laws_FnWatchDrop.j1 kj2 l1 t638 t639 t644 t647 true))) else (laws_FnWatchDrop.j1 kj2 l1 t638 t639 t644 t647 true)) = some r := H
    have A15 := Ae_q A150
    clear A150
    by_cases c16 : t650 = true
    rotate_left
    ·replace c16 := fM_q.mpr c16
     subst c16
     have H1 : (laws_FnWatchDrop.j1 kj2 l1 t638 t639 t644 t647 true) = some r := by rw [if_neg (show ¬ (false = true) by decide)] at H; exact H
     clear H
     have H := H1
     clear H1
     have H' := Ae_q H
     clear H
     obtain ⟨Ao37, co37, eo37⟩ := rS_q HO646.out
     subst eo37
     obtain ⟨Ao38, co38, eo38⟩ := rS_q HO649.out
     subst eo38
     go_wp2_with (first | ((with_reducible refine gC_q (f := 24) rfl ?_); refine gL_q (some 32) rfl rfl Try.func24 (by kernel_rfl) rfl #[.slice Ao37 t644.length co37, .slice Ao38 t647.length co38] rfl (by (try simp only [lM_q, lC_q, lN_q]); first | done | rfl | (simp only [lD_q, lT_q]; rfl)) ?_; (with_reducible refine (laws_sameInts.calls kj2 _ _ t644 _ _ t647 false _ ?side1 ?side2 ?side3 ?side4 A15.out).mono ?_); (case side1 => exact cup (rR_q HO646.out).2.2); (case side2 => exact (rR_q HO646.out).2.1); (case side3 => exact cup (rR_q HO649.out).2.2); (case side4 => exact (rR_q HO649.out).2.1); rintro e w' ⟨rfl, ⟨nd, rfl⟩⟩; refine ⟨_, rfl, ?_⟩))
     go_meet
     case rel => exact ⟨_, (true), (by first | rfl | (simp; done) | (simp [*]; done)), H', ⟨by have := HJ2.out; first | omega | exact nR_q _⟩, ⟨by (with_reducible repeat (first | apply rA_q | apply rN_q | apply rD_q)); exact HO641.out⟩, ⟨by (with_reducible repeat (first | apply rA_q | apply rN_q | apply rD_q)); exact HO643.out⟩, ⟨by (with_reducible repeat (first | apply rA_q | apply rN_q | apply rD_q)); exact rM_q HO646.out (fun _ hk => hk.2)⟩, ⟨by (with_reducible repeat (first | apply rA_q | apply rN_q | apply rD_q)); exact rM_q HO649.out (fun _ hk => hk.2)⟩, ⟨bel HB.out⟩⟩
    subst c16
    have H1 : ((spec_GuestsValid.f kj2 t638).bind fun t651 => (if t651 = true then ((spec_EventsValid.f kj2 t639).bind fun t652 => (if t652 = true then (if (t639.length : Int) = 0 then (laws_FnWatchDrop.j1 kj2 l1 t638 t639 t644 t647 true) else (laws_FnWatchDrop.j1 kj2 l1 t638 t639 t644 t647 (decide ((t639.length : Int) > 22)))) else (laws_FnWatchDrop.j1 kj2 l1 t638 t639 t644 t647 true))) else (laws_FnWatchDrop.j1 kj2 l1 t638 t639 t644 t647 true))) = some r := by rw [if_pos rfl] at H; exact H
    clear H
    have H := H1
    clear H1
    replace H := oB_q.mp H
    obtain ⟨t651, A170, H⟩ := H
    replace H : (if t651 = true then ((spec_EventsValid.f kj2 t639).bind fun t652 => (if t652 = true then (if (t639.length : Int) = 0 then (laws_FnWatchDrop.j1 kj2 l1 t638 t639 t644 t647 true) else (laws_FnWatchDrop.j1 kj2 l1 t638 t639 t644 t647 (decide ((t639.length : Int) > 22)))) else (laws_FnWatchDrop.j1 kj2 l1 t638 t639 t644 t647 true))) else (laws_FnWatchDrop.j1 kj2 l1 t638 t639 t644 t647 true)) = some r := H
    have A17 := Ae_q A170
    clear A170
    by_cases c18 : t651 = true
    rotate_left
    ·replace c18 := fM_q.mpr c18
     subst c18
     have H1 : (laws_FnWatchDrop.j1 kj2 l1 t638 t639 t644 t647 true) = some r := by rw [if_neg (show ¬ (false = true) by decide)] at H; exact H
     clear H
     have H := H1
     clear H1
     have H' := Ae_q H
     clear H
     obtain ⟨Ao34, co34, eo34⟩ := rS_q HO646.out
     subst eo34
     obtain ⟨Ao35, co35, eo35⟩ := rS_q HO649.out
     subst eo35
     go_wp2_with (first | ((with_reducible refine gC_q (f := 24) rfl ?_); refine gL_q (some 32) rfl rfl Try.func24 (by kernel_rfl) rfl #[.slice Ao34 t644.length co34, .slice Ao35 t647.length co35] rfl (by (try simp only [lM_q, lC_q, lN_q]); first | done | rfl | (simp only [lD_q, lT_q]; rfl)) ?_; (with_reducible refine (laws_sameInts.calls kj2 _ _ t644 _ _ t647 true _ ?side1 ?side2 ?side3 ?side4 A15.out).mono ?_); (case side1 => exact cup (rR_q HO646.out).2.2); (case side2 => exact (rR_q HO646.out).2.1); (case side3 => exact cup (rR_q HO649.out).2.2); (case side4 => exact (rR_q HO649.out).2.1); rintro e w' ⟨rfl, ⟨nd, rfl⟩⟩; refine ⟨_, rfl, ?_⟩) | (go_at_call 36; (with_reducible refine (spec_GuestsValid.calls kj2 _ _ t638 false _ ?side1 ?side2 A17.out).mono ?_); (case side1 => exact cup (rR_q HO641.out).2.2); (case side2 => exact (rR_q HO641.out).2.1); rintro e w36 ⟨rfl, hb⟩; have n0_ := Ae_q (rO_q (rup HO641.out) hb); have n1_ := Ae_q (rO_q (rup HO643.out) hb); have n2_ := Ae_q (rO_q (rup HO646.out) hb); have n3_ := Ae_q (rO_q (rup HO649.out) hb); have n4_ := Ae_q (bT_q (bel HB.out) hb); clear HO641; clear HO643; clear HO646; clear HO649; clear HB; have HO641 := n0_; have HO643 := n1_; have HO646 := n2_; have HO649 := n3_; have HB := n4_; clear n0_ n1_ n2_ n3_ n4_; (try clear hb); (try clear hb2); (try clear hk); (try clear hi)))
     go_meet
     case rel => exact ⟨_, (true), (by first | rfl | (simp; done) | (simp [*]; done)), H', ⟨by have := HJ2.out; first | omega | exact nR_q _⟩, ⟨by (with_reducible repeat (first | apply rA_q | apply rN_q | apply rD_q)); exact HO641.out⟩, ⟨by (with_reducible repeat (first | apply rA_q | apply rN_q | apply rD_q)); exact HO643.out⟩, ⟨by (with_reducible repeat (first | apply rA_q | apply rN_q | apply rD_q)); exact rM_q HO646.out (fun _ hk => hk.2)⟩, ⟨by (with_reducible repeat (first | apply rA_q | apply rN_q | apply rD_q)); exact rM_q HO649.out (fun _ hk => hk.2)⟩, ⟨bel HB.out⟩⟩
    subst c18
    have H1 : ((spec_EventsValid.f kj2 t639).bind fun t652 => (if t652 = true then (if (t639.length : Int) = 0 then (laws_FnWatchDrop.j1 kj2 l1 t638 t639 t644 t647 true) else (laws_FnWatchDrop.j1 kj2 l1 t638 t639 t644 t647 (decide ((t639.length : Int) > 22)))) else (laws_FnWatchDrop.j1 kj2 l1 t638 t639 t644 t647 true))) = some r := by rw [if_pos rfl] at H; exact H
    clear H
    have H := H1
    clear H1
    replace H := oB_q.mp H
    obtain ⟨t652, A190, H⟩ := H
    replace H : (if t652 = true then (if (t639.length : Int) = 0 then (laws_FnWatchDrop.j1 kj2 l1 t638 t639 t644 t647 true) else (laws_FnWatchDrop.j1 kj2 l1 t638 t639 t644 t647 (decide ((t639.length : Int) > 22)))) else (laws_FnWatchDrop.j1 kj2 l1 t638 t639 t644 t647 true)) = some r := H
    have A19 := Ae_q A190
    clear A190
    by_cases c20 : t652 = true
    rotate_left
    ·replace c20 := fM_q.mpr c20
     subst c20
     have H1 : (laws_FnWatchDrop.j1 kj2 l1 t638 t639 t644 t647 true) = some r := by rw [if_neg (show ¬ (false = true) by decide)] at H; exact H
     clear H
     have H := H1
     clear H1
     have H' := Ae_q H
     clear H
     obtain ⟨Ao30, co30, eo30⟩ := rS_q HO646.out
     subst eo30
     obtain ⟨Ao31, co31, eo31⟩ := rS_q HO649.out
     subst eo31
     go_wp2_with (first | ((with_reducible refine gC_q (f := 24) rfl ?_); refine gL_q (some 32) rfl rfl Try.func24 (by kernel_rfl) rfl #[.slice Ao30 t644.length co30, .slice Ao31 t647.length co31] rfl (by (try simp only [lM_q, lC_q, lN_q]); first | done | rfl | (simp only [lD_q, lT_q]; rfl)) ?_; (with_reducible refine (laws_sameInts.calls kj2 _ _ t644 _ _ t647 true _ ?side1 ?side2 ?side3 ?side4 A15.out).mono ?_); (case side1 => exact cup (rR_q HO646.out).2.2); (case side2 => exact (rR_q HO646.out).2.1); (case side3 => exact cup (rR_q HO649.out).2.2); (case side4 => exact (rR_q HO649.out).2.1); rintro e w' ⟨rfl, ⟨nd, rfl⟩⟩; refine ⟨_, rfl, ?_⟩) | (go_at_call 36; (with_reducible refine (spec_GuestsValid.calls kj2 _ _ t638 true _ ?side1 ?side2 A17.out).mono ?_); (case side1 => exact cup (rR_q HO641.out).2.2); (case side2 => exact (rR_q HO641.out).2.1); rintro e w32 ⟨rfl, hb⟩; have n0_ := Ae_q (rO_q (rup HO641.out) hb); have n1_ := Ae_q (rO_q (rup HO643.out) hb); have n2_ := Ae_q (rO_q (rup HO646.out) hb); have n3_ := Ae_q (rO_q (rup HO649.out) hb); have n4_ := Ae_q (bT_q (bel HB.out) hb); clear HO641; clear HO643; clear HO646; clear HO649; clear HB; have HO641 := n0_; have HO643 := n1_; have HO646 := n2_; have HO649 := n3_; have HB := n4_; clear n0_ n1_ n2_ n3_ n4_; (try clear hb); (try clear hb2); (try clear hk); (try clear hi)) | (go_at_call 17; (with_reducible refine (spec_EventsValid.calls kj2 _ _ t639 false _ ?side1 ?side2 A19.out).mono ?_); (case side1 => exact cup (rR_q HO643.out).2.2); (case side2 => exact (rR_q HO643.out).2.1); rintro e w33 ⟨rfl, hb⟩; have n0_ := Ae_q (rO_q (rup HO641.out) hb); have n1_ := Ae_q (rO_q (rup HO643.out) hb); have n2_ := Ae_q (rO_q (rup HO646.out) hb); have n3_ := Ae_q (rO_q (rup HO649.out) hb); have n4_ := Ae_q (bT_q (bel HB.out) hb); clear HO641; clear HO643; clear HO646; clear HO649; clear HB; have HO641 := n0_; have HO643 := n1_; have HO646 := n2_; have HO649 := n3_; have HB := n4_; clear n0_ n1_ n2_ n3_ n4_; (try clear hb); (try clear hb2); (try clear hk); (try clear hi)))
     go_meet
     case rel => exact ⟨_, (true), (by first | rfl | (simp; done) | (simp [*]; done)), H', ⟨by have := HJ2.out; first | omega | exact nR_q _⟩, ⟨by (with_reducible repeat (first | apply rA_q | apply rN_q | apply rD_q)); exact HO641.out⟩, ⟨by (with_reducible repeat (first | apply rA_q | apply rN_q | apply rD_q)); exact HO643.out⟩, ⟨by (with_reducible repeat (first | apply rA_q | apply rN_q | apply rD_q)); exact rM_q HO646.out (fun _ hk => hk.2)⟩, ⟨by (with_reducible repeat (first | apply rA_q | apply rN_q | apply rD_q)); exact rM_q HO649.out (fun _ hk => hk.2)⟩, ⟨bel HB.out⟩⟩
    subst c20
    have H1 : (if (t639.length : Int) = 0 then (laws_FnWatchDrop.j1 kj2 l1 t638 t639 t644 t647 true) else (laws_FnWatchDrop.j1 kj2 l1 t638 t639 t644 t647 (decide ((t639.length : Int) > 22)))) = some r := by rw [if_pos rfl] at H; exact H
    clear H
    have H := H1
    clear H1
    by_cases c21 : (t639.length : Int) = 0
    ·rw [if_pos c21] at H
     have c21b0 : ((t639.length : Int) == 0) = true := beq_iff_eq.mpr c21
     have c21b1 : ((t639.length : Int) != 0) = false := nE_q.mpr c21
     clear c21
     (first | rw [c21b0] | (simp only [i64_w, i32_w]; rw [c21b0]) | skip)
     have H' := Ae_q H
     clear H
     obtain ⟨Ao22, co22, eo22⟩ := rS_q HO646.out
     subst eo22
     obtain ⟨Ao23, co23, eo23⟩ := rS_q HO649.out
     subst eo23
     go_wp2_with (first | ((with_reducible refine gC_q (f := 24) rfl ?_); refine gL_q (some 32) rfl rfl Try.func24 (by kernel_rfl) rfl #[.slice Ao22 t644.length co22, .slice Ao23 t647.length co23] rfl (by (try simp only [lM_q, lC_q, lN_q]); first | done | rfl | (simp only [lD_q, lT_q]; rfl)) ?_; (with_reducible refine (laws_sameInts.calls kj2 _ _ t644 _ _ t647 true _ ?side1 ?side2 ?side3 ?side4 A15.out).mono ?_); (case side1 => exact cup (rR_q HO646.out).2.2); (case side2 => exact (rR_q HO646.out).2.1); (case side3 => exact cup (rR_q HO649.out).2.2); (case side4 => exact (rR_q HO649.out).2.1); rintro e w' ⟨rfl, ⟨nd, rfl⟩⟩; refine ⟨_, rfl, ?_⟩) | (go_at_call 36; (with_reducible refine (spec_GuestsValid.calls kj2 _ _ t638 true _ ?side1 ?side2 A17.out).mono ?_); (case side1 => exact cup (rR_q HO641.out).2.2); (case side2 => exact (rR_q HO641.out).2.1); rintro e w24 ⟨rfl, hb⟩; have n0_ := Ae_q (rO_q (rup HO641.out) hb); have n1_ := Ae_q (rO_q (rup HO643.out) hb); have n2_ := Ae_q (rO_q (rup HO646.out) hb); have n3_ := Ae_q (rO_q (rup HO649.out) hb); have n4_ := Ae_q (bT_q (bel HB.out) hb); clear HO641; clear HO643; clear HO646; clear HO649; clear HB; have HO641 := n0_; have HO643 := n1_; have HO646 := n2_; have HO649 := n3_; have HB := n4_; clear n0_ n1_ n2_ n3_ n4_; (try clear hb); (try clear hb2); (try clear hk); (try clear hi)) | (go_at_call 17; (with_reducible refine (spec_EventsValid.calls kj2 _ _ t639 true _ ?side1 ?side2 A19.out).mono ?_); (case side1 => exact cup (rR_q HO643.out).2.2); (case side2 => exact (rR_q HO643.out).2.1); rintro e w25 ⟨rfl, hb⟩; have n0_ := Ae_q (rO_q (rup HO641.out) hb); have n1_ := Ae_q (rO_q (rup HO643.out) hb); have n2_ := Ae_q (rO_q (rup HO646.out) hb); have n3_ := Ae_q (rO_q (rup HO649.out) hb); have n4_ := Ae_q (bT_q (bel HB.out) hb); clear HO641; clear HO643; clear HO646; clear HO649; clear HB; have HO641 := n0_; have HO643 := n1_; have HO646 := n2_; have HO649 := n3_; have HB := n4_; clear n0_ n1_ n2_ n3_ n4_; (try clear hb); (try clear hb2); (try clear hk); (try clear hi)))
     go_meet
     case rel => exact ⟨_, (true), (by first | rfl | (simp; done) | (simp [*]; done)), H', ⟨by have := HJ2.out; first | omega | exact nR_q _⟩, ⟨by (with_reducible repeat (first | apply rA_q | apply rN_q | apply rD_q)); exact HO641.out⟩, ⟨by (with_reducible repeat (first | apply rA_q | apply rN_q | apply rD_q)); exact HO643.out⟩, ⟨by (with_reducible repeat (first | apply rA_q | apply rN_q | apply rD_q)); exact rM_q HO646.out (fun _ hk => hk.2)⟩, ⟨by (with_reducible repeat (first | apply rA_q | apply rN_q | apply rD_q)); exact rM_q HO649.out (fun _ hk => hk.2)⟩, ⟨bel HB.out⟩⟩
    rw [if_neg c21] at H
    have c21b0 : ((t639.length : Int) == 0) = false := fN_q.mpr c21
    have c21b1 : ((t639.length : Int) != 0) = true := nI_q.mpr c21
    have c21b2 : ¬ (t639 = []) := fun h_ => c21 (by rw [h_]; rfl)
    (first | rw [c21b0] | (simp only [i64_w, i32_w]; rw [c21b0]) | skip)
    have H' := Ae_q H
    clear H
    obtain ⟨Ao26, co26, eo26⟩ := rS_q HO646.out
    subst eo26
    obtain ⟨Ao27, co27, eo27⟩ := rS_q HO649.out
    subst eo27
    go_wp2_with (first | ((with_reducible refine gC_q (f := 24) rfl ?_); refine gL_q (some 32) rfl rfl Try.func24 (by kernel_rfl) rfl #[.slice Ao26 t644.length co26, .slice Ao27 t647.length co27] rfl (by (try simp only [lM_q, lC_q, lN_q]); first | done | rfl | (simp only [lD_q, lT_q]; rfl)) ?_; (with_reducible refine (laws_sameInts.calls kj2 _ _ t644 _ _ t647 true _ ?side1 ?side2 ?side3 ?side4 A15.out).mono ?_); (case side1 => exact cup (rR_q HO646.out).2.2); (case side2 => exact (rR_q HO646.out).2.1); (case side3 => exact cup (rR_q HO649.out).2.2); (case side4 => exact (rR_q HO649.out).2.1); rintro e w' ⟨rfl, ⟨nd, rfl⟩⟩; refine ⟨_, rfl, ?_⟩) | (go_at_call 36; (with_reducible refine (spec_GuestsValid.calls kj2 _ _ t638 true _ ?side1 ?side2 A17.out).mono ?_); (case side1 => exact cup (rR_q HO641.out).2.2); (case side2 => exact (rR_q HO641.out).2.1); rintro e w28 ⟨rfl, hb⟩; have n0_ := Ae_q (rO_q (rup HO641.out) hb); have n1_ := Ae_q (rO_q (rup HO643.out) hb); have n2_ := Ae_q (rO_q (rup HO646.out) hb); have n3_ := Ae_q (rO_q (rup HO649.out) hb); have n4_ := Ae_q (bT_q (bel HB.out) hb); clear HO641; clear HO643; clear HO646; clear HO649; clear HB; have HO641 := n0_; have HO643 := n1_; have HO646 := n2_; have HO649 := n3_; have HB := n4_; clear n0_ n1_ n2_ n3_ n4_; (try clear hb); (try clear hb2); (try clear hk); (try clear hi)) | (go_at_call 17; (with_reducible refine (spec_EventsValid.calls kj2 _ _ t639 true _ ?side1 ?side2 A19.out).mono ?_); (case side1 => exact cup (rR_q HO643.out).2.2); (case side2 => exact (rR_q HO643.out).2.1); rintro e w29 ⟨rfl, hb⟩; have n0_ := Ae_q (rO_q (rup HO641.out) hb); have n1_ := Ae_q (rO_q (rup HO643.out) hb); have n2_ := Ae_q (rO_q (rup HO646.out) hb); have n3_ := Ae_q (rO_q (rup HO649.out) hb); have n4_ := Ae_q (bT_q (bel HB.out) hb); clear HO641; clear HO643; clear HO646; clear HO649; clear HB; have HO641 := n0_; have HO643 := n1_; have HO646 := n2_; have HO649 := n3_; have HB := n4_; clear n0_ n1_ n2_ n3_ n4_; (try clear hb); (try clear hb2); (try clear hk); (try clear hi)))
    go_meet
    case rel => exact ⟨_, (decide ((t639.length : Int) > 22)), (by first | rfl | (simp; done) | (simp [*]; done)), H', ⟨by have := HJ2.out; first | omega | exact nR_q _⟩, ⟨by (with_reducible repeat (first | apply rA_q | apply rN_q | apply rD_q)); exact HO641.out⟩, ⟨by (with_reducible repeat (first | apply rA_q | apply rN_q | apply rD_q)); exact HO643.out⟩, ⟨by (with_reducible repeat (first | apply rA_q | apply rN_q | apply rD_q)); exact rM_q HO646.out (fun _ hk => hk.2)⟩, ⟨by (with_reducible repeat (first | apply rA_q | apply rN_q | apply rD_q)); exact rM_q HO649.out (fun _ hk => hk.2)⟩, ⟨bel HB.out⟩⟩
   case rest =>
    clear HC9
    try clear c1
    try clear c2
    try clear p2
    try clear c3
    try clear c4
    try clear c4b0
    try clear c4b1
    try clear c5
    try clear c11
    try clear c16
    try clear c18
    try clear c20
    try clear c21
    try clear c21b0
    try clear c21b1
    try clear c21b2
    try clear c24
    try clear c33
    try clear c34
    try clear c35
    try clear p2
    obtain ⟨kq, x53_8, rfl, HA, HJ8, HO_5, HO_6, HO_7, HO_8, HB⟩ := hcut
    cases kq with
    | zero => exact absurd HA.out (by simp [laws_FnWatchDrop.j1])
    | succ kj8 =>
     have H := HA.out
     clear HA
     simp only [laws_FnWatchDrop.j1] at H
     by_cases c39 : x53_8 = true
     ·subst c39
      have H1 : ((laws_sameInts.f kj8 t644 t647).bind fun t653 => (some t653)) = some r := by rw [if_pos rfl] at H; exact H
      clear H
      have H := H1
      clear H1
      replace H := oB_q.mp H
      obtain ⟨t653, A400, H⟩ := H
      replace H : (some t653) = some r := H
      have A40 := Ae_q A400
      clear A400
      obtain rfl := oI_q H
      obtain ⟨Ao41, co41, eo41⟩ := rS_q HO_7.out
      subst eo41
      obtain ⟨Ao42, co42, eo42⟩ := rS_q HO_8.out
      subst eo42
      go_wp2_with (first | ((with_reducible refine gC_q (f := 24) rfl ?_); refine gL_q (some 56) rfl rfl Try.func24 (by kernel_rfl) rfl #[.slice Ao41 t644.length co41, .slice Ao42 t647.length co42] rfl (by (try simp only [lM_q, lC_q, lN_q]); first | done | rfl | (simp only [lD_q, lT_q]; rfl)) ?_; (with_reducible refine (laws_sameInts.calls kj8 _ _ t644 _ _ t647 t653 _ ?side1 ?side2 ?side3 ?side4 A40.out).mono ?_); (case side1 => exact cup (rR_q HO_7.out).2.2); (case side2 => exact (rR_q HO_7.out).2.1); (case side3 => exact cup (rR_q HO_8.out).2.2); (case side4 => exact (rR_q HO_8.out).2.1); rintro e w' ⟨rfl, ⟨nd, rfl⟩⟩; refine ⟨_, rfl, ?_⟩))
      go_ret
      exact ⟨by first | rfl | (simp [eN_q, eS_q] <;> rfl) | (simp [*, eN_q, eS_q] <;> rfl), bel HB.out⟩
     replace c39 := fM_q.mpr c39
     subst c39
     have H1 : (if 0 ≤ (wrap64 ((t639.length : Int) - 1)) then (if (wrap64 ((t639.length : Int) - 1)) < (t639.length : Int) then ((some (([] : List (S27)) : List (S27))).bind fun y656 => (if y656.length + t639.length < 2932031007402 then ((some (y656 ++ t639 : List (S27))).bind fun y659 => ((some (([(⟨3, (rd_T27 t639 (wrap64 ((t639.length : Int) - 1))).f1, (rd_T27 t639 (wrap64 ((t639.length : Int) - 1))).f2, 0, 0, 0⟩ : S27), (⟨2, (rd_T27 t639 (wrap64 ((t639.length : Int) - 1))).f1, (rd_T27 t639 (wrap64 ((t639.length : Int) - 1))).f2, 1 + ((l1.length : Int) % 9), 0, 0⟩ : S27)] : List (S27)) : List (S27))).bind fun y662 => (if y659.length + y662.length < 2932031007402 then ((some (y659 ++ y662 : List (S27))).bind fun y665 => ((impl_WatchWrong.f kj8 t638 y665).bind fun t668 => ((laws_hasInt.f kj8 t668 (wrap64 ((y665.length : Int) - 1))).bind fun t671 => (some t671)))) else (none)))) else (none))) else (none)) else (none)) = some r := by rw [if_neg (show ¬ (false = true) by decide)] at H; exact H
     clear H
     have H := H1
     clear H1
     obtain ⟨ji43, hji43⟩ : ∃ j_ : Int, (wrap64 ((t639.length : Int) - 1)) = j_ := ⟨_, rfl⟩
     replace H : (if 0 ≤ (ji43) then (if (ji43) < (t639.length : Int) then ((some (([] : List (S27)) : List (S27))).bind fun y656 => (if y656.length + t639.length < 2932031007402 then ((some (y656 ++ t639 : List (S27))).bind fun y659 => ((some (([(⟨3, (rd_T27 t639 (ji43)).f1, (rd_T27 t639 (ji43)).f2, 0, 0, 0⟩ : S27), (⟨2, (rd_T27 t639 (ji43)).f1, (rd_T27 t639 (ji43)).f2, 1 + ((l1.length : Int) % 9), 0, 0⟩ : S27)] : List (S27)) : List (S27))).bind fun y662 => (if y659.length + y662.length < 2932031007402 then ((some (y659 ++ y662 : List (S27))).bind fun y665 => ((impl_WatchWrong.f kj8 t638 y665).bind fun t668 => ((laws_hasInt.f kj8 t668 (wrap64 ((y665.length : Int) - 1))).bind fun t671 => (some t671)))) else (none)))) else (none))) else (none)) else (none)) = some r := by first | (rw [hji43] at H; exact H) | (simp only [hji43] at H ⊢; exact H)
     have hji43w : (IntKind.i64.wrap ((t639.length : Int) - 1)) = ji43 := (i64_w _).trans hji43
     by_cases c44 : 0 ≤ (ji43)
     rotate_left
     ·rw [if_neg c44] at H
      exact absurd H (by simp)
     rw [if_pos c44] at H
     have c44b0 : decide (0 ≤ (ji43)) = true := dT_q c44
     clear c44
     by_cases c45 : (ji43) < (t639.length : Int)
     rotate_left
     ·rw [if_neg c45] at H
      exact absurd H (by simp)
     rw [if_pos c45] at H
     have c45b0 : decide ((ji43) < (t639.length : Int)) = true := dT_q c45
     clear c45
     obtain ⟨y656, hy656⟩ : ∃ y_ : List (S27), y_ = (([] : List (S27))) := ⟨_, rfl⟩
     replace H : (if y656.length + t639.length < 2932031007402 then ((some (y656 ++ t639 : List (S27))).bind fun y659 => ((some (([(⟨3, (rd_T27 t639 (ji43)).f1, (rd_T27 t639 (ji43)).f2, 0, 0, 0⟩ : S27), (⟨2, (rd_T27 t639 (ji43)).f1, (rd_T27 t639 (ji43)).f2, 1 + ((l1.length : Int) % 9), 0, 0⟩ : S27)] : List (S27)) : List (S27))).bind fun y662 => (if y659.length + y662.length < 2932031007402 then ((some (y659 ++ y662 : List (S27))).bind fun y665 => ((impl_WatchWrong.f kj8 t638 y665).bind fun t668 => ((laws_hasInt.f kj8 t668 (wrap64 ((y665.length : Int) - 1))).bind fun t671 => (some t671)))) else (none)))) else (none)) = some r := by first | (rw [hy656]; with_reducible exact H) | (have H2_ := (oS_q _ _).symm.trans H; rw [hy656]; with_reducible exact H2_) | (have H2_ := (oS_q _ _).symm.trans H; with_reducible exact H2_) | with_reducible exact H | (rw [hy656]; exact H) | exact H
     have Ny656 := Ae_q hy656
     clear hy656
     by_cases c46 : y656.length + t639.length < 2932031007402
     rotate_left
     ·rw [if_neg c46] at H
      exact absurd H (by simp)
     rw [if_pos c46] at H
     have LMc46 := Ae_q c46
     clear c46
     obtain ⟨y659, hy659⟩ : ∃ y_ : List (S27), y_ = (y656 ++ t639) := ⟨_, rfl⟩
     replace H : ((some (([(⟨3, (rd_T27 t639 (ji43)).f1, (rd_T27 t639 (ji43)).f2, 0, 0, 0⟩ : S27), (⟨2, (rd_T27 t639 (ji43)).f1, (rd_T27 t639 (ji43)).f2, 1 + ((l1.length : Int) % 9), 0, 0⟩ : S27)] : List (S27)) : List (S27))).bind fun y662 => (if y659.length + y662.length < 2932031007402 then ((some (y659 ++ y662 : List (S27))).bind fun y665 => ((impl_WatchWrong.f kj8 t638 y665).bind fun t668 => ((laws_hasInt.f kj8 t668 (wrap64 ((y665.length : Int) - 1))).bind fun t671 => (some t671)))) else (none))) = some r := by first | (rw [hy659]; with_reducible exact H) | (have H2_ := (oS_q _ _).symm.trans H; rw [hy659]; with_reducible exact H2_) | (have H2_ := (oS_q _ _).symm.trans H; with_reducible exact H2_) | with_reducible exact H | (rw [hy659]; exact H) | exact H
     have Ny659 := Ae_q hy659
     clear hy659
     obtain ⟨y662, hy662⟩ : ∃ y_ : List (S27), y_ = (([(⟨3, (rd_T27 t639 (ji43)).f1, (rd_T27 t639 (ji43)).f2, 0, 0, 0⟩ : S27), (⟨2, (rd_T27 t639 (ji43)).f1, (rd_T27 t639 (ji43)).f2, 1 + ((l1.length : Int) % 9), 0, 0⟩ : S27)] : List (S27))) := ⟨_, rfl⟩
     replace H : (if y659.length + y662.length < 2932031007402 then ((some (y659 ++ y662 : List (S27))).bind fun y665 => ((impl_WatchWrong.f kj8 t638 y665).bind fun t668 => ((laws_hasInt.f kj8 t668 (wrap64 ((y665.length : Int) - 1))).bind fun t671 => (some t671)))) else (none)) = some r := by first | (rw [hy662]; with_reducible exact H) | (have H2_ := (oS_q _ _).symm.trans H; rw [hy662]; with_reducible exact H2_) | (have H2_ := (oS_q _ _).symm.trans H; with_reducible exact H2_) | with_reducible exact H | (rw [hy662]; exact H) | exact H
     have Ny662 := Ae_q hy662
     clear hy662
     by_cases c47 : y659.length + y662.length < 2932031007402
     rotate_left
     ·rw [if_neg c47] at H
      exact absurd H (by simp)
     rw [if_pos c47] at H
     have LMc47 := Ae_q c47
     clear c47
     obtain ⟨y665, hy665⟩ : ∃ y_ : List (S27), y_ = (y659 ++ y662) := ⟨_, rfl⟩
     replace H : ((impl_WatchWrong.f kj8 t638 y665).bind fun t668 => ((laws_hasInt.f kj8 t668 (wrap64 ((y665.length : Int) - 1))).bind fun t671 => (some t671))) = some r := by first | (rw [hy665]; with_reducible exact H) | (have H2_ := (oS_q _ _).symm.trans H; rw [hy665]; with_reducible exact H2_) | (have H2_ := (oS_q _ _).symm.trans H; with_reducible exact H2_) | with_reducible exact H | (rw [hy665]; exact H) | exact H
     have Ny665 := Ae_q hy665
     clear hy665
     replace H := oB_q.mp H
     obtain ⟨t668, A480, H⟩ := H
     replace H : ((laws_hasInt.f kj8 t668 (wrap64 ((y665.length : Int) - 1))).bind fun t671 => (some t671)) = some r := H
     have A48 := Ae_q A480
     clear A480
     replace H := oB_q.mp H
     obtain ⟨t671, A490, H⟩ := H
     replace H : (some t671) = some r := H
     have A49 := Ae_q A490
     clear A490
     obtain rfl := oI_q H
     have p654 : 0 ≤ ((ji43) : Int) := oD_q (by assumption)
     have q654 : (ji43) < (t639.length : Int) := oD_q (by assumption)
     obtain ⟨ad654, e654, hx654_0, hx654_1, hx654_2, hx654_3, hx654_4, hx654_5⟩ := at_T27 (rR_q HO_6.out).2.2 (ji43) p654 q654
     cases e654
     replace p654 := eq_true p654
     replace q654 := eq_true q654
     try go_wp2_with (first | ((with_reducible refine gD_q (N := 9) rfl ?_); (try (refine gate_guard (by rfl) ?_; dsimp only)); refine bE_q ?hg (N := 9) ?hd (cs := #[.int .i64 0, .int .i64 0, .int .i64 0, .int .i64 0, .int .i64 0, .int .i64 0]) (t := 27) ?hr ?_; (case hd => rfl); (case hg => rfl); (case hr => first | (go_simp; done) | (go_simp; first | rfl | rw [wm9_])); intro gb655 hg w50 hbox hb; have n0_ := Ae_q (rO_q (rup HO_5.out) hb); have n1_ := Ae_q (rO_q (Kd.R_elderB (rup HO_6.out) gb655 (Nat.le_of_eq hg.symm)) hb); have n2_ := Ae_q (rO_q (rup HO_7.out) hb); have n3_ := Ae_q (rO_q (rup HO_8.out) hb); have n4_ := Ae_q (bT_q (bel HB.out) hb); have n5_ := Ae_q (hbox); have n6_ := Ae_q ((by rw [hg]; exact (bZ_q (bel HB.out)) : w.heap.size ≤ gb655)); have n7_ := Ae_q ((by rw [hg]; exact (bZ_q (bel HB.out)) : w.heap.size ≤ gb655)); clear HO_5; clear HO_6; clear HO_7; clear HO_8; clear HB; have HO_5 := n0_; have HO_6 := n1_; have HO_7 := n2_; have HO_8 := n3_; have HB := n4_; have BK655 := n5_; have GW655 := n6_; have GE655 := n7_; clear n0_ n1_ n2_ n3_ n4_ n5_ n6_ n7_; clear hb hbox hg; have hcz51_0 : w50.cell? ⟨gb655, 0, none⟩ = some (.int .i64 0) := (bC_q BK655.out 0).trans rfl; have hcz51_1 : w50.cell? ⟨gb655, 1, none⟩ = some (.int .i64 0) := (bC_q BK655.out 1).trans rfl; have hcz51_2 : w50.cell? ⟨gb655, 2, none⟩ = some (.int .i64 0) := (bC_q BK655.out 2).trans rfl; have hcz51_3 : w50.cell? ⟨gb655, 3, none⟩ = some (.int .i64 0) := (bC_q BK655.out 3).trans rfl; have hcz51_4 : w50.cell? ⟨gb655, 4, none⟩ = some (.int .i64 0) := (bC_q BK655.out 4).trans rfl; have hcz51_5 : w50.cell? ⟨gb655, 5, none⟩ = some (.int .i64 0) := (bC_q BK655.out 5).trans rfl; have hfz51_0 := bF_q BK655.out 0; have hfz51_1 := bF_q BK655.out 1; have hfz51_2 := bF_q BK655.out 2; have hfz51_3 := bF_q BK655.out 3; have hfz51_4 := bF_q BK655.out 4; have hfz51_5 := bF_q BK655.out 5))
     have n0_ : Aside0 (Kd.R k50 50 ((((((w50.setCell ⟨gb655, 0, none⟩ (.int .i64 ((rd_T27 t639 (ji43)).f0))).setCell ⟨gb655, 1, none⟩ (.int .i64 ((rd_T27 t639 (ji43)).f1))).setCell ⟨gb655, 2, none⟩ (.int .i64 ((rd_T27 t639 (ji43)).f2))).setCell ⟨gb655, 3, none⟩ (.int .i64 ((rd_T27 t639 (ji43)).f3))).setCell ⟨gb655, 4, none⟩ (.int .i64 ((rd_T27 t639 (ji43)).f4))).setCell ⟨gb655, 5, none⟩ (.int .i64 ((rd_T27 t639 (ji43)).f5))) w.heap.size (fun _ => True) (.slice Ao11 t638.length co11) t638) := ⟨by (with_reducible repeat (first | apply rA_q | apply rN_q | apply rD_q)); exact rM_q (Kd.R_far (p := ⟨gb655, 5, none⟩) (Kd.R_far (p := ⟨gb655, 4, none⟩) (Kd.R_far (p := ⟨gb655, 3, none⟩) (Kd.R_far (p := ⟨gb655, 2, none⟩) (Kd.R_far (p := ⟨gb655, 1, none⟩) (Kd.R_far (p := ⟨gb655, 0, none⟩) (Kd.R_types HO_5.out BK655.out (by decide)) (fun _ hk => hk.2) (.int .i64 ((rd_T27 t639 (ji43)).f0))) (fun _ hk => hk.2) (.int .i64 ((rd_T27 t639 (ji43)).f1))) (fun _ hk => hk.2) (.int .i64 ((rd_T27 t639 (ji43)).f2))) (fun _ hk => hk.2) (.int .i64 ((rd_T27 t639 (ji43)).f3))) (fun _ hk => hk.2) (.int .i64 ((rd_T27 t639 (ji43)).f4))) (fun _ hk => hk.2) (.int .i64 ((rd_T27 t639 (ji43)).f5))) (fun _ hk => trivial)⟩
     have n1_ : Aside0 (Kd.R k27 27 ((((((w50.setCell ⟨gb655, 0, none⟩ (.int .i64 ((rd_T27 t639 (ji43)).f0))).setCell ⟨gb655, 1, none⟩ (.int .i64 ((rd_T27 t639 (ji43)).f1))).setCell ⟨gb655, 2, none⟩ (.int .i64 ((rd_T27 t639 (ji43)).f2))).setCell ⟨gb655, 3, none⟩ (.int .i64 ((rd_T27 t639 (ji43)).f3))).setCell ⟨gb655, 4, none⟩ (.int .i64 ((rd_T27 t639 (ji43)).f4))).setCell ⟨gb655, 5, none⟩ (.int .i64 ((rd_T27 t639 (ji43)).f5))) w.heap.size (fun k_ => k_ ≠ gb655) (.slice (some ad654) t639.length co12) t639) := ⟨by (with_reducible repeat (first | apply rA_q | apply rN_q | apply rD_q)); exact rM_q (Kd.R_far (p := ⟨gb655, 5, none⟩) (Kd.R_far (p := ⟨gb655, 4, none⟩) (Kd.R_far (p := ⟨gb655, 3, none⟩) (Kd.R_far (p := ⟨gb655, 2, none⟩) (Kd.R_far (p := ⟨gb655, 1, none⟩) (Kd.R_far (p := ⟨gb655, 0, none⟩) (rM_q HO_6.out (fun k_ hk => (⟨hk, hk.2⟩ : _ ∧ k_ ≠ gb655))) (fun _ hk => hk.2) (.int .i64 ((rd_T27 t639 (ji43)).f0))) (fun _ hk => hk.2) (.int .i64 ((rd_T27 t639 (ji43)).f1))) (fun _ hk => hk.2) (.int .i64 ((rd_T27 t639 (ji43)).f2))) (fun _ hk => hk.2) (.int .i64 ((rd_T27 t639 (ji43)).f3))) (fun _ hk => hk.2) (.int .i64 ((rd_T27 t639 (ji43)).f4))) (fun _ hk => hk.2) (.int .i64 ((rd_T27 t639 (ji43)).f5))) (fun _ hk => hk.1.2)⟩
     have n2_ : Aside0 (Kd.R kI_q 3 ((((((w50.setCell ⟨gb655, 0, none⟩ (.int .i64 ((rd_T27 t639 (ji43)).f0))).setCell ⟨gb655, 1, none⟩ (.int .i64 ((rd_T27 t639 (ji43)).f1))).setCell ⟨gb655, 2, none⟩ (.int .i64 ((rd_T27 t639 (ji43)).f2))).setCell ⟨gb655, 3, none⟩ (.int .i64 ((rd_T27 t639 (ji43)).f3))).setCell ⟨gb655, 4, none⟩ (.int .i64 ((rd_T27 t639 (ji43)).f4))).setCell ⟨gb655, 5, none⟩ (.int .i64 ((rd_T27 t639 (ji43)).f5))) w.heap.size (fun k_ => some k_ ≠ (v648 : Value).ownBlock) v645 t644) := ⟨by (with_reducible repeat (first | apply rA_q | apply rN_q | apply rD_q)); exact rM_q (Kd.R_far (p := ⟨gb655, 5, none⟩) (Kd.R_far (p := ⟨gb655, 4, none⟩) (Kd.R_far (p := ⟨gb655, 3, none⟩) (Kd.R_far (p := ⟨gb655, 2, none⟩) (Kd.R_far (p := ⟨gb655, 1, none⟩) (Kd.R_far (p := ⟨gb655, 0, none⟩) (Kd.R_types HO_7.out BK655.out (by decide)) (fun _ hk => hk.2) (.int .i64 ((rd_T27 t639 (ji43)).f0))) (fun _ hk => hk.2) (.int .i64 ((rd_T27 t639 (ji43)).f1))) (fun _ hk => hk.2) (.int .i64 ((rd_T27 t639 (ji43)).f2))) (fun _ hk => hk.2) (.int .i64 ((rd_T27 t639 (ji43)).f3))) (fun _ hk => hk.2) (.int .i64 ((rd_T27 t639 (ji43)).f4))) (fun _ hk => hk.2) (.int .i64 ((rd_T27 t639 (ji43)).f5))) (fun _ hk => hk.1)⟩
     have n3_ : Aside0 (Kd.R kI_q 3 ((((((w50.setCell ⟨gb655, 0, none⟩ (.int .i64 ((rd_T27 t639 (ji43)).f0))).setCell ⟨gb655, 1, none⟩ (.int .i64 ((rd_T27 t639 (ji43)).f1))).setCell ⟨gb655, 2, none⟩ (.int .i64 ((rd_T27 t639 (ji43)).f2))).setCell ⟨gb655, 3, none⟩ (.int .i64 ((rd_T27 t639 (ji43)).f3))).setCell ⟨gb655, 4, none⟩ (.int .i64 ((rd_T27 t639 (ji43)).f4))).setCell ⟨gb655, 5, none⟩ (.int .i64 ((rd_T27 t639 (ji43)).f5))) w.heap.size (fun k_ => some k_ ≠ (v645 : Value).ownBlock) v648 t647) := ⟨by (with_reducible repeat (first | apply rA_q | apply rN_q | apply rD_q)); exact rM_q (Kd.R_far (p := ⟨gb655, 5, none⟩) (Kd.R_far (p := ⟨gb655, 4, none⟩) (Kd.R_far (p := ⟨gb655, 3, none⟩) (Kd.R_far (p := ⟨gb655, 2, none⟩) (Kd.R_far (p := ⟨gb655, 1, none⟩) (Kd.R_far (p := ⟨gb655, 0, none⟩) (Kd.R_types HO_8.out BK655.out (by decide)) (fun _ hk => hk.2) (.int .i64 ((rd_T27 t639 (ji43)).f0))) (fun _ hk => hk.2) (.int .i64 ((rd_T27 t639 (ji43)).f1))) (fun _ hk => hk.2) (.int .i64 ((rd_T27 t639 (ji43)).f2))) (fun _ hk => hk.2) (.int .i64 ((rd_T27 t639 (ji43)).f3))) (fun _ hk => hk.2) (.int .i64 ((rd_T27 t639 (ji43)).f4))) (fun _ hk => hk.2) (.int .i64 ((rd_T27 t639 (ji43)).f5))) (fun _ hk => hk.1)⟩
     have n4_ : Aside0 (((((((w50.setCell ⟨gb655, 0, none⟩ (.int .i64 ((rd_T27 t639 (ji43)).f0))).setCell ⟨gb655, 1, none⟩ (.int .i64 ((rd_T27 t639 (ji43)).f1))).setCell ⟨gb655, 2, none⟩ (.int .i64 ((rd_T27 t639 (ji43)).f2))).setCell ⟨gb655, 3, none⟩ (.int .i64 ((rd_T27 t639 (ji43)).f3))).setCell ⟨gb655, 4, none⟩ (.int .i64 ((rd_T27 t639 (ji43)).f4))).setCell ⟨gb655, 5, none⟩ (.int .i64 ((rd_T27 t639 (ji43)).f5))).heap[gb655]? = some (.cells #[.int .i64 ((rd_T27 t639 (ji43)).f0), .int .i64 ((rd_T27 t639 (ji43)).f1), .int .i64 ((rd_T27 t639 (ji43)).f2), .int .i64 ((rd_T27 t639 (ji43)).f3), .int .i64 ((rd_T27 t639 (ji43)).f4), .int .i64 ((rd_T27 t639 (ji43)).f5)] 27 (0, 0))) := ⟨by (with_reducible repeat (first | refine bN_q ?_ _ | refine bW_q ?_ | refine bL_q ?_ _)); refine blk_put (cs := #[.int .i64 ((rd_T27 t639 (ji43)).f0), .int .i64 ((rd_T27 t639 (ji43)).f1), .int .i64 ((rd_T27 t639 (ji43)).f2), .int .i64 ((rd_T27 t639 (ji43)).f3), .int .i64 ((rd_T27 t639 (ji43)).f4), .int .i64 0]) ?_ 5 _ rfl; (with_reducible repeat (first | refine bN_q ?_ _ | refine bW_q ?_ | refine bL_q ?_ _)); refine blk_put (cs := #[.int .i64 ((rd_T27 t639 (ji43)).f0), .int .i64 ((rd_T27 t639 (ji43)).f1), .int .i64 ((rd_T27 t639 (ji43)).f2), .int .i64 ((rd_T27 t639 (ji43)).f3), .int .i64 0, .int .i64 0]) ?_ 4 _ rfl; (with_reducible repeat (first | refine bN_q ?_ _ | refine bW_q ?_ | refine bL_q ?_ _)); refine blk_put (cs := #[.int .i64 ((rd_T27 t639 (ji43)).f0), .int .i64 ((rd_T27 t639 (ji43)).f1), .int .i64 ((rd_T27 t639 (ji43)).f2), .int .i64 0, .int .i64 0, .int .i64 0]) ?_ 3 _ rfl; (with_reducible repeat (first | refine bN_q ?_ _ | refine bW_q ?_ | refine bL_q ?_ _)); refine blk_put (cs := #[.int .i64 ((rd_T27 t639 (ji43)).f0), .int .i64 ((rd_T27 t639 (ji43)).f1), .int .i64 0, .int .i64 0, .int .i64 0, .int .i64 0]) ?_ 2 _ rfl; (with_reducible repeat (first | refine bN_q ?_ _ | refine bW_q ?_ | refine bL_q ?_ _)); refine blk_put (cs := #[.int .i64 ((rd_T27 t639 (ji43)).f0), .int .i64 0, .int .i64 0, .int .i64 0, .int .i64 0, .int .i64 0]) ?_ 1 _ rfl; (with_reducible repeat (first | refine bN_q ?_ _ | refine bW_q ?_ | refine bL_q ?_ _)); refine blk_put (cs := #[.int .i64 0, .int .i64 0, .int .i64 0, .int .i64 0, .int .i64 0, .int .i64 0]) ?_ 0 _ rfl; (with_reducible repeat (first | refine bN_q ?_ _ | refine bW_q ?_ | refine bL_q ?_ _)); exact BK655.out⟩
     have n5_ : Aside0 (Below w.heap.size w ((((((w50.setCell ⟨gb655, 0, none⟩ (.int .i64 ((rd_T27 t639 (ji43)).f0))).setCell ⟨gb655, 1, none⟩ (.int .i64 ((rd_T27 t639 (ji43)).f1))).setCell ⟨gb655, 2, none⟩ (.int .i64 ((rd_T27 t639 (ji43)).f2))).setCell ⟨gb655, 3, none⟩ (.int .i64 ((rd_T27 t639 (ji43)).f3))).setCell ⟨gb655, 4, none⟩ (.int .i64 ((rd_T27 t639 (ji43)).f4))).setCell ⟨gb655, 5, none⟩ (.int .i64 ((rd_T27 t639 (ji43)).f5)))) := ⟨by repeat (with_reducible first | exact HB.out | apply bA_q | apply pB_q | apply bD_q | refine bS_q ?_ GE655.out)⟩
     (try clear HO_5)
     (try clear HO_6)
     (try clear HO_7)
     (try clear HO_8)
     (try clear BK655)
     (try clear HB)
     generalize ((((((w50.setCell ⟨gb655, 0, none⟩ (.int .i64 ((rd_T27 t639 (ji43)).f0))).setCell ⟨gb655, 1, none⟩ (.int .i64 ((rd_T27 t639 (ji43)).f1))).setCell ⟨gb655, 2, none⟩ (.int .i64 ((rd_T27 t639 (ji43)).f2))).setCell ⟨gb655, 3, none⟩ (.int .i64 ((rd_T27 t639 (ji43)).f3))).setCell ⟨gb655, 4, none⟩ (.int .i64 ((rd_T27 t639 (ji43)).f4))).setCell ⟨gb655, 5, none⟩ (.int .i64 ((rd_T27 t639 (ji43)).f5))) = w52 at n0_ n1_ n2_ n3_ n4_ n5_ ⊢
     have HO_5 := n0_
     have HO_6 := n1_
     have HO_7 := n2_
     have HO_8 := n3_
     have BK655 := n4_
     have HB := n5_
     clear n0_ n1_ n2_ n3_ n4_ n5_
     have n0_ := Ae_q (rD_q HO_5.out)
     have n1_ := Ae_q (rD_q HO_6.out)
     have n2_ := Ae_q (rD_q HO_7.out)
     have n3_ := Ae_q (rD_q HO_8.out)
     have n4_ := Ae_q (bW_q BK655.out)
     have n5_ := Ae_q (bD_q HB.out)
     clear HO_5
     clear HO_6
     clear HO_7
     clear HO_8
     clear BK655
     clear HB
     have HO_5 := n0_
     have HO_6 := n1_
     have HO_7 := n2_
     have HO_8 := n3_
     have BK655 := n4_
     have HB := n5_
     clear n0_ n1_ n2_ n3_ n4_ n5_
     refine start_ (n := 20) (S := fun w' => w'.cell? ⟨gb655, 0, none⟩ = some (.int .i64 ((rd_T27 t639 (ji43)).f0)) ∧ w'.cell? ⟨gb655, 1, none⟩ = some (.int .i64 ((rd_T27 t639 (ji43)).f1)) ∧ w'.cell? ⟨gb655, 2, none⟩ = some (.int .i64 ((rd_T27 t639 (ji43)).f2)) ∧ w'.cell? ⟨gb655, 3, none⟩ = some (.int .i64 ((rd_T27 t639 (ji43)).f3)) ∧ w'.cell? ⟨gb655, 4, none⟩ = some (.int .i64 ((rd_T27 t639 (ji43)).f4)) ∧ w'.cell? ⟨gb655, 5, none⟩ = some (.int .i64 ((rd_T27 t639 (ji43)).f5))) (ds := []) #[false, false, false, false, false, false, false, false, false, false, false, false, false, false, false, false, false, false, false, false] (by kernel_rfl) rfl rfl ⟨(bC_q BK655.out 0).trans rfl, (bC_q BK655.out 1).trans rfl, (bC_q BK655.out 2).trans rfl, (bC_q BK655.out 3).trans rfl, (bC_q BK655.out 4).trans rfl, (bC_q BK655.out 5).trans rfl⟩ (fun hHeld => ?_); refine with_tabW laws_FnWatchDrop.tab9 laws_FnWatchDrop.bits9 (fun HT_ HW_ => ?_)
     generalize w52.drew = w53 at HO_5 HO_6 HO_7 HO_8 BK655 HB hHeld ⊢
     refine pure_ (i := 1) (N := some 64) (v := ?_) (a' := ?_) #[false, true, false, false, false, false, false, false, false, false, false, false, false, false, false, false, false, false, false, false] rfl rfl (any_of HT_.out (by kernel_rfl)) (fun _ _ _ h => h) (Or.inl ⟨by rfl, ?_⟩) ?_ ?_
     rotate_left
     ·intro w'
      go_simp
      with_reducible rfl
     rotate_left
     ·simp only [Act.put, sA_q, sZ_q, sS_q, i64_w, i32_w]
      rfl
     refine pure_ (i := 3) (N := some 66) (v := ?_) (a' := ?_) #[false, true, false, true, false, false, false, false, false, false, false, false, false, false, false, false, false, false, false, false] rfl rfl (any_of HT_.out (by kernel_rfl)) (fun _ _ _ h => h) (Or.inl ⟨by rfl, ?_⟩) ?_ ?_
     rotate_left
     ·intro w'
      go_simp
      with_reducible rfl
     rotate_left
     ·simp only [Act.put, sA_q, sZ_q, sS_q, i64_w, i32_w]
      rfl
     refine pure_ (i := 5) (N := some 68) (v := ?_) (a' := ?_) #[false, true, false, true, false, true, false, false, false, false, false, false, false, false, false, false, false, false, false, false] rfl rfl (any_of HT_.out (by kernel_rfl)) (fun _ _ _ h => h) (Or.inl ⟨by rfl, ?_⟩) ?_ ?_
     rotate_left
     ·intro w'
      go_simp
      with_reducible rfl
     rotate_left
     ·simp only [Act.put, sA_q, sZ_q, sS_q, i64_w, i32_w]
      rfl
     refine pure_ (i := 8) (N := some 71) (v := ?_) (a' := ?_) #[false, true, false, true, false, true, false, false, true, false, false, false, false, false, false, false, false, false, false, false] rfl rfl (any_of HT_.out (by kernel_rfl)) (fun _ _ _ h => h) (Or.inl ⟨by rfl, ?_⟩) ?_ ?_
     rotate_left
     ·intro w'
      go_simp
      with_reducible rfl
     rotate_left
     ·simp only [Act.put, sA_q, sZ_q, sS_q, i64_w, i32_w]
      rfl
     refine pure_ (i := 10) (N := some 73) (v := ?_) (a' := ?_) #[false, true, false, true, false, true, false, false, true, false, true, false, false, false, false, false, false, false, false, false] rfl rfl (any_of HT_.out (by kernel_rfl)) (fun _ _ _ h => h) (Or.inl ⟨by rfl, ?_⟩) ?_ ?_
     rotate_left
     ·intro w'
      go_simp
      with_reducible rfl
     rotate_left
     ·simp only [Act.put, sA_q, sZ_q, sS_q, i64_w, i32_w]
      rfl
     refine pure_ (i := 12) (N := some 75) (v := ?_) (a' := ?_) #[false, true, false, true, false, true, false, false, true, false, true, false, true, false, false, false, false, false, false, false] rfl rfl (any_of HT_.out (by kernel_rfl)) (fun _ _ _ h => h) (Or.inl ⟨by rfl, ?_⟩) ?_ ?_
     rotate_left
     ·intro w'
      go_simp
      with_reducible rfl
     rotate_left
     ·simp only [Act.put, sA_q, sZ_q, sS_q, i64_w, i32_w]
      rfl
     refine pure_ (i := 13) (N := some 76) (v := ?_) (a' := ?_) #[false, true, false, true, false, true, false, false, true, false, true, false, true, true, false, false, false, false, false, false] rfl rfl (any_of HT_.out (by kernel_rfl)) (fun _ _ _ h => h) (Or.inl ⟨by rfl, ?_⟩) ?_ ?_
     rotate_left
     ·intro w'
      go_simp
      with_reducible rfl
     rotate_left
     ·simp only [Act.put, sA_q, sZ_q, sS_q, i64_w, i32_w]
      rfl
     refine pure_ (i := 14) (N := some 77) (v := ?_) (a' := ?_) #[false, true, false, true, false, true, false, false, true, false, true, false, true, true, true, false, false, false, false, false] rfl rfl (any_of HT_.out (by kernel_rfl)) (fun _ _ _ h => h) (Or.inl ⟨by rfl, ?_⟩) ?_ ?_
     rotate_left
     ·intro w'
      go_simp
      with_reducible rfl
     rotate_left
     ·simp only [Act.put, sA_q, sZ_q, sS_q, i64_w, i32_w]
      rfl
     refine pure_ (i := 15) (N := some 78) (v := ?_) (a' := ?_) #[false, true, false, true, false, true, false, false, true, false, true, false, true, true, true, true, false, false, false, false] rfl rfl (any_of HT_.out (by kernel_rfl)) (fun _ _ _ h => h) (Or.inl ⟨by rfl, ?_⟩) ?_ ?_
     rotate_left
     ·intro w'
      go_simp
      with_reducible rfl
     rotate_left
     ·simp only [Act.put, sA_q, sZ_q, sS_q, i64_w, i32_w]
      rfl
     refine take_ (i := 4) (N := some 67) (v := ?_) (a' := ?_) #[false, true, false, true, true, true, false, false, true, false, true, false, true, true, true, true, false, false, false, false] rfl rfl (take_ofW HT_.out HW_.out (by kernel_rfl)) (fun _ _ _ h => h) (Or.inl ⟨by rfl, ?_⟩) hHeld ?_ ?_
     rotate_left
     ·rintro w' ⟨s0, s1, s2, s3, s4, s5⟩
      go_simp
      with_reducible rfl
     rotate_left
     ·simp only [Act.put, sA_q, sZ_q, sS_q, i64_w, i32_w]
      rfl
     refine take_ (i := 6) (N := some 69) (v := ?_) (a' := ?_) #[false, true, false, true, true, true, true, false, true, false, true, false, true, true, true, true, false, false, false, false] rfl rfl (take_ofW HT_.out HW_.out (by kernel_rfl)) (fun _ _ _ h => h) (Or.inl ⟨by rfl, ?_⟩) hHeld ?_ ?_
     rotate_left
     ·rintro w' ⟨s0, s1, s2, s3, s4, s5⟩
      go_simp
      with_reducible rfl
     rotate_left
     ·simp only [Act.put, sA_q, sZ_q, sS_q, i64_w, i32_w]
      rfl
     refine pure_ (i := 7) (N := some 70) (v := ?_) (a' := ?_) #[false, true, false, true, true, true, true, true, true, false, true, false, true, true, true, true, false, false, false, false] rfl rfl (any_of HT_.out (by kernel_rfl)) (fun _ _ _ h => h) (Or.inl ⟨by rfl, ?_⟩) ?_ ?_
     rotate_left
     ·intro w'
      go_simp
      with_reducible rfl
     rotate_left
     ·simp only [Act.put, sA_q, sZ_q, sS_q, i64_w, i32_w]
      rfl
     refine take_ (i := 9) (N := some 72) (v := ?_) (a' := ?_) #[false, true, false, true, true, true, true, true, true, true, true, false, true, true, true, true, false, false, false, false] rfl rfl (take_ofW HT_.out HW_.out (by kernel_rfl)) (fun _ _ _ h => h) (Or.inl ⟨by rfl, ?_⟩) hHeld ?_ ?_
     rotate_left
     ·rintro w' ⟨s0, s1, s2, s3, s4, s5⟩
      go_simp
      with_reducible rfl
     rotate_left
     ·simp only [Act.put, sA_q, sZ_q, sS_q, i64_w, i32_w]
      rfl
     refine take_ (i := 11) (N := some 74) (v := ?_) (a' := ?_) #[false, true, false, true, true, true, true, true, true, true, true, true, true, true, true, true, false, false, false, false] rfl rfl (take_ofW HT_.out HW_.out (by kernel_rfl)) (fun _ _ _ h => h) (Or.inl ⟨by rfl, ?_⟩) hHeld ?_ ?_
     rotate_left
     ·rintro w' ⟨s0, s1, s2, s3, s4, s5⟩
      go_simp
      with_reducible rfl
     rotate_left
     ·simp only [Act.put, sA_q, sZ_q, sS_q, i64_w, i32_w]
      rfl
     refine pure_ (i := 16) (N := some 79) (v := ?_) (a' := ?_) #[false, true, false, true, true, true, true, true, true, true, true, true, true, true, true, true, true, false, false, false] rfl rfl (any_of HT_.out (by kernel_rfl)) (fun _ _ _ h => h) (Or.inl ⟨by rfl, ?_⟩) ?_ ?_
     rotate_left
     ·intro w'
      go_simp
      with_reducible rfl
     rotate_left
     ·simp only [Act.put, sA_q, sZ_q, sS_q, i64_w, i32_w]
      rfl
     refine join_ (σ := Value × Value × Value) 2 #[true, true, true, true, true, true, true, true, true, true, true, true, true, true, true, true, true, true, false, false] (fun s_ => [(63, s_.1), (65, s_.2.1), (80, s_.2.2)]) (fun s_ w' => (w'.cell? ⟨gb655, 0, none⟩ = some (.int .i64 ((rd_T27 t639 (ji43)).f0)) ∧ w'.cell? ⟨gb655, 1, none⟩ = some (.int .i64 ((rd_T27 t639 (ji43)).f1)) ∧ w'.cell? ⟨gb655, 2, none⟩ = some (.int .i64 ((rd_T27 t639 (ji43)).f2)) ∧ w'.cell? ⟨gb655, 3, none⟩ = some (.int .i64 ((rd_T27 t639 (ji43)).f3)) ∧ w'.cell? ⟨gb655, 4, none⟩ = some (.int .i64 ((rd_T27 t639 (ji43)).f4)) ∧ w'.cell? ⟨gb655, 5, none⟩ = some (.int .i64 ((rd_T27 t639 (ji43)).f5))) ∧ (Kd.R k27 27 w' w.heap.size (fun k_ => some k_ ≠ (s_.2.2 : Value).ownBlock ∧ some k_ ≠ (.slice (some ad654) t639.length co12 : Value).ownBlock ∧ k_ ≠ gb655) s_.2.1 y659) ∧ (Kd.R k27 27 w' w.heap.size (fun k_ => some k_ ≠ (s_.2.1 : Value).ownBlock ∧ some k_ ≠ (.slice (some ad654) t639.length co12 : Value).ownBlock ∧ k_ ≠ gb655) s_.2.2 y662) ∧ (Kd.R k50 50 w' w.heap.size (fun _ => True) (.slice Ao11 t638.length co11) t638) ∧ (Kd.R k27 27 w' w.heap.size (fun k_ => some k_ ≠ (s_.2.1 : Value).ownBlock ∧ some k_ ≠ (s_.2.2 : Value).ownBlock ∧ k_ ≠ gb655) (.slice (some ad654) t639.length co12) t639) ∧ (Kd.R kI_q 3 w' w.heap.size (fun k_ => some k_ ≠ (v648 : Value).ownBlock) v645 t644) ∧ (Kd.R kI_q 3 w' w.heap.size (fun k_ => some k_ ≠ (v645 : Value).ownBlock) v648 t647) ∧ (w'.heap[gb655]? = some (.cells #[.int .i64 ((rd_T27 t639 (ji43)).f0), .int .i64 ((rd_T27 t639 (ji43)).f1), .int .i64 ((rd_T27 t639 (ji43)).f2), .int .i64 ((rd_T27 t639 (ji43)).f3), .int .i64 ((rd_T27 t639 (ji43)).f4), .int .i64 ((rd_T27 t639 (ji43)).f5)] 27 (0, 0))) ∧ (Below w.heap.size w w')) ?_ ?_
     rotate_left
     ·intro hCont
      refine two_ (i := 0) (j := 17) (Ni := some 63) (Nj := some 80) #[true, true, false, true, true, true, true, true, true, true, true, true, true, true, true, true, true, false, false, false] #[false, true, false, true, true, true, true, true, true, true, true, true, true, true, true, true, true, true, false, false] rfl rfl rfl rfl (two_of HT_.out (by kernel_rfl)) (by decide) (by decide) (fun K hK => ?_) (fun K hK => ?_)
      ·skip
       refine rI_q k27 _ 27 ?hg (N := 63) ?hd (xs := ([] : List (S27))) (inner := []) (ok := fun _ => True) (okp := fun _ => True) ?hr ?hp (fun _ hk => hk) trivial (bR_q _ _) (nR_q _) (by simp) ?_; (case hd => rfl); (case hg => rfl); (case hr => first | (go_simp; done) | (go_simp; first | rfl | rw [wm9_])); (case hp => exact (Reps.none _ _))
       intro v657 w54 ho55 hb hg_ hnew_
       clear hg_ hnew_
       (first | rw [← Ny656.out] at ho55 | (simp only [Int.reduceToNat] at ho55; rw [← Ny656.out] at ho55))
       have n0_ := Ae_q (rO_q (rup HO_5.out) hb)
       have n1_ := Ae_q (rE_q (rup HO_6.out) (rB_q ho55) hb)
       have n2_ := Ae_q (rO_q (rup HO_7.out) hb)
       have n3_ := Ae_q (rO_q (rup HO_8.out) hb)
       have n4_ := Ae_q (rL_q (Kd.R_newB (rW_q ho55 (rT_q (rup HO_6.out))) (g := gb655) (o := .cells #[.int .i64 ((rd_T27 t639 (ji43)).f0), .int .i64 ((rd_T27 t639 (ji43)).f1), .int .i64 ((rd_T27 t639 (ji43)).f2), .int .i64 ((rd_T27 t639 (ji43)).f3), .int .i64 ((rd_T27 t639 (ji43)).f4), .int .i64 ((rd_T27 t639 (ji43)).f5)] 27 (0, 0)) (bup BK655.out)) (bZ_q (by repeat (with_reducible first | exact HB.out | apply bA_q | apply pB_q | apply bD_q | refine bS_q ?_ GE655.out))))
       have n5_ := Ae_q (bB_q (g := gb655) (o := .cells #[.int .i64 ((rd_T27 t639 (ji43)).f0), .int .i64 ((rd_T27 t639 (ji43)).f1), .int .i64 ((rd_T27 t639 (ji43)).f2), .int .i64 ((rd_T27 t639 (ji43)).f3), .int .i64 ((rd_T27 t639 (ji43)).f4), .int .i64 ((rd_T27 t639 (ji43)).f5)] 27 (0, 0)) (bup BK655.out) hb)
       have n6_ := Ae_q (bT_q (by repeat (with_reducible first | exact HB.out | apply bA_q | apply pB_q | apply bD_q | refine bS_q ?_ GE655.out)) hb)
       clear HO_5
       clear HO_6
       clear HO_7
       clear HO_8
       clear BK655
       clear HB
       have HO_5 := n0_
       have HO_6 := n1_
       have HO_7 := n2_
       have HO_8 := n3_
       have HO658 := n4_
       have BK655 := n5_
       have HB := n6_
       clear n0_ n1_ n2_ n3_ n4_ n5_ n6_
       clear hb ho55
       refine hK.out _ _ ⟨(bC_q BK655.out 0).trans rfl, (bC_q BK655.out 1).trans rfl, (bC_q BK655.out 2).trans rfl, (bC_q BK655.out 3).trans rfl, (bC_q BK655.out 4).trans rfl, (bC_q BK655.out 5).trans rfl⟩ (fun hHeld => ?_)
       clear hK K
       refine norm_ (a' := ?_) ?_ ?_
       rotate_left
       ·show Act.put _ (some 63) _ = _
        simp only [Act.put, sA_q, sZ_q, sS_q, i64_w, i32_w]
        rfl
       refine two_ (i := 2) (j := 17) (Ni := some 65) (Nj := some 80) #[true, true, true, true, true, true, true, true, true, true, true, true, true, true, true, true, true, false, false, false] #[true, true, false, true, true, true, true, true, true, true, true, true, true, true, true, true, true, true, false, false] rfl rfl rfl rfl (two_of HT_.out (by kernel_rfl)) (by decide) (by decide) (fun K hK => ?_) (fun K hK => ?_)
       ·skip
        refine rP_q k27 (w0 := w) w.heap.size (by rfl) (.tmp 63) (.tmp 64) 23 27 (.agg #[(.int .i64 0), (.int .i64 0), (.int .i64 0), (.int .i64 0), (.int .i64 0), (.int .i64 0)]) 48 rfl Try.underlying23 info27 rfl (by decide) (by omega) v657 y656 t639 _ _ _ (fun k_ => some k_ ≠ (.slice (some ad654) t639.length co12 : Value).ownBlock ∧ k_ ≠ gb655) (fun _ => False) rfl rfl ?aO ?aR (fun _ _ h => h) (fun _ h => h.elim) ?aF ?aB ?aS ?aL ?_
        (case aR => exact cup (rR_q HO_6.out).2.2)
        (case aB => exact (by repeat (with_reducible first | exact HB.out | apply bA_q | apply pB_q | apply bD_q | refine bS_q ?_ GE655.out)))
        (case aF => exact (fun k_ hk => ⟨Kd.fresh' (rT_q (rup HO_6.out)) k_ hk, Kd.freshB (g := gb655) (o := .cells #[.int .i64 ((rd_T27 t639 (ji43)).f0), .int .i64 ((rd_T27 t639 (ji43)).f1), .int .i64 ((rd_T27 t639 (ji43)).f2), .int .i64 ((rd_T27 t639 (ji43)).f3), .int .i64 ((rd_T27 t639 (ji43)).f4), .int .i64 ((rd_T27 t639 (ji43)).f5)] 27 (0, 0)) (bup BK655.out) k_ hk⟩))
        (case aO => exact (by (with_reducible repeat (first | apply rA_q | apply rN_q | apply rD_q)); exact rM_q HO658.out (fun _ hk => ⟨hk.1.2, hk.2⟩)))
        (case aS => exact (bZ_q (by repeat (with_reducible first | exact HB.out | apply bA_q | apply pB_q | apply bD_q | refine bS_q ?_ GE655.out))))
        (case aL => have := LMc46.out; omega)
        intro v660 w56 ho hb hg hat
        rw [← Ny659.out] at ho
        have n0_ := Ae_q (Kd.R_over' (rup HO_5.out) (Kd.R_typed (rup HO658.out)) (by decide) hg)
        have n1_ := Ae_q (rF_q (ok := (fun k_ => k_ ≠ gb655)) (rup HO_6.out) hg hat)
        have n2_ := Ae_q (Kd.R_over' (rup HO_7.out) (Kd.R_typed (rup HO658.out)) (by decide) hg)
        have n3_ := Ae_q (Kd.R_over' (rup HO_8.out) (Kd.R_typed (rup HO658.out)) (by decide) hg)
        have n4_ := Ae_q (bG_q (g := gb655) (o := .cells #[.int .i64 ((rd_T27 t639 (ji43)).f0), .int .i64 ((rd_T27 t639 (ji43)).f1), .int .i64 ((rd_T27 t639 (ji43)).f2), .int .i64 ((rd_T27 t639 (ji43)).f3), .int .i64 ((rd_T27 t639 (ji43)).f4), .int .i64 ((rd_T27 t639 (ji43)).f5)] 27 (0, 0)) (bup BK655.out) hg (Kd.R_away HO658.out (fun _ hk => hk.2)))
        have n5_ := Ae_q (hb)
        have n6_ := Ae_q (ho)
        clear HO_5
        clear HO_6
        clear HO_7
        clear HO_8
        clear BK655
        clear HB
        clear HO658
        have HO_5 := n0_
        have HO_6 := n1_
        have HO_7 := n2_
        have HO_8 := n3_
        have BK655 := n4_
        have HB := n5_
        have HO661 := n6_
        clear n0_ n1_ n2_ n3_ n4_ n5_ n6_
        clear ho hb hg hat
        refine hK.out _ _ ⟨(bC_q BK655.out 0).trans rfl, (bC_q BK655.out 1).trans rfl, (bC_q BK655.out 2).trans rfl, (bC_q BK655.out 3).trans rfl, (bC_q BK655.out 4).trans rfl, (bC_q BK655.out 5).trans rfl⟩ (fun hHeld => ?_)
        clear hK K
        refine norm_ (a' := ?_) ?_ ?_
        rotate_left
        ·show Act.put _ (some 65) _ = _
         simp only [Act.put, sA_q, sZ_q, sS_q, i64_w, i32_w]
         rfl
        refine one_ (i := 17) (N := some 80) #[true, true, true, true, true, true, true, true, true, true, true, true, true, true, true, true, true, true, false, false] rfl rfl (one_of HT_.out (by kernel_rfl)) (by decide) (fun K hK => ?_)
        refine rI_q k27 _ 27 ?hg (N := 80) ?hd (xs := ([(⟨3, (rd_T27 t639 (ji43)).f1, (rd_T27 t639 (ji43)).f2, 0, 0, 0⟩ : S27), (⟨2, (rd_T27 t639 (ji43)).f1, (rd_T27 t639 (ji43)).f2, 1 + ((l1.length : Int) % 9), 0, 0⟩ : S27)] : List (S27))) (inner := [.int .i64 3, .int .i64 ((rd_T27 t639 (ji43)).f1), .int .i64 ((rd_T27 t639 (ji43)).f2), .int .i64 0, .int .i64 0, .int .i64 0, .int .i64 2, .int .i64 ((rd_T27 t639 (ji43)).f1), .int .i64 ((rd_T27 t639 (ji43)).f2), .int .i64 (1 + ((l1.length : Int) % 9)), .int .i64 0, .int .i64 0]) (ok := fun _ => True) (okp := fun _ => True) ?hr ?hp (fun _ hk => hk) trivial (bR_q _ _) (nR_q _) (by simp) ?_; (case hd => rfl); (case hg => rfl); (case hr => first | (go_simp; done) | (go_simp; first | rfl | rw [wm9_])); (case hp => exact (Reps.c6 (show Kd.M k27 _ _ _ (⟨3, (rd_T27 t639 (ji43)).f1, (rd_T27 t639 (ji43)).f2, 0, 0, 0⟩ : S27) [.int .i64 3, .int .i64 ((rd_T27 t639 (ji43)).f1), .int .i64 ((rd_T27 t639 (ji43)).f2), .int .i64 0, .int .i64 0, .int .i64 0] from (k27_mkM _ _ _ (⟨3, (rd_T27 t639 (ji43)).f1, (rd_T27 t639 (ji43)).f2, 0, 0, 0⟩ : S27) )) (Reps.c6 (show Kd.M k27 _ _ _ (⟨2, (rd_T27 t639 (ji43)).f1, (rd_T27 t639 (ji43)).f2, 1 + ((l1.length : Int) % 9), 0, 0⟩ : S27) [.int .i64 2, .int .i64 ((rd_T27 t639 (ji43)).f1), .int .i64 ((rd_T27 t639 (ji43)).f2), .int .i64 (1 + ((l1.length : Int) % 9)), .int .i64 0, .int .i64 0] from (k27_mkM _ _ _ (⟨2, (rd_T27 t639 (ji43)).f1, (rd_T27 t639 (ji43)).f2, 1 + ((l1.length : Int) % 9), 0, 0⟩ : S27) )) (Reps.none _ _))))
        intro v663 w57 ho58 hb hg_ hnew_
        clear hg_ hnew_
        (first | rw [← Ny662.out] at ho58 | (simp only [Int.reduceToNat] at ho58; rw [← Ny662.out] at ho58))
        have n0_ := Ae_q (rO_q (rup HO_5.out) hb)
        have n1_ := Ae_q (rE_q (rup HO_6.out) (rB_q ho58) hb)
        have n2_ := Ae_q (rO_q (rup HO_7.out) hb)
        have n3_ := Ae_q (rO_q (rup HO_8.out) hb)
        have n4_ := Ae_q (rE_q (rup HO661.out) (rB_q ho58) hb)
        have n5_ := Ae_q (rL_q (Kd.R_newB (rW_q (rW_q ho58 (rT_q (rup HO_6.out))) (rT_q (rup HO661.out))) (g := gb655) (o := .cells #[.int .i64 ((rd_T27 t639 (ji43)).f0), .int .i64 ((rd_T27 t639 (ji43)).f1), .int .i64 ((rd_T27 t639 (ji43)).f2), .int .i64 ((rd_T27 t639 (ji43)).f3), .int .i64 ((rd_T27 t639 (ji43)).f4), .int .i64 ((rd_T27 t639 (ji43)).f5)] 27 (0, 0)) (bup BK655.out)) (bZ_q (by repeat (with_reducible first | exact HB.out | apply bA_q | apply pB_q | apply bD_q | refine bS_q ?_ GE655.out))))
        have n6_ := Ae_q (bB_q (g := gb655) (o := .cells #[.int .i64 ((rd_T27 t639 (ji43)).f0), .int .i64 ((rd_T27 t639 (ji43)).f1), .int .i64 ((rd_T27 t639 (ji43)).f2), .int .i64 ((rd_T27 t639 (ji43)).f3), .int .i64 ((rd_T27 t639 (ji43)).f4), .int .i64 ((rd_T27 t639 (ji43)).f5)] 27 (0, 0)) (bup BK655.out) hb)
        have n7_ := Ae_q (bT_q (by repeat (with_reducible first | exact HB.out | apply bA_q | apply pB_q | apply bD_q | refine bS_q ?_ GE655.out)) hb)
        clear HO_5
        clear HO_6
        clear HO_7
        clear HO_8
        clear HO661
        clear BK655
        clear HB
        have HO_5 := n0_
        have HO_6 := n1_
        have HO_7 := n2_
        have HO_8 := n3_
        have HO661 := n4_
        have HO664 := n5_
        have BK655 := n6_
        have HB := n7_
        clear n0_ n1_ n2_ n3_ n4_ n5_ n6_ n7_
        clear hb ho58
        refine hK.out _ _ ⟨(bC_q BK655.out 0).trans rfl, (bC_q BK655.out 1).trans rfl, (bC_q BK655.out 2).trans rfl, (bC_q BK655.out 3).trans rfl, (bC_q BK655.out 4).trans rfl, (bC_q BK655.out 5).trans rfl⟩ (fun hHeld => ?_)
        clear hK K
        refine norm_ (a' := ?_) ?_ ?_
        rotate_left
        ·show Act.put _ (some 80) _ = _
         simp only [Act.put, sA_q, sZ_q, sS_q, i64_w, i32_w]
         rfl
        exact norm_ (by simp only [putAll, Act.put, sA_q, sZ_q, sS_q]) (hCont (v657, v660, v663) _ ⟨hHeld, (by (with_reducible repeat (first | apply rA_q | apply rN_q | apply rD_q)); exact rM_q HO661.out (fun _ hk => ⟨hk.2, ⟨hk.1.1, hk.1.2⟩⟩)), (by (with_reducible repeat (first | apply rA_q | apply rN_q | apply rD_q)); exact rM_q HO664.out (fun _ hk => ⟨hk.1.2, ⟨hk.1.1.2, hk.2⟩⟩)), (rup HO_5.out), (by (with_reducible repeat (first | apply rA_q | apply rN_q | apply rD_q)); exact rM_q HO_6.out (fun _ hk => ⟨hk.1.2, ⟨hk.2, hk.1.1⟩⟩)), (rup HO_7.out), (rup HO_8.out), (bup BK655.out), (by repeat (with_reducible first | exact HB.out | apply bA_q | apply pB_q | apply bD_q | refine bS_q ?_ GE655.out))⟩)
       skip
       refine rI_q k27 _ 27 ?hg (N := 80) ?hd (xs := ([(⟨3, (rd_T27 t639 (ji43)).f1, (rd_T27 t639 (ji43)).f2, 0, 0, 0⟩ : S27), (⟨2, (rd_T27 t639 (ji43)).f1, (rd_T27 t639 (ji43)).f2, 1 + ((l1.length : Int) % 9), 0, 0⟩ : S27)] : List (S27))) (inner := [.int .i64 3, .int .i64 ((rd_T27 t639 (ji43)).f1), .int .i64 ((rd_T27 t639 (ji43)).f2), .int .i64 0, .int .i64 0, .int .i64 0, .int .i64 2, .int .i64 ((rd_T27 t639 (ji43)).f1), .int .i64 ((rd_T27 t639 (ji43)).f2), .int .i64 (1 + ((l1.length : Int) % 9)), .int .i64 0, .int .i64 0]) (ok := fun _ => True) (okp := fun _ => True) ?hr ?hp (fun _ hk => hk) trivial (bR_q _ _) (nR_q _) (by simp) ?_; (case hd => rfl); (case hg => rfl); (case hr => first | (go_simp; done) | (go_simp; first | rfl | rw [wm9_])); (case hp => exact (Reps.c6 (show Kd.M k27 _ _ _ (⟨3, (rd_T27 t639 (ji43)).f1, (rd_T27 t639 (ji43)).f2, 0, 0, 0⟩ : S27) [.int .i64 3, .int .i64 ((rd_T27 t639 (ji43)).f1), .int .i64 ((rd_T27 t639 (ji43)).f2), .int .i64 0, .int .i64 0, .int .i64 0] from (k27_mkM _ _ _ (⟨3, (rd_T27 t639 (ji43)).f1, (rd_T27 t639 (ji43)).f2, 0, 0, 0⟩ : S27) )) (Reps.c6 (show Kd.M k27 _ _ _ (⟨2, (rd_T27 t639 (ji43)).f1, (rd_T27 t639 (ji43)).f2, 1 + ((l1.length : Int) % 9), 0, 0⟩ : S27) [.int .i64 2, .int .i64 ((rd_T27 t639 (ji43)).f1), .int .i64 ((rd_T27 t639 (ji43)).f2), .int .i64 (1 + ((l1.length : Int) % 9)), .int .i64 0, .int .i64 0] from (k27_mkM _ _ _ (⟨2, (rd_T27 t639 (ji43)).f1, (rd_T27 t639 (ji43)).f2, 1 + ((l1.length : Int) % 9), 0, 0⟩ : S27) )) (Reps.none _ _))))
       intro v663 w56 ho57 hb hg_ hnew_
       clear hg_ hnew_
       (first | rw [← Ny662.out] at ho57 | (simp only [Int.reduceToNat] at ho57; rw [← Ny662.out] at ho57))
       have n0_ := Ae_q (rO_q (rup HO_5.out) hb)
       have n1_ := Ae_q (rE_q (rup HO_6.out) (rB_q ho57) hb)
       have n2_ := Ae_q (rO_q (rup HO_7.out) hb)
       have n3_ := Ae_q (rO_q (rup HO_8.out) hb)
       have n4_ := Ae_q (rE_q (rup HO658.out) (rB_q ho57) hb)
       have n5_ := Ae_q (rL_q (Kd.R_newB (rW_q (rW_q ho57 (rT_q (rup HO_6.out))) (rT_q (rup HO658.out))) (g := gb655) (o := .cells #[.int .i64 ((rd_T27 t639 (ji43)).f0), .int .i64 ((rd_T27 t639 (ji43)).f1), .int .i64 ((rd_T27 t639 (ji43)).f2), .int .i64 ((rd_T27 t639 (ji43)).f3), .int .i64 ((rd_T27 t639 (ji43)).f4), .int .i64 ((rd_T27 t639 (ji43)).f5)] 27 (0, 0)) (bup BK655.out)) (bZ_q (by repeat (with_reducible first | exact HB.out | apply bA_q | apply pB_q | apply bD_q | refine bS_q ?_ GE655.out))))
       have n6_ := Ae_q (bB_q (g := gb655) (o := .cells #[.int .i64 ((rd_T27 t639 (ji43)).f0), .int .i64 ((rd_T27 t639 (ji43)).f1), .int .i64 ((rd_T27 t639 (ji43)).f2), .int .i64 ((rd_T27 t639 (ji43)).f3), .int .i64 ((rd_T27 t639 (ji43)).f4), .int .i64 ((rd_T27 t639 (ji43)).f5)] 27 (0, 0)) (bup BK655.out) hb)
       have n7_ := Ae_q (bT_q (by repeat (with_reducible first | exact HB.out | apply bA_q | apply pB_q | apply bD_q | refine bS_q ?_ GE655.out)) hb)
       clear HO_5
       clear HO_6
       clear HO_7
       clear HO_8
       clear HO658
       clear BK655
       clear HB
       have HO_5 := n0_
       have HO_6 := n1_
       have HO_7 := n2_
       have HO_8 := n3_
       have HO658 := n4_
       have HO664 := n5_
       have BK655 := n6_
       have HB := n7_
       clear n0_ n1_ n2_ n3_ n4_ n5_ n6_ n7_
       clear hb ho57
       refine hK.out _ _ ⟨(bC_q BK655.out 0).trans rfl, (bC_q BK655.out 1).trans rfl, (bC_q BK655.out 2).trans rfl, (bC_q BK655.out 3).trans rfl, (bC_q BK655.out 4).trans rfl, (bC_q BK655.out 5).trans rfl⟩ (fun hHeld => ?_)
       clear hK K
       refine norm_ (a' := ?_) ?_ ?_
       rotate_left
       ·show Act.put _ (some 80) _ = _
        simp only [Act.put, sA_q, sZ_q, sS_q, i64_w, i32_w]
        rfl
       refine one_ (i := 2) (N := some 65) #[true, true, true, true, true, true, true, true, true, true, true, true, true, true, true, true, true, true, false, false] rfl rfl (one_of HT_.out (by kernel_rfl)) (by decide) (fun K hK => ?_)
       refine rP_q k27 (w0 := w) w.heap.size (by rfl) (.tmp 63) (.tmp 64) 23 27 (.agg #[(.int .i64 0), (.int .i64 0), (.int .i64 0), (.int .i64 0), (.int .i64 0), (.int .i64 0)]) 48 rfl Try.underlying23 info27 rfl (by decide) (by omega) v657 y656 t639 _ _ _ (fun k_ => some k_ ≠ (.slice (some ad654) t639.length co12 : Value).ownBlock ∧ some k_ ≠ (v663 : Value).ownBlock ∧ k_ ≠ gb655) (fun _ => False) rfl rfl ?aO ?aR (fun _ _ h => h) (fun _ h => h.elim) ?aF ?aB ?aS ?aL ?_
       (case aR => exact cup (rR_q HO_6.out).2.2)
       (case aB => exact (by repeat (with_reducible first | exact HB.out | apply bA_q | apply pB_q | apply bD_q | refine bS_q ?_ GE655.out)))
       (case aF => exact (fun k_ hk => ⟨Kd.fresh' (rT_q (rup HO_6.out)) k_ hk, Kd.fresh' (rT_q (rup HO664.out)) k_ hk, Kd.freshB (g := gb655) (o := .cells #[.int .i64 ((rd_T27 t639 (ji43)).f0), .int .i64 ((rd_T27 t639 (ji43)).f1), .int .i64 ((rd_T27 t639 (ji43)).f2), .int .i64 ((rd_T27 t639 (ji43)).f3), .int .i64 ((rd_T27 t639 (ji43)).f4), .int .i64 ((rd_T27 t639 (ji43)).f5)] 27 (0, 0)) (bup BK655.out) k_ hk⟩))
       (case aO => exact (by (with_reducible repeat (first | apply rA_q | apply rN_q | apply rD_q)); exact rM_q HO658.out (fun _ hk => ⟨hk.1.1.2, ⟨hk.2, hk.1.2⟩⟩)))
       (case aS => exact (bZ_q (by repeat (with_reducible first | exact HB.out | apply bA_q | apply pB_q | apply bD_q | refine bS_q ?_ GE655.out))))
       (case aL => have := LMc46.out; omega)
       intro v660 w58 ho hb hg hat
       rw [← Ny659.out] at ho
       have n0_ := Ae_q (Kd.R_over' (rup HO_5.out) (Kd.R_typed (rup HO658.out)) (by decide) hg)
       have n1_ := Ae_q (rF_q (ok := (fun k_ => some k_ ≠ (v663 : Value).ownBlock ∧ k_ ≠ gb655)) (by (with_reducible repeat (first | apply rA_q | apply rN_q | apply rD_q)); exact rM_q HO_6.out (fun _ hk => ⟨⟨hk.2, hk.1.1⟩, hk.1.2⟩)) hg hat)
       have n2_ := Ae_q (Kd.R_over' (rup HO_7.out) (Kd.R_typed (rup HO658.out)) (by decide) hg)
       have n3_ := Ae_q (Kd.R_over' (rup HO_8.out) (Kd.R_typed (rup HO658.out)) (by decide) hg)
       have n4_ := Ae_q (bG_q (g := gb655) (o := .cells #[.int .i64 ((rd_T27 t639 (ji43)).f0), .int .i64 ((rd_T27 t639 (ji43)).f1), .int .i64 ((rd_T27 t639 (ji43)).f2), .int .i64 ((rd_T27 t639 (ji43)).f3), .int .i64 ((rd_T27 t639 (ji43)).f4), .int .i64 ((rd_T27 t639 (ji43)).f5)] 27 (0, 0)) (bup BK655.out) hg (Kd.R_away HO658.out (fun _ hk => hk.1.2)))
       have n5_ := Ae_q (rF_q (ok := (fun k_ => some k_ ≠ (.slice (some ad654) t639.length co12 : Value).ownBlock ∧ k_ ≠ gb655)) (by (with_reducible repeat (first | apply rA_q | apply rN_q | apply rD_q)); exact rM_q HO664.out (fun _ hk => ⟨⟨hk.1.1.2, hk.2⟩, hk.1.2⟩)) hg hat)
       have n6_ := Ae_q (hb)
       have n7_ := Ae_q (ho)
       clear HO_5
       clear HO_6
       clear HO_7
       clear HO_8
       clear BK655
       clear HO664
       clear HB
       clear HO658
       have HO_5 := n0_
       have HO_6 := n1_
       have HO_7 := n2_
       have HO_8 := n3_
       have BK655 := n4_
       have HO664 := n5_
       have HB := n6_
       have HO661 := n7_
       clear n0_ n1_ n2_ n3_ n4_ n5_ n6_ n7_
       clear ho hb hg hat
       refine hK.out _ _ ⟨(bC_q BK655.out 0).trans rfl, (bC_q BK655.out 1).trans rfl, (bC_q BK655.out 2).trans rfl, (bC_q BK655.out 3).trans rfl, (bC_q BK655.out 4).trans rfl, (bC_q BK655.out 5).trans rfl⟩ (fun hHeld => ?_)
       clear hK K
       refine norm_ (a' := ?_) ?_ ?_
       rotate_left
       ·show Act.put _ (some 65) _ = _
        simp only [Act.put, sA_q, sZ_q, sS_q, i64_w, i32_w]
        rfl
       exact norm_ (by simp only [putAll, Act.put, sA_q, sZ_q, sS_q]) (hCont (v657, v660, v663) _ ⟨hHeld, (by (with_reducible repeat (first | apply rA_q | apply rN_q | apply rD_q)); exact rM_q HO661.out (fun _ hk => ⟨hk.2.1, ⟨hk.1, hk.2.2⟩⟩)), (by (with_reducible repeat (first | apply rA_q | apply rN_q | apply rD_q)); exact rM_q HO664.out (fun _ hk => ⟨hk.2, ⟨hk.1.1, hk.1.2⟩⟩)), (rup HO_5.out), (by (with_reducible repeat (first | apply rA_q | apply rN_q | apply rD_q)); exact rM_q HO_6.out (fun _ hk => ⟨hk.2, ⟨hk.1.1, hk.1.2⟩⟩)), (rup HO_7.out), (rup HO_8.out), (bup BK655.out), (by repeat (with_reducible first | exact HB.out | apply bA_q | apply pB_q | apply bD_q | refine bS_q ?_ GE655.out))⟩)
      skip
      refine rI_q k27 _ 27 ?hg (N := 80) ?hd (xs := ([(⟨3, (rd_T27 t639 (ji43)).f1, (rd_T27 t639 (ji43)).f2, 0, 0, 0⟩ : S27), (⟨2, (rd_T27 t639 (ji43)).f1, (rd_T27 t639 (ji43)).f2, 1 + ((l1.length : Int) % 9), 0, 0⟩ : S27)] : List (S27))) (inner := [.int .i64 3, .int .i64 ((rd_T27 t639 (ji43)).f1), .int .i64 ((rd_T27 t639 (ji43)).f2), .int .i64 0, .int .i64 0, .int .i64 0, .int .i64 2, .int .i64 ((rd_T27 t639 (ji43)).f1), .int .i64 ((rd_T27 t639 (ji43)).f2), .int .i64 (1 + ((l1.length : Int) % 9)), .int .i64 0, .int .i64 0]) (ok := fun _ => True) (okp := fun _ => True) ?hr ?hp (fun _ hk => hk) trivial (bR_q _ _) (nR_q _) (by simp) ?_; (case hd => rfl); (case hg => rfl); (case hr => first | (go_simp; done) | (go_simp; first | rfl | rw [wm9_])); (case hp => exact (Reps.c6 (show Kd.M k27 _ _ _ (⟨3, (rd_T27 t639 (ji43)).f1, (rd_T27 t639 (ji43)).f2, 0, 0, 0⟩ : S27) [.int .i64 3, .int .i64 ((rd_T27 t639 (ji43)).f1), .int .i64 ((rd_T27 t639 (ji43)).f2), .int .i64 0, .int .i64 0, .int .i64 0] from (k27_mkM _ _ _ (⟨3, (rd_T27 t639 (ji43)).f1, (rd_T27 t639 (ji43)).f2, 0, 0, 0⟩ : S27) )) (Reps.c6 (show Kd.M k27 _ _ _ (⟨2, (rd_T27 t639 (ji43)).f1, (rd_T27 t639 (ji43)).f2, 1 + ((l1.length : Int) % 9), 0, 0⟩ : S27) [.int .i64 2, .int .i64 ((rd_T27 t639 (ji43)).f1), .int .i64 ((rd_T27 t639 (ji43)).f2), .int .i64 (1 + ((l1.length : Int) % 9)), .int .i64 0, .int .i64 0] from (k27_mkM _ _ _ (⟨2, (rd_T27 t639 (ji43)).f1, (rd_T27 t639 (ji43)).f2, 1 + ((l1.length : Int) % 9), 0, 0⟩ : S27) )) (Reps.none _ _))))
      intro v663 w54 ho55 hb hg_ hnew_
      clear hg_ hnew_
      (first | rw [← Ny662.out] at ho55 | (simp only [Int.reduceToNat] at ho55; rw [← Ny662.out] at ho55))
      have n0_ := Ae_q (rO_q (rup HO_5.out) hb)
      have n1_ := Ae_q (rE_q (rup HO_6.out) (rB_q ho55) hb)
      have n2_ := Ae_q (rO_q (rup HO_7.out) hb)
      have n3_ := Ae_q (rO_q (rup HO_8.out) hb)
      have n4_ := Ae_q (rL_q (Kd.R_newB (rW_q ho55 (rT_q (rup HO_6.out))) (g := gb655) (o := .cells #[.int .i64 ((rd_T27 t639 (ji43)).f0), .int .i64 ((rd_T27 t639 (ji43)).f1), .int .i64 ((rd_T27 t639 (ji43)).f2), .int .i64 ((rd_T27 t639 (ji43)).f3), .int .i64 ((rd_T27 t639 (ji43)).f4), .int .i64 ((rd_T27 t639 (ji43)).f5)] 27 (0, 0)) (bup BK655.out)) (bZ_q (by repeat (with_reducible first | exact HB.out | apply bA_q | apply pB_q | apply bD_q | refine bS_q ?_ GE655.out))))
      have n5_ := Ae_q (bB_q (g := gb655) (o := .cells #[.int .i64 ((rd_T27 t639 (ji43)).f0), .int .i64 ((rd_T27 t639 (ji43)).f1), .int .i64 ((rd_T27 t639 (ji43)).f2), .int .i64 ((rd_T27 t639 (ji43)).f3), .int .i64 ((rd_T27 t639 (ji43)).f4), .int .i64 ((rd_T27 t639 (ji43)).f5)] 27 (0, 0)) (bup BK655.out) hb)
      have n6_ := Ae_q (bT_q (by repeat (with_reducible first | exact HB.out | apply bA_q | apply pB_q | apply bD_q | refine bS_q ?_ GE655.out)) hb)
      clear HO_5
      clear HO_6
      clear HO_7
      clear HO_8
      clear BK655
      clear HB
      have HO_5 := n0_
      have HO_6 := n1_
      have HO_7 := n2_
      have HO_8 := n3_
      have HO664 := n4_
      have BK655 := n5_
      have HB := n6_
      clear n0_ n1_ n2_ n3_ n4_ n5_ n6_
      clear hb ho55
      refine hK.out _ _ ⟨(bC_q BK655.out 0).trans rfl, (bC_q BK655.out 1).trans rfl, (bC_q BK655.out 2).trans rfl, (bC_q BK655.out 3).trans rfl, (bC_q BK655.out 4).trans rfl, (bC_q BK655.out 5).trans rfl⟩ (fun hHeld => ?_)
      clear hK K
      refine norm_ (a' := ?_) ?_ ?_
      rotate_left
      ·show Act.put _ (some 80) _ = _
       simp only [Act.put, sA_q, sZ_q, sS_q, i64_w, i32_w]
       rfl
      refine one_ (i := 0) (N := some 63) #[true, true, false, true, true, true, true, true, true, true, true, true, true, true, true, true, true, true, false, false] rfl rfl (one_of HT_.out (by kernel_rfl)) (by decide) (fun K hK => ?_)
      refine rI_q k27 _ 27 ?hg (N := 63) ?hd (xs := ([] : List (S27))) (inner := []) (ok := fun _ => True) (okp := fun _ => True) ?hr ?hp (fun _ hk => hk) trivial (bR_q _ _) (nR_q _) (by simp) ?_; (case hd => rfl); (case hg => rfl); (case hr => first | (go_simp; done) | (go_simp; first | rfl | rw [wm9_])); (case hp => exact (Reps.none _ _))
      intro v657 w56 ho57 hb hg_ hnew_
      clear hg_ hnew_
      (first | rw [← Ny656.out] at ho57 | (simp only [Int.reduceToNat] at ho57; rw [← Ny656.out] at ho57))
      have n0_ := Ae_q (rO_q (rup HO_5.out) hb)
      have n1_ := Ae_q (rE_q (rup HO_6.out) (rB_q ho57) hb)
      have n2_ := Ae_q (rO_q (rup HO_7.out) hb)
      have n3_ := Ae_q (rO_q (rup HO_8.out) hb)
      have n4_ := Ae_q (rE_q (rup HO664.out) (rB_q ho57) hb)
      have n5_ := Ae_q (rL_q (Kd.R_newB (rW_q (rW_q ho57 (rT_q (rup HO_6.out))) (rT_q (rup HO664.out))) (g := gb655) (o := .cells #[.int .i64 ((rd_T27 t639 (ji43)).f0), .int .i64 ((rd_T27 t639 (ji43)).f1), .int .i64 ((rd_T27 t639 (ji43)).f2), .int .i64 ((rd_T27 t639 (ji43)).f3), .int .i64 ((rd_T27 t639 (ji43)).f4), .int .i64 ((rd_T27 t639 (ji43)).f5)] 27 (0, 0)) (bup BK655.out)) (bZ_q (by repeat (with_reducible first | exact HB.out | apply bA_q | apply pB_q | apply bD_q | refine bS_q ?_ GE655.out))))
      have n6_ := Ae_q (bB_q (g := gb655) (o := .cells #[.int .i64 ((rd_T27 t639 (ji43)).f0), .int .i64 ((rd_T27 t639 (ji43)).f1), .int .i64 ((rd_T27 t639 (ji43)).f2), .int .i64 ((rd_T27 t639 (ji43)).f3), .int .i64 ((rd_T27 t639 (ji43)).f4), .int .i64 ((rd_T27 t639 (ji43)).f5)] 27 (0, 0)) (bup BK655.out) hb)
      have n7_ := Ae_q (bT_q (by repeat (with_reducible first | exact HB.out | apply bA_q | apply pB_q | apply bD_q | refine bS_q ?_ GE655.out)) hb)
      clear HO_5
      clear HO_6
      clear HO_7
      clear HO_8
      clear HO664
      clear BK655
      clear HB
      have HO_5 := n0_
      have HO_6 := n1_
      have HO_7 := n2_
      have HO_8 := n3_
      have HO664 := n4_
      have HO658 := n5_
      have BK655 := n6_
      have HB := n7_
      clear n0_ n1_ n2_ n3_ n4_ n5_ n6_ n7_
      clear hb ho57
      refine hK.out _ _ ⟨(bC_q BK655.out 0).trans rfl, (bC_q BK655.out 1).trans rfl, (bC_q BK655.out 2).trans rfl, (bC_q BK655.out 3).trans rfl, (bC_q BK655.out 4).trans rfl, (bC_q BK655.out 5).trans rfl⟩ (fun hHeld => ?_)
      clear hK K
      refine norm_ (a' := ?_) ?_ ?_
      rotate_left
      ·show Act.put _ (some 63) _ = _
       simp only [Act.put, sA_q, sZ_q, sS_q, i64_w, i32_w]
       rfl
      refine one_ (i := 2) (N := some 65) #[true, true, true, true, true, true, true, true, true, true, true, true, true, true, true, true, true, true, false, false] rfl rfl (one_of HT_.out (by kernel_rfl)) (by decide) (fun K hK => ?_)
      refine rP_q k27 (w0 := w) w.heap.size (by rfl) (.tmp 63) (.tmp 64) 23 27 (.agg #[(.int .i64 0), (.int .i64 0), (.int .i64 0), (.int .i64 0), (.int .i64 0), (.int .i64 0)]) 48 rfl Try.underlying23 info27 rfl (by decide) (by omega) v657 y656 t639 _ _ _ (fun k_ => some k_ ≠ (.slice (some ad654) t639.length co12 : Value).ownBlock ∧ some k_ ≠ (v663 : Value).ownBlock ∧ k_ ≠ gb655) (fun _ => False) rfl rfl ?aO ?aR (fun _ _ h => h) (fun _ h => h.elim) ?aF ?aB ?aS ?aL ?_
      (case aR => exact cup (rR_q HO_6.out).2.2)
      (case aB => exact (by repeat (with_reducible first | exact HB.out | apply bA_q | apply pB_q | apply bD_q | refine bS_q ?_ GE655.out)))
      (case aF => exact (fun k_ hk => ⟨Kd.fresh' (rT_q (rup HO_6.out)) k_ hk, Kd.fresh' (rT_q (rup HO664.out)) k_ hk, Kd.freshB (g := gb655) (o := .cells #[.int .i64 ((rd_T27 t639 (ji43)).f0), .int .i64 ((rd_T27 t639 (ji43)).f1), .int .i64 ((rd_T27 t639 (ji43)).f2), .int .i64 ((rd_T27 t639 (ji43)).f3), .int .i64 ((rd_T27 t639 (ji43)).f4), .int .i64 ((rd_T27 t639 (ji43)).f5)] 27 (0, 0)) (bup BK655.out) k_ hk⟩))
      (case aO => exact (by (with_reducible repeat (first | apply rA_q | apply rN_q | apply rD_q)); exact rM_q HO658.out (fun _ hk => ⟨hk.1.1.2, ⟨hk.1.2, hk.2⟩⟩)))
      (case aS => exact (bZ_q (by repeat (with_reducible first | exact HB.out | apply bA_q | apply pB_q | apply bD_q | refine bS_q ?_ GE655.out))))
      (case aL => have := LMc46.out; omega)
      intro v660 w58 ho hb hg hat
      rw [← Ny659.out] at ho
      have n0_ := Ae_q (Kd.R_over' (rup HO_5.out) (Kd.R_typed (rup HO658.out)) (by decide) hg)
      have n1_ := Ae_q (rF_q (ok := (fun k_ => some k_ ≠ (v663 : Value).ownBlock ∧ k_ ≠ gb655)) (by (with_reducible repeat (first | apply rA_q | apply rN_q | apply rD_q)); exact rM_q HO_6.out (fun _ hk => ⟨⟨hk.1.2, hk.1.1⟩, hk.2⟩)) hg hat)
      have n2_ := Ae_q (Kd.R_over' (rup HO_7.out) (Kd.R_typed (rup HO658.out)) (by decide) hg)
      have n3_ := Ae_q (Kd.R_over' (rup HO_8.out) (Kd.R_typed (rup HO658.out)) (by decide) hg)
      have n4_ := Ae_q (bG_q (g := gb655) (o := .cells #[.int .i64 ((rd_T27 t639 (ji43)).f0), .int .i64 ((rd_T27 t639 (ji43)).f1), .int .i64 ((rd_T27 t639 (ji43)).f2), .int .i64 ((rd_T27 t639 (ji43)).f3), .int .i64 ((rd_T27 t639 (ji43)).f4), .int .i64 ((rd_T27 t639 (ji43)).f5)] 27 (0, 0)) (bup BK655.out) hg (Kd.R_away HO658.out (fun _ hk => hk.2)))
      have n5_ := Ae_q (rF_q (ok := (fun k_ => some k_ ≠ (.slice (some ad654) t639.length co12 : Value).ownBlock ∧ k_ ≠ gb655)) (by (with_reducible repeat (first | apply rA_q | apply rN_q | apply rD_q)); exact rM_q HO664.out (fun _ hk => ⟨⟨hk.1.1.2, hk.1.2⟩, hk.2⟩)) hg hat)
      have n6_ := Ae_q (hb)
      have n7_ := Ae_q (ho)
      clear HO_5
      clear HO_6
      clear HO_7
      clear HO_8
      clear BK655
      clear HO664
      clear HB
      clear HO658
      have HO_5 := n0_
      have HO_6 := n1_
      have HO_7 := n2_
      have HO_8 := n3_
      have BK655 := n4_
      have HO664 := n5_
      have HB := n6_
      have HO661 := n7_
      clear n0_ n1_ n2_ n3_ n4_ n5_ n6_ n7_
      clear ho hb hg hat
      refine hK.out _ _ ⟨(bC_q BK655.out 0).trans rfl, (bC_q BK655.out 1).trans rfl, (bC_q BK655.out 2).trans rfl, (bC_q BK655.out 3).trans rfl, (bC_q BK655.out 4).trans rfl, (bC_q BK655.out 5).trans rfl⟩ (fun hHeld => ?_)
      clear hK K
      refine norm_ (a' := ?_) ?_ ?_
      rotate_left
      ·show Act.put _ (some 65) _ = _
       simp only [Act.put, sA_q, sZ_q, sS_q, i64_w, i32_w]
       rfl
      exact norm_ (by simp only [putAll, Act.put, sA_q, sZ_q, sS_q]) (hCont (v657, v660, v663) _ ⟨hHeld, (by (with_reducible repeat (first | apply rA_q | apply rN_q | apply rD_q)); exact rM_q HO661.out (fun _ hk => ⟨hk.2.1, ⟨hk.1, hk.2.2⟩⟩)), (by (with_reducible repeat (first | apply rA_q | apply rN_q | apply rD_q)); exact rM_q HO664.out (fun _ hk => ⟨hk.2, ⟨hk.1.1, hk.1.2⟩⟩)), (rup HO_5.out), (by (with_reducible repeat (first | apply rA_q | apply rN_q | apply rD_q)); exact rM_q HO_6.out (fun _ hk => ⟨hk.2, ⟨hk.1.1, hk.1.2⟩⟩)), (rup HO_7.out), (rup HO_8.out), (bup BK655.out), (by repeat (with_reducible first | exact HB.out | apply bA_q | apply pB_q | apply bD_q | refine bS_q ?_ GE655.out))⟩)
     rintro ⟨v657, v660, v663⟩ w59 ⟨hS_, h0_, h1_, h2_, h3_, h4_, h5_, h6_, h7_⟩
     have n0_ : Aside0 (Kd.R k27 27 w59 w.heap.size (fun k_ => some k_ ≠ (v663 : Value).ownBlock ∧ some k_ ≠ (.slice (some ad654) t639.length co12 : Value).ownBlock ∧ k_ ≠ gb655) v660 y659) := ⟨h0_⟩
     have n1_ : Aside0 (Kd.R k27 27 w59 w.heap.size (fun k_ => some k_ ≠ (v660 : Value).ownBlock ∧ some k_ ≠ (.slice (some ad654) t639.length co12 : Value).ownBlock ∧ k_ ≠ gb655) v663 y662) := ⟨h1_⟩
     have n2_ : Aside0 (Kd.R k50 50 w59 w.heap.size (fun _ => True) (.slice Ao11 t638.length co11) t638) := ⟨h2_⟩
     have n3_ : Aside0 (Kd.R k27 27 w59 w.heap.size (fun k_ => some k_ ≠ (v660 : Value).ownBlock ∧ some k_ ≠ (v663 : Value).ownBlock ∧ k_ ≠ gb655) (.slice (some ad654) t639.length co12) t639) := ⟨h3_⟩
     have n4_ : Aside0 (Kd.R kI_q 3 w59 w.heap.size (fun k_ => some k_ ≠ (v648 : Value).ownBlock) v645 t644) := ⟨h4_⟩
     have n5_ : Aside0 (Kd.R kI_q 3 w59 w.heap.size (fun k_ => some k_ ≠ (v645 : Value).ownBlock) v648 t647) := ⟨h5_⟩
     have n6_ : Aside0 (w59.heap[gb655]? = some (.cells #[.int .i64 ((rd_T27 t639 (ji43)).f0), .int .i64 ((rd_T27 t639 (ji43)).f1), .int .i64 ((rd_T27 t639 (ji43)).f2), .int .i64 ((rd_T27 t639 (ji43)).f3), .int .i64 ((rd_T27 t639 (ji43)).f4), .int .i64 ((rd_T27 t639 (ji43)).f5)] 27 (0, 0))) := ⟨h6_⟩
     have n7_ : Aside0 (Below w.heap.size w w59) := ⟨h7_⟩
     clear HO_5
     clear HO_6
     clear HO_7
     clear HO_8
     clear BK655
     clear HB
     clear h0_ h1_ h2_ h3_ h4_ h5_ h6_ h7_
     have HO661 := n0_
     have HO664 := n1_
     have HO_5 := n2_
     have HO_6 := n3_
     have HO_7 := n4_
     have HO_8 := n5_
     have BK655 := n6_
     have HB := n7_
     clear n0_ n1_ n2_ n3_ n4_ n5_ n6_ n7_
     have hHeld : w59.cell? ⟨gb655, 0, none⟩ = some (.int .i64 ((rd_T27 t639 (ji43)).f0)) ∧ w59.cell? ⟨gb655, 1, none⟩ = some (.int .i64 ((rd_T27 t639 (ji43)).f1)) ∧ w59.cell? ⟨gb655, 2, none⟩ = some (.int .i64 ((rd_T27 t639 (ji43)).f2)) ∧ w59.cell? ⟨gb655, 3, none⟩ = some (.int .i64 ((rd_T27 t639 (ji43)).f3)) ∧ w59.cell? ⟨gb655, 4, none⟩ = some (.int .i64 ((rd_T27 t639 (ji43)).f4)) ∧ w59.cell? ⟨gb655, 5, none⟩ = some (.int .i64 ((rd_T27 t639 (ji43)).f5)) := hS_
     obtain ⟨Ao61, co61, eo61⟩ := rS_q HO664.out
     (first | subst eo61 | (injection eo61 with f1_ f2_ f3_; have f4_ := f1_.symm; have f5_ := f3_.symm; clear f1_ f2_ f3_; subst f4_; subst f5_))
     refine norm_ (a' := ?_) ?_ ?_
     rotate_left
     ·simp only [putAll, Act.put, sA_q, sZ_q, sS_q]
      rfl
     refine one_ (i := 18) (N := some 81) #[true, true, true, true, true, true, true, true, true, true, true, true, true, true, true, true, true, true, true, false] rfl rfl (one_of HT_.out (by kernel_rfl)) (by decide) (fun K hK => ?_)
     refine rP_q k27 (w0 := w) w.heap.size (by rfl) (.tmp 65) (.tmp 80) 23 27 (.agg #[(.int .i64 0), (.int .i64 0), (.int .i64 0), (.int .i64 0), (.int .i64 0), (.int .i64 0)]) 48 rfl Try.underlying23 info27 rfl (by decide) (by omega) v660 y659 y662 _ _ _ (fun k_ => some k_ ≠ (.slice (some ad654) t639.length co12 : Value).ownBlock ∧ some k_ ≠ (.slice Ao61 y662.length co61 : Value).ownBlock ∧ k_ ≠ gb655) (fun _ => False) rfl rfl ?aO ?aR (fun _ _ h => h) (fun _ h => h.elim) ?aF ?aB ?aS ?aL ?_
     (case aR => exact cup (rR_q HO664.out).2.2)
     (case aB => exact (by repeat (with_reducible first | exact HB.out | apply bA_q | apply pB_q | apply bD_q | refine bS_q ?_ GE655.out)))
     (case aF => exact (fun k_ hk => ⟨Kd.fresh' (rT_q (rup HO_6.out)) k_ hk, Kd.fresh' (rT_q (rup HO664.out)) k_ hk, Kd.freshB (g := gb655) (o := .cells #[.int .i64 ((rd_T27 t639 (ji43)).f0), .int .i64 ((rd_T27 t639 (ji43)).f1), .int .i64 ((rd_T27 t639 (ji43)).f2), .int .i64 ((rd_T27 t639 (ji43)).f3), .int .i64 ((rd_T27 t639 (ji43)).f4), .int .i64 ((rd_T27 t639 (ji43)).f5)] 27 (0, 0)) (bup BK655.out) k_ hk⟩))
     (case aO => exact (by (with_reducible repeat (first | apply rA_q | apply rN_q | apply rD_q)); exact rM_q HO661.out (fun _ hk => ⟨hk.2.1, ⟨hk.1, hk.2.2⟩⟩)))
     (case aS => exact (bZ_q (by repeat (with_reducible first | exact HB.out | apply bA_q | apply pB_q | apply bD_q | refine bS_q ?_ GE655.out))))
     (case aL => have := LMc47.out; omega)
     intro v666 w60 ho hb hg hat
     rw [← Ny665.out] at ho
     have n0_ := Ae_q (Kd.R_over' (rup HO_5.out) (Kd.R_typed (rup HO661.out)) (by decide) hg)
     have n1_ := Ae_q (rF_q (ok := (fun k_ => some k_ ≠ (.slice Ao61 y662.length co61 : Value).ownBlock ∧ k_ ≠ gb655)) (by (with_reducible repeat (first | apply rA_q | apply rN_q | apply rD_q)); exact rM_q HO_6.out (fun _ hk => ⟨⟨hk.2.1, hk.2.2⟩, hk.1⟩)) hg hat)
     have n2_ := Ae_q (Kd.R_over' (rup HO_7.out) (Kd.R_typed (rup HO661.out)) (by decide) hg)
     have n3_ := Ae_q (Kd.R_over' (rup HO_8.out) (Kd.R_typed (rup HO661.out)) (by decide) hg)
     have n4_ := Ae_q (bG_q (g := gb655) (o := .cells #[.int .i64 ((rd_T27 t639 (ji43)).f0), .int .i64 ((rd_T27 t639 (ji43)).f1), .int .i64 ((rd_T27 t639 (ji43)).f2), .int .i64 ((rd_T27 t639 (ji43)).f3), .int .i64 ((rd_T27 t639 (ji43)).f4), .int .i64 ((rd_T27 t639 (ji43)).f5)] 27 (0, 0)) (bup BK655.out) hg (Kd.R_away HO661.out (fun _ hk => hk.2.2)))
     have n5_ := Ae_q (rF_q (ok := (fun k_ => some k_ ≠ (.slice (some ad654) t639.length co12 : Value).ownBlock ∧ k_ ≠ gb655)) (by (with_reducible repeat (first | apply rA_q | apply rN_q | apply rD_q)); exact rM_q HO664.out (fun _ hk => ⟨⟨hk.2.1, hk.2.2⟩, hk.1⟩)) hg hat)
     have n6_ := Ae_q (hb)
     have n7_ := Ae_q (ho)
     clear HO_5
     clear HO_6
     clear HO_7
     clear HO_8
     clear BK655
     clear HO664
     clear HB
     clear HO661
     have HO_5 := n0_
     have HO_6 := n1_
     have HO_7 := n2_
     have HO_8 := n3_
     have BK655 := n4_
     have HO664 := n5_
     have HB := n6_
     have HO667 := n7_
     clear n0_ n1_ n2_ n3_ n4_ n5_ n6_ n7_
     clear ho hb hg hat
     refine hK.out _ _ ⟨(bC_q BK655.out 0).trans rfl, (bC_q BK655.out 1).trans rfl, (bC_q BK655.out 2).trans rfl, (bC_q BK655.out 3).trans rfl, (bC_q BK655.out 4).trans rfl, (bC_q BK655.out 5).trans rfl⟩ (fun hHeld => ?_)
     clear hK K
     refine norm_ (a' := ?_) ?_ ?_
     rotate_left
     ·show Act.put _ (some 81) _ = _
      simp only [Act.put, sA_q, sZ_q, sS_q, i64_w, i32_w]
      rfl
     refine pure_ (i := 19) (N := some 10) (v := ?_) (a' := ?_) #[true, true, true, true, true, true, true, true, true, true, true, true, true, true, true, true, true, true, true, true] rfl rfl (any_of HT_.out (by kernel_rfl)) (fun _ _ _ h => h) (Or.inl ⟨by rfl, ?_⟩) ?_ ?_
     rotate_left
     ·intro w'
      go_simp
      with_reducible rfl
     rotate_left
     ·simp only [Act.put, sA_q, sZ_q, sS_q, i64_w, i32_w]
      rfl
     refine done_ (done_of HT_.out (by kernel_rfl)) ?_
     obtain ⟨Ao62, co62, eo62⟩ := rS_q HO667.out
     subst eo62
     try go_wp2_with (first | ((with_reducible refine gC_q (f := 34) rfl ?_); refine gL_q (some 84) rfl rfl Try.func34 (by kernel_rfl) rfl #[.slice Ao11 t638.length co11, .slice Ao62 y665.length co62] rfl (by (try simp only [lM_q, lC_q, lN_q]); first | done | rfl | (simp only [lD_q, lT_q]; rfl)) ?_; (with_reducible refine (impl_WatchWrong.calls kj8 _ _ t638 _ _ y665 t668 _ ?side1 ?side2 ?side3 ?side4 A48.out).mono ?_); (case side1 => exact cup (rR_q HO_5.out).2.2); (case side2 => exact (rR_q HO_5.out).2.1); (case side3 => exact cup (rR_q HO667.out).2.2); (case side4 => exact (rR_q HO667.out).2.1); rintro e w63 ⟨v669, rfl, ho0, hb⟩; refine ⟨_, rfl, ?_⟩; have n0_ := Ae_q (rO_q (rup HO_5.out) hb); have n1_ := Ae_q (rO_q (rup HO_6.out) hb); have n2_ := Ae_q (rE_q (rup HO_7.out) (rB_q ho0) hb); have n3_ := Ae_q (rE_q (rup HO_8.out) (rB_q ho0) hb); have n4_ := Ae_q (rO_q (rup HO664.out) hb); have n5_ := Ae_q (rO_q (rup HO667.out) hb); have n6_ := Ae_q (rL_q (rW_q (rW_q ho0 (rT_q (rup HO_7.out))) (rT_q (rup HO_8.out))) (bZ_q (by repeat (with_reducible first | exact HB.out | apply bA_q | apply pB_q | apply bD_q | refine bS_q ?_ GE655.out)))); have n7_ := Ae_q (bB_q (g := gb655) (o := .cells #[.int .i64 ((rd_T27 t639 (ji43)).f0), .int .i64 ((rd_T27 t639 (ji43)).f1), .int .i64 ((rd_T27 t639 (ji43)).f2), .int .i64 ((rd_T27 t639 (ji43)).f3), .int .i64 ((rd_T27 t639 (ji43)).f4), .int .i64 ((rd_T27 t639 (ji43)).f5)] 27 (0, 0)) (bup BK655.out) hb); have n8_ := Ae_q (bT_q (by repeat (with_reducible first | exact HB.out | apply bA_q | apply pB_q | apply bD_q | refine bS_q ?_ GE655.out)) hb); clear HO_5; clear HO_6; clear HO_7; clear HO_8; clear HO664; clear HO667; clear BK655; clear HB; have HO_5 := n0_; have HO_6 := n1_; have HO_7 := n2_; have HO_8 := n3_; have HO664 := n4_; have HO667 := n5_; have HO670 := n6_; have BK655 := n7_; have HB := n8_; clear n0_ n1_ n2_ n3_ n4_ n5_ n6_ n7_ n8_; (try clear hb); (try clear hb2); (try clear hk); (try clear hi); (try clear ho0); obtain ⟨Ao64, co64, eo64⟩ := rS_q HO670.out; subst eo64) | ((with_reducible refine gC_q (f := 32) rfl ?_); refine gL_q (some 88) rfl rfl Try.func32 (by kernel_rfl) rfl #[.slice Ao64 t668.length co64, .int .i64 (wrap64 ((y665.length : Int) - 1))] rfl (by (try simp only [lM_q, lC_q, lN_q]); first | done | rfl | (simp only [lD_q, lT_q]; rfl)) ?_; (with_reducible refine (laws_hasInt.calls kj8 _ _ t668 (wrap64 ((y665.length : Int) - 1)) t671 _ ?side1 ?side2 A49.out).mono ?_); (case side1 => exact cup (rR_q HO670.out).2.2); (case side2 => exact (rR_q HO670.out).2.1); rintro e w' ⟨rfl, ⟨nd, rfl⟩⟩; refine ⟨_, rfl, ?_⟩))
     go_ret
     exact ⟨by first | rfl | (simp [eN_q, eS_q] <;> rfl) | (simp only [← hji43]; first | rfl | (simp [eN_q, eS_q] <;> rfl)) | (simp [*, eN_q, eS_q] <;> rfl), by repeat (with_reducible first | exact HB.out | apply bA_q | apply pB_q | apply bD_q | refine bS_q ?_ GE655.out)⟩

def laws_FnWatchDrop.Pure : Prop := ∀ (l0 : List Int) (l1 : List Int), l0.length ≤ maxLen → l0.length * 1 ≤ 140737488351232 → (∀ x ∈ l0, (Lit.int .u8 x).wf = true) → l1.length ≤ maxLen → l1.length * 1 ≤ 140737488351232 → (∀ x ∈ l1, (Lit.int .u8 x).wf = true) → ∃ k, laws_FnWatchDrop.f k l0 l1 = some true
theorem laws_FnWatchDrop.walk (P : laws_FnWatchDrop.Pure) (a0 : Option Addr) (len0 cap0 : Nat) (z0 : List Int) (a1 : Option Addr) (len1 cap1 : Nat) (z1 : List Int) (w : World) (w0 : (a0 = none ∧ len0 = 0 ∧ cap0 = 0 ∧ z0 = []) ∨ ∃ x, a0 = some x ∧ len0 ≤ cap0 ∧ cap0 ≤ maxLen ∧ z0.length = cap0 ∧ (∀ i, i < z0.length → w.cell? (x.add i) = some (.int .u8 (z0.getD i 0))) ∧ ∀ n ∈ z0, (Lit.int .u8 n).wf = true) (y0 : len0 * 1 ≤ 140737488351232) (w1 : (a1 = none ∧ len1 = 0 ∧ cap1 = 0 ∧ z1 = []) ∨ ∃ x, a1 = some x ∧ len1 ≤ cap1 ∧ cap1 ≤ maxLen ∧ z1.length = cap1 ∧ (∀ i, i < z1.length → w.cell? (x.add i) = some (.int .u8 (z1.getD i 0))) ∧ ∀ n ∈ z1, (Lit.int .u8 n).wf = true) (y1 : len1 * 1 ≤ 140737488351232) :
    Calls Try.prog 11 #[.slice a0 len0 cap0, .slice a1 len1 cap1] w fun e w' => e = .returned (.bool true) ∧ Below w.heap.size w w' := by
 obtain ⟨l0, rfl, hr0, hm0, hw0, hc0⟩ := ReadsInt.ofRowC w0
 obtain ⟨l1, rfl, hr1, hm1, hw1, hc1⟩ := ReadsInt.ofRowC w1
 obtain ⟨k, h⟩ := P l0 l1 hm0 y0 hw0 hm1 y1 hw1
 refine (laws_FnWatchDrop.calls k _ _ l0 _ _ l1 true w (Kd.C_of_reads (d := (0 : Int)) (h1 := fun _ => rfl) hr0) hc0 (Kd.C_of_reads (d := (0 : Int)) (h1 := fun _ => rfl) hr1) hc1 h).mono ?_
 rintro e w' ⟨rfl, hd⟩
 exact ⟨rfl, hd⟩

end Go.Proofs.Ytnhenfmegpjigaa.PEv
