import Derived.Test.YtfnpiacmlahegaaVAPRpx0
import Derived.Test.YtfnpiacmlahegaaVAPRpx5
namespace Go.Proofs.Ytfnpiacmlahegaa.PRp
open Go.RowKit Go.Proofs.YtfnpiacmlahegaaW.PrintWords Go.Proofs.YtfnpiacmlahegaaW.PrintLast Go.Proofs.YtfnpiacmlahegaaW.PrintMore
attribute [local go_sem] max2_int min2_int max_two min_two max_three min_three max_four min_four
set_option linter.unusedVariables false
set_option linter.unusedSimpArgs false

-- NOT PRINTED: function 8 (laws_FnExactOutageRepair)

def impl_PlanDelay.l0 : Nat → List Int → Int → List Int → Int → Int → Option (Int)
 | 0, _, _, _, _, _ => none
 | k + 1, x0, x5, x13, x14, x15 => if x15 < x14 then (if 0 ≤ x15 then (if x15 < (x13.length : Int) then (if x15 < (x0.length : Int) then ((impl_isStart.f (rd x0 x15)).bind fun t880 => (if t880 = true then ((impl_isStart.f (rd x13 x15)).bind fun t881 => (if t881 = true then (if (rd x13 x15) < (rd x0 x15) then (some (-1)) else (impl_PlanDelay.l0 k x0 (wrap64 (x5 + (wrap64 ((rd x13 x15) - (rd x0 x15))))) x13 x14 (wrap64 (x15 + 1)))) else (some (-1)))) else (some (-1)))) else (none)) else (none)) else (none)) else (some x5)
def impl_PlanDelay.f (k : Nat) (l0 : List Int) (l1 : List Int) : Option (Int) := if (l0.length : Int) = (l1.length : Int) then (impl_PlanDelay.l0 k l0 0 l1 (l1.length : Int) 0) else (some (-1))
set_option maxHeartbeats 8000000 in
set_option maxRecDepth 100000 in
theorem impl_PlanDelay.calls (k : Nat) (A0 : Option Addr) (c0 : Nat) (l0 : List Int) (A1 : Option Addr) (c1 : Nat) (l1 : List Int) (r : Int) (w : World) (hr0 : Kd.C kI_q w A0 l0.length l0) (hc0 : l0.length ≤ c0) (hr1 : Kd.C kI_q w A1 l1.length l1) (hc1 : l1.length ≤ c1) (h : impl_PlanDelay.f k l0 l1 = some r) :
    Calls Try.prog 32 #[.slice A0 l0.length c0, .slice A1 l1.length c1] w fun e w' => e = .returned (.int .i64 r) ∧ Drawn0 w w' := by
 have HR0 := Ae_q hr0
 have HC0 := Ae_q hc0
 clear hr0 hc0
 have HR1 := Ae_q hr1
 have HC1 := Ae_q hc1
 clear hr1 hc1
 have H : (if (l0.length : Int) = (l1.length : Int) then (impl_PlanDelay.l0 k l0 0 l1 (l1.length : Int) 0) else (some (-1))) = some r := h
 clear h
 by_cases c3 : (l0.length : Int) = (l1.length : Int)
 rotate_left
 ·rw [if_neg c3] at H
  have c3b0 : ((l0.length : Int) == (l1.length : Int)) = false := fN_q.mpr c3
  have c3b1 : ((l0.length : Int) != (l1.length : Int)) = true := nI_q.mpr c3
  have c3b2 : (l0.length == l1.length) = false := by first | simpa using c3 | (simp at c3 ⊢; omega)
  obtain rfl := oI_q H
  go_enter Try.func32, Try.ntmps32
  go_wp2
  go_ret
  exact ⟨m7_q, m60_q⟩
 rw [if_pos c3] at H
 have c3b0 : ((l0.length : Int) == (l1.length : Int)) = true := beq_iff_eq.mpr c3
 have c3b1 : ((l0.length : Int) != (l1.length : Int)) = false := nE_q.mpr c3
 have c3b2 : (l0.length == l1.length) = true := by first | simpa using c3 | (simp at c3 ⊢; omega)
 clear c3
 have H' := Ae_q H
 clear H
 go_enter Try.func32, Try.ntmps32
 go_wp2
 go_loopg [5, 15] k (fun kq v5 v15 w' => ∃ (x5_1 : Int) (x15_1 : Int), v5 = .int .i64 x5_1 ∧ v15 = .int .i64 x15_1 ∧ Aside0 (impl_PlanDelay.l0 kq l0 x5_1 l1 (l1.length : Int) x15_1 = some r) ∧ Aside0 (kq ≤ k) ∧ Drawn0 w w')
 case atStart => exact ⟨(0), (0), m7_q, m7_q, H', ⟨nR_q _⟩, m60_q⟩
 case round =>
  clear H'
  try clear c1
  try clear p2
  try clear c3
  try clear c3b0
  try clear c3b1
  try clear c3b2
  obtain ⟨x5_1, x15_1, rfl, rfl, HA, HK1, ⟨m1, rfl⟩⟩ := hrel
  cases gk with
  | zero => exact absurd HA.out (by simp [impl_PlanDelay.l0])
  | succ k1 =>
   have H := HA.out
   clear HA
   simp only [impl_PlanDelay.l0] at H
   by_cases c4 : x15_1 < (l1.length : Int)
   rotate_left
   ·rw [if_neg c4] at H
    have c4b0 : decide (x15_1 < (l1.length : Int)) = false := dF_q c4
    clear c4
    obtain rfl := oI_q H
    go_wp2
    go_ret
    exact ⟨m7_q, m60_q⟩
   rw [if_pos c4] at H
   have c4b0 : decide (x15_1 < (l1.length : Int)) = true := dT_q c4
   clear c4
   by_cases c5 : 0 ≤ x15_1
   rotate_left
   ·rw [if_neg c5] at H
    exact absurd H (by simp)
   rw [if_pos c5] at H
   have c5b0 : decide (0 ≤ x15_1) = true := dT_q c5
   clear c5
   by_cases c6 : x15_1 < (l1.length : Int)
   rotate_left
   ·rw [if_neg c6] at H
    exact absurd H (by simp)
   rw [if_pos c6] at H
   have c6b0 : decide (x15_1 < (l1.length : Int)) = true := dT_q c6
   clear c6
   by_cases c7 : x15_1 < (l0.length : Int)
   rotate_left
   ·rw [if_neg c7] at H
    exact absurd H (by simp)
   rw [if_pos c7] at H
   have c7b0 : decide (x15_1 < (l0.length : Int)) = true := dT_q c7
   clear c7
   replace H := oB_q.mp H
   obtain ⟨t880, A80, H⟩ := H
   replace H : (if t880 = true then ((impl_isStart.f (rd l1 x15_1)).bind fun t881 => (if t881 = true then (if (rd l1 x15_1) < (rd l0 x15_1) then (some (-1)) else (impl_PlanDelay.l0 k1 l0 (wrap64 (x5_1 + (wrap64 ((rd l1 x15_1) - (rd l0 x15_1))))) l1 (l1.length : Int) (wrap64 (x15_1 + 1)))) else (some (-1)))) else (some (-1))) = some r := H
   have A8 := Ae_q A80
   clear A80
   by_cases c9 : t880 = true
   rotate_left
   ·replace c9 := fM_q.mpr c9
    subst c9
    have H1 : (some (-1)) = some r := by rw [if_neg (show ¬ (false = true) by decide)] at H; exact H
    clear H
    have H := H1
    clear H1
    obtain rfl := oI_q H
    have p878 : 0 ≤ (x15_1 : Int) := oD_q (by assumption)
    have q878 : x15_1 < (l1.length : Int) := oD_q (by assumption)
    obtain ⟨ad878, e878, hx878_0⟩ := aI_q HR1.out x15_1 p878 q878
    cases e878
    replace p878 := eq_true p878
    replace q878 := eq_true q878
    have p879 : 0 ≤ (x15_1 : Int) := oD_q (by assumption)
    have q879 : x15_1 < (l0.length : Int) := oD_q (by assumption)
    obtain ⟨ad879, e879, hx879_0⟩ := aI_q HR0.out x15_1 p879 q879
    cases e879
    replace p879 := eq_true p879
    replace q879 := eq_true q879
    go_wp2_with (first | ((with_reducible refine gC_q (f := 58) rfl ?_); refine gL_q (some 24) rfl rfl Try.func58 m9_q rfl #[.int .i64 (rd l0 x15_1)] rfl m0_q ?_; (with_reducible refine (impl_isStart.calls (rd l0 x15_1) false _ A8.out).mono ?_); rintro e w' ⟨rfl, ⟨nd, rfl⟩⟩; refine ⟨_, rfl, ?_⟩))
    go_ret
    exact ⟨m7_q, m60_q⟩
   subst c9
   have H1 : ((impl_isStart.f (rd l1 x15_1)).bind fun t881 => (if t881 = true then (if (rd l1 x15_1) < (rd l0 x15_1) then (some (-1)) else (impl_PlanDelay.l0 k1 l0 (wrap64 (x5_1 + (wrap64 ((rd l1 x15_1) - (rd l0 x15_1))))) l1 (l1.length : Int) (wrap64 (x15_1 + 1)))) else (some (-1)))) = some r := by rw [if_pos rfl] at H; exact H
   clear H
   have H := H1
   clear H1
   replace H := oB_q.mp H
   obtain ⟨t881, A100, H⟩ := H
   replace H : (if t881 = true then (if (rd l1 x15_1) < (rd l0 x15_1) then (some (-1)) else (impl_PlanDelay.l0 k1 l0 (wrap64 (x5_1 + (wrap64 ((rd l1 x15_1) - (rd l0 x15_1))))) l1 (l1.length : Int) (wrap64 (x15_1 + 1)))) else (some (-1))) = some r := H
   have A10 := Ae_q A100
   clear A100
   by_cases c11 : t881 = true
   rotate_left
   ·replace c11 := fM_q.mpr c11
    subst c11
    have H1 : (some (-1)) = some r := by rw [if_neg (show ¬ (false = true) by decide)] at H; exact H
    clear H
    have H := H1
    clear H1
    obtain rfl := oI_q H
    have p878 : 0 ≤ (x15_1 : Int) := oD_q (by assumption)
    have q878 : x15_1 < (l1.length : Int) := oD_q (by assumption)
    obtain ⟨ad878, e878, hx878_0⟩ := aI_q HR1.out x15_1 p878 q878
    cases e878
    replace p878 := eq_true p878
    replace q878 := eq_true q878
    have p879 : 0 ≤ (x15_1 : Int) := oD_q (by assumption)
    have q879 : x15_1 < (l0.length : Int) := oD_q (by assumption)
    obtain ⟨ad879, e879, hx879_0⟩ := aI_q HR0.out x15_1 p879 q879
    cases e879
    replace p879 := eq_true p879
    replace q879 := eq_true q879
    go_wp2_with (first | ((with_reducible refine gC_q (f := 58) rfl ?_); refine gL_q (some 24) rfl rfl Try.func58 m9_q rfl #[.int .i64 (rd l0 x15_1)] rfl m0_q ?_; (with_reducible refine (impl_isStart.calls (rd l0 x15_1) true _ A8.out).mono ?_); rintro e w' ⟨rfl, ⟨nd, rfl⟩⟩; refine ⟨_, rfl, ?_⟩) | (go_at_call 58; (with_reducible refine (impl_isStart.calls (rd l1 x15_1) false _ A10.out).mono ?_); rintro e w' ⟨rfl, ⟨nd, rfl⟩⟩))
    go_ret
    exact ⟨m7_q, m60_q⟩
   subst c11
   have H1 : (if (rd l1 x15_1) < (rd l0 x15_1) then (some (-1)) else (impl_PlanDelay.l0 k1 l0 (wrap64 (x5_1 + (wrap64 ((rd l1 x15_1) - (rd l0 x15_1))))) l1 (l1.length : Int) (wrap64 (x15_1 + 1)))) = some r := by rw [if_pos rfl] at H; exact H
   clear H
   have H := H1
   clear H1
   by_cases c12 : (rd l1 x15_1) < (rd l0 x15_1)
   ·rw [if_pos c12] at H
    have c12b0 : decide ((rd l1 x15_1) < (rd l0 x15_1)) = true := dT_q c12
    clear c12
    obtain rfl := oI_q H
    have p878 : 0 ≤ (x15_1 : Int) := oD_q (by assumption)
    have q878 : x15_1 < (l1.length : Int) := oD_q (by assumption)
    obtain ⟨ad878, e878, hx878_0⟩ := aI_q HR1.out x15_1 p878 q878
    cases e878
    replace p878 := eq_true p878
    replace q878 := eq_true q878
    have p879 : 0 ≤ (x15_1 : Int) := oD_q (by assumption)
    have q879 : x15_1 < (l0.length : Int) := oD_q (by assumption)
    obtain ⟨ad879, e879, hx879_0⟩ := aI_q HR0.out x15_1 p879 q879
    cases e879
    replace p879 := eq_true p879
    replace q879 := eq_true q879
    go_wp2_with (first | ((with_reducible refine gC_q (f := 58) rfl ?_); refine gL_q (some 24) rfl rfl Try.func58 m9_q rfl #[.int .i64 (rd l0 x15_1)] rfl m0_q ?_; (with_reducible refine (impl_isStart.calls (rd l0 x15_1) true _ A8.out).mono ?_); rintro e w' ⟨rfl, ⟨nd, rfl⟩⟩; refine ⟨_, rfl, ?_⟩) | (go_at_call 58; (with_reducible refine (impl_isStart.calls (rd l1 x15_1) true _ A10.out).mono ?_); rintro e w' ⟨rfl, ⟨nd, rfl⟩⟩; have p882 : 0 ≤ (x15_1 : Int) := oD_q (by assumption); have q882 : x15_1 < (l0.length : Int) := oD_q (by assumption); obtain ⟨ad882, e882, hx882_0⟩ := aI_q HR0.out x15_1 p882 q882; obtain rfl : ad879 = ad882 := (by injection e882); replace p882 := eq_true p882; replace q882 := eq_true q882))
    go_ret
    exact ⟨m7_q, m60_q⟩
   rw [if_neg c12] at H
   have c12b0 : decide ((rd l1 x15_1) < (rd l0 x15_1)) = false := dF_q c12
   clear c12
   have H' := Ae_q H
   clear H
   have p878 : 0 ≤ (x15_1 : Int) := oD_q (by assumption)
   have q878 : x15_1 < (l1.length : Int) := oD_q (by assumption)
   obtain ⟨ad878, e878, hx878_0⟩ := aI_q HR1.out x15_1 p878 q878
   cases e878
   replace p878 := eq_true p878
   replace q878 := eq_true q878
   have p879 : 0 ≤ (x15_1 : Int) := oD_q (by assumption)
   have q879 : x15_1 < (l0.length : Int) := oD_q (by assumption)
   obtain ⟨ad879, e879, hx879_0⟩ := aI_q HR0.out x15_1 p879 q879
   cases e879
   replace p879 := eq_true p879
   replace q879 := eq_true q879
   go_wp2_with (first | ((with_reducible refine gC_q (f := 58) rfl ?_); refine gL_q (some 24) rfl rfl Try.func58 m9_q rfl #[.int .i64 (rd l0 x15_1)] rfl m0_q ?_; (with_reducible refine (impl_isStart.calls (rd l0 x15_1) true _ A8.out).mono ?_); rintro e w' ⟨rfl, ⟨nd, rfl⟩⟩; refine ⟨_, rfl, ?_⟩) | (go_at_call 58; (with_reducible refine (impl_isStart.calls (rd l1 x15_1) true _ A10.out).mono ?_); rintro e w' ⟨rfl, ⟨nd, rfl⟩⟩; have p882 : 0 ≤ (x15_1 : Int) := oD_q (by assumption); have q882 : x15_1 < (l0.length : Int) := oD_q (by assumption); obtain ⟨ad882, e882, hx882_0⟩ := aI_q HR0.out x15_1 p882 q882; obtain rfl : ad879 = ad882 := (by injection e882); replace p882 := eq_true p882; replace q882 := eq_true q882; have p883 : 0 ≤ (x15_1 : Int) := oD_q (by assumption); have q883 : x15_1 < (l0.length : Int) := oD_q (by assumption); obtain ⟨ad883, e883, hx883_0⟩ := aI_q HR0.out x15_1 p883 q883; obtain rfl : ad879 = ad883 := (by injection e883); replace p883 := eq_true p883; replace q883 := eq_true q883))
   go_roundg k1
   case measure => have := HK1.out; omega
   case rel => exact ⟨(wrap64 (x5_1 + (wrap64 ((rd l1 x15_1) - (rd l0 x15_1))))), (wrap64 (x15_1 + 1)), m7_q, m7_q, H', ⟨m135_q⟩, m60_q⟩

end Go.Proofs.Ytfnpiacmlahegaa.PRp
