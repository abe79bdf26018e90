import Derived.Test.YtnckblolijkdaaaVJPBtx0
namespace Go.Proofs.Ytnckblolijkdaaa.PBt
open Go.RowKit Go.Proofs.YtnckblolijkdaaaW.PrintWords Go.Proofs.YtnckblolijkdaaaW.PrintLast Go.Proofs.YtnckblolijkdaaaW.PrintMore
attribute [local go_sem] max2_int min2_int max_two min_two max_three min_three max_four min_four
set_option linter.unusedVariables false
set_option linter.unusedSimpArgs false

def laws_heldIntS.l0 : Nat → List Int → Int → Int → Option (Int)
 | 0, _, _, _ => none
 | k + 1, x0, x1, x5 => if x5 < (x0.length : Int) then (if 0 ≤ x5 then (if (rd x0 x5) = x1 then (laws_heldIntS.l0 k x0 (wrap64 (x1 + 1)) (wrap64 (x5 + 1))) else (some (-1))) else (none)) else (some x1)
def laws_heldIntS.f (k : Nat) (l0 : List Int) (a1 : Int) : Option (Int) := laws_heldIntS.l0 k l0 a1 0
set_option maxHeartbeats 8000000 in
set_option maxRecDepth 100000 in
theorem laws_heldIntS.calls (k : Nat) (A0 : Option Addr) (c0 : Nat) (l0 : List Int) (a1 : Int) (r : Int) (w : World) (hr0 : Kd.C kI_q w A0 l0.length l0) (hc0 : l0.length ≤ c0) (h : laws_heldIntS.f k l0 a1 = some r) :
    Calls Try.prog 28 #[.slice A0 l0.length c0, .int .i64 a1] w fun e w' => e = .returned (.int .i64 r) ∧ Drawn0 w w' := by
 have HR0 := Ae_q hr0
 have HC0 := Ae_q hc0
 clear hr0 hc0
 have H : (laws_heldIntS.l0 k l0 a1 0) = some r := h
 clear h
 have H' := Ae_q H
 clear H
 go_enter Try.func28, Try.ntmps28
 go_wp2
 go_loopg [1, 5] k (fun kq v1 v5 w' => ∃ (x1_1 : Int) (x5_1 : Int), v1 = .int .i64 x1_1 ∧ v5 = .int .i64 x5_1 ∧ Aside0 (laws_heldIntS.l0 kq l0 x1_1 x5_1 = some r) ∧ Aside0 (kq ≤ k) ∧ Drawn0 w w')
 case atStart => exact ⟨(a1), (0), m3_q, m3_q, H', ⟨nR_q _⟩, m8_q⟩
 case round =>
  clear H'
  try clear c2
  try clear p2
  obtain ⟨x1_1, x5_1, rfl, rfl, HA, HK1, ⟨m1, rfl⟩⟩ := hrel
  cases gk with
  | zero => exact absurd HA.out (by simp [laws_heldIntS.l0])
  | succ k1 =>
   have H := HA.out
   clear HA
   simp only [laws_heldIntS.l0] at H
   by_cases c3 : x5_1 < (l0.length : Int)
   rotate_left
   ·rw [if_neg c3] at H
    have c3b0 : decide (x5_1 < (l0.length : Int)) = false := dF_q c3
    clear c3
    obtain rfl := oI_q H
    go_wp2
    go_ret
    exact ⟨m3_q, m8_q⟩
   rw [if_pos c3] at H
   have c3b0 : decide (x5_1 < (l0.length : Int)) = true := dT_q c3
   clear c3
   by_cases c4 : 0 ≤ x5_1
   rotate_left
   ·rw [if_neg c4] at H
    exact absurd H (by simp)
   rw [if_pos c4] at H
   have c4b0 : decide (0 ≤ x5_1) = true := dT_q c4
   clear c4
   by_cases c5 : (rd l0 x5_1) = x1_1
   rotate_left
   ·rw [if_neg c5] at H
    have c5b0 : ((rd l0 x5_1) == x1_1) = false := fN_q.mpr c5
    have c5b1 : ((rd l0 x5_1) != x1_1) = true := nI_q.mpr c5
    obtain rfl := oI_q H
    have p136 : 0 ≤ (x5_1 : Int) := oD_q (by assumption)
    have q136 : x5_1 < (l0.length : Int) := oD_q (by assumption)
    obtain ⟨ad136, e136, hx136_0⟩ := aI_q HR0.out x5_1 p136 q136
    cases e136
    replace p136 := eq_true p136
    replace q136 := eq_true q136
    go_wp2
    go_ret
    exact ⟨m3_q, m8_q⟩
   rw [if_pos c5] at H
   have c5b0 : ((rd l0 x5_1) == x1_1) = true := beq_iff_eq.mpr c5
   have c5b1 : ((rd l0 x5_1) != x1_1) = false := nE_q.mpr c5
   clear c5
   have H' := Ae_q H
   clear H
   have p136 : 0 ≤ (x5_1 : Int) := oD_q (by assumption)
   have q136 : x5_1 < (l0.length : Int) := oD_q (by assumption)
   obtain ⟨ad136, e136, hx136_0⟩ := aI_q HR0.out x5_1 p136 q136
   cases e136
   replace p136 := eq_true p136
   replace q136 := eq_true q136
   go_wp2
   go_roundg k1
   case measure => have := HK1.out; omega
   case rel => exact ⟨(wrap64 (x1_1 + 1)), (wrap64 (x5_1 + 1)), m3_q, m3_q, H', ⟨m28_q⟩, m8_q⟩

def impl_within.f (a0 : Int) (a1 : Int) (a2 : Int) : Option (Bool) := if a0 ≥ a1 then (some (decide (a0 ≤ a2))) else (some false)
set_option maxHeartbeats 8000000 in
set_option maxRecDepth 100000 in
theorem impl_within.calls (a0 : Int) (a1 : Int) (a2 : Int) (r : Bool) (w : World) (h : impl_within.f a0 a1 a2 = some r) :
    Calls Try.prog 47 #[.int .i64 a0, .int .i64 a1, .int .i64 a2] w fun e w' => e = .returned (.bool r) ∧ Drawn0 w w' := by
 have H : (if a0 ≥ a1 then (some (decide (a0 ≤ a2))) else (some false)) = some r := h
 clear h
 by_cases c4 : a0 ≥ a1
 ·rw [if_pos c4] at H
  have c4b0 : decide (a1 ≤ a0) = true := dT_q c4
  clear c4
  obtain rfl := oI_q H
  go_enter Try.func47, Try.ntmps47
  go_wp2
  go_ret
  exact ⟨m3_q, m8_q⟩
 rw [if_neg c4] at H
 have c4b0 : decide (a1 ≤ a0) = false := dF_q c4
 clear c4
 obtain rfl := oI_q H
 go_enter Try.func47, Try.ntmps47
 go_wp2
 go_ret
 exact ⟨m3_q, m8_q⟩

def impl_isId.f (a0 : Int) : Option (Bool) := (impl_within.f a0 1 20).bind fun t137 => (some t137)
set_option maxHeartbeats 8000000 in
set_option maxRecDepth 100000 in
theorem impl_isId.calls (a0 : Int) (r : Bool) (w : World) (h : impl_isId.f a0 = some r) :
    Calls Try.prog 44 #[.int .i64 a0] w fun e w' => e = .returned (.bool r) ∧ Drawn0 w w' := by
 have H : ((impl_within.f a0 1 20).bind fun t137 => (some t137)) = some r := h
 clear h
 replace H := oB_q.mp H
 obtain ⟨t137, A20, H⟩ := H
 replace H : (some t137) = some r := H
 have A2 := Ae_q A20
 clear A20
 obtain rfl := oI_q H
 go_enter Try.func44, Try.ntmps44
 go_wp2_with (first | ((with_reducible refine gC_q (f := 47) rfl ?_); refine gL_q (some 4) rfl rfl Try.func47 m5_q rfl #[.int .i64 a0, .int .i64 1, .int .i64 20] rfl m0_q ?_; (with_reducible refine (impl_within.calls a0 1 20 t137 _ A2.out).mono ?_); rintro e w' ⟨rfl, ⟨nd, rfl⟩⟩; refine ⟨_, rfl, ?_⟩))
 go_ret
 exact ⟨m3_q, m8_q⟩

def impl_idsAscend.l0 : Nat → List Int → List Int → Int → Int → Option (Bool)
 | 0, _, _, _, _ => none
 | k + 1, x0, x5, x6, x7 => if x7 < x6 then (if 0 ≤ x7 then (if x7 < (x5.length : Int) then ((impl_isId.f (rd x5 x7)).bind fun t139 => (if t139 = true then (if x7 > 0 then (if 0 ≤ (wrap64 (x7 - 1)) then (if (wrap64 (x7 - 1)) < (x0.length : Int) then (if (rd x0 (wrap64 (x7 - 1))) ≥ (rd x5 x7) then (some false) else (impl_idsAscend.l0 k x0 x5 x6 (wrap64 (x7 + 1)))) else (none)) else (none)) else (impl_idsAscend.l0 k x0 x5 x6 (wrap64 (x7 + 1)))) else (some false))) else (none)) else (none)) else (some true)
def impl_idsAscend.f (k : Nat) (l0 : List Int) : Option (Bool) := impl_idsAscend.l0 k l0 l0 (l0.length : Int) 0
set_option maxHeartbeats 8000000 in
set_option maxRecDepth 100000 in
theorem impl_idsAscend.calls (k : Nat) (A0 : Option Addr) (c0 : Nat) (l0 : List Int) (r : Bool) (w : World) (hr0 : Kd.C kI_q w A0 l0.length l0) (hc0 : l0.length ≤ c0) (h : impl_idsAscend.f k l0 = some r) :
    Calls Try.prog 45 #[.slice A0 l0.length c0] w fun e w' => e = .returned (.bool r) ∧ Drawn0 w w' := by
 have HR0 := Ae_q hr0
 have HC0 := Ae_q hc0
 clear hr0 hc0
 have H : (impl_idsAscend.l0 k l0 l0 (l0.length : Int) 0) = some r := h
 clear h
 have H' := Ae_q H
 clear H
 go_enter Try.func45, Try.ntmps45
 go_wp2
 go_loopg [7] k (fun kq v7 w' => ∃ (x7_1 : Int), v7 = .int .i64 x7_1 ∧ Aside0 (impl_idsAscend.l0 kq l0 l0 (l0.length : Int) x7_1 = some r) ∧ Aside0 (kq ≤ k) ∧ Drawn0 w w')
 case atStart => exact ⟨(0), m3_q, H', ⟨nR_q _⟩, m8_q⟩
 case round =>
  clear H'
  obtain ⟨x7_1, rfl, HA, HK1, ⟨m1, rfl⟩⟩ := hrel
  cases gk with
  | zero => exact absurd HA.out (by simp [impl_idsAscend.l0])
  | succ k1 =>
   have H := HA.out
   clear HA
   simp only [impl_idsAscend.l0] at H
   by_cases c2 : x7_1 < (l0.length : Int)
   rotate_left
   ·rw [if_neg c2] at H
    have c2b0 : decide (x7_1 < (l0.length : Int)) = false := dF_q c2
    clear c2
    obtain rfl := oI_q H
    go_wp2
    go_ret
    exact ⟨m3_q, m8_q⟩
   rw [if_pos c2] at H
   have c2b0 : decide (x7_1 < (l0.length : Int)) = true := dT_q c2
   clear c2
   by_cases c3 : 0 ≤ x7_1
   rotate_left
   ·rw [if_neg c3] at H
    exact absurd H (by simp)
   rw [if_pos c3] at H
   have c3b0 : decide (0 ≤ x7_1) = true := dT_q c3
   clear c3
   by_cases c4 : x7_1 < (l0.length : Int)
   rotate_left
   ·rw [if_neg c4] at H
    exact absurd H (by simp)
   rw [if_pos c4] at H
   have c4b0 : decide (x7_1 < (l0.length : Int)) = true := dT_q c4
   clear c4
   replace H := oB_q.mp H
   obtain ⟨t139, A50, H⟩ := H
   replace H : (if t139 = true then (if x7_1 > 0 then (if 0 ≤ (wrap64 (x7_1 - 1)) then (if (wrap64 (x7_1 - 1)) < (l0.length : Int) then (if (rd l0 (wrap64 (x7_1 - 1))) ≥ (rd l0 x7_1) then (some false) else (impl_idsAscend.l0 k1 l0 l0 (l0.length : Int) (wrap64 (x7_1 + 1)))) else (none)) else (none)) else (impl_idsAscend.l0 k1 l0 l0 (l0.length : Int) (wrap64 (x7_1 + 1)))) else (some false)) = some r := H
   have A5 := Ae_q A50
   clear A50
   by_cases c6 : t139 = true
   rotate_left
   ·replace c6 := fM_q.mpr c6
    subst c6
    have H1 : (some false) = some r := by rw [if_neg (show ¬ (false = true) by decide)] at H; exact H
    clear H
    have H := H1
    clear H1
    obtain rfl := oI_q H
    have p138 : 0 ≤ (x7_1 : Int) := oD_q (by assumption)
    have q138 : x7_1 < (l0.length : Int) := oD_q (by assumption)
    obtain ⟨ad138, e138, hx138_0⟩ := aI_q HR0.out x7_1 p138 q138
    cases e138
    replace p138 := eq_true p138
    replace q138 := eq_true q138
    go_wp2_with (first | ((with_reducible refine gC_q (f := 44) rfl ?_); refine gL_q (some 13) rfl rfl Try.func44 m5_q rfl #[.int .i64 (rd l0 x7_1)] rfl m0_q ?_; (with_reducible refine (impl_isId.calls (rd l0 x7_1) false _ A5.out).mono ?_); rintro e w' ⟨rfl, ⟨nd, rfl⟩⟩; refine ⟨_, rfl, ?_⟩))
    go_ret
    exact ⟨m3_q, m8_q⟩
   subst c6
   have H1 : (if x7_1 > 0 then (if 0 ≤ (wrap64 (x7_1 - 1)) then (if (wrap64 (x7_1 - 1)) < (l0.length : Int) then (if (rd l0 (wrap64 (x7_1 - 1))) ≥ (rd l0 x7_1) then (some false) else (impl_idsAscend.l0 k1 l0 l0 (l0.length : Int) (wrap64 (x7_1 + 1)))) else (none)) else (none)) else (impl_idsAscend.l0 k1 l0 l0 (l0.length : Int) (wrap64 (x7_1 + 1)))) = some r := by rw [if_pos rfl] at H; exact H
   clear H
   have H := H1
   clear H1
   by_cases c7 : x7_1 > 0
   rotate_left
   ·rw [if_neg c7] at H
    have c7b0 : decide (0 < x7_1) = false := dF_q c7
    clear c7
    have H' := Ae_q H
    clear H
    have p138 : 0 ≤ (x7_1 : Int) := oD_q (by assumption)
    have q138 : x7_1 < (l0.length : Int) := oD_q (by assumption)
    obtain ⟨ad138, e138, hx138_0⟩ := aI_q HR0.out x7_1 p138 q138
    cases e138
    replace p138 := eq_true p138
    replace q138 := eq_true q138
    go_wp2_with (first | ((with_reducible refine gC_q (f := 44) rfl ?_); refine gL_q (some 13) rfl rfl Try.func44 m5_q rfl #[.int .i64 (rd l0 x7_1)] rfl m0_q ?_; (with_reducible refine (impl_isId.calls (rd l0 x7_1) true _ A5.out).mono ?_); rintro e w' ⟨rfl, ⟨nd, rfl⟩⟩; refine ⟨_, rfl, ?_⟩))
    go_roundg k1
    case measure => have := HK1.out; omega
    case rel => exact ⟨(wrap64 (x7_1 + 1)), m3_q, H', ⟨m28_q⟩, m8_q⟩
   rw [if_pos c7] at H
   have c7b0 : decide (0 < x7_1) = true := dT_q c7
   clear c7
   obtain ⟨ji8, hji8⟩ : ∃ j_ : Int, (wrap64 (x7_1 - 1)) = j_ := ⟨_, rfl⟩
   replace H : (if 0 ≤ (ji8) then (if (ji8) < (l0.length : Int) then (if (rd l0 (ji8)) ≥ (rd l0 x7_1) then (some false) else (impl_idsAscend.l0 k1 l0 l0 (l0.length : Int) (wrap64 (x7_1 + 1)))) else (none)) else (none)) = some r := by first | (rw [hji8] at H; exact H) | (simp only [hji8] at H ⊢; exact H)
   (try rw [hji8] at A5)
   have hji8w : (IntKind.i64.wrap (x7_1 - 1)) = ji8 := (i64_w _).trans hji8
   by_cases c9 : 0 ≤ (ji8)
   rotate_left
   ·rw [if_neg c9] at H
    exact absurd H (by simp)
   rw [if_pos c9] at H
   have c9b0 : decide (0 ≤ (ji8)) = true := dT_q c9
   clear c9
   by_cases c10 : (ji8) < (l0.length : Int)
   rotate_left
   ·rw [if_neg c10] at H
    exact absurd H (by simp)
   rw [if_pos c10] at H
   have c10b0 : decide ((ji8) < (l0.length : Int)) = true := dT_q c10
   clear c10
   by_cases c11 : (rd l0 (ji8)) ≥ (rd l0 x7_1)
   ·rw [if_pos c11] at H
    have c11b0 : decide ((rd l0 x7_1) ≤ (rd l0 (ji8))) = true := dT_q c11
    clear c11
    obtain rfl := oI_q H
    have p138 : 0 ≤ (x7_1 : Int) := oD_q (by assumption)
    have q138 : x7_1 < (l0.length : Int) := oD_q (by assumption)
    obtain ⟨ad138, e138, hx138_0⟩ := aI_q HR0.out x7_1 p138 q138
    cases e138
    replace p138 := eq_true p138
    replace q138 := eq_true q138
    go_wp2_with (first | ((with_reducible refine gC_q (f := 44) rfl ?_); refine gL_q (some 13) rfl rfl Try.func44 m5_q rfl #[.int .i64 (rd l0 x7_1)] rfl m0_q ?_; (with_reducible refine (impl_isId.calls (rd l0 x7_1) true _ A5.out).mono ?_); rintro e w' ⟨rfl, ⟨nd, rfl⟩⟩; refine ⟨_, rfl, ?_⟩; have p140 : 0 ≤ ((ji8) : Int) := oD_q (by assumption); have q140 : (ji8) < (l0.length : Int) := oD_q (by assumption); obtain ⟨ad140, e140, hx140_0⟩ := aI_q HR0.out (ji8) p140 q140; obtain rfl : ad138 = ad140 := (by injection e140); replace p140 := eq_true p140; replace q140 := eq_true q140))
    go_ret
    exact ⟨by first | rfl | (simp; done) | (simp only [← hji8] <;> (first | rfl | simp)) | (simp [*]; done), m8_q⟩
   rw [if_neg c11] at H
   have c11b0 : decide ((rd l0 x7_1) ≤ (rd l0 (ji8))) = false := dF_q c11
   clear c11
   have H' := Ae_q H
   clear H
   have p138 : 0 ≤ (x7_1 : Int) := oD_q (by assumption)
   have q138 : x7_1 < (l0.length : Int) := oD_q (by assumption)
   obtain ⟨ad138, e138, hx138_0⟩ := aI_q HR0.out x7_1 p138 q138
   cases e138
   replace p138 := eq_true p138
   replace q138 := eq_true q138
   go_wp2_with (first | ((with_reducible refine gC_q (f := 44) rfl ?_); refine gL_q (some 13) rfl rfl Try.func44 m5_q rfl #[.int .i64 (rd l0 x7_1)] rfl m0_q ?_; (with_reducible refine (impl_isId.calls (rd l0 x7_1) true _ A5.out).mono ?_); rintro e w' ⟨rfl, ⟨nd, rfl⟩⟩; refine ⟨_, rfl, ?_⟩; have p140 : 0 ≤ ((ji8) : Int) := oD_q (by assumption); have q140 : (ji8) < (l0.length : Int) := oD_q (by assumption); obtain ⟨ad140, e140, hx140_0⟩ := aI_q HR0.out (ji8) p140 q140; obtain rfl : ad138 = ad140 := (by injection e140); replace p140 := eq_true p140; replace q140 := eq_true q140))
   go_roundg k1
   case measure => have := HK1.out; omega
   case rel => exact ⟨(wrap64 (x7_1 + 1)), m3_q, H', ⟨m28_q⟩, m8_q⟩

def impl_isMinute.f (a0 : Int) : Option (Bool) := (impl_within.f a0 0 1439).bind fun t141 => (some t141)
set_option maxHeartbeats 8000000 in
set_option maxRecDepth 100000 in
theorem impl_isMinute.calls (a0 : Int) (r : Bool) (w : World) (h : impl_isMinute.f a0 = some r) :
    Calls Try.prog 46 #[.int .i64 a0] w fun e w' => e = .returned (.bool r) ∧ Drawn0 w w' := by
 have H : ((impl_within.f a0 0 1439).bind fun t141 => (some t141)) = some r := h
 clear h
 replace H := oB_q.mp H
 obtain ⟨t141, A20, H⟩ := H
 replace H : (some t141) = some r := H
 have A2 := Ae_q A20
 clear A20
 obtain rfl := oI_q H
 go_enter Try.func46, Try.ntmps46
 go_wp2_with (first | ((with_reducible refine gC_q (f := 47) rfl ?_); refine gL_q (some 4) rfl rfl Try.func47 m5_q rfl #[.int .i64 a0, .int .i64 0, .int .i64 1439] rfl m0_q ?_; (with_reducible refine (impl_within.calls a0 0 1439 t141 _ A2.out).mono ?_); rintro e w' ⟨rfl, ⟨nd, rfl⟩⟩; refine ⟨_, rfl, ?_⟩))
 go_ret
 exact ⟨m3_q, m8_q⟩

end Go.Proofs.Ytnckblolijkdaaa.PBt
