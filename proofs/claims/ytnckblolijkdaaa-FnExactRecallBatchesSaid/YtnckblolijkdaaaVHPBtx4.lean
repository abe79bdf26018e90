import Derived.Test.YtnckblolijkdaaaVHPBtx0
import Derived.Test.YtnckblolijkdaaaVHPBtx3
namespace Go.Proofs.Ytnckblolijkdaaa.PBt
open Go.RowKit Go.Proofs.YtnckblolijkdaaaW.PrintWords Go.Proofs.YtnckblolijkdaaaW.PrintLast Go.Proofs.YtnckblolijkdaaaW.PrintMore
attribute [local go_sem] max2_int min2_int max_two min_two max_three min_three max_four min_four
set_option linter.unusedVariables false
set_option linter.unusedSimpArgs false

def slices_Index_int_int.l0 : Nat → List Int → Int → Int → Int → Option (Int)
 | 0, _, _, _, _ => none
 | k + 1, x0, x1, x7, x8 => if x8 < x7 then (if 0 ≤ x8 then (if x8 < (x0.length : Int) then (if x1 = (rd x0 x8) then (some x8) else (slices_Index_int_int.l0 k x0 x1 x7 (wrap64 (x8 + 1)))) else (none)) else (none)) else (some (-1))
def slices_Index_int_int.f (k : Nat) (l0 : List Int) (a1 : Int) : Option (Int) := slices_Index_int_int.l0 k l0 a1 (l0.length : Int) 0
set_option maxHeartbeats 8000000 in
set_option maxRecDepth 100000 in
theorem slices_Index_int_int.calls (k : Nat) (A0 : Option Addr) (c0 : Nat) (l0 : List Int) (a1 : Int) (r : Int) (w : World) (hr0 : Kd.C (Kd.int .i64) w A0 l0.length l0) (hc0 : l0.length ≤ c0) (h : slices_Index_int_int.f k l0 a1 = some r) :
    Calls Try.prog 67 #[.slice A0 l0.length c0, .int .i64 a1] w fun e w' => e = .returned (.int .i64 r) ∧ Drawn0 w w' := by
 have HR0 := Ae_q hr0
 have HC0 := Ae_q hc0
 clear hr0 hc0
 have H : (slices_Index_int_int.l0 k l0 a1 (l0.length : Int) 0) = some r := h
 clear h
 have H' := Ae_q H
 clear H
 go_enter Try.func67, Try.ntmps67
 go_wp2
 go_loopg [8] k (fun kq v8 w' => ∃ (x8_1 : Int), v8 = .int .i64 x8_1 ∧ Aside0 (slices_Index_int_int.l0 kq l0 a1 (l0.length : Int) x8_1 = some r) ∧ Aside0 (kq ≤ k) ∧ Drawn0 w w')
 case atStart => exact ⟨(0), m3_q, H', ⟨nR_q _⟩, m6_q⟩
 case round =>
  clear H'
  try clear p2
  obtain ⟨x8_1, rfl, HA, HK1, ⟨m1, rfl⟩⟩ := hrel
  cases gk with
  | zero => exact absurd HA.out (by simp [slices_Index_int_int.l0])
  | succ k1 =>
   have H := HA.out
   clear HA
   simp only [slices_Index_int_int.l0] at H
   by_cases c3 : x8_1 < (l0.length : Int)
   rotate_left
   ·rw [if_neg c3] at H
    have c3b0 : decide (x8_1 < (l0.length : Int)) = false := dF_q c3
    clear c3
    obtain rfl := oI_q H
    go_wp2
    go_ret
    exact ⟨m3_q, m6_q⟩
   rw [if_pos c3] at H
   have c3b0 : decide (x8_1 < (l0.length : Int)) = true := dT_q c3
   clear c3
   by_cases c4 : 0 ≤ x8_1
   rotate_left
   ·rw [if_neg c4] at H
    exact absurd H (by simp)
   rw [if_pos c4] at H
   have c4b0 : decide (0 ≤ x8_1) = true := dT_q c4
   clear c4
   by_cases c5 : x8_1 < (l0.length : Int)
   rotate_left
   ·rw [if_neg c5] at H
    exact absurd H (by simp)
   rw [if_pos c5] at H
   have c5b0 : decide (x8_1 < (l0.length : Int)) = true := dT_q c5
   clear c5
   by_cases c6 : a1 = (rd l0 x8_1)
   ·rw [if_pos c6] at H
    have c6b0 : (a1 == (rd l0 x8_1)) = true := beq_iff_eq.mpr c6
    have c6b1 : (a1 != (rd l0 x8_1)) = false := nE_q.mpr c6
    clear c6
    obtain rfl := oI_q H
    have p147 : 0 ≤ (x8_1 : Int) := oD_q (by assumption)
    have q147 : x8_1 < (l0.length : Int) := oD_q (by assumption)
    obtain ⟨ad147, e147, hx147_0⟩ := aI_q HR0.out x8_1 p147 q147
    cases e147
    replace p147 := eq_true p147
    replace q147 := eq_true q147
    go_wp2
    go_ret
    exact ⟨m3_q, m6_q⟩
   rw [if_neg c6] at H
   have c6b0 : (a1 == (rd l0 x8_1)) = false := fN_q.mpr c6
   have c6b1 : (a1 != (rd l0 x8_1)) = true := nI_q.mpr c6
   have H' := Ae_q H
   clear H
   have p147 : 0 ≤ (x8_1 : Int) := oD_q (by assumption)
   have q147 : x8_1 < (l0.length : Int) := oD_q (by assumption)
   obtain ⟨ad147, e147, hx147_0⟩ := aI_q HR0.out x8_1 p147 q147
   cases e147
   replace p147 := eq_true p147
   replace q147 := eq_true q147
   go_wp2
   go_roundg k1
   case measure => have := HK1.out; omega
   case rel => exact ⟨(wrap64 (x8_1 + 1)), m3_q, H', ⟨m23_q⟩, m6_q⟩

def slices_Contains_int_int.f (k : Nat) (l0 : List Int) (a1 : Int) : Option (Bool) := (slices_Index_int_int.f k l0 a1).bind fun t148 => (some (decide (t148 ≥ 0)))
set_option maxHeartbeats 8000000 in
set_option maxRecDepth 100000 in
theorem slices_Contains_int_int.calls (k : Nat) (A0 : Option Addr) (c0 : Nat) (l0 : List Int) (a1 : Int) (r : Bool) (w : World) (hr0 : Kd.C (Kd.int .i64) w A0 l0.length l0) (hc0 : l0.length ≤ c0) (h : slices_Contains_int_int.f k l0 a1 = some r) :
    Calls Try.prog 53 #[.slice A0 l0.length c0, .int .i64 a1] w fun e w' => e = .returned (.bool r) ∧ Drawn0 w w' := by
 have HR0 := Ae_q hr0
 have HC0 := Ae_q hc0
 clear hr0 hc0
 have H : ((slices_Index_int_int.f k l0 a1).bind fun t148 => (some (decide (t148 ≥ 0)))) = some r := h
 clear h
 replace H := oB_q.mp H
 obtain ⟨t148, A30, H⟩ := H
 replace H : (some (decide (t148 ≥ 0))) = some r := H
 have A3 := Ae_q A30
 clear A30
 obtain rfl := oI_q H
 go_enter Try.func53, Try.ntmps53
 go_wp2_with (first | ((with_reducible refine gC_q (f := 67) rfl ?_); refine gL_q (some 7) rfl rfl Try.func67 m5_q rfl #[.slice A0 l0.length c0, .int .i64 a1] rfl m0_q ?_; (with_reducible refine (slices_Index_int_int.calls k _ _ l0 a1 t148 _ ?side1 ?side2 A3.out).mono ?_); (case side1 => exact m16_q); (case side2 => exact m30_q); rintro e w' ⟨rfl, ⟨nd, rfl⟩⟩; refine ⟨_, rfl, ?_⟩))
 go_ret
 exact ⟨m3_q, m6_q⟩

def impl_RecallBatches.l0 : Nat → Int → List Int → List (S39) → Int → Int → Option (List Int)
 | 0, _, _, _, _, _ => none
 | k + 1, x1, x5, x13, x14, x15 => if x15 < x14 then (if 0 ≤ x15 then (if x15 < (x13.length : Int) then ((slices_Contains_int_int.f k ((rd_T39 x13 x15).f1) x1).bind fun t155 => (if t155 = true then (if x5.length < 17592186044416 then (impl_RecallBatches.l0 k x1 (x5 ++ [(rd_T39 x13 x15).f0]) x13 x14 (wrap64 (x15 + 1))) else (none)) else (impl_RecallBatches.l0 k x1 x5 x13 x14 (wrap64 (x15 + 1))))) else (none)) else (none)) else (some x5)
def impl_RecallBatches.f (k : Nat) (l0 : List (S39)) (a1 : Int) : Option (List Int) := (some (([] : List Int) : List Int)).bind fun y149 => ((impl_BatchesValid.f k l0).bind fun t152 => (if t152 = true then (impl_RecallBatches.l0 k a1 y149 l0 (l0.length : Int) 0) else (some y149)))
set_option maxHeartbeats 8000000 in
set_option maxRecDepth 100000 in
theorem impl_RecallBatches.calls (k : Nat) (A0 : Option Addr) (c0 : Nat) (l0 : List (S39)) (a1 : Int) (r : List Int) (w : World) (hr0 : Kd.C k39 w A0 l0.length l0) (hc0 : l0.length ≤ c0) (h : impl_RecallBatches.f k l0 a1 = some r) :
    Calls Try.prog 21 #[.slice A0 l0.length c0, .int .i64 a1] w fun e w' => ∃ v0_ : Value, e = .returned (v0_) ∧ Kd.R (Kd.int .i64) 3 w' w.heap.size (fun _ => True) v0_ r ∧ Below w.heap.size w w' := by
 have hu39 := Try.underlying39
 have HR0 := Ae_q hr0
 have HC0 := Ae_q hc0
 clear hr0 hc0
 have HB := Ae_q (bR_q w.heap.size w)
 have H : ((some (([] : List Int) : List Int)).bind fun y149 => ((impl_BatchesValid.f k l0).bind fun t152 => (if t152 = true then (impl_RecallBatches.l0 k a1 y149 l0 (l0.length : Int) 0) else (some y149)))) = some r := h
 clear h
 obtain ⟨y149, hy149⟩ : ∃ y_ : List Int, y_ = (([] : List Int)) := ⟨_, rfl⟩
 replace H : ((impl_BatchesValid.f k l0).bind fun t152 => (if t152 = true then (impl_RecallBatches.l0 k a1 y149 l0 (l0.length : Int) 0) else (some y149))) = some r := by first | (rw [hy149]; with_reducible exact H) | (have H2_ := (oS_q _ _).symm.trans H; rw [hy149]; with_reducible exact H2_) | (have H2_ := (oS_q _ _).symm.trans H; with_reducible exact H2_) | with_reducible exact H | (rw [hy149]; exact H) | exact H
 have Ny149 := Ae_q hy149
 clear hy149
 replace H := oB_q.mp H
 obtain ⟨t152, A30, H⟩ := H
 replace H : (if t152 = true then (impl_RecallBatches.l0 k a1 y149 l0 (l0.length : Int) 0) else (some y149)) = some r := H
 have A3 := Ae_q A30
 clear A30
 by_cases c4 : t152 = true
 rotate_left
 ·replace c4 := fM_q.mpr c4
  subst c4
  have H1 : (some y149) = some r := by rw [if_neg (show ¬ (false = true) by decide)] at H; exact H
  clear H
  have H := H1
  clear H1
  obtain rfl := oI_q H
  go_enter Try.func21, Try.ntmps21
  go_wp2_with (first | ((with_reducible refine gD_q (N := 8) rfl ?_); refine Kd.R_lit (Kd.int .i64) _ 3 ?hg (N := 8) ?hd (xs := ([] : List Int)) (inner := []) (ok := fun _ => True) (okp := fun _ => True) ?hr ?hp (fun _ hk => hk) trivial (bR_q _ _) (nR_q _) (by simp) ?_; (case hd => rfl); (case hg => rfl); (case hr => exact m10_q); (case hp => exact (Reps.none _ _)); intro v150 w19 ho20 hb hg_ hnew_; clear hg_ hnew_; (first | rw [← Ny149.out] at ho20 | (simp only [Int.reduceToNat] at ho20; rw [← Ny149.out] at ho20)); have HO151 := Ae_q (rL_q ho20 (bZ_q (bel HB.out))); replace HB := Ae_q (bT_q (bel HB.out) hb); clear hb ho20) | ((with_reducible refine gC_q (f := 15) rfl ?_); refine gL_q (some 10) rfl rfl Try.func15 m5_q rfl #[.slice A0 l0.length c0] rfl m0_q ?_; (with_reducible refine (impl_BatchesValid.calls k _ _ l0 false _ ?side1 ?side2 A3.out).mono ?_); (case side1 => exact m29_q); (case side2 => exact m30_q); rintro e w' ⟨rfl, hb⟩; refine ⟨_, rfl, ?_⟩; replace HO151 := Ae_q (rO_q (rup HO151.out) hb); replace HB := Ae_q (bT_q (bel HB.out) hb); (try clear hb); (try clear hb2); (try clear hk); (try clear hi)))
  go_ret
  exact ⟨_, m2_q, rup HO151.out, bel HB.out⟩
 subst c4
 have H1 : (impl_RecallBatches.l0 k a1 y149 l0 (l0.length : Int) 0) = some r := by rw [if_pos rfl] at H; exact H
 clear H
 have H := H1
 clear H1
 have H' := Ae_q H
 clear H
 go_enter Try.func21, Try.ntmps21
 go_wp2_with (first | ((with_reducible refine gD_q (N := 8) rfl ?_); refine Kd.R_lit (Kd.int .i64) _ 3 ?hg (N := 8) ?hd (xs := ([] : List Int)) (inner := []) (ok := fun _ => True) (okp := fun _ => True) ?hr ?hp (fun _ hk => hk) trivial (bR_q _ _) (nR_q _) (by simp) ?_; (case hd => rfl); (case hg => rfl); (case hr => exact m10_q); (case hp => exact (Reps.none _ _)); intro v150 w5 ho6 hb hg_ hnew_; clear hg_ hnew_; (first | rw [← Ny149.out] at ho6 | (simp only [Int.reduceToNat] at ho6; rw [← Ny149.out] at ho6)); have HO151 := Ae_q (rL_q ho6 (bZ_q (bel HB.out))); replace HB := Ae_q (bT_q (bel HB.out) hb); clear hb ho6) | ((with_reducible refine gC_q (f := 15) rfl ?_); refine gL_q (some 10) rfl rfl Try.func15 m5_q rfl #[.slice A0 l0.length c0] rfl m0_q ?_; (with_reducible refine (impl_BatchesValid.calls k _ _ l0 true _ ?side1 ?side2 A3.out).mono ?_); (case side1 => exact m29_q); (case side2 => exact m30_q); rintro e w' ⟨rfl, hb⟩; refine ⟨_, rfl, ?_⟩; replace HO151 := Ae_q (rO_q (rup HO151.out) hb); replace HB := Ae_q (bT_q (bel HB.out) hb); (try clear hb); (try clear hb2); (try clear hk); (try clear hi)))
 go_loopg [5, 15] k (fun kq v5 v15 w' => ∃ (x5_1 : List Int) (x15_1 : Int), v15 = .int .i64 x15_1 ∧ Aside0 (impl_RecallBatches.l0 kq a1 x5_1 l0 (l0.length : Int) x15_1 = some r) ∧ Aside0 (kq ≤ k) ∧ Aside0 (Kd.R (Kd.int .i64) 3 w' w.heap.size (fun _ => True) v5 x5_1) ∧ Aside0 (Below w.heap.size w w'))
 case atStart => exact ⟨(y149), (0), m3_q, H', ⟨nR_q _⟩, ⟨rup HO151.out⟩, ⟨bel HB.out⟩⟩
 case round =>
  clear H'
  try clear c1
  try clear c2
  try clear p2
  try clear c4
  obtain ⟨x5_1, x15_1, rfl, HA, HK1, HO_5, HB⟩ := hrel
  cases gk with
  | zero => exact absurd HA.out (by simp [impl_RecallBatches.l0])
  | succ k1 =>
   have H := HA.out
   clear HA
   simp only [impl_RecallBatches.l0] at H
   by_cases c8 : x15_1 < (l0.length : Int)
   rotate_left
   ·rw [if_neg c8] at H
    have c8b0 : decide (x15_1 < (l0.length : Int)) = false := dF_q c8
    clear c8
    obtain rfl := oI_q H
    go_wp2
    go_ret
    exact ⟨_, m2_q, rup HO_5.out, bel HB.out⟩
   rw [if_pos c8] at H
   have c8b0 : decide (x15_1 < (l0.length : Int)) = true := dT_q c8
   clear c8
   by_cases c9 : 0 ≤ x15_1
   rotate_left
   ·rw [if_neg c9] at H
    exact absurd H (by simp)
   rw [if_pos c9] at H
   have c9b0 : decide (0 ≤ x15_1) = true := dT_q c9
   clear c9
   by_cases c10 : x15_1 < (l0.length : Int)
   rotate_left
   ·rw [if_neg c10] at H
    exact absurd H (by simp)
   rw [if_pos c10] at H
   have c10b0 : decide (x15_1 < (l0.length : Int)) = true := dT_q c10
   clear c10
   replace H := oB_q.mp H
   obtain ⟨t155, A110, H⟩ := H
   replace H : (if t155 = true then (if x5_1.length < 17592186044416 then (impl_RecallBatches.l0 k1 a1 (x5_1 ++ [(rd_T39 l0 x15_1).f0]) l0 (l0.length : Int) (wrap64 (x15_1 + 1))) else (none)) else (impl_RecallBatches.l0 k1 a1 x5_1 l0 (l0.length : Int) (wrap64 (x15_1 + 1)))) = some r := H
   have A11 := Ae_q A110
   clear A110
   by_cases c12 : t155 = true
   rotate_left
   ·replace c12 := fM_q.mpr c12
    subst c12
    have H1 : (impl_RecallBatches.l0 k1 a1 x5_1 l0 (l0.length : Int) (wrap64 (x15_1 + 1))) = some r := by rw [if_neg (show ¬ (false = true) by decide)] at H; exact H
    clear H
    have H := H1
    clear H1
    have H' := Ae_q H
    clear H
    have p153 : 0 ≤ (x15_1 : Int) := oD_q (by assumption)
    have q153 : x15_1 < (l0.length : Int) := oD_q (by assumption)
    obtain ⟨ad153, A153_1, c153_1, e153, hx153_0, hx153_1, hx153_2, hx153_3, hl153_1, hi153_1⟩ := at_T39 HR0.out x15_1 p153 q153
    cases e153
    replace hx153_0 := cel HB.out hx153_0
    replace hx153_1 := cel HB.out hx153_1
    replace hx153_2 := cel HB.out hx153_2
    replace hx153_3 := cel HB.out hx153_3
    have HR153_1 := Ae_q hi153_1
    have HC153_1 := Ae_q hl153_1
    clear hi153_1 hl153_1
    replace p153 := eq_true p153
    replace q153 := eq_true q153
    go_wp2_with (first | ((with_reducible refine gD_q (N := 7) rfl ?_); refine bE_q ?hg (N := 7) ?hd (cs := #[.int .i64 0, .slice none 0 0, .int .i64 0, .int .i64 0]) (t := 39) ?hr ?_; (case hd => rfl); (case hg => rfl); (case hr => exact m10_q); intro gb154 hg w17 hbox hb; replace HO_5 := Ae_q (rO_q (rup HO_5.out) hb); have BK154 := Ae_q (hbox); have GW154 := Ae_q ((by rw [hg]; exact (bZ_q (bel HB.out)) : w.heap.size ≤ gb154)); have GE154 := Ae_q ((by rw [hg]; exact (bZ_q (bel HB.out)) : w.heap.size ≤ gb154)); replace HB := Ae_q (bT_q (bel HB.out) hb); clear hb hbox hg; have hcz18_0 : cI w17 gb154 0 0 := cZ BK154 0 rfl; have hcz18_1 : w17.cell? ⟨gb154, 1, none⟩ = some (.slice none 0 0) := (bC_q BK154.out 1).trans rfl; have hcz18_2 : cI w17 gb154 2 0 := cZ BK154 2 rfl; have hcz18_3 : cI w17 gb154 3 0 := cZ BK154 3 rfl; have hfz18_0 := bF_q BK154.out 0; have hfz18_1 := bF_q BK154.out 1; have hfz18_2 := bF_q BK154.out 2; have hfz18_3 := bF_q BK154.out 3) | ((with_reducible refine gC_q (f := 53) rfl ?_); refine gL_q (some 22) rfl rfl Try.func53 m5_q rfl #[.slice A153_1 ((rd_T39 l0 x15_1).f1).length c153_1, .int .i64 a1] rfl m0_q ?_; (with_reducible refine (slices_Contains_int_int.calls k1 _ _ ((rd_T39 l0 x15_1).f1) a1 false _ ?side1 ?side2 A11.out).mono ?_); (case side1 => exact cB_q HR153_1.out m17_q); (case side2 => exact HC153_1.out); rintro e w' ⟨rfl, ⟨nd, rfl⟩⟩; refine ⟨_, rfl, ?_⟩))
    go_roundg k1
    case measure => have := HK1.out; omega
    case rel => exact ⟨(x5_1), (wrap64 (x15_1 + 1)), m3_q, H', ⟨m23_q⟩, ⟨by (with_reducible repeat (first | apply rA_q | apply rN_q | apply rD_q)); exact rM_q (Kd.R_far (p := ⟨gb154, 3, none⟩) (Kd.R_far (p := ⟨gb154, 2, none⟩) (Kd.R_far (p := ⟨gb154, 1, none⟩) (Kd.R_far (p := ⟨gb154, 0, none⟩) (Kd.R_types HO_5.out BK154.out (by decide)) (fun _ hk => hk.2) (.int .i64 ((rd_T39 l0 x15_1).f0))) (fun _ hk => hk.2) (.slice A153_1 ((rd_T39 l0 x15_1).f1).length c153_1)) (fun _ hk => hk.2) (.int .i64 ((rd_T39 l0 x15_1).f2))) (fun _ hk => hk.2) (.int .i64 ((rd_T39 l0 x15_1).f3))) (fun _ hk => trivial)⟩, ⟨m17_q⟩⟩
   subst c12
   have H1 : (if x5_1.length < 17592186044416 then (impl_RecallBatches.l0 k1 a1 (x5_1 ++ [(rd_T39 l0 x15_1).f0]) l0 (l0.length : Int) (wrap64 (x15_1 + 1))) else (none)) = some r := by rw [if_pos rfl] at H; exact H
   clear H
   have H := H1
   clear H1
   by_cases c13 : x5_1.length < 17592186044416
   rotate_left
   ·rw [if_neg c13] at H
    exact absurd H (by simp)
   rw [if_pos c13] at H
   have LMc13 := Ae_q c13
   clear c13
   obtain ⟨y156, hy156⟩ : ∃ y_ : List Int, y_ = (x5_1 ++ [(rd_T39 l0 x15_1).f0]) := ⟨_, rfl⟩
   replace H : (impl_RecallBatches.l0 k1 a1 y156 l0 (l0.length : Int) (wrap64 (x15_1 + 1))) = some r := by first | (rw [hy156]; with_reducible exact H) | (have H2_ := (oS_q _ _).symm.trans H; rw [hy156]; with_reducible exact H2_) | (have H2_ := (oS_q _ _).symm.trans H; with_reducible exact H2_) | with_reducible exact H | (rw [hy156]; exact H) | exact H
   have Ny156 := Ae_q hy156
   clear hy156
   have H' := Ae_q H
   clear H
   have p153 : 0 ≤ (x15_1 : Int) := oD_q (by assumption)
   have q153 : x15_1 < (l0.length : Int) := oD_q (by assumption)
   obtain ⟨ad153, A153_1, c153_1, e153, hx153_0, hx153_1, hx153_2, hx153_3, hl153_1, hi153_1⟩ := at_T39 HR0.out x15_1 p153 q153
   cases e153
   replace hx153_0 := cel HB.out hx153_0
   replace hx153_1 := cel HB.out hx153_1
   replace hx153_2 := cel HB.out hx153_2
   replace hx153_3 := cel HB.out hx153_3
   have HR153_1 := Ae_q hi153_1
   have HC153_1 := Ae_q hl153_1
   clear hi153_1 hl153_1
   replace p153 := eq_true p153
   replace q153 := eq_true q153
   go_wp2_with (first | ((with_reducible refine gD_q (N := 7) rfl ?_); refine bE_q ?hg (N := 7) ?hd (cs := #[.int .i64 0, .slice none 0 0, .int .i64 0, .int .i64 0]) (t := 39) ?hr ?_; (case hd => rfl); (case hg => rfl); (case hr => exact m10_q); intro gb154 hg w14 hbox hb; replace HO_5 := Ae_q (rO_q (rup HO_5.out) hb); have BK154 := Ae_q (hbox); have GW154 := Ae_q ((by rw [hg]; exact (bZ_q (bel HB.out)) : w.heap.size ≤ gb154)); have GE154 := Ae_q ((by rw [hg]; exact (bZ_q (bel HB.out)) : w.heap.size ≤ gb154)); replace HB := Ae_q (bT_q (bel HB.out) hb); clear hb hbox hg; have hcz15_0 : cI w14 gb154 0 0 := cZ BK154 0 rfl; have hcz15_1 : w14.cell? ⟨gb154, 1, none⟩ = some (.slice none 0 0) := (bC_q BK154.out 1).trans rfl; have hcz15_2 : cI w14 gb154 2 0 := cZ BK154 2 rfl; have hcz15_3 : cI w14 gb154 3 0 := cZ BK154 3 rfl; have hfz15_0 := bF_q BK154.out 0; have hfz15_1 := bF_q BK154.out 1; have hfz15_2 := bF_q BK154.out 2; have hfz15_3 := bF_q BK154.out 3) | ((with_reducible refine gC_q (f := 53) rfl ?_); refine gL_q (some 22) rfl rfl Try.func53 m5_q rfl #[.slice A153_1 ((rd_T39 l0 x15_1).f1).length c153_1, .int .i64 a1] rfl m0_q ?_; (with_reducible refine (slices_Contains_int_int.calls k1 _ _ ((rd_T39 l0 x15_1).f1) a1 true _ ?side1 ?side2 A11.out).mono ?_); (case side1 => exact cB_q HR153_1.out m17_q); (case side2 => exact HC153_1.out); rintro e w' ⟨rfl, ⟨nd, rfl⟩⟩; refine ⟨_, rfl, ?_⟩) | ((with_reducible refine gate_builtin (b := .append) (xs := #[.tmp 23, .tmp 26]) rfl ?_); at_builtin; refine Kd.R_append (Kd.int .i64) (w0 := w) w.heap.size rfl (.tmp 23) (.tmp 26) 34 3 (.int .i64 0) 8 rfl Try.underlying34 info3 rfl (by decide) (by omega) u5 x5_1 ((rd_T39 l0 x15_1).f0) [.int .i64 ((rd_T39 l0 x15_1).f0)] (fun _ => True) (fun _ => False) rfl m10_q ?aP (fun _ hk => hk.elim) ?aF ?aO ?aB ?aS ?aL ?_; (case aP => exact rfl); (case aB => exact m17_q); (case aF => exact (fun _ _ => trivial)); (case aO => exact (by (with_reducible repeat (first | apply rA_q | apply rN_q | apply rD_q)); exact rM_q (Kd.R_far (p := ⟨gb154, 3, none⟩) (Kd.R_far (p := ⟨gb154, 2, none⟩) (Kd.R_far (p := ⟨gb154, 1, none⟩) (Kd.R_far (p := ⟨gb154, 0, none⟩) (Kd.R_types HO_5.out BK154.out (by decide)) (fun _ hk => hk.2) (.int .i64 ((rd_T39 l0 x15_1).f0))) (fun _ hk => hk.2) (.slice A153_1 ((rd_T39 l0 x15_1).f1).length c153_1)) (fun _ hk => hk.2) (.int .i64 ((rd_T39 l0 x15_1).f2))) (fun _ hk => hk.2) (.int .i64 ((rd_T39 l0 x15_1).f3))) (fun _ hk => trivial))); (case aS => exact (bZ_q m17_q)); (case aL => have := LMc13.out; omega); intro v157 w16 ho hb hg hat; rw [← Ny156.out] at ho; replace BK154 := Ae_q (bG_q (g := gb154) (o := .cells #[.int .i64 ((rd_T39 l0 x15_1).f0), .slice A153_1 ((rd_T39 l0 x15_1).f1).length c153_1, .int .i64 ((rd_T39 l0 x15_1).f2), .int .i64 ((rd_T39 l0 x15_1).f3)] 39 (0, 0)) (by (with_reducible repeat (first | refine bN_q ?_ _ | refine bW_q ?_ | refine bL_q ?_ _)); refine blk_put (cs := #[.int .i64 ((rd_T39 l0 x15_1).f0), .slice A153_1 ((rd_T39 l0 x15_1).f1).length c153_1, .int .i64 ((rd_T39 l0 x15_1).f2), .int .i64 0]) ?_ 3 _ rfl; (with_reducible repeat (first | refine bN_q ?_ _ | refine bW_q ?_ | refine bL_q ?_ _)); refine blk_put (cs := #[.int .i64 ((rd_T39 l0 x15_1).f0), .slice A153_1 ((rd_T39 l0 x15_1).f1).length c153_1, .int .i64 0, .int .i64 0]) ?_ 2 _ rfl; (with_reducible repeat (first | refine bN_q ?_ _ | refine bW_q ?_ | refine bL_q ?_ _)); refine blk_put (cs := #[.int .i64 ((rd_T39 l0 x15_1).f0), .slice none 0 0, .int .i64 0, .int .i64 0]) ?_ 1 _ rfl; (with_reducible repeat (first | refine bN_q ?_ _ | refine bW_q ?_ | refine bL_q ?_ _)); refine blk_put (cs := #[.int .i64 0, .slice none 0 0, .int .i64 0, .int .i64 0]) ?_ 0 _ rfl; (with_reducible repeat (first | refine bN_q ?_ _ | refine bW_q ?_ | refine bL_q ?_ _)); exact BK154.out) hg (Kd.R_ne HO_5.out BK154.out (by decide))); replace HB := Ae_q (hb); have HO158 := Ae_q (ho); clear HO_5; clear ho hb hg hat))
   go_roundg k1
   case measure => have := HK1.out; omega
   case rel => exact ⟨(y156), (wrap64 (x15_1 + 1)), m3_q, H', ⟨m23_q⟩, ⟨rup HO158.out⟩, ⟨m17_q⟩⟩

def spec_l6In.f (a0 : Int) (a1 : Int) (a2 : Int) : Option (Bool) := if a0 ≥ a1 then (some (decide (a0 ≤ a2))) else (some false)
set_option maxHeartbeats 8000000 in
set_option maxRecDepth 100000 in
theorem spec_l6In.calls (a0 : Int) (a1 : Int) (a2 : Int) (r : Bool) (w : World) (h : spec_l6In.f a0 a1 a2 = some r) :
    Calls Try.prog 59 #[.int .i64 a0, .int .i64 a1, .int .i64 a2] w fun e w' => e = .returned (.bool r) ∧ Drawn0 w w' := by
 have H : (if a0 ≥ a1 then (some (decide (a0 ≤ a2))) else (some false)) = some r := h
 clear h
 by_cases c4 : a0 ≥ a1
 ·rw [if_pos c4] at H
  have c4b0 : decide (a1 ≤ a0) = true := dT_q c4
  clear c4
  obtain rfl := oI_q H
  go_enter Try.func59, Try.ntmps59
  go_wp2
  go_ret
  exact ⟨m3_q, m6_q⟩
 rw [if_neg c4] at H
 have c4b0 : decide (a1 ≤ a0) = false := dF_q c4
 clear c4
 obtain rfl := oI_q H
 go_enter Try.func59, Try.ntmps59
 go_wp2
 go_ret
 exact ⟨m3_q, m6_q⟩

def spec_l42Batch.l0 : Nat → Int → Int → List Int → Int → Int → Option (Bool)
 | 0, _, _, _, _, _ => none
 | k + 1, x3, x160000, x160001, x160002, x160003 => if x3 < (x160001.length : Int) then (if 0 ≤ x3 then ((spec_l6In.f (rd x160001 x3) 1 20).bind fun t161 => (if t161 = true then (if x3 > 0 then (if 0 ≤ (wrap64 (x3 - 1)) then (if (wrap64 (x3 - 1)) < (x160001.length : Int) then (if (rd x160001 (wrap64 (x3 - 1))) ≥ (rd x160001 x3) then (some false) else (spec_l42Batch.l0 k (wrap64 (x3 + 1)) x160000 x160001 x160002 x160003)) else (none)) else (none)) else (spec_l42Batch.l0 k (wrap64 (x3 + 1)) x160000 x160001 x160002 x160003)) else (some false))) else (none)) else ((spec_l6In.f x160000 1 20).bind fun t164 => (if t164 = true then ((spec_l6In.f x160002 0 1439).bind fun t165 => (if t165 = true then ((spec_l6In.f x160003 x160002 1439).bind fun t166 => (some t166)) else (some false))) else (some false)))
def spec_l42Batch.f (k : Nat) (a0_0 : Int) (l0_1 : List Int) (a0_2 : Int) (a0_3 : Int) : Option (Bool) := spec_l42Batch.l0 k 0 a0_0 l0_1 a0_2 a0_3
set_option maxHeartbeats 8000000 in
set_option maxRecDepth 100000 in
theorem spec_l42Batch.calls (k : Nat) (a0_0 : Int) (A0_1 : Option Addr) (c0_1 : Nat) (l0_1 : List Int) (a0_2 : Int) (a0_3 : Int) (r : Bool) (w : World) (hr0_1 : Kd.C (Kd.int .i64) w A0_1 l0_1.length l0_1) (hc0_1 : l0_1.length ≤ c0_1) (h : spec_l42Batch.f k a0_0 l0_1 a0_2 a0_3 = some r) :
    Calls Try.prog 48 #[.agg #[.int .i64 a0_0, .slice A0_1 l0_1.length c0_1, .int .i64 a0_2, .int .i64 a0_3]] w fun e w' => e = .returned (.bool r) ∧ Below w.heap.size w w' := by
 have hu39 := Try.underlying39
 have HR0_1 := Ae_q hr0_1
 have HC0_1 := Ae_q hc0_1
 clear hr0_1 hc0_1
 have HB := Ae_q (bR_q w.heap.size w)
 have H : (spec_l42Batch.l0 k 0 a0_0 l0_1 a0_2 a0_3) = some r := h
 clear h
 have H' := Ae_q H
 clear H
 go_enter Try.func48, Try.ntmps48
 go_wp2_with (first | ((with_reducible refine gD_q (N := 1) rfl ?_); refine bE_q ?hg (N := 1) ?hd (cs := #[.int .i64 a0_0, .slice A0_1 l0_1.length c0_1, .int .i64 a0_2, .int .i64 a0_3]) (t := 39) ?hr ?_; (case hd => rfl); (case hg => rfl); (case hr => exact m10_q); intro gb159 hg w' hbox hb; have BK159 := Ae_q (hbox); have GW159 := Ae_q ((by rw [hg]; exact (bZ_q (bel HB.out)) : w.heap.size ≤ gb159)); have GE159 := Ae_q ((by rw [hg]; exact (bZ_q (bel HB.out)) : w.heap.size ≤ gb159)); replace HB := Ae_q (bT_q (bel HB.out) hb); clear hb hbox hg))
 repeat (go_quiet (first | ((with_reducible refine gD_q (N := 1) rfl ?_); refine bE_q ?hg (N := 1) ?hd (cs := #[.int .i64 a0_0, .slice A0_1 l0_1.length c0_1, .int .i64 a0_2, .int .i64 a0_3]) (t := 39) ?hr ?_; (case hd => rfl); (case hg => rfl); (case hr => exact m10_q); intro gb159 hg w' hbox hb; have BK159 := Ae_q (hbox); have GW159 := Ae_q ((by rw [hg]; exact (bZ_q (bel HB.out)) : w.heap.size ≤ gb159)); have GE159 := Ae_q ((by rw [hg]; exact (bZ_q (bel HB.out)) : w.heap.size ≤ gb159)); replace HB := Ae_q (bT_q (bel HB.out) hb); clear hb hbox hg)); try go_wp2_with (first | ((with_reducible refine gD_q (N := 1) rfl ?_); refine bE_q ?hg (N := 1) ?hd (cs := #[.int .i64 a0_0, .slice A0_1 l0_1.length c0_1, .int .i64 a0_2, .int .i64 a0_3]) (t := 39) ?hr ?_; (case hd => rfl); (case hg => rfl); (case hr => exact m10_q); intro gb159 hg w' hbox hb; have BK159 := Ae_q (hbox); have GW159 := Ae_q ((by rw [hg]; exact (bZ_q (bel HB.out)) : w.heap.size ≤ gb159)); have GE159 := Ae_q ((by rw [hg]; exact (bZ_q (bel HB.out)) : w.heap.size ≤ gb159)); replace HB := Ae_q (bT_q (bel HB.out) hb); clear hb hbox hg)))
 go_loopg [3] k (fun kq v3 w' => ∃ (x3_1 : Int), v3 = .int .i64 x3_1 ∧ Aside0 (spec_l42Batch.l0 kq x3_1 a0_0 l0_1 a0_2 a0_3 = some r) ∧ Aside0 (kq ≤ k) ∧ Aside0 (w'.heap[gb159]? = some (.cells #[.int .i64 a0_0, (.slice A0_1 l0_1.length c0_1), .int .i64 a0_2, .int .i64 a0_3] 39 (0, 0))) ∧ Aside0 (Below w.heap.size w w'))
 case atStart => exact ⟨(0), m3_q, H', ⟨nR_q _⟩, ⟨bup BK159.out⟩, ⟨m13_q⟩⟩
 case round =>
  clear H'
  try clear p2
  obtain ⟨x3_1, rfl, HA, HK1, BK159, HB⟩ := hrel
  cases gk with
  | zero => exact absurd HA.out (by simp [spec_l42Batch.l0])
  | succ k1 =>
   have H := HA.out
   clear HA
   simp only [spec_l42Batch.l0] at H
   by_cases c3 : x3_1 < (l0_1.length : Int)
   rotate_left
   ·rw [if_neg c3] at H
    have c3b0 : decide (x3_1 < (l0_1.length : Int)) = false := dF_q c3
    clear c3
    replace H := oB_q.mp H
    obtain ⟨t164, A160, H⟩ := H
    replace H : (if t164 = true then ((spec_l6In.f a0_2 0 1439).bind fun t165 => (if t165 = true then ((spec_l6In.f a0_3 a0_2 1439).bind fun t166 => (some t166)) else (some false))) else (some false)) = some r := H
    have A16 := Ae_q A160
    clear A160
    by_cases c17 : t164 = true
    rotate_left
    ·replace c17 := fM_q.mpr c17
     subst c17
     have H1 : (some false) = some r := by rw [if_neg (show ¬ (false = true) by decide)] at H; exact H
     clear H
     have H := H1
     clear H1
     obtain rfl := oI_q H
     have hcz23_0 : cI wr gb159 0 a0_0 := cZ BK159 0 rfl
     have hcz23_1 : wr.cell? ⟨gb159, 1, none⟩ = some (.slice A0_1 l0_1.length c0_1) := (bC_q BK159.out 1).trans rfl
     have hcz23_2 : cI wr gb159 2 a0_2 := cZ BK159 2 rfl
     have hcz23_3 : cI wr gb159 3 a0_3 := cZ BK159 3 rfl
     have hfz23_0 := bF_q BK159.out 0
     have hfz23_1 := bF_q BK159.out 1
     have hfz23_2 := bF_q BK159.out 2
     have hfz23_3 := bF_q BK159.out 3
     go_wp2_with (first | (go_at_call 59; (with_reducible refine (spec_l6In.calls a0_0 1 20 false _ A16.out).mono ?_); rintro e w' ⟨rfl, ⟨nd, rfl⟩⟩; (try first | exact ⟨rfl, _, wD_q _ _ _⟩ | exact ⟨rfl, _, Eq.trans (wD_q _ _ _) (congrArg (World.drewN _) (nA_q _ _ _))⟩)))
     repeat (go_quiet (first | (go_at_call 59; (with_reducible refine (spec_l6In.calls a0_0 1 20 false _ A16.out).mono ?_); rintro e w' ⟨rfl, ⟨nd, rfl⟩⟩; (try first | exact ⟨rfl, _, wD_q _ _ _⟩ | exact ⟨rfl, _, Eq.trans (wD_q _ _ _) (congrArg (World.drewN _) (nA_q _ _ _))⟩))); try go_wp2_with (first | (go_at_call 59; (with_reducible refine (spec_l6In.calls a0_0 1 20 false _ A16.out).mono ?_); rintro e w' ⟨rfl, ⟨nd, rfl⟩⟩; (try first | exact ⟨rfl, _, wD_q _ _ _⟩ | exact ⟨rfl, _, Eq.trans (wD_q _ _ _) (congrArg (World.drewN _) (nA_q _ _ _))⟩))))
     go_ret
     exact ⟨m2_q, m13_q⟩
    subst c17
    have H1 : ((spec_l6In.f a0_2 0 1439).bind fun t165 => (if t165 = true then ((spec_l6In.f a0_3 a0_2 1439).bind fun t166 => (some t166)) else (some false))) = some r := by rw [if_pos rfl] at H; exact H
    clear H
    have H := H1
    clear H1
    replace H := oB_q.mp H
    obtain ⟨t165, A180, H⟩ := H
    replace H : (if t165 = true then ((spec_l6In.f a0_3 a0_2 1439).bind fun t166 => (some t166)) else (some false)) = some r := H
    have A18 := Ae_q A180
    clear A180
    by_cases c19 : t165 = true
    rotate_left
    ·replace c19 := fM_q.mpr c19
     subst c19
     have H1 : (some false) = some r := by rw [if_neg (show ¬ (false = true) by decide)] at H; exact H
     clear H
     have H := H1
     clear H1
     obtain rfl := oI_q H
     have hcz22_0 : cI wr gb159 0 a0_0 := cZ BK159 0 rfl
     have hcz22_1 : wr.cell? ⟨gb159, 1, none⟩ = some (.slice A0_1 l0_1.length c0_1) := (bC_q BK159.out 1).trans rfl
     have hcz22_2 : cI wr gb159 2 a0_2 := cZ BK159 2 rfl
     have hcz22_3 : cI wr gb159 3 a0_3 := cZ BK159 3 rfl
     have hfz22_0 := bF_q BK159.out 0
     have hfz22_1 := bF_q BK159.out 1
     have hfz22_2 := bF_q BK159.out 2
     have hfz22_3 := bF_q BK159.out 3
     go_wp2_with (first | (go_at_call 59; (with_reducible refine (spec_l6In.calls a0_0 1 20 true _ A16.out).mono ?_); rintro e w' ⟨rfl, ⟨nd, rfl⟩⟩; (try first | exact ⟨rfl, _, wD_q _ _ _⟩ | exact ⟨rfl, _, Eq.trans (wD_q _ _ _) (congrArg (World.drewN _) (nA_q _ _ _))⟩)) | (go_at_call 59; (with_reducible refine (spec_l6In.calls a0_2 0 1439 false _ A18.out).mono ?_); rintro e w' ⟨rfl, ⟨nd, rfl⟩⟩; (try first | exact ⟨rfl, _, wD_q _ _ _⟩ | exact ⟨rfl, _, Eq.trans (wD_q _ _ _) (congrArg (World.drewN _) (nA_q _ _ _))⟩)))
     repeat (go_quiet (first | (go_at_call 59; (first | (with_reducible refine (spec_l6In.calls a0_0 1 20 true _ A16.out).mono ?_) | (with_reducible refine (spec_l6In.calls a0_2 0 1439 false _ A18.out).mono ?_)); rintro e w' ⟨rfl, ⟨nd, rfl⟩⟩; (try first | exact ⟨rfl, _, wD_q _ _ _⟩ | exact ⟨rfl, _, Eq.trans (wD_q _ _ _) (congrArg (World.drewN _) (nA_q _ _ _))⟩))); try go_wp2_with (first | (go_at_call 59; (first | (with_reducible refine (spec_l6In.calls a0_0 1 20 true _ A16.out).mono ?_) | (with_reducible refine (spec_l6In.calls a0_2 0 1439 false _ A18.out).mono ?_)); rintro e w' ⟨rfl, ⟨nd, rfl⟩⟩; (try first | exact ⟨rfl, _, wD_q _ _ _⟩ | exact ⟨rfl, _, Eq.trans (wD_q _ _ _) (congrArg (World.drewN _) (nA_q _ _ _))⟩))))
     go_ret
     exact ⟨m2_q, m13_q⟩
    subst c19
    have H1 : ((spec_l6In.f a0_3 a0_2 1439).bind fun t166 => (some t166)) = some r := by rw [if_pos rfl] at H; exact H
    clear H
    have H := H1
    clear H1
    replace H := oB_q.mp H
    obtain ⟨t166, A200, H⟩ := H
    replace H : (some t166) = some r := H
    have A20 := Ae_q A200
    clear A200
    obtain rfl := oI_q H
    have hcz21_0 : cI wr gb159 0 a0_0 := cZ BK159 0 rfl
    have hcz21_1 : wr.cell? ⟨gb159, 1, none⟩ = some (.slice A0_1 l0_1.length c0_1) := (bC_q BK159.out 1).trans rfl
    have hcz21_2 : cI wr gb159 2 a0_2 := cZ BK159 2 rfl
    have hcz21_3 : cI wr gb159 3 a0_3 := cZ BK159 3 rfl
    have hfz21_0 := bF_q BK159.out 0
    have hfz21_1 := bF_q BK159.out 1
    have hfz21_2 := bF_q BK159.out 2
    have hfz21_3 := bF_q BK159.out 3
    go_wp2_with (first | (go_at_call 59; (first | (with_reducible refine (spec_l6In.calls a0_0 1 20 true _ A16.out).mono ?_) | (with_reducible refine (spec_l6In.calls a0_2 0 1439 true _ A18.out).mono ?_) | (with_reducible refine (spec_l6In.calls a0_3 a0_2 1439 t166 _ A20.out).mono ?_)); rintro e w' ⟨rfl, ⟨nd, rfl⟩⟩; (try first | exact ⟨rfl, _, wD_q _ _ _⟩ | exact ⟨rfl, _, Eq.trans (wD_q _ _ _) (congrArg (World.drewN _) (nA_q _ _ _))⟩)))
    repeat (go_quiet (first | (go_at_call 59; (first | (with_reducible refine (spec_l6In.calls a0_0 1 20 true _ A16.out).mono ?_) | (with_reducible refine (spec_l6In.calls a0_2 0 1439 true _ A18.out).mono ?_) | (with_reducible refine (spec_l6In.calls a0_3 a0_2 1439 t166 _ A20.out).mono ?_)); rintro e w' ⟨rfl, ⟨nd, rfl⟩⟩; (try first | exact ⟨rfl, _, wD_q _ _ _⟩ | exact ⟨rfl, _, Eq.trans (wD_q _ _ _) (congrArg (World.drewN _) (nA_q _ _ _))⟩))); try go_wp2_with (first | (go_at_call 59; (first | (with_reducible refine (spec_l6In.calls a0_0 1 20 true _ A16.out).mono ?_) | (with_reducible refine (spec_l6In.calls a0_2 0 1439 true _ A18.out).mono ?_) | (with_reducible refine (spec_l6In.calls a0_3 a0_2 1439 t166 _ A20.out).mono ?_)); rintro e w' ⟨rfl, ⟨nd, rfl⟩⟩; (try first | exact ⟨rfl, _, wD_q _ _ _⟩ | exact ⟨rfl, _, Eq.trans (wD_q _ _ _) (congrArg (World.drewN _) (nA_q _ _ _))⟩))))
    go_ret
    exact ⟨m2_q, m13_q⟩
   rw [if_pos c3] at H
   have c3b0 : decide (x3_1 < (l0_1.length : Int)) = true := dT_q c3
   clear c3
   by_cases c4 : 0 ≤ x3_1
   rotate_left
   ·rw [if_neg c4] at H
    exact absurd H (by simp)
   rw [if_pos c4] at H
   have c4b0 : decide (0 ≤ x3_1) = true := dT_q c4
   clear c4
   replace H := oB_q.mp H
   obtain ⟨t161, A50, H⟩ := H
   replace H : (if t161 = true then (if x3_1 > 0 then (if 0 ≤ (wrap64 (x3_1 - 1)) then (if (wrap64 (x3_1 - 1)) < (l0_1.length : Int) then (if (rd l0_1 (wrap64 (x3_1 - 1))) ≥ (rd l0_1 x3_1) then (some false) else (spec_l42Batch.l0 k1 (wrap64 (x3_1 + 1)) a0_0 l0_1 a0_2 a0_3)) else (none)) else (none)) else (spec_l42Batch.l0 k1 (wrap64 (x3_1 + 1)) a0_0 l0_1 a0_2 a0_3)) else (some false)) = some r := H
   have A5 := Ae_q A50
   clear A50
   by_cases c6 : t161 = true
   rotate_left
   ·replace c6 := fM_q.mpr c6
    subst c6
    have H1 : (some false) = some r := by rw [if_neg (show ¬ (false = true) by decide)] at H; exact H
    clear H
    have H := H1
    clear H1
    obtain rfl := oI_q H
    have hcz15_0 : cI wr gb159 0 a0_0 := cZ BK159 0 rfl
    have hcz15_1 : wr.cell? ⟨gb159, 1, none⟩ = some (.slice A0_1 l0_1.length c0_1) := (bC_q BK159.out 1).trans rfl
    have hcz15_2 : cI wr gb159 2 a0_2 := cZ BK159 2 rfl
    have hcz15_3 : cI wr gb159 3 a0_3 := cZ BK159 3 rfl
    have hfz15_0 := bF_q BK159.out 0
    have hfz15_1 := bF_q BK159.out 1
    have hfz15_2 := bF_q BK159.out 2
    have hfz15_3 := bF_q BK159.out 3
    have p160 : 0 ≤ (x3_1 : Int) := oD_q (by assumption)
    have q160 : x3_1 < (l0_1.length : Int) := oD_q (by assumption)
    obtain ⟨ad160, e160, hx160_0⟩ := aI_q HR0_1.out x3_1 p160 q160
    cases e160
    replace hx160_0 := cel HB.out hx160_0
    replace p160 := eq_true p160
    replace q160 := eq_true q160
    go_wp2_with (first | (go_at_call 59; (with_reducible refine (spec_l6In.calls (rd l0_1 x3_1) 1 20 false _ A5.out).mono ?_); rintro e w' ⟨rfl, ⟨nd, rfl⟩⟩; (try first | exact ⟨rfl, _, wD_q _ _ _⟩ | exact ⟨rfl, _, Eq.trans (wD_q _ _ _) (congrArg (World.drewN _) (nA_q _ _ _))⟩)))
    repeat (go_quiet (first | (go_at_call 59; (with_reducible refine (spec_l6In.calls (rd l0_1 x3_1) 1 20 false _ A5.out).mono ?_); rintro e w' ⟨rfl, ⟨nd, rfl⟩⟩; (try first | exact ⟨rfl, _, wD_q _ _ _⟩ | exact ⟨rfl, _, Eq.trans (wD_q _ _ _) (congrArg (World.drewN _) (nA_q _ _ _))⟩))); try go_wp2_with (first | (go_at_call 59; (with_reducible refine (spec_l6In.calls (rd l0_1 x3_1) 1 20 false _ A5.out).mono ?_); rintro e w' ⟨rfl, ⟨nd, rfl⟩⟩; (try first | exact ⟨rfl, _, wD_q _ _ _⟩ | exact ⟨rfl, _, Eq.trans (wD_q _ _ _) (congrArg (World.drewN _) (nA_q _ _ _))⟩))))
    go_ret
    exact ⟨m2_q, m13_q⟩
   subst c6
   have H1 : (if x3_1 > 0 then (if 0 ≤ (wrap64 (x3_1 - 1)) then (if (wrap64 (x3_1 - 1)) < (l0_1.length : Int) then (if (rd l0_1 (wrap64 (x3_1 - 1))) ≥ (rd l0_1 x3_1) then (some false) else (spec_l42Batch.l0 k1 (wrap64 (x3_1 + 1)) a0_0 l0_1 a0_2 a0_3)) else (none)) else (none)) else (spec_l42Batch.l0 k1 (wrap64 (x3_1 + 1)) a0_0 l0_1 a0_2 a0_3)) = some r := by rw [if_pos rfl] at H; exact H
   clear H
   have H := H1
   clear H1
   by_cases c7 : x3_1 > 0
   rotate_left
   ·rw [if_neg c7] at H
    have c7b0 : decide (0 < x3_1) = false := dF_q c7
    clear c7
    have H' := Ae_q H
    clear H
    have hcz14_0 : cI wr gb159 0 a0_0 := cZ BK159 0 rfl
    have hcz14_1 : wr.cell? ⟨gb159, 1, none⟩ = some (.slice A0_1 l0_1.length c0_1) := (bC_q BK159.out 1).trans rfl
    have hcz14_2 : cI wr gb159 2 a0_2 := cZ BK159 2 rfl
    have hcz14_3 : cI wr gb159 3 a0_3 := cZ BK159 3 rfl
    have hfz14_0 := bF_q BK159.out 0
    have hfz14_1 := bF_q BK159.out 1
    have hfz14_2 := bF_q BK159.out 2
    have hfz14_3 := bF_q BK159.out 3
    have p160 : 0 ≤ (x3_1 : Int) := oD_q (by assumption)
    have q160 : x3_1 < (l0_1.length : Int) := oD_q (by assumption)
    obtain ⟨ad160, e160, hx160_0⟩ := aI_q HR0_1.out x3_1 p160 q160
    cases e160
    replace hx160_0 := cel HB.out hx160_0
    replace p160 := eq_true p160
    replace q160 := eq_true q160
    go_wp2_with (first | (go_at_call 59; (with_reducible refine (spec_l6In.calls (rd l0_1 x3_1) 1 20 true _ A5.out).mono ?_); rintro e w' ⟨rfl, ⟨nd, rfl⟩⟩; (try first | exact ⟨rfl, _, wD_q _ _ _⟩ | exact ⟨rfl, _, Eq.trans (wD_q _ _ _) (congrArg (World.drewN _) (nA_q _ _ _))⟩)))
    repeat (go_quiet (first | (go_at_call 59; (with_reducible refine (spec_l6In.calls (rd l0_1 x3_1) 1 20 true _ A5.out).mono ?_); rintro e w' ⟨rfl, ⟨nd, rfl⟩⟩; (try first | exact ⟨rfl, _, wD_q _ _ _⟩ | exact ⟨rfl, _, Eq.trans (wD_q _ _ _) (congrArg (World.drewN _) (nA_q _ _ _))⟩))); try go_wp2_with (first | (go_at_call 59; (with_reducible refine (spec_l6In.calls (rd l0_1 x3_1) 1 20 true _ A5.out).mono ?_); rintro e w' ⟨rfl, ⟨nd, rfl⟩⟩; (try first | exact ⟨rfl, _, wD_q _ _ _⟩ | exact ⟨rfl, _, Eq.trans (wD_q _ _ _) (congrArg (World.drewN _) (nA_q _ _ _))⟩))))
    go_roundg k1
    case measure => have := HK1.out; omega
    case rel => exact ⟨(wrap64 (x3_1 + 1)), m3_q, H', ⟨m23_q⟩, ⟨bup BK159.out⟩, ⟨m13_q⟩⟩
   rw [if_pos c7] at H
   have c7b0 : decide (0 < x3_1) = true := dT_q c7
   clear c7
   obtain ⟨ji8, hji8⟩ : ∃ j_ : Int, (wrap64 (x3_1 - 1)) = j_ := ⟨_, rfl⟩
   replace H : (if 0 ≤ (ji8) then (if (ji8) < (l0_1.length : Int) then (if (rd l0_1 (ji8)) ≥ (rd l0_1 x3_1) then (some false) else (spec_l42Batch.l0 k1 (wrap64 (x3_1 + 1)) a0_0 l0_1 a0_2 a0_3)) else (none)) else (none)) = some r := by first | (rw [hji8] at H; exact H) | (simp only [hji8] at H ⊢; exact H)
   (try rw [hji8] at A5)
   have hji8w : (IntKind.i64.wrap (x3_1 - 1)) = ji8 := (i64_w _).trans hji8
   by_cases c9 : 0 ≤ (ji8)
   rotate_left
   ·rw [if_neg c9] at H
    exact absurd H (by simp)
   rw [if_pos c9] at H
   have c9b0 : decide (0 ≤ (ji8)) = true := dT_q c9
   clear c9
   by_cases c10 : (ji8) < (l0_1.length : Int)
   rotate_left
   ·rw [if_neg c10] at H
    exact absurd H (by simp)
   rw [if_pos c10] at H
   have c10b0 : decide ((ji8) < (l0_1.length : Int)) = true := dT_q c10
   clear c10
   by_cases c11 : (rd l0_1 (ji8)) ≥ (rd l0_1 x3_1)
   ·rw [if_pos c11] at H
    have c11b0 : decide ((rd l0_1 x3_1) ≤ (rd l0_1 (ji8))) = true := dT_q c11
    clear c11
    obtain rfl := oI_q H
    have hcz12_0 : cI wr gb159 0 a0_0 := cZ BK159 0 rfl
    have hcz12_1 : wr.cell? ⟨gb159, 1, none⟩ = some (.slice A0_1 l0_1.length c0_1) := (bC_q BK159.out 1).trans rfl
    have hcz12_2 : cI wr gb159 2 a0_2 := cZ BK159 2 rfl
    have hcz12_3 : cI wr gb159 3 a0_3 := cZ BK159 3 rfl
    have hfz12_0 := bF_q BK159.out 0
    have hfz12_1 := bF_q BK159.out 1
    have hfz12_2 := bF_q BK159.out 2
    have hfz12_3 := bF_q BK159.out 3
    have p160 : 0 ≤ (x3_1 : Int) := oD_q (by assumption)
    have q160 : x3_1 < (l0_1.length : Int) := oD_q (by assumption)
    obtain ⟨ad160, e160, hx160_0⟩ := aI_q HR0_1.out x3_1 p160 q160
    cases e160
    replace hx160_0 := cel HB.out hx160_0
    replace p160 := eq_true p160
    replace q160 := eq_true q160
    go_wp2_with (first | (go_at_call 59; (with_reducible refine (spec_l6In.calls (rd l0_1 x3_1) 1 20 true _ A5.out).mono ?_); rintro e w' ⟨rfl, ⟨nd, rfl⟩⟩; (try first | exact ⟨rfl, _, wD_q _ _ _⟩ | exact ⟨rfl, _, Eq.trans (wD_q _ _ _) (congrArg (World.drewN _) (nA_q _ _ _))⟩); have p162 : 0 ≤ ((ji8) : Int) := oD_q (by assumption); have q162 : (ji8) < (l0_1.length : Int) := oD_q (by assumption); obtain ⟨ad162, e162, hx162_0⟩ := aI_q HR0_1.out (ji8) p162 q162; obtain rfl : ad160 = ad162 := (by injection e162); replace hx162_0 := cel HB.out hx162_0; replace p162 := eq_true p162; replace q162 := eq_true q162; have p163 : 0 ≤ (x3_1 : Int) := oD_q (by assumption); have q163 : x3_1 < (l0_1.length : Int) := oD_q (by assumption); obtain ⟨ad163, e163, hx163_0⟩ := aI_q HR0_1.out x3_1 p163 q163; obtain rfl : ad160 = ad163 := (by injection e163); replace hx163_0 := cel HB.out hx163_0; replace p163 := eq_true p163; replace q163 := eq_true q163))
    repeat (go_quiet (first | (go_at_call 59; (with_reducible refine (spec_l6In.calls (rd l0_1 x3_1) 1 20 true _ A5.out).mono ?_); rintro e w' ⟨rfl, ⟨nd, rfl⟩⟩; (try first | exact ⟨rfl, _, wD_q _ _ _⟩ | exact ⟨rfl, _, Eq.trans (wD_q _ _ _) (congrArg (World.drewN _) (nA_q _ _ _))⟩); have p162 : 0 ≤ ((ji8) : Int) := oD_q (by assumption); have q162 : (ji8) < (l0_1.length : Int) := oD_q (by assumption); obtain ⟨ad162, e162, hx162_0⟩ := aI_q HR0_1.out (ji8) p162 q162; obtain rfl : ad160 = ad162 := (by injection e162); replace hx162_0 := cel HB.out hx162_0; replace p162 := eq_true p162; replace q162 := eq_true q162; have p163 : 0 ≤ (x3_1 : Int) := oD_q (by assumption); have q163 : x3_1 < (l0_1.length : Int) := oD_q (by assumption); obtain ⟨ad163, e163, hx163_0⟩ := aI_q HR0_1.out x3_1 p163 q163; obtain rfl : ad160 = ad163 := (by injection e163); replace hx163_0 := cel HB.out hx163_0; replace p163 := eq_true p163; replace q163 := eq_true q163)); try go_wp2_with (first | (go_at_call 59; (with_reducible refine (spec_l6In.calls (rd l0_1 x3_1) 1 20 true _ A5.out).mono ?_); rintro e w' ⟨rfl, ⟨nd, rfl⟩⟩; (try first | exact ⟨rfl, _, wD_q _ _ _⟩ | exact ⟨rfl, _, Eq.trans (wD_q _ _ _) (congrArg (World.drewN _) (nA_q _ _ _))⟩); have p162 : 0 ≤ ((ji8) : Int) := oD_q (by assumption); have q162 : (ji8) < (l0_1.length : Int) := oD_q (by assumption); obtain ⟨ad162, e162, hx162_0⟩ := aI_q HR0_1.out (ji8) p162 q162; obtain rfl : ad160 = ad162 := (by injection e162); replace hx162_0 := cel HB.out hx162_0; replace p162 := eq_true p162; replace q162 := eq_true q162; have p163 : 0 ≤ (x3_1 : Int) := oD_q (by assumption); have q163 : x3_1 < (l0_1.length : Int) := oD_q (by assumption); obtain ⟨ad163, e163, hx163_0⟩ := aI_q HR0_1.out x3_1 p163 q163; obtain rfl : ad160 = ad163 := (by injection e163); replace hx163_0 := cel HB.out hx163_0; replace p163 := eq_true p163; replace q163 := eq_true q163)))
    go_ret
    exact ⟨by first | rfl | (simp [eN_q, eS_q] <;> rfl) | (simp only [← hji8]; first | rfl | (simp [eN_q, eS_q] <;> rfl)) | (simp [*, eN_q, eS_q] <;> rfl), m13_q⟩
   rw [if_neg c11] at H
   have c11b0 : decide ((rd l0_1 x3_1) ≤ (rd l0_1 (ji8))) = false := dF_q c11
   clear c11
   have H' := Ae_q H
   clear H
   have hcz13_0 : cI wr gb159 0 a0_0 := cZ BK159 0 rfl
   have hcz13_1 : wr.cell? ⟨gb159, 1, none⟩ = some (.slice A0_1 l0_1.length c0_1) := (bC_q BK159.out 1).trans rfl
   have hcz13_2 : cI wr gb159 2 a0_2 := cZ BK159 2 rfl
   have hcz13_3 : cI wr gb159 3 a0_3 := cZ BK159 3 rfl
   have hfz13_0 := bF_q BK159.out 0
   have hfz13_1 := bF_q BK159.out 1
   have hfz13_2 := bF_q BK159.out 2
   have hfz13_3 := bF_q BK159.out 3
   have p160 : 0 ≤ (x3_1 : Int) := oD_q (by assumption)
   have q160 : x3_1 < (l0_1.length : Int) := oD_q (by assumption)
   obtain ⟨ad160, e160, hx160_0⟩ := aI_q HR0_1.out x3_1 p160 q160
   cases e160
   replace hx160_0 := cel HB.out hx160_0
   replace p160 := eq_true p160
   replace q160 := eq_true q160
   go_wp2_with (first | (go_at_call 59; (with_reducible refine (spec_l6In.calls (rd l0_1 x3_1) 1 20 true _ A5.out).mono ?_); rintro e w' ⟨rfl, ⟨nd, rfl⟩⟩; (try first | exact ⟨rfl, _, wD_q _ _ _⟩ | exact ⟨rfl, _, Eq.trans (wD_q _ _ _) (congrArg (World.drewN _) (nA_q _ _ _))⟩); have p162 : 0 ≤ ((ji8) : Int) := oD_q (by assumption); have q162 : (ji8) < (l0_1.length : Int) := oD_q (by assumption); obtain ⟨ad162, e162, hx162_0⟩ := aI_q HR0_1.out (ji8) p162 q162; obtain rfl : ad160 = ad162 := (by injection e162); replace hx162_0 := cel HB.out hx162_0; replace p162 := eq_true p162; replace q162 := eq_true q162; have p163 : 0 ≤ (x3_1 : Int) := oD_q (by assumption); have q163 : x3_1 < (l0_1.length : Int) := oD_q (by assumption); obtain ⟨ad163, e163, hx163_0⟩ := aI_q HR0_1.out x3_1 p163 q163; obtain rfl : ad160 = ad163 := (by injection e163); replace hx163_0 := cel HB.out hx163_0; replace p163 := eq_true p163; replace q163 := eq_true q163))
   repeat (go_quiet (first | (go_at_call 59; (with_reducible refine (spec_l6In.calls (rd l0_1 x3_1) 1 20 true _ A5.out).mono ?_); rintro e w' ⟨rfl, ⟨nd, rfl⟩⟩; (try first | exact ⟨rfl, _, wD_q _ _ _⟩ | exact ⟨rfl, _, Eq.trans (wD_q _ _ _) (congrArg (World.drewN _) (nA_q _ _ _))⟩); have p162 : 0 ≤ ((ji8) : Int) := oD_q (by assumption); have q162 : (ji8) < (l0_1.length : Int) := oD_q (by assumption); obtain ⟨ad162, e162, hx162_0⟩ := aI_q HR0_1.out (ji8) p162 q162; obtain rfl : ad160 = ad162 := (by injection e162); replace hx162_0 := cel HB.out hx162_0; replace p162 := eq_true p162; replace q162 := eq_true q162; have p163 : 0 ≤ (x3_1 : Int) := oD_q (by assumption); have q163 : x3_1 < (l0_1.length : Int) := oD_q (by assumption); obtain ⟨ad163, e163, hx163_0⟩ := aI_q HR0_1.out x3_1 p163 q163; obtain rfl : ad160 = ad163 := (by injection e163); replace hx163_0 := cel HB.out hx163_0; replace p163 := eq_true p163; replace q163 := eq_true q163)); try go_wp2_with (first | (go_at_call 59; (with_reducible refine (spec_l6In.calls (rd l0_1 x3_1) 1 20 true _ A5.out).mono ?_); rintro e w' ⟨rfl, ⟨nd, rfl⟩⟩; (try first | exact ⟨rfl, _, wD_q _ _ _⟩ | exact ⟨rfl, _, Eq.trans (wD_q _ _ _) (congrArg (World.drewN _) (nA_q _ _ _))⟩); have p162 : 0 ≤ ((ji8) : Int) := oD_q (by assumption); have q162 : (ji8) < (l0_1.length : Int) := oD_q (by assumption); obtain ⟨ad162, e162, hx162_0⟩ := aI_q HR0_1.out (ji8) p162 q162; obtain rfl : ad160 = ad162 := (by injection e162); replace hx162_0 := cel HB.out hx162_0; replace p162 := eq_true p162; replace q162 := eq_true q162; have p163 : 0 ≤ (x3_1 : Int) := oD_q (by assumption); have q163 : x3_1 < (l0_1.length : Int) := oD_q (by assumption); obtain ⟨ad163, e163, hx163_0⟩ := aI_q HR0_1.out x3_1 p163 q163; obtain rfl : ad160 = ad163 := (by injection e163); replace hx163_0 := cel HB.out hx163_0; replace p163 := eq_true p163; replace q163 := eq_true q163)))
   go_roundg k1
   case measure => have := HK1.out; omega
   case rel => exact ⟨(wrap64 (x3_1 + 1)), m3_q, H', ⟨m23_q⟩, ⟨bup BK159.out⟩, ⟨m13_q⟩⟩

end Go.Proofs.Ytnckblolijkdaaa.PBt
