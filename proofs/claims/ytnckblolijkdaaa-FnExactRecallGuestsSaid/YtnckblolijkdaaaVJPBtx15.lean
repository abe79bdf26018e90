import Derived.Test.YtnckblolijkdaaaVJPBtx0
import Derived.Test.YtnckblolijkdaaaVJPBtx5
namespace Go.Proofs.Ytnckblolijkdaaa.PBt
open Go.RowKit Go.Proofs.YtnckblolijkdaaaW.PrintWords Go.Proofs.YtnckblolijkdaaaW.PrintLast Go.Proofs.YtnckblolijkdaaaW.PrintMore
attribute [local go_sem] max2_int min2_int max_two min_two max_three min_three max_four min_four
set_option linter.unusedVariables false
set_option linter.unusedSimpArgs false

def slices_Index_int_int.l0 : Nat → List Int → Int → Int → Int → Option (Int)
 | 0, _, _, _, _ => none
 | k + 1, x0, x1, x7, x8 => if x8 < x7 then (if 0 ≤ x8 then (if x8 < (x0.length : Int) then (if x1 = (rd x0 x8) then (some x8) else (slices_Index_int_int.l0 k x0 x1 x7 (wrap64 (x8 + 1)))) else (none)) else (none)) else (some (-1))
def slices_Index_int_int.f (k : Nat) (l0 : List Int) (a1 : Int) : Option (Int) := slices_Index_int_int.l0 k l0 a1 (l0.length : Int) 0
set_option maxHeartbeats 8000000 in
set_option maxRecDepth 100000 in
theorem slices_Index_int_int.calls (k : Nat) (A0 : Option Addr) (c0 : Nat) (l0 : List Int) (a1 : Int) (r : Int) (w : World) (hr0 : Kd.C kI_q w A0 l0.length l0) (hc0 : l0.length ≤ c0) (h : slices_Index_int_int.f k l0 a1 = some r) :
    Calls Try.prog 67 #[.slice A0 l0.length c0, .int .i64 a1] w fun e w' => e = .returned (.int .i64 r) ∧ Drawn0 w w' := by
 have HR0 := Ae_q hr0
 have HC0 := Ae_q hc0
 clear hr0 hc0
 have H : (slices_Index_int_int.l0 k l0 a1 (l0.length : Int) 0) = some r := h
 clear h
 have H' := Ae_q H
 clear H
 go_enter Try.func67, Try.ntmps67
 go_wp2
 go_loopg [8] k (fun kq v8 w' => ∃ (x8_1 : Int), v8 = .int .i64 x8_1 ∧ Aside0 (slices_Index_int_int.l0 kq l0 a1 (l0.length : Int) x8_1 = some r) ∧ Aside0 (kq ≤ k) ∧ Drawn0 w w')
 case atStart => exact ⟨(0), m3_q, H', ⟨nR_q _⟩, m8_q⟩
 case round =>
  clear H'
  try clear p2
  obtain ⟨x8_1, rfl, HA, HK1, ⟨m1, rfl⟩⟩ := hrel
  cases gk with
  | zero => exact absurd HA.out (by simp [slices_Index_int_int.l0])
  | succ k1 =>
   have H := HA.out
   clear HA
   simp only [slices_Index_int_int.l0] at H
   by_cases c3 : x8_1 < (l0.length : Int)
   rotate_left
   ·rw [if_neg c3] at H
    have c3b0 : decide (x8_1 < (l0.length : Int)) = false := dF_q c3
    clear c3
    obtain rfl := oI_q H
    go_wp2
    go_ret
    exact ⟨m3_q, m8_q⟩
   rw [if_pos c3] at H
   have c3b0 : decide (x8_1 < (l0.length : Int)) = true := dT_q c3
   clear c3
   by_cases c4 : 0 ≤ x8_1
   rotate_left
   ·rw [if_neg c4] at H
    exact absurd H (by simp)
   rw [if_pos c4] at H
   have c4b0 : decide (0 ≤ x8_1) = true := dT_q c4
   clear c4
   by_cases c5 : x8_1 < (l0.length : Int)
   rotate_left
   ·rw [if_neg c5] at H
    exact absurd H (by simp)
   rw [if_pos c5] at H
   have c5b0 : decide (x8_1 < (l0.length : Int)) = true := dT_q c5
   clear c5
   by_cases c6 : a1 = (rd l0 x8_1)
   ·rw [if_pos c6] at H
    have c6b0 : (a1 == (rd l0 x8_1)) = true := beq_iff_eq.mpr c6
    have c6b1 : (a1 != (rd l0 x8_1)) = false := nE_q.mpr c6
    clear c6
    obtain rfl := oI_q H
    have p259 : 0 ≤ (x8_1 : Int) := oD_q (by assumption)
    have q259 : x8_1 < (l0.length : Int) := oD_q (by assumption)
    obtain ⟨ad259, e259, hx259_0⟩ := aI_q HR0.out x8_1 p259 q259
    cases e259
    replace p259 := eq_true p259
    replace q259 := eq_true q259
    go_wp2
    go_ret
    exact ⟨m3_q, m8_q⟩
   rw [if_neg c6] at H
   have c6b0 : (a1 == (rd l0 x8_1)) = false := fN_q.mpr c6
   have c6b1 : (a1 != (rd l0 x8_1)) = true := nI_q.mpr c6
   have H' := Ae_q H
   clear H
   have p259 : 0 ≤ (x8_1 : Int) := oD_q (by assumption)
   have q259 : x8_1 < (l0.length : Int) := oD_q (by assumption)
   obtain ⟨ad259, e259, hx259_0⟩ := aI_q HR0.out x8_1 p259 q259
   cases e259
   replace p259 := eq_true p259
   replace q259 := eq_true q259
   go_wp2
   go_roundg k1
   case measure => have := HK1.out; omega
   case rel => exact ⟨(wrap64 (x8_1 + 1)), m3_q, H', ⟨m28_q⟩, m8_q⟩

def slices_Contains_int_int.f (k : Nat) (l0 : List Int) (a1 : Int) : Option (Bool) := (slices_Index_int_int.f k l0 a1).bind fun t260 => (some (decide (t260 ≥ 0)))
set_option maxHeartbeats 8000000 in
set_option maxRecDepth 100000 in
theorem slices_Contains_int_int.calls (k : Nat) (A0 : Option Addr) (c0 : Nat) (l0 : List Int) (a1 : Int) (r : Bool) (w : World) (hr0 : Kd.C kI_q w A0 l0.length l0) (hc0 : l0.length ≤ c0) (h : slices_Contains_int_int.f k l0 a1 = some r) :
    Calls Try.prog 53 #[.slice A0 l0.length c0, .int .i64 a1] w fun e w' => e = .returned (.bool r) ∧ Drawn0 w w' := by
 have HR0 := Ae_q hr0
 have HC0 := Ae_q hc0
 clear hr0 hc0
 have H : ((slices_Index_int_int.f k l0 a1).bind fun t260 => (some (decide (t260 ≥ 0)))) = some r := h
 clear h
 replace H := oB_q.mp H
 obtain ⟨t260, A30, H⟩ := H
 replace H : (some (decide (t260 ≥ 0))) = some r := H
 have A3 := Ae_q A30
 clear A30
 obtain rfl := oI_q H
 go_enter Try.func53, Try.ntmps53
 go_wp2_with (first | ((with_reducible refine gC_q (f := 67) rfl ?_); refine gL_q (some 7) rfl rfl Try.func67 m5_q rfl #[.slice A0 l0.length c0, .int .i64 a1] rfl m0_q ?_; (with_reducible refine (slices_Index_int_int.calls k _ _ l0 a1 t260 _ ?side1 ?side2 A3.out).mono ?_); (case side1 => exact m16_q); (case side2 => exact m32_q); rintro e w' ⟨rfl, ⟨nd, rfl⟩⟩; refine ⟨_, rfl, ?_⟩))
 go_ret
 exact ⟨m3_q, m8_q⟩

def impl_RecallBatches.l0 : Nat → Int → List Int → List (S39) → Int → Int → Option (List Int)
 | 0, _, _, _, _, _ => none
 | k + 1, x1, x5, x13, x14, x15 => if x15 < x14 then (if 0 ≤ x15 then (if x15 < (x13.length : Int) then ((slices_Contains_int_int.f k ((rd_T39 x13 x15).f1) x1).bind fun t267 => (if t267 = true then (if x5.length < 17592186044416 then (impl_RecallBatches.l0 k x1 (x5 ++ [(rd_T39 x13 x15).f0]) x13 x14 (wrap64 (x15 + 1))) else (none)) else (impl_RecallBatches.l0 k x1 x5 x13 x14 (wrap64 (x15 + 1))))) else (none)) else (none)) else (some x5)
def impl_RecallBatches.f (k : Nat) (l0 : List (S39)) (a1 : Int) : Option (List Int) := (some (([] : List Int) : List Int)).bind fun y261 => ((impl_BatchesValid.f k l0).bind fun t264 => (if t264 = true then (impl_RecallBatches.l0 k a1 y261 l0 (l0.length : Int) 0) else (some y261)))
set_option maxHeartbeats 8000000 in
set_option maxRecDepth 100000 in
theorem impl_RecallBatches.calls (k : Nat) (A0 : Option Addr) (c0 : Nat) (l0 : List (S39)) (a1 : Int) (r : List Int) (w : World) (hr0 : Kd.C k39 w A0 l0.length l0) (hc0 : l0.length ≤ c0) (h : impl_RecallBatches.f k l0 a1 = some r) :
    Calls Try.prog 21 #[.slice A0 l0.length c0, .int .i64 a1] w fun e w' => ∃ v0_ : Value, e = .returned (v0_) ∧ Kd.R kI_q 3 w' w.heap.size (fun _ => True) v0_ r ∧ Below w.heap.size w w' := by
 have hu39 := Try.underlying39
 have HR0 := Ae_q hr0
 have HC0 := Ae_q hc0
 clear hr0 hc0
 have HB := Ae_q (bR_q w.heap.size w)
 have H : ((some (([] : List Int) : List Int)).bind fun y261 => ((impl_BatchesValid.f k l0).bind fun t264 => (if t264 = true then (impl_RecallBatches.l0 k a1 y261 l0 (l0.length : Int) 0) else (some y261)))) = some r := h
 clear h
 obtain ⟨y261, hy261⟩ : ∃ y_ : List Int, y_ = (([] : List Int)) := ⟨_, rfl⟩
 replace H : ((impl_BatchesValid.f k l0).bind fun t264 => (if t264 = true then (impl_RecallBatches.l0 k a1 y261 l0 (l0.length : Int) 0) else (some y261))) = some r := by first | (rw [hy261]; with_reducible exact H) | (have H2_ := (oS_q _ _).symm.trans H; rw [hy261]; with_reducible exact H2_) | (have H2_ := (oS_q _ _).symm.trans H; with_reducible exact H2_) | with_reducible exact H | (rw [hy261]; exact H) | exact H
 have Ny261 := Ae_q hy261
 clear hy261
 replace H := oB_q.mp H
 obtain ⟨t264, A30, H⟩ := H
 replace H : (if t264 = true then (impl_RecallBatches.l0 k a1 y261 l0 (l0.length : Int) 0) else (some y261)) = some r := H
 have A3 := Ae_q A30
 clear A30
 by_cases c4 : t264 = true
 rotate_left
 ·replace c4 := fM_q.mpr c4
  subst c4
  have H1 : (some y261) = some r := by rw [if_neg (show ¬ (false = true) by decide)] at H; exact H
  clear H
  have H := H1
  clear H1
  obtain rfl := oI_q H
  go_enter Try.func21, Try.ntmps21
  go_wp2_with (first | ((with_reducible refine gD_q (N := 8) rfl ?_); refine Kd.R_lit kI_q _ 3 ?hg (N := 8) ?hd (xs := ([] : List Int)) (inner := []) (ok := fun _ => True) (okp := fun _ => True) ?hr ?hp (fun _ hk => hk) trivial (bR_q _ _) (nR_q _) (by simp) ?_; (case hd => rfl); (case hg => rfl); (case hr => exact m6_q); (case hp => exact m62_q); intro v262 w19 ho20 hb hg_ hnew_; clear hg_ hnew_; (first | rw [← Ny261.out] at ho20 | (simp only [Int.reduceToNat] at ho20; rw [← Ny261.out] at ho20)); have HO263 := Ae_q (rL_q ho20 (bZ_q (bel HB.out))); replace HB := Ae_q (bT_q (bel HB.out) hb); clear hb ho20) | ((with_reducible refine gC_q (f := 15) rfl ?_); refine gL_q (some 10) rfl rfl Try.func15 m5_q rfl #[.slice A0 l0.length c0] rfl m0_q ?_; (with_reducible refine (impl_BatchesValid.calls k _ _ l0 false _ ?side1 ?side2 A3.out).mono ?_); (case side1 => exact m34_q); (case side2 => exact m32_q); rintro e w' ⟨rfl, hb⟩; refine ⟨_, rfl, ?_⟩; replace HO263 := Ae_q (rO_q (rup HO263.out) hb); replace HB := Ae_q (bT_q (bel HB.out) hb); (try clear hb); (try clear hb2); (try clear hk); (try clear hi)))
  go_ret
  exact ⟨_, m2_q, rup HO263.out, bel HB.out⟩
 subst c4
 have H1 : (impl_RecallBatches.l0 k a1 y261 l0 (l0.length : Int) 0) = some r := by rw [if_pos rfl] at H; exact H
 clear H
 have H := H1
 clear H1
 have H' := Ae_q H
 clear H
 go_enter Try.func21, Try.ntmps21
 go_wp2_with (first | ((with_reducible refine gD_q (N := 8) rfl ?_); refine Kd.R_lit kI_q _ 3 ?hg (N := 8) ?hd (xs := ([] : List Int)) (inner := []) (ok := fun _ => True) (okp := fun _ => True) ?hr ?hp (fun _ hk => hk) trivial (bR_q _ _) (nR_q _) (by simp) ?_; (case hd => rfl); (case hg => rfl); (case hr => exact m6_q); (case hp => exact m62_q); intro v262 w5 ho6 hb hg_ hnew_; clear hg_ hnew_; (first | rw [← Ny261.out] at ho6 | (simp only [Int.reduceToNat] at ho6; rw [← Ny261.out] at ho6)); have HO263 := Ae_q (rL_q ho6 (bZ_q (bel HB.out))); replace HB := Ae_q (bT_q (bel HB.out) hb); clear hb ho6) | ((with_reducible refine gC_q (f := 15) rfl ?_); refine gL_q (some 10) rfl rfl Try.func15 m5_q rfl #[.slice A0 l0.length c0] rfl m0_q ?_; (with_reducible refine (impl_BatchesValid.calls k _ _ l0 true _ ?side1 ?side2 A3.out).mono ?_); (case side1 => exact m34_q); (case side2 => exact m32_q); rintro e w' ⟨rfl, hb⟩; refine ⟨_, rfl, ?_⟩; replace HO263 := Ae_q (rO_q (rup HO263.out) hb); replace HB := Ae_q (bT_q (bel HB.out) hb); (try clear hb); (try clear hb2); (try clear hk); (try clear hi)))
 go_loopg [5, 15] k (fun kq v5 v15 w' => ∃ (x5_1 : List Int) (x15_1 : Int), v15 = .int .i64 x15_1 ∧ Aside0 (impl_RecallBatches.l0 kq a1 x5_1 l0 (l0.length : Int) x15_1 = some r) ∧ Aside0 (kq ≤ k) ∧ Aside0 (Kd.R kI_q 3 w' w.heap.size (fun _ => True) v5 x5_1) ∧ Aside0 (Below w.heap.size w w'))
 case atStart => exact ⟨(y261), (0), m3_q, H', ⟨nR_q _⟩, ⟨rup HO263.out⟩, ⟨bel HB.out⟩⟩
 case round =>
  clear H'
  try clear c1
  try clear c2
  try clear p2
  try clear c4
  obtain ⟨x5_1, x15_1, rfl, HA, HK1, HO_5, HB⟩ := hrel
  cases gk with
  | zero => exact absurd HA.out (by simp [impl_RecallBatches.l0])
  | succ k1 =>
   have H := HA.out
   clear HA
   simp only [impl_RecallBatches.l0] at H
   by_cases c8 : x15_1 < (l0.length : Int)
   rotate_left
   ·rw [if_neg c8] at H
    have c8b0 : decide (x15_1 < (l0.length : Int)) = false := dF_q c8
    clear c8
    obtain rfl := oI_q H
    go_wp2
    go_ret
    exact ⟨_, m2_q, rup HO_5.out, bel HB.out⟩
   rw [if_pos c8] at H
   have c8b0 : decide (x15_1 < (l0.length : Int)) = true := dT_q c8
   clear c8
   by_cases c9 : 0 ≤ x15_1
   rotate_left
   ·rw [if_neg c9] at H
    exact absurd H (by simp)
   rw [if_pos c9] at H
   have c9b0 : decide (0 ≤ x15_1) = true := dT_q c9
   clear c9
   by_cases c10 : x15_1 < (l0.length : Int)
   rotate_left
   ·rw [if_neg c10] at H
    exact absurd H (by simp)
   rw [if_pos c10] at H
   have c10b0 : decide (x15_1 < (l0.length : Int)) = true := dT_q c10
   clear c10
   replace H := oB_q.mp H
   obtain ⟨t267, A110, H⟩ := H
   replace H : (if t267 = true then (if x5_1.length < 17592186044416 then (impl_RecallBatches.l0 k1 a1 (x5_1 ++ [(rd_T39 l0 x15_1).f0]) l0 (l0.length : Int) (wrap64 (x15_1 + 1))) else (none)) else (impl_RecallBatches.l0 k1 a1 x5_1 l0 (l0.length : Int) (wrap64 (x15_1 + 1)))) = some r := H
   have A11 := Ae_q A110
   clear A110
   by_cases c12 : t267 = true
   rotate_left
   ·replace c12 := fM_q.mpr c12
    subst c12
    have H1 : (impl_RecallBatches.l0 k1 a1 x5_1 l0 (l0.length : Int) (wrap64 (x15_1 + 1))) = some r := by rw [if_neg (show ¬ (false = true) by decide)] at H; exact H
    clear H
    have H := H1
    clear H1
    have H' := Ae_q H
    clear H
    have p265 : 0 ≤ (x15_1 : Int) := oD_q (by assumption)
    have q265 : x15_1 < (l0.length : Int) := oD_q (by assumption)
    obtain ⟨ad265, A265_1, c265_1, e265, hx265_0, hx265_1, hx265_2, hx265_3, hl265_1, hi265_1⟩ := at_T39 HR0.out x15_1 p265 q265
    cases e265
    replace hx265_0 := cel HB.out hx265_0
    replace hx265_1 := cel HB.out hx265_1
    replace hx265_2 := cel HB.out hx265_2
    replace hx265_3 := cel HB.out hx265_3
    have HR265_1 := Ae_q hi265_1
    have HC265_1 := Ae_q hl265_1
    clear hi265_1 hl265_1
    replace p265 := eq_true p265
    replace q265 := eq_true q265
    go_wp2_with (first | ((with_reducible refine gD_q (N := 7) rfl ?_); refine bE_q ?hg (N := 7) ?hd (cs := #[.int .i64 0, .slice none 0 0, .int .i64 0, .int .i64 0]) (t := 39) ?hr ?_; (case hd => rfl); (case hg => rfl); (case hr => exact m6_q); intro gb266 hg w17 hbox hb; replace HO_5 := Ae_q (rO_q (rup HO_5.out) hb); have BK266 := Ae_q (hbox); have GW266 := Ae_q ((by rw [hg]; exact (bZ_q (bel HB.out)) : w.heap.size ≤ gb266)); have GE266 := Ae_q ((by rw [hg]; exact (bZ_q (bel HB.out)) : w.heap.size ≤ gb266)); replace HB := Ae_q (bT_q (bel HB.out) hb); clear hb hbox hg; have hcz18_0 : cI w17 gb266 0 0 := cZ BK266 0 rfl; have hcz18_1 : w17.cell? ⟨gb266, 1, none⟩ = some (.slice none 0 0) := (bC_q BK266.out 1).trans rfl; have hcz18_2 : cI w17 gb266 2 0 := cZ BK266 2 rfl; have hcz18_3 : cI w17 gb266 3 0 := cZ BK266 3 rfl; have hfz18_0 := bF_q BK266.out 0; have hfz18_1 := bF_q BK266.out 1; have hfz18_2 := bF_q BK266.out 2; have hfz18_3 := bF_q BK266.out 3) | ((with_reducible refine gC_q (f := 53) rfl ?_); refine gL_q (some 22) rfl rfl Try.func53 m5_q rfl #[.slice A265_1 ((rd_T39 l0 x15_1).f1).length c265_1, .int .i64 a1] rfl m0_q ?_; (with_reducible refine (slices_Contains_int_int.calls k1 _ _ ((rd_T39 l0 x15_1).f1) a1 false _ ?side1 ?side2 A11.out).mono ?_); (case side1 => exact cB_q HR265_1.out m22_q); (case side2 => exact HC265_1.out); rintro e w' ⟨rfl, ⟨nd, rfl⟩⟩; refine ⟨_, rfl, ?_⟩))
    go_roundg k1
    case measure => have := HK1.out; omega
    case rel => exact ⟨(x5_1), (wrap64 (x15_1 + 1)), m3_q, H', ⟨m28_q⟩, ⟨by (with_reducible repeat (first | apply rA_q | apply rN_q | apply rD_q)); exact rM_q (Kd.R_far (p := ⟨gb266, 3, none⟩) (Kd.R_far (p := ⟨gb266, 2, none⟩) (Kd.R_far (p := ⟨gb266, 1, none⟩) (Kd.R_far (p := ⟨gb266, 0, none⟩) (Kd.R_types HO_5.out BK266.out (by decide)) (fun _ hk => hk.2) (.int .i64 ((rd_T39 l0 x15_1).f0))) (fun _ hk => hk.2) (.slice A265_1 ((rd_T39 l0 x15_1).f1).length c265_1)) (fun _ hk => hk.2) (.int .i64 ((rd_T39 l0 x15_1).f2))) (fun _ hk => hk.2) (.int .i64 ((rd_T39 l0 x15_1).f3))) (fun _ hk => trivial)⟩, ⟨m22_q⟩⟩
   subst c12
   have H1 : (if x5_1.length < 17592186044416 then (impl_RecallBatches.l0 k1 a1 (x5_1 ++ [(rd_T39 l0 x15_1).f0]) l0 (l0.length : Int) (wrap64 (x15_1 + 1))) else (none)) = some r := by rw [if_pos rfl] at H; exact H
   clear H
   have H := H1
   clear H1
   by_cases c13 : x5_1.length < 17592186044416
   rotate_left
   ·rw [if_neg c13] at H
    exact absurd H (by simp)
   rw [if_pos c13] at H
   have LMc13 := Ae_q c13
   clear c13
   obtain ⟨y268, hy268⟩ : ∃ y_ : List Int, y_ = (x5_1 ++ [(rd_T39 l0 x15_1).f0]) := ⟨_, rfl⟩
   replace H : (impl_RecallBatches.l0 k1 a1 y268 l0 (l0.length : Int) (wrap64 (x15_1 + 1))) = some r := by first | (rw [hy268]; with_reducible exact H) | (have H2_ := (oS_q _ _).symm.trans H; rw [hy268]; with_reducible exact H2_) | (have H2_ := (oS_q _ _).symm.trans H; with_reducible exact H2_) | with_reducible exact H | (rw [hy268]; exact H) | exact H
   have Ny268 := Ae_q hy268
   clear hy268
   have H' := Ae_q H
   clear H
   have p265 : 0 ≤ (x15_1 : Int) := oD_q (by assumption)
   have q265 : x15_1 < (l0.length : Int) := oD_q (by assumption)
   obtain ⟨ad265, A265_1, c265_1, e265, hx265_0, hx265_1, hx265_2, hx265_3, hl265_1, hi265_1⟩ := at_T39 HR0.out x15_1 p265 q265
   cases e265
   replace hx265_0 := cel HB.out hx265_0
   replace hx265_1 := cel HB.out hx265_1
   replace hx265_2 := cel HB.out hx265_2
   replace hx265_3 := cel HB.out hx265_3
   have HR265_1 := Ae_q hi265_1
   have HC265_1 := Ae_q hl265_1
   clear hi265_1 hl265_1
   replace p265 := eq_true p265
   replace q265 := eq_true q265
   go_wp2_with (first | ((with_reducible refine gD_q (N := 7) rfl ?_); refine bE_q ?hg (N := 7) ?hd (cs := #[.int .i64 0, .slice none 0 0, .int .i64 0, .int .i64 0]) (t := 39) ?hr ?_; (case hd => rfl); (case hg => rfl); (case hr => exact m6_q); intro gb266 hg w14 hbox hb; replace HO_5 := Ae_q (rO_q (rup HO_5.out) hb); have BK266 := Ae_q (hbox); have GW266 := Ae_q ((by rw [hg]; exact (bZ_q (bel HB.out)) : w.heap.size ≤ gb266)); have GE266 := Ae_q ((by rw [hg]; exact (bZ_q (bel HB.out)) : w.heap.size ≤ gb266)); replace HB := Ae_q (bT_q (bel HB.out) hb); clear hb hbox hg; have hcz15_0 : cI w14 gb266 0 0 := cZ BK266 0 rfl; have hcz15_1 : w14.cell? ⟨gb266, 1, none⟩ = some (.slice none 0 0) := (bC_q BK266.out 1).trans rfl; have hcz15_2 : cI w14 gb266 2 0 := cZ BK266 2 rfl; have hcz15_3 : cI w14 gb266 3 0 := cZ BK266 3 rfl; have hfz15_0 := bF_q BK266.out 0; have hfz15_1 := bF_q BK266.out 1; have hfz15_2 := bF_q BK266.out 2; have hfz15_3 := bF_q BK266.out 3) | ((with_reducible refine gC_q (f := 53) rfl ?_); refine gL_q (some 22) rfl rfl Try.func53 m5_q rfl #[.slice A265_1 ((rd_T39 l0 x15_1).f1).length c265_1, .int .i64 a1] rfl m0_q ?_; (with_reducible refine (slices_Contains_int_int.calls k1 _ _ ((rd_T39 l0 x15_1).f1) a1 true _ ?side1 ?side2 A11.out).mono ?_); (case side1 => exact cB_q HR265_1.out m22_q); (case side2 => exact HC265_1.out); rintro e w' ⟨rfl, ⟨nd, rfl⟩⟩; refine ⟨_, rfl, ?_⟩) | ((with_reducible refine gate_builtin (b := .append) (xs := #[.tmp 23, .tmp 26]) rfl ?_); at_builtin; refine Kd.R_append kI_q (w0 := w) w.heap.size rfl (.tmp 23) (.tmp 26) 34 3 (.int .i64 0) 8 rfl Try.underlying34 info3 rfl (by decide) (by omega) u5 x5_1 ((rd_T39 l0 x15_1).f0) [.int .i64 ((rd_T39 l0 x15_1).f0)] (fun _ => True) (fun _ => False) rfl m6_q ?aP (fun _ hk => hk.elim) ?aF ?aO ?aB ?aS ?aL ?_; (case aP => exact rfl); (case aB => exact m22_q); (case aF => exact (fun _ _ => trivial)); (case aO => exact (by (with_reducible repeat (first | apply rA_q | apply rN_q | apply rD_q)); exact rM_q (Kd.R_far (p := ⟨gb266, 3, none⟩) (Kd.R_far (p := ⟨gb266, 2, none⟩) (Kd.R_far (p := ⟨gb266, 1, none⟩) (Kd.R_far (p := ⟨gb266, 0, none⟩) (Kd.R_types HO_5.out BK266.out (by decide)) (fun _ hk => hk.2) (.int .i64 ((rd_T39 l0 x15_1).f0))) (fun _ hk => hk.2) (.slice A265_1 ((rd_T39 l0 x15_1).f1).length c265_1)) (fun _ hk => hk.2) (.int .i64 ((rd_T39 l0 x15_1).f2))) (fun _ hk => hk.2) (.int .i64 ((rd_T39 l0 x15_1).f3))) (fun _ hk => trivial))); (case aS => exact (bZ_q m22_q)); (case aL => have := LMc13.out; omega); intro v269 w16 ho hb hg hat; rw [← Ny268.out] at ho; replace BK266 := Ae_q (bG_q (g := gb266) (o := .cells #[.int .i64 ((rd_T39 l0 x15_1).f0), .slice A265_1 ((rd_T39 l0 x15_1).f1).length c265_1, .int .i64 ((rd_T39 l0 x15_1).f2), .int .i64 ((rd_T39 l0 x15_1).f3)] 39 (0, 0)) (by (with_reducible repeat (first | refine bN_q ?_ _ | refine bW_q ?_ | refine bL_q ?_ _)); refine blk_put (cs := #[.int .i64 ((rd_T39 l0 x15_1).f0), .slice A265_1 ((rd_T39 l0 x15_1).f1).length c265_1, .int .i64 ((rd_T39 l0 x15_1).f2), .int .i64 0]) ?_ 3 _ rfl; (with_reducible repeat (first | refine bN_q ?_ _ | refine bW_q ?_ | refine bL_q ?_ _)); refine blk_put (cs := #[.int .i64 ((rd_T39 l0 x15_1).f0), .slice A265_1 ((rd_T39 l0 x15_1).f1).length c265_1, .int .i64 0, .int .i64 0]) ?_ 2 _ rfl; (with_reducible repeat (first | refine bN_q ?_ _ | refine bW_q ?_ | refine bL_q ?_ _)); refine blk_put (cs := #[.int .i64 ((rd_T39 l0 x15_1).f0), .slice none 0 0, .int .i64 0, .int .i64 0]) ?_ 1 _ rfl; (with_reducible repeat (first | refine bN_q ?_ _ | refine bW_q ?_ | refine bL_q ?_ _)); refine blk_put (cs := #[.int .i64 0, .slice none 0 0, .int .i64 0, .int .i64 0]) ?_ 0 _ rfl; (with_reducible repeat (first | refine bN_q ?_ _ | refine bW_q ?_ | refine bL_q ?_ _)); exact BK266.out) hg (Kd.R_ne HO_5.out BK266.out (by decide))); replace HB := Ae_q (hb); have HO270 := Ae_q (ho); clear HO_5; clear ho hb hg hat))
   go_roundg k1
   case measure => have := HK1.out; omega
   case rel => exact ⟨(y268), (wrap64 (x15_1 + 1)), m3_q, H', ⟨m28_q⟩, ⟨rup HO270.out⟩, ⟨m22_q⟩⟩

end Go.Proofs.Ytnckblolijkdaaa.PBt
