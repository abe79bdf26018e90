import Derived.Test.YtnckblolijkdaaaVGPBtx0
import Derived.Test.YtnckblolijkdaaaVGPBtx1
import Derived.Test.YtnckblolijkdaaaVGPBtx2
import Derived.Test.YtnckblolijkdaaaVGPBtx3
import Derived.Test.YtnckblolijkdaaaVGPBtx4
import Derived.Test.YtnckblolijkdaaaVGPBtx6
namespace Go.Proofs.Ytnckblolijkdaaa.PBt
open Go.RowKit Go.Proofs.YtnckblolijkdaaaW.PrintWords Go.Proofs.YtnckblolijkdaaaW.PrintLast Go.Proofs.YtnckblolijkdaaaW.PrintMore
attribute [local go_sem] max2_int min2_int max_two min_two max_three min_three max_four min_four
set_option linter.unusedVariables false
set_option linter.unusedSimpArgs false

def slices_Index_int_int.l0 : Nat → List Int → Int → Int → Int → Option (Int)
 | 0, _, _, _, _ => none
 | k + 1, x0, x1, x7, x8 => if x8 < x7 then (if 0 ≤ x8 then (if x8 < (x0.length : Int) then (if x1 = (rd x0 x8) then (some x8) else (slices_Index_int_int.l0 k x0 x1 x7 (wrap64 (x8 + 1)))) else (none)) else (none)) else (some (-1))
def slices_Index_int_int.f (k : Nat) (l0 : List Int) (a1 : Int) : Option (Int) := slices_Index_int_int.l0 k l0 a1 (l0.length : Int) 0
set_option maxHeartbeats 8000000 in
set_option maxRecDepth 100000 in
theorem slices_Index_int_int.calls (k : Nat) (A0 : Option Addr) (c0 : Nat) (l0 : List Int) (a1 : Int) (r : Int) (w : World) (hr0 : Kd.C kI_q w A0 l0.length l0) (hc0 : l0.length ≤ c0) (h : slices_Index_int_int.f k l0 a1 = some r) :
    Calls Try.prog 67 #[.slice A0 l0.length c0, .int .i64 a1] w fun e w' => e = .returned (.int .i64 r) ∧ Drawn0 w w' := by
 have HR0 := Ae_q hr0
 have HC0 := Ae_q hc0
 clear hr0 hc0
 have H : (slices_Index_int_int.l0 k l0 a1 (l0.length : Int) 0) = some r := h
 clear h
 have H' := Ae_q H
 clear H
 go_enter Try.func67, Try.ntmps67
 go_wp2
 go_loopg [8] k (fun kq v8 w' => ∃ (x8_1 : Int), v8 = .int .i64 x8_1 ∧ Aside0 (slices_Index_int_int.l0 kq l0 a1 (l0.length : Int) x8_1 = some r) ∧ Aside0 (kq ≤ k) ∧ Drawn0 w w')
 case atStart => exact ⟨(0), m5_q, H', ⟨nR_q _⟩, m8_q⟩
 case round =>
  clear H'
  try clear p2
  obtain ⟨x8_1, rfl, HA, HK1, ⟨m1, rfl⟩⟩ := hrel
  cases gk with
  | zero => exact absurd HA.out (by simp [slices_Index_int_int.l0])
  | succ k1 =>
   have H := HA.out
   clear HA
   simp only [slices_Index_int_int.l0] at H
   by_cases c3 : x8_1 < (l0.length : Int)
   rotate_left
   ·rw [if_neg c3] at H
    have c3b0 : decide (x8_1 < (l0.length : Int)) = false := dF_q c3
    clear c3
    obtain rfl := oI_q H
    go_wp2
    go_ret
    exact ⟨m5_q, m8_q⟩
   rw [if_pos c3] at H
   have c3b0 : decide (x8_1 < (l0.length : Int)) = true := dT_q c3
   clear c3
   by_cases c4 : 0 ≤ x8_1
   rotate_left
   ·rw [if_neg c4] at H
    exact absurd H (by simp)
   rw [if_pos c4] at H
   have c4b0 : decide (0 ≤ x8_1) = true := dT_q c4
   clear c4
   by_cases c5 : x8_1 < (l0.length : Int)
   rotate_left
   ·rw [if_neg c5] at H
    exact absurd H (by simp)
   rw [if_pos c5] at H
   have c5b0 : decide (x8_1 < (l0.length : Int)) = true := dT_q c5
   clear c5
   by_cases c6 : a1 = (rd l0 x8_1)
   ·rw [if_pos c6] at H
    have c6b0 : (a1 == (rd l0 x8_1)) = true := beq_iff_eq.mpr c6
    have c6b1 : (a1 != (rd l0 x8_1)) = false := nE_q.mpr c6
    clear c6
    obtain rfl := oI_q H
    have p239 : 0 ≤ (x8_1 : Int) := oD_q (by assumption)
    have q239 : x8_1 < (l0.length : Int) := oD_q (by assumption)
    obtain ⟨ad239, e239, hx239_0⟩ := aI_q HR0.out x8_1 p239 q239
    cases e239
    replace p239 := eq_true p239
    replace q239 := eq_true q239
    go_wp2
    go_ret
    exact ⟨m5_q, m8_q⟩
   rw [if_neg c6] at H
   have c6b0 : (a1 == (rd l0 x8_1)) = false := fN_q.mpr c6
   have c6b1 : (a1 != (rd l0 x8_1)) = true := nI_q.mpr c6
   have H' := Ae_q H
   clear H
   have p239 : 0 ≤ (x8_1 : Int) := oD_q (by assumption)
   have q239 : x8_1 < (l0.length : Int) := oD_q (by assumption)
   obtain ⟨ad239, e239, hx239_0⟩ := aI_q HR0.out x8_1 p239 q239
   cases e239
   replace p239 := eq_true p239
   replace q239 := eq_true q239
   go_wp2
   go_roundg k1
   case measure => have := HK1.out; omega
   case rel => exact ⟨(wrap64 (x8_1 + 1)), m5_q, H', ⟨m26_q⟩, m8_q⟩

def slices_Contains_int_int.f (k : Nat) (l0 : List Int) (a1 : Int) : Option (Bool) := (slices_Index_int_int.f k l0 a1).bind fun t240 => (some (decide (t240 ≥ 0)))
set_option maxHeartbeats 8000000 in
set_option maxRecDepth 100000 in
theorem slices_Contains_int_int.calls (k : Nat) (A0 : Option Addr) (c0 : Nat) (l0 : List Int) (a1 : Int) (r : Bool) (w : World) (hr0 : Kd.C kI_q w A0 l0.length l0) (hc0 : l0.length ≤ c0) (h : slices_Contains_int_int.f k l0 a1 = some r) :
    Calls Try.prog 53 #[.slice A0 l0.length c0, .int .i64 a1] w fun e w' => e = .returned (.bool r) ∧ Drawn0 w w' := by
 have HR0 := Ae_q hr0
 have HC0 := Ae_q hc0
 clear hr0 hc0
 have H : ((slices_Index_int_int.f k l0 a1).bind fun t240 => (some (decide (t240 ≥ 0)))) = some r := h
 clear h
 replace H := oB_q.mp H
 obtain ⟨t240, A30, H⟩ := H
 replace H : (some (decide (t240 ≥ 0))) = some r := H
 have A3 := Ae_q A30
 clear A30
 obtain rfl := oI_q H
 go_enter Try.func53, Try.ntmps53
 go_wp2_with (first | ((with_reducible refine gC_q (f := 67) rfl ?_); refine gL_q (some 7) rfl rfl Try.func67 m9_q rfl #[.slice A0 l0.length c0, .int .i64 a1] rfl m0_q ?_; (with_reducible refine (slices_Index_int_int.calls k _ _ l0 a1 t240 _ ?side1 ?side2 A3.out).mono ?_); (case side1 => repeat (first | exact HR0.out | (with_reducible refine cA_q ?_ _) | (with_reducible refine cN_q ?_ _) | (with_reducible refine cD_q ?_))); (case side2 => exact m41_q); rintro e w' ⟨rfl, ⟨nd, rfl⟩⟩; refine ⟨_, rfl, ?_⟩))
 go_ret
 exact ⟨m5_q, m8_q⟩

def impl_RecallBatches.l0 : Nat → Int → List Int → List (S39) → Int → Int → Option (List Int)
 | 0, _, _, _, _, _ => none
 | k + 1, x1, x5, x13, x14, x15 => if x15 < x14 then (if 0 ≤ x15 then (if x15 < (x13.length : Int) then ((slices_Contains_int_int.f k ((rd_T39 x13 x15).f1) x1).bind fun t247 => (if t247 = true then (if x5.length < 17592186044416 then (impl_RecallBatches.l0 k x1 (x5 ++ [(rd_T39 x13 x15).f0]) x13 x14 (wrap64 (x15 + 1))) else (none)) else (impl_RecallBatches.l0 k x1 x5 x13 x14 (wrap64 (x15 + 1))))) else (none)) else (none)) else (some x5)
def impl_RecallBatches.f (k : Nat) (l0 : List (S39)) (a1 : Int) : Option (List Int) := (some (([] : List Int) : List Int)).bind fun y241 => ((impl_BatchesValid.f k l0).bind fun t244 => (if t244 = true then (impl_RecallBatches.l0 k a1 y241 l0 (l0.length : Int) 0) else (some y241)))
set_option maxHeartbeats 8000000 in
set_option maxRecDepth 100000 in
theorem impl_RecallBatches.calls (k : Nat) (A0 : Option Addr) (c0 : Nat) (l0 : List (S39)) (a1 : Int) (r : List Int) (w : World) (hr0 : Kd.C k39 w A0 l0.length l0) (hc0 : l0.length ≤ c0) (h : impl_RecallBatches.f k l0 a1 = some r) :
    Calls Try.prog 21 #[.slice A0 l0.length c0, .int .i64 a1] w fun e w' => ∃ v0_ : Value, e = .returned (v0_) ∧ Kd.R kI_q 3 w' w.heap.size (fun _ => True) v0_ r ∧ Below w.heap.size w w' := by
 have hu39 := Try.underlying39
 have HR0 := Ae_q hr0
 have HC0 := Ae_q hc0
 clear hr0 hc0
 have HB := Ae_q (bR_q w.heap.size w)
 have H : ((some (([] : List Int) : List Int)).bind fun y241 => ((impl_BatchesValid.f k l0).bind fun t244 => (if t244 = true then (impl_RecallBatches.l0 k a1 y241 l0 (l0.length : Int) 0) else (some y241)))) = some r := h
 clear h
 obtain ⟨y241, hy241⟩ : ∃ y_ : List Int, y_ = (([] : List Int)) := ⟨_, rfl⟩
 replace H : ((impl_BatchesValid.f k l0).bind fun t244 => (if t244 = true then (impl_RecallBatches.l0 k a1 y241 l0 (l0.length : Int) 0) else (some y241))) = some r := by first | (rw [hy241]; with_reducible exact H) | (have H2_ := (oS_q _ _).symm.trans H; rw [hy241]; with_reducible exact H2_) | (have H2_ := (oS_q _ _).symm.trans H; with_reducible exact H2_) | with_reducible exact H | (rw [hy241]; exact H) | exact H
 have Ny241 := Ae_q hy241
 clear hy241
 replace H := oB_q.mp H
 obtain ⟨t244, A30, H⟩ := H
 replace H : (if t244 = true then (impl_RecallBatches.l0 k a1 y241 l0 (l0.length : Int) 0) else (some y241)) = some r := H
 have A3 := Ae_q A30
 clear A30
 by_cases c4 : t244 = true
 rotate_left
 ·replace c4 := fM_q.mpr c4
  subst c4
  have H1 : (some y241) = some r := by rw [if_neg (show ¬ (false = true) by decide)] at H; exact H
  clear H
  have H := H1
  clear H1
  obtain rfl := oI_q H
  go_enter Try.func21, Try.ntmps21
  go_wp2_with (first | ((with_reducible refine gD_q (N := 8) rfl ?_); refine Kd.R_lit kI_q _ 3 ?hg (N := 8) ?hd (xs := ([] : List Int)) (inner := []) (ok := fun _ => True) (okp := fun _ => True) ?hr ?hp (fun _ hk => hk) trivial (bR_q _ _) (nR_q _) (by simp) ?_; (case hd => rfl); (case hg => rfl); (case hr => exact m11_q); (case hp => exact m42_q); intro v242 w19 ho20 hb hg_ hnew_; clear hg_ hnew_; (first | rw [← Ny241.out] at ho20 | (simp only [Int.reduceToNat] at ho20; rw [← Ny241.out] at ho20)); have HO243 := Ae_q (rL_q ho20 (bZ_q (bel HB.out))); replace HB := Ae_q (bT_q (bel HB.out) hb); clear hb ho20) | ((with_reducible refine gC_q (f := 15) rfl ?_); refine gL_q (some 10) rfl rfl Try.func15 m9_q rfl #[.slice A0 l0.length c0] rfl m0_q ?_; (with_reducible refine (impl_BatchesValid.calls k _ _ l0 false _ ?side1 ?side2 A3.out).mono ?_); (case side1 => exact m28_q); (case side2 => exact m41_q); rintro e w' ⟨rfl, hb⟩; refine ⟨_, rfl, ?_⟩; replace HO243 := Ae_q (rO_q (rup HO243.out) hb); replace HB := Ae_q (bT_q (bel HB.out) hb); (try clear hb); (try clear hb2); (try clear hk); (try clear hi)))
  go_ret
  exact ⟨_, m6_q, rup HO243.out, bel HB.out⟩
 subst c4
 have H1 : (impl_RecallBatches.l0 k a1 y241 l0 (l0.length : Int) 0) = some r := by rw [if_pos rfl] at H; exact H
 clear H
 have H := H1
 clear H1
 have H' := Ae_q H
 clear H
 go_enter Try.func21, Try.ntmps21
 go_wp2_with (first | ((with_reducible refine gD_q (N := 8) rfl ?_); refine Kd.R_lit kI_q _ 3 ?hg (N := 8) ?hd (xs := ([] : List Int)) (inner := []) (ok := fun _ => True) (okp := fun _ => True) ?hr ?hp (fun _ hk => hk) trivial (bR_q _ _) (nR_q _) (by simp) ?_; (case hd => rfl); (case hg => rfl); (case hr => exact m11_q); (case hp => exact m42_q); intro v242 w5 ho6 hb hg_ hnew_; clear hg_ hnew_; (first | rw [← Ny241.out] at ho6 | (simp only [Int.reduceToNat] at ho6; rw [← Ny241.out] at ho6)); have HO243 := Ae_q (rL_q ho6 (bZ_q (bel HB.out))); replace HB := Ae_q (bT_q (bel HB.out) hb); clear hb ho6) | ((with_reducible refine gC_q (f := 15) rfl ?_); refine gL_q (some 10) rfl rfl Try.func15 m9_q rfl #[.slice A0 l0.length c0] rfl m0_q ?_; (with_reducible refine (impl_BatchesValid.calls k _ _ l0 true _ ?side1 ?side2 A3.out).mono ?_); (case side1 => exact m28_q); (case side2 => exact m41_q); rintro e w' ⟨rfl, hb⟩; refine ⟨_, rfl, ?_⟩; replace HO243 := Ae_q (rO_q (rup HO243.out) hb); replace HB := Ae_q (bT_q (bel HB.out) hb); (try clear hb); (try clear hb2); (try clear hk); (try clear hi)))
 go_loopg [5, 15] k (fun kq v5 v15 w' => ∃ (x5_1 : List Int) (x15_1 : Int), v15 = .int .i64 x15_1 ∧ Aside0 (impl_RecallBatches.l0 kq a1 x5_1 l0 (l0.length : Int) x15_1 = some r) ∧ Aside0 (kq ≤ k) ∧ Aside0 (Kd.R kI_q 3 w' w.heap.size (fun _ => True) v5 x5_1) ∧ Aside0 (Below w.heap.size w w'))
 case atStart => exact ⟨(y241), (0), m5_q, H', ⟨nR_q _⟩, ⟨rup HO243.out⟩, ⟨bel HB.out⟩⟩
 case round =>
  clear H'
  try clear c1
  try clear c2
  try clear p2
  try clear c4
  obtain ⟨x5_1, x15_1, rfl, HA, HK1, HO_5, HB⟩ := hrel
  cases gk with
  | zero => exact absurd HA.out (by simp [impl_RecallBatches.l0])
  | succ k1 =>
   have H := HA.out
   clear HA
   simp only [impl_RecallBatches.l0] at H
   by_cases c8 : x15_1 < (l0.length : Int)
   rotate_left
   ·rw [if_neg c8] at H
    have c8b0 : decide (x15_1 < (l0.length : Int)) = false := dF_q c8
    clear c8
    obtain rfl := oI_q H
    go_wp2
    go_ret
    exact ⟨_, m6_q, rup HO_5.out, bel HB.out⟩
   rw [if_pos c8] at H
   have c8b0 : decide (x15_1 < (l0.length : Int)) = true := dT_q c8
   clear c8
   by_cases c9 : 0 ≤ x15_1
   rotate_left
   ·rw [if_neg c9] at H
    exact absurd H (by simp)
   rw [if_pos c9] at H
   have c9b0 : decide (0 ≤ x15_1) = true := dT_q c9
   clear c9
   by_cases c10 : x15_1 < (l0.length : Int)
   rotate_left
   ·rw [if_neg c10] at H
    exact absurd H (by simp)
   rw [if_pos c10] at H
   have c10b0 : decide (x15_1 < (l0.length : Int)) = true := dT_q c10
   clear c10
   replace H := oB_q.mp H
   obtain ⟨t247, A110, H⟩ := H
   replace H : (if t247 = true then (if x5_1.length < 17592186044416 then (impl_RecallBatches.l0 k1 a1 (x5_1 ++ [(rd_T39 l0 x15_1).f0]) l0 (l0.length : Int) (wrap64 (x15_1 + 1))) else (none)) else (impl_RecallBatches.l0 k1 a1 x5_1 l0 (l0.length : Int) (wrap64 (x15_1 + 1)))) = some r := H
   have A11 := Ae_q A110
   clear A110
   by_cases c12 : t247 = true
   rotate_left
   ·replace c12 := fM_q.mpr c12
    subst c12
    have H1 : (impl_RecallBatches.l0 k1 a1 x5_1 l0 (l0.length : Int) (wrap64 (x15_1 + 1))) = some r := by rw [if_neg (show ¬ (false = true) by decide)] at H; exact H
    clear H
    have H := H1
    clear H1
    have H' := Ae_q H
    clear H
    have p245 : 0 ≤ (x15_1 : Int) := oD_q (by assumption)
    have q245 : x15_1 < (l0.length : Int) := oD_q (by assumption)
    obtain ⟨ad245, A245_1, c245_1, e245, hx245_0, hx245_1, hx245_2, hx245_3, hl245_1, hi245_1⟩ := at_T39 HR0.out x15_1 p245 q245
    cases e245
    replace hx245_0 := cel HB.out hx245_0
    replace hx245_1 := cel HB.out hx245_1
    replace hx245_2 := cel HB.out hx245_2
    replace hx245_3 := cel HB.out hx245_3
    have HR245_1 := Ae_q hi245_1
    have HC245_1 := Ae_q hl245_1
    clear hi245_1 hl245_1
    replace p245 := eq_true p245
    replace q245 := eq_true q245
    go_wp2_with (first | ((with_reducible refine gD_q (N := 7) rfl ?_); refine bE_q ?hg (N := 7) ?hd (cs := #[.int .i64 0, .slice none 0 0, .int .i64 0, .int .i64 0]) (t := 39) ?hr ?_; (case hd => rfl); (case hg => rfl); (case hr => exact m11_q); intro gb246 hg w17 hbox hb; replace HO_5 := Ae_q (rO_q (rup HO_5.out) hb); have BK246 := Ae_q (hbox); have GW246 := Ae_q ((by rw [hg]; exact (bZ_q (bel HB.out)) : w.heap.size ≤ gb246)); have GE246 := Ae_q ((by rw [hg]; exact (bZ_q (bel HB.out)) : w.heap.size ≤ gb246)); replace HB := Ae_q (bT_q (bel HB.out) hb); clear hb hbox hg; have hcz18_0 : cI w17 gb246 0 0 := cZ BK246 0 rfl; have hcz18_1 : w17.cell? ⟨gb246, 1, none⟩ = some (.slice none 0 0) := (bC_q BK246.out 1).trans rfl; have hcz18_2 : cI w17 gb246 2 0 := cZ BK246 2 rfl; have hcz18_3 : cI w17 gb246 3 0 := cZ BK246 3 rfl; have hfz18_0 := bF_q BK246.out 0; have hfz18_1 := bF_q BK246.out 1; have hfz18_2 := bF_q BK246.out 2; have hfz18_3 := bF_q BK246.out 3) | ((with_reducible refine gC_q (f := 53) rfl ?_); refine gL_q (some 22) rfl rfl Try.func53 m9_q rfl #[.slice A245_1 ((rd_T39 l0 x15_1).f1).length c245_1, .int .i64 a1] rfl m0_q ?_; (with_reducible refine (slices_Contains_int_int.calls k1 _ _ ((rd_T39 l0 x15_1).f1) a1 false _ ?side1 ?side2 A11.out).mono ?_); (case side1 => exact cB_q HR245_1.out m21_q); (case side2 => exact HC245_1.out); rintro e w' ⟨rfl, ⟨nd, rfl⟩⟩; refine ⟨_, rfl, ?_⟩))
    go_roundg k1
    case measure => have := HK1.out; omega
    case rel => exact ⟨(x5_1), (wrap64 (x15_1 + 1)), m5_q, H', ⟨m26_q⟩, ⟨by (with_reducible repeat (first | apply rA_q | apply rN_q | apply rD_q)); exact rM_q (Kd.R_far (p := ⟨gb246, 3, none⟩) (Kd.R_far (p := ⟨gb246, 2, none⟩) (Kd.R_far (p := ⟨gb246, 1, none⟩) (Kd.R_far (p := ⟨gb246, 0, none⟩) (Kd.R_types HO_5.out BK246.out (by decide)) (fun _ hk => hk.2) (.int .i64 ((rd_T39 l0 x15_1).f0))) (fun _ hk => hk.2) (.slice A245_1 ((rd_T39 l0 x15_1).f1).length c245_1)) (fun _ hk => hk.2) (.int .i64 ((rd_T39 l0 x15_1).f2))) (fun _ hk => hk.2) (.int .i64 ((rd_T39 l0 x15_1).f3))) (fun _ hk => trivial)⟩, ⟨m21_q⟩⟩
   subst c12
   have H1 : (if x5_1.length < 17592186044416 then (impl_RecallBatches.l0 k1 a1 (x5_1 ++ [(rd_T39 l0 x15_1).f0]) l0 (l0.length : Int) (wrap64 (x15_1 + 1))) else (none)) = some r := by rw [if_pos rfl] at H; exact H
   clear H
   have H := H1
   clear H1
   by_cases c13 : x5_1.length < 17592186044416
   rotate_left
   ·rw [if_neg c13] at H
    exact absurd H (by simp)
   rw [if_pos c13] at H
   have LMc13 := Ae_q c13
   clear c13
   obtain ⟨y248, hy248⟩ : ∃ y_ : List Int, y_ = (x5_1 ++ [(rd_T39 l0 x15_1).f0]) := ⟨_, rfl⟩
   replace H : (impl_RecallBatches.l0 k1 a1 y248 l0 (l0.length : Int) (wrap64 (x15_1 + 1))) = some r := by first | (rw [hy248]; with_reducible exact H) | (have H2_ := (oS_q _ _).symm.trans H; rw [hy248]; with_reducible exact H2_) | (have H2_ := (oS_q _ _).symm.trans H; with_reducible exact H2_) | with_reducible exact H | (rw [hy248]; exact H) | exact H
   have Ny248 := Ae_q hy248
   clear hy248
   have H' := Ae_q H
   clear H
   have p245 : 0 ≤ (x15_1 : Int) := oD_q (by assumption)
   have q245 : x15_1 < (l0.length : Int) := oD_q (by assumption)
   obtain ⟨ad245, A245_1, c245_1, e245, hx245_0, hx245_1, hx245_2, hx245_3, hl245_1, hi245_1⟩ := at_T39 HR0.out x15_1 p245 q245
   cases e245
   replace hx245_0 := cel HB.out hx245_0
   replace hx245_1 := cel HB.out hx245_1
   replace hx245_2 := cel HB.out hx245_2
   replace hx245_3 := cel HB.out hx245_3
   have HR245_1 := Ae_q hi245_1
   have HC245_1 := Ae_q hl245_1
   clear hi245_1 hl245_1
   replace p245 := eq_true p245
   replace q245 := eq_true q245
   go_wp2_with (first | ((with_reducible refine gD_q (N := 7) rfl ?_); refine bE_q ?hg (N := 7) ?hd (cs := #[.int .i64 0, .slice none 0 0, .int .i64 0, .int .i64 0]) (t := 39) ?hr ?_; (case hd => rfl); (case hg => rfl); (case hr => exact m11_q); intro gb246 hg w14 hbox hb; replace HO_5 := Ae_q (rO_q (rup HO_5.out) hb); have BK246 := Ae_q (hbox); have GW246 := Ae_q ((by rw [hg]; exact (bZ_q (bel HB.out)) : w.heap.size ≤ gb246)); have GE246 := Ae_q ((by rw [hg]; exact (bZ_q (bel HB.out)) : w.heap.size ≤ gb246)); replace HB := Ae_q (bT_q (bel HB.out) hb); clear hb hbox hg; have hcz15_0 : cI w14 gb246 0 0 := cZ BK246 0 rfl; have hcz15_1 : w14.cell? ⟨gb246, 1, none⟩ = some (.slice none 0 0) := (bC_q BK246.out 1).trans rfl; have hcz15_2 : cI w14 gb246 2 0 := cZ BK246 2 rfl; have hcz15_3 : cI w14 gb246 3 0 := cZ BK246 3 rfl; have hfz15_0 := bF_q BK246.out 0; have hfz15_1 := bF_q BK246.out 1; have hfz15_2 := bF_q BK246.out 2; have hfz15_3 := bF_q BK246.out 3) | ((with_reducible refine gC_q (f := 53) rfl ?_); refine gL_q (some 22) rfl rfl Try.func53 m9_q rfl #[.slice A245_1 ((rd_T39 l0 x15_1).f1).length c245_1, .int .i64 a1] rfl m0_q ?_; (with_reducible refine (slices_Contains_int_int.calls k1 _ _ ((rd_T39 l0 x15_1).f1) a1 true _ ?side1 ?side2 A11.out).mono ?_); (case side1 => exact cB_q HR245_1.out m21_q); (case side2 => exact HC245_1.out); rintro e w' ⟨rfl, ⟨nd, rfl⟩⟩; refine ⟨_, rfl, ?_⟩) | ((with_reducible refine gate_builtin (b := .append) (xs := #[.tmp 23, .tmp 26]) rfl ?_); at_builtin; refine Kd.R_append kI_q (w0 := w) w.heap.size rfl (.tmp 23) (.tmp 26) 34 3 (.int .i64 0) 8 rfl Try.underlying34 info3 rfl (by decide) (by omega) u5 x5_1 ((rd_T39 l0 x15_1).f0) [.int .i64 ((rd_T39 l0 x15_1).f0)] (fun _ => True) (fun _ => False) rfl m11_q ?aP (fun _ hk => hk.elim) ?aF ?aO ?aB ?aS ?aL ?_; (case aP => exact rfl); (case aB => exact m21_q); (case aF => exact (fun _ _ => trivial)); (case aO => exact (by (with_reducible repeat (first | apply rA_q | apply rN_q | apply rD_q)); exact rM_q (Kd.R_far (p := ⟨gb246, 3, none⟩) (Kd.R_far (p := ⟨gb246, 2, none⟩) (Kd.R_far (p := ⟨gb246, 1, none⟩) (Kd.R_far (p := ⟨gb246, 0, none⟩) (Kd.R_types HO_5.out BK246.out (by decide)) (fun _ hk => hk.2) (.int .i64 ((rd_T39 l0 x15_1).f0))) (fun _ hk => hk.2) (.slice A245_1 ((rd_T39 l0 x15_1).f1).length c245_1)) (fun _ hk => hk.2) (.int .i64 ((rd_T39 l0 x15_1).f2))) (fun _ hk => hk.2) (.int .i64 ((rd_T39 l0 x15_1).f3))) (fun _ hk => trivial))); (case aS => exact (bZ_q m21_q)); (case aL => have := LMc13.out; omega); intro v249 w16 ho hb hg hat; rw [← Ny248.out] at ho; replace BK246 := Ae_q (bG_q (g := gb246) (o := .cells #[.int .i64 ((rd_T39 l0 x15_1).f0), .slice A245_1 ((rd_T39 l0 x15_1).f1).length c245_1, .int .i64 ((rd_T39 l0 x15_1).f2), .int .i64 ((rd_T39 l0 x15_1).f3)] 39 (0, 0)) (by (with_reducible repeat (first | refine bN_q ?_ _ | refine bW_q ?_ | refine bL_q ?_ _)); refine blk_put (cs := #[.int .i64 ((rd_T39 l0 x15_1).f0), .slice A245_1 ((rd_T39 l0 x15_1).f1).length c245_1, .int .i64 ((rd_T39 l0 x15_1).f2), .int .i64 0]) ?_ 3 _ rfl; (with_reducible repeat (first | refine bN_q ?_ _ | refine bW_q ?_ | refine bL_q ?_ _)); refine blk_put (cs := #[.int .i64 ((rd_T39 l0 x15_1).f0), .slice A245_1 ((rd_T39 l0 x15_1).f1).length c245_1, .int .i64 0, .int .i64 0]) ?_ 2 _ rfl; (with_reducible repeat (first | refine bN_q ?_ _ | refine bW_q ?_ | refine bL_q ?_ _)); refine blk_put (cs := #[.int .i64 ((rd_T39 l0 x15_1).f0), .slice none 0 0, .int .i64 0, .int .i64 0]) ?_ 1 _ rfl; (with_reducible repeat (first | refine bN_q ?_ _ | refine bW_q ?_ | refine bL_q ?_ _)); refine blk_put (cs := #[.int .i64 0, .slice none 0 0, .int .i64 0, .int .i64 0]) ?_ 0 _ rfl; (with_reducible repeat (first | refine bN_q ?_ _ | refine bW_q ?_ | refine bL_q ?_ _)); exact BK246.out) hg (Kd.R_ne HO_5.out BK246.out (by decide))); replace HB := Ae_q (hb); have HO250 := Ae_q (ho); clear HO_5; clear ho hb hg hat))
   go_roundg k1
   case measure => have := HK1.out; omega
   case rel => exact ⟨(y248), (wrap64 (x15_1 + 1)), m5_q, H', ⟨m26_q⟩, ⟨rup HO250.out⟩, ⟨m21_q⟩⟩

def spec_l15Has.l0 : Nat → List Int → Int → Int → Option (Bool)
 | 0, _, _, _ => none
 | k + 1, x0, x1, x5 => if x5 < (x0.length : Int) then (if 0 ≤ x5 then (if (rd x0 x5) = x1 then (some true) else (spec_l15Has.l0 k x0 x1 (wrap64 (x5 + 1)))) else (none)) else (some false)
def spec_l15Has.f (k : Nat) (l0 : List Int) (a1 : Int) : Option (Bool) := spec_l15Has.l0 k l0 a1 0
set_option maxHeartbeats 8000000 in
set_option maxRecDepth 100000 in
theorem spec_l15Has.calls (k : Nat) (A0 : Option Addr) (c0 : Nat) (l0 : List Int) (a1 : Int) (r : Bool) (w : World) (hr0 : Kd.C kI_q w A0 l0.length l0) (hc0 : l0.length ≤ c0) (h : spec_l15Has.f k l0 a1 = some r) :
    Calls Try.prog 54 #[.slice A0 l0.length c0, .int .i64 a1] w fun e w' => e = .returned (.bool r) ∧ Drawn0 w w' := by
 have HR0 := Ae_q hr0
 have HC0 := Ae_q hc0
 clear hr0 hc0
 have H : (spec_l15Has.l0 k l0 a1 0) = some r := h
 clear h
 have H' := Ae_q H
 clear H
 go_enter Try.func54, Try.ntmps54
 go_wp2
 go_loopg [5] k (fun kq v5 w' => ∃ (x5_1 : Int), v5 = .int .i64 x5_1 ∧ Aside0 (spec_l15Has.l0 kq l0 a1 x5_1 = some r) ∧ Aside0 (kq ≤ k) ∧ Drawn0 w w')
 case atStart => exact ⟨(0), m5_q, H', ⟨nR_q _⟩, m8_q⟩
 case round =>
  clear H'
  try clear p2
  obtain ⟨x5_1, rfl, HA, HK1, ⟨m1, rfl⟩⟩ := hrel
  cases gk with
  | zero => exact absurd HA.out (by simp [spec_l15Has.l0])
  | succ k1 =>
   have H := HA.out
   clear HA
   simp only [spec_l15Has.l0] at H
   by_cases c3 : x5_1 < (l0.length : Int)
   rotate_left
   ·rw [if_neg c3] at H
    have c3b0 : decide (x5_1 < (l0.length : Int)) = false := dF_q c3
    clear c3
    obtain rfl := oI_q H
    go_wp2
    go_ret
    exact ⟨m5_q, m8_q⟩
   rw [if_pos c3] at H
   have c3b0 : decide (x5_1 < (l0.length : Int)) = true := dT_q c3
   clear c3
   by_cases c4 : 0 ≤ x5_1
   rotate_left
   ·rw [if_neg c4] at H
    exact absurd H (by simp)
   rw [if_pos c4] at H
   have c4b0 : decide (0 ≤ x5_1) = true := dT_q c4
   clear c4
   by_cases c5 : (rd l0 x5_1) = a1
   ·rw [if_pos c5] at H
    have c5b0 : ((rd l0 x5_1) == a1) = true := beq_iff_eq.mpr c5
    have c5b1 : ((rd l0 x5_1) != a1) = false := nE_q.mpr c5
    clear c5
    obtain rfl := oI_q H
    have p251 : 0 ≤ (x5_1 : Int) := oD_q (by assumption)
    have q251 : x5_1 < (l0.length : Int) := oD_q (by assumption)
    obtain ⟨ad251, e251, hx251_0⟩ := aI_q HR0.out x5_1 p251 q251
    cases e251
    replace p251 := eq_true p251
    replace q251 := eq_true q251
    go_wp2
    go_ret
    exact ⟨m5_q, m8_q⟩
   rw [if_neg c5] at H
   have c5b0 : ((rd l0 x5_1) == a1) = false := fN_q.mpr c5
   have c5b1 : ((rd l0 x5_1) != a1) = true := nI_q.mpr c5
   have H' := Ae_q H
   clear H
   have p251 : 0 ≤ (x5_1 : Int) := oD_q (by assumption)
   have q251 : x5_1 < (l0.length : Int) := oD_q (by assumption)
   obtain ⟨ad251, e251, hx251_0⟩ := aI_q HR0.out x5_1 p251 q251
   cases e251
   replace p251 := eq_true p251
   replace q251 := eq_true q251
   go_wp2
   go_roundg k1
   case measure => have := HK1.out; omega
   case rel => exact ⟨(wrap64 (x5_1 + 1)), m5_q, H', ⟨m26_q⟩, m8_q⟩

mutual
def spec_RecallBatches.l0 : Nat → List (S39) → Int → List Int → Int → Option (List Int)
 | 0, _, _, _, _ => none
 | k + 1, x0, x1, x5, x6 => if x6 < (x0.length : Int) then ((spec_BatchesValid.f k x0).bind fun t255 => (spec_RecallBatches.j1 k x0 x1 x5 x6 t255)) else (spec_RecallBatches.j1 k x0 x1 x5 x6 false)
def spec_RecallBatches.j1 : Nat → List (S39) → Int → List Int → Int → Bool → Option (List Int)
 | 0, _, _, _, _, _ => none
 | k + 1, x0, x1, x5, x6, x15 => if x15 = true then (if 0 ≤ x6 then (if x6 < (x0.length : Int) then ((spec_l15Has.f k ((rd_T39 x0 x6).f1) x1).bind fun t257 => (if t257 = true then (if x5.length < 17592186044416 then (spec_RecallBatches.l0 k x0 x1 (x5 ++ [(rd_T39 x0 x6).f0]) (wrap64 (x6 + 1))) else (none)) else (spec_RecallBatches.l0 k x0 x1 x5 (wrap64 (x6 + 1))))) else (none)) else (none)) else (some x5)
end
def spec_RecallBatches.f (k : Nat) (l0 : List (S39)) (a1 : Int) : Option (List Int) := spec_RecallBatches.l0 k l0 a1 (([] : List Int)) 0
set_option maxHeartbeats 8000000 in
set_option maxRecDepth 100000 in
theorem spec_RecallBatches.calls (k : Nat) (A0 : Option Addr) (c0 : Nat) (l0 : List (S39)) (a1 : Int) (r : List Int) (w : World) (hr0 : Kd.C k39 w A0 l0.length l0) (hc0 : l0.length ≤ c0) (h : spec_RecallBatches.f k l0 a1 = some r) :
    Calls Try.prog 22 #[.slice A0 l0.length c0, .int .i64 a1] w fun e w' => ∃ v0_ : Value, e = .returned (v0_) ∧ Kd.R kI_q 3 w' w.heap.size (fun _ => True) v0_ r ∧ Below w.heap.size w w' := by
 have HR0 := Ae_q hr0
 have HC0 := Ae_q hc0
 clear hr0 hc0
 have HB := Ae_q (bR_q w.heap.size w)
 have H : (spec_RecallBatches.l0 k l0 a1 (([] : List Int)) 0) = some r := h
 clear h
 obtain ⟨y252, hy252⟩ : ∃ y_ : List Int, y_ = (([] : List Int)) := ⟨_, rfl⟩
 replace H : (spec_RecallBatches.l0 k l0 a1 y252 0) = some r := by first | (rw [hy252]; with_reducible exact H) | (have H2_ := (oS_q _ _).symm.trans H; rw [hy252]; with_reducible exact H2_) | (have H2_ := (oS_q _ _).symm.trans H; with_reducible exact H2_) | with_reducible exact H | (rw [hy252]; exact H) | exact H
 have Ny252 := Ae_q hy252
 clear hy252
 have H' := Ae_q H
 clear H
 go_enter Try.func22, Try.ntmps22
 go_wp2_with (first | ((with_reducible refine gD_q (N := 7) rfl ?_); refine Kd.R_lit kI_q _ 3 ?hg (N := 7) ?hd (xs := ([] : List Int)) (inner := []) (ok := fun _ => True) (okp := fun _ => True) ?hr ?hp (fun _ hk => hk) trivial (bR_q _ _) (nR_q _) (by simp) ?_; (case hd => rfl); (case hg => rfl); (case hr => exact m11_q); (case hp => exact m42_q); intro v253 w3 ho4 hb hg_ hnew_; clear hg_ hnew_; (first | rw [← Ny252.out] at ho4 | (simp only [Int.reduceToNat] at ho4; rw [← Ny252.out] at ho4)); have HO254 := Ae_q (rL_q ho4 (bZ_q (bel HB.out))); replace HB := Ae_q (bT_q (bel HB.out) hb); clear hb ho4))
 go_loopg [5, 6] k (fun kq v5 v6 w' => ∃ (x5_1 : List Int) (x6_1 : Int), v6 = .int .i64 x6_1 ∧ Aside0 (spec_RecallBatches.l0 kq l0 a1 x5_1 x6_1 = some r) ∧ Aside0 (kq ≤ k) ∧ Aside0 (Kd.R kI_q 3 w' w.heap.size (fun _ => True) v5 x5_1) ∧ Aside0 (Below w.heap.size w w'))
 case atStart => exact ⟨(y252), (0), m5_q, H', ⟨nR_q _⟩, ⟨rup HO254.out⟩, ⟨bel HB.out⟩⟩
 case round =>
  clear H'
  try clear c2
  try clear p2
  obtain ⟨x5_1, x6_1, rfl, HA, HK1, HO_5, HB⟩ := hrel
  cases gk with
  | zero => exact absurd HA.out (by simp [spec_RecallBatches.l0])
  | succ k1 =>
   have H := HA.out
   clear HA
   simp only [spec_RecallBatches.l0] at H
   have HC5 := Ae_q H
   clear H
   go_upto_region 3 with (fail)
   go_cut [15] (fun v15 wc => ∃ (kq : Nat) (x15_4 : Bool), v15 = .bool x15_4 ∧ Aside0 (spec_RecallBatches.j1 kq l0 a1 x5_1 x6_1 x15_4 = some r) ∧ Aside0 (kq ≤ k1) ∧ Aside0 (Kd.R kI_q 3 wc w.heap.size (fun _ => True) u5 x5_1) ∧ Aside0 (Below w.heap.size w wc))
   case first =>
    have H := HC5.out
    clear HC5
    by_cases c6 : x6_1 < (l0.length : Int)
    rotate_left
    ·rw [if_neg c6] at H
     have c6b0 : decide (x6_1 < (l0.length : Int)) = false := dF_q c6
     clear c6
     (first | rw [c6b0] | (simp only [i64_w, i32_w]; rw [c6b0]) | skip)
     have H' := Ae_q H
     clear H
     go_wp2
     go_meet
     case rel => exact ⟨_, (false), m5_q, H', ⟨m37_q⟩, ⟨rup HO_5.out⟩, ⟨bel HB.out⟩⟩
    rw [if_pos c6] at H
    have c6b0 : decide (x6_1 < (l0.length : Int)) = true := dT_q c6
    clear c6
    (first | rw [c6b0] | (simp only [i64_w, i32_w]; rw [c6b0]) | skip)
    replace H := oB_q.mp H
    obtain ⟨t255, A70, H⟩ := H
    replace H : (spec_RecallBatches.j1 k1 l0 a1 x5_1 x6_1 t255) = some r := H
    have A7 := Ae_q A70
    clear A70
    have H' := Ae_q H
    clear H
    go_wp2_with (first | (go_at_call 16; (with_reducible refine (spec_BatchesValid.calls k1 _ _ l0 t255 _ ?side1 ?side2 A7.out).mono ?_); (case side1 => exact m28_q); (case side2 => exact m41_q); rintro e w' ⟨rfl, hb⟩; replace HO_5 := Ae_q (rO_q (rup HO_5.out) hb); replace HB := Ae_q (bT_q (bel HB.out) hb); (try clear hb); (try clear hb2); (try clear hk); (try clear hi)))
    go_meet
    case rel => exact ⟨_, (t255), m5_q, H', ⟨m37_q⟩, ⟨rup HO_5.out⟩, ⟨bel HB.out⟩⟩
   case rest =>
    clear HC5
    try clear c2
    try clear p2
    try clear c6
    try clear c6b0
    try clear p2
    obtain ⟨kq, x15_4, rfl, HA, HJ4, HO_5, HB⟩ := hcut
    cases kq with
    | zero => exact absurd HA.out (by simp [spec_RecallBatches.j1])
    | succ kj4 =>
     have H := HA.out
     clear HA
     simp only [spec_RecallBatches.j1] at H
     by_cases c9 : x15_4 = true
     rotate_left
     ·replace c9 := fM_q.mpr c9
      subst c9
      have H1 : (some x5_1) = some r := by rw [if_neg (show ¬ (false = true) by decide)] at H; exact H
      clear H
      have H := H1
      clear H1
      obtain rfl := oI_q H
      go_wp2
      go_ret
      exact ⟨_, m6_q, rup HO_5.out, bel HB.out⟩
     subst c9
     have H1 : (if 0 ≤ x6_1 then (if x6_1 < (l0.length : Int) then ((spec_l15Has.f kj4 ((rd_T39 l0 x6_1).f1) a1).bind fun t257 => (if t257 = true then (if x5_1.length < 17592186044416 then (spec_RecallBatches.l0 kj4 l0 a1 (x5_1 ++ [(rd_T39 l0 x6_1).f0]) (wrap64 (x6_1 + 1))) else (none)) else (spec_RecallBatches.l0 kj4 l0 a1 x5_1 (wrap64 (x6_1 + 1))))) else (none)) else (none)) = some r := by rw [if_pos rfl] at H; exact H
     clear H
     have H := H1
     clear H1
     by_cases c10 : 0 ≤ x6_1
     rotate_left
     ·rw [if_neg c10] at H
      exact absurd H (by simp)
     rw [if_pos c10] at H
     have c10b0 : decide (0 ≤ x6_1) = true := dT_q c10
     clear c10
     by_cases c11 : x6_1 < (l0.length : Int)
     rotate_left
     ·rw [if_neg c11] at H
      exact absurd H (by simp)
     rw [if_pos c11] at H
     have c11b0 : decide (x6_1 < (l0.length : Int)) = true := dT_q c11
     clear c11
     replace H := oB_q.mp H
     obtain ⟨t257, A120, H⟩ := H
     replace H : (if t257 = true then (if x5_1.length < 17592186044416 then (spec_RecallBatches.l0 kj4 l0 a1 (x5_1 ++ [(rd_T39 l0 x6_1).f0]) (wrap64 (x6_1 + 1))) else (none)) else (spec_RecallBatches.l0 kj4 l0 a1 x5_1 (wrap64 (x6_1 + 1)))) = some r := H
     have A12 := Ae_q A120
     clear A120
     by_cases c13 : t257 = true
     rotate_left
     ·replace c13 := fM_q.mpr c13
      subst c13
      have H1 : (spec_RecallBatches.l0 kj4 l0 a1 x5_1 (wrap64 (x6_1 + 1))) = some r := by rw [if_neg (show ¬ (false = true) by decide)] at H; exact H
      clear H
      have H := H1
      clear H1
      have H' := Ae_q H
      clear H
      have p256 : 0 ≤ (x6_1 : Int) := oD_q (by assumption)
      have q256 : x6_1 < (l0.length : Int) := oD_q (by assumption)
      obtain ⟨ad256, A256_1, c256_1, e256, hx256_0, hx256_1, hx256_2, hx256_3, hl256_1, hi256_1⟩ := at_T39 HR0.out x6_1 p256 q256
      cases e256
      replace hx256_0 := cel HB.out hx256_0
      replace hx256_1 := cel HB.out hx256_1
      replace hx256_2 := cel HB.out hx256_2
      replace hx256_3 := cel HB.out hx256_3
      have HR256_1 := Ae_q hi256_1
      have HC256_1 := Ae_q hl256_1
      clear hi256_1 hl256_1
      replace p256 := eq_true p256
      replace q256 := eq_true q256
      go_wp2_with (first | ((with_reducible refine gC_q (f := 54) rfl ?_); refine gL_q (some 24) rfl rfl Try.func54 m9_q rfl #[.slice A256_1 ((rd_T39 l0 x6_1).f1).length c256_1, .int .i64 a1] rfl m0_q ?_; (with_reducible refine (spec_l15Has.calls kj4 _ _ ((rd_T39 l0 x6_1).f1) a1 false _ ?side1 ?side2 A12.out).mono ?_); (case side1 => exact cup (cB_q HR256_1.out HB.out)); (case side2 => exact HC256_1.out); rintro e w' ⟨rfl, ⟨nd, rfl⟩⟩; refine ⟨_, rfl, ?_⟩))
      go_roundg kj4
      case measure => have := HK1.out; have := HJ4.out; omega
      case rel => exact ⟨(x5_1), (wrap64 (x6_1 + 1)), m5_q, H', ⟨by have := HK1.out; have := HJ4.out; omega⟩, ⟨rup HO_5.out⟩, ⟨bel HB.out⟩⟩
     subst c13
     have H1 : (if x5_1.length < 17592186044416 then (spec_RecallBatches.l0 kj4 l0 a1 (x5_1 ++ [(rd_T39 l0 x6_1).f0]) (wrap64 (x6_1 + 1))) else (none)) = some r := by rw [if_pos rfl] at H; exact H
     clear H
     have H := H1
     clear H1
     by_cases c14 : x5_1.length < 17592186044416
     rotate_left
     ·rw [if_neg c14] at H
      exact absurd H (by simp)
     rw [if_pos c14] at H
     have LMc14 := Ae_q c14
     clear c14
     obtain ⟨y259, hy259⟩ : ∃ y_ : List Int, y_ = (x5_1 ++ [(rd_T39 l0 x6_1).f0]) := ⟨_, rfl⟩
     replace H : (spec_RecallBatches.l0 kj4 l0 a1 y259 (wrap64 (x6_1 + 1))) = some r := by first | (rw [hy259]; with_reducible exact H) | (have H2_ := (oS_q _ _).symm.trans H; rw [hy259]; with_reducible exact H2_) | (have H2_ := (oS_q _ _).symm.trans H; with_reducible exact H2_) | with_reducible exact H | (rw [hy259]; exact H) | exact H
     have Ny259 := Ae_q hy259
     clear hy259
     have H' := Ae_q H
     clear H
     have p256 : 0 ≤ (x6_1 : Int) := oD_q (by assumption)
     have q256 : x6_1 < (l0.length : Int) := oD_q (by assumption)
     obtain ⟨ad256, A256_1, c256_1, e256, hx256_0, hx256_1, hx256_2, hx256_3, hl256_1, hi256_1⟩ := at_T39 HR0.out x6_1 p256 q256
     cases e256
     replace hx256_0 := cel HB.out hx256_0
     replace hx256_1 := cel HB.out hx256_1
     replace hx256_2 := cel HB.out hx256_2
     replace hx256_3 := cel HB.out hx256_3
     have HR256_1 := Ae_q hi256_1
     have HC256_1 := Ae_q hl256_1
     clear hi256_1 hl256_1
     replace p256 := eq_true p256
     replace q256 := eq_true q256
     go_wp2_with (first | ((with_reducible refine gC_q (f := 54) rfl ?_); refine gL_q (some 24) rfl rfl Try.func54 m9_q rfl #[.slice A256_1 ((rd_T39 l0 x6_1).f1).length c256_1, .int .i64 a1] rfl m0_q ?_; (with_reducible refine (spec_l15Has.calls kj4 _ _ ((rd_T39 l0 x6_1).f1) a1 true _ ?side1 ?side2 A12.out).mono ?_); (case side1 => exact cup (cB_q HR256_1.out HB.out)); (case side2 => exact HC256_1.out); rintro e w' ⟨rfl, ⟨nd, rfl⟩⟩; refine ⟨_, rfl, ?_⟩; have p258 : 0 ≤ (x6_1 : Int) := oD_q (by assumption); have q258 : x6_1 < (l0.length : Int) := oD_q (by assumption); obtain ⟨ad258, A258_1, c258_1, e258, hx258_0, hx258_1, hx258_2, hx258_3, hl258_1, hi258_1⟩ := at_T39 HR0.out x6_1 p258 q258; obtain rfl : ad256 = ad258 := (by injection e258); replace hx258_0 := cel HB.out hx258_0; replace hx258_1 := cel HB.out hx258_1; replace hx258_2 := cel HB.out hx258_2; replace hx258_3 := cel HB.out hx258_3; have HR258_1 := Ae_q hi258_1; have HC258_1 := Ae_q hl258_1; clear hi258_1 hl258_1; replace p258 := eq_true p258; replace q258 := eq_true q258; have ea_ := oI_q (hx256_1.symm.trans hx258_1); injection ea_ with ea_ en_ ec_; subst ea_; subst ec_; clear en_) | ((with_reducible refine gate_builtin (b := .append) (xs := #[.tmp 25, .tmp 31]) rfl ?_); at_builtin; refine Kd.R_append kI_q (w0 := w) w.heap.size rfl (.tmp 25) (.tmp 31) 34 3 (.int .i64 0) 8 rfl Try.underlying34 info3 rfl (by decide) (by omega) u5 x5_1 ((rd_T39 l0 x6_1).f0) [.int .i64 ((rd_T39 l0 x6_1).f0)] (fun _ => True) (fun _ => False) rfl rfl ?aP (fun _ hk => hk.elim) ?aF ?aO ?aB ?aS ?aL ?_; (case aP => exact rfl); (case aB => exact (bel HB.out)); (case aF => exact (fun _ _ => trivial)); (case aO => exact (rup HO_5.out)); (case aS => exact (bZ_q (bel HB.out))); (case aL => have := LMc14.out; omega); intro v260 w15 ho hb hg hat; rw [← Ny259.out] at ho; replace HB := Ae_q (hb); have HO261 := Ae_q (ho); clear HO_5; clear ho hb hg hat))
     go_roundg kj4
     case measure => have := HK1.out; have := HJ4.out; omega
     case rel => exact ⟨(y259), (wrap64 (x6_1 + 1)), m5_q, H', ⟨by have := HK1.out; have := HJ4.out; omega⟩, ⟨rup HO261.out⟩, ⟨bel HB.out⟩⟩

def laws_sameInts.l0 : Nat → List Int → List Int → Int → Option (Bool)
 | 0, _, _, _ => none
 | k + 1, x0, x1, x5 => if x5 < (x0.length : Int) then (if 0 ≤ x5 then (if x5 < (x1.length : Int) then (if (rd x0 x5) = (rd x1 x5) then (laws_sameInts.l0 k x0 x1 (wrap64 (x5 + 1))) else (some false)) else (none)) else (none)) else (some true)
def laws_sameInts.f (k : Nat) (l0 : List Int) (l1 : List Int) : Option (Bool) := if (l0.length : Int) = (l1.length : Int) then (laws_sameInts.l0 k l0 l1 0) else (some false)
set_option maxHeartbeats 8000000 in
set_option maxRecDepth 100000 in
theorem laws_sameInts.calls (k : Nat) (A0 : Option Addr) (c0 : Nat) (l0 : List Int) (A1 : Option Addr) (c1 : Nat) (l1 : List Int) (r : Bool) (w : World) (hr0 : Kd.C kI_q w A0 l0.length l0) (hc0 : l0.length ≤ c0) (hr1 : Kd.C kI_q w A1 l1.length l1) (hc1 : l1.length ≤ c1) (h : laws_sameInts.f k l0 l1 = some r) :
    Calls Try.prog 23 #[.slice A0 l0.length c0, .slice A1 l1.length c1] w fun e w' => e = .returned (.bool r) ∧ Drawn0 w w' := by
 have HR0 := Ae_q hr0
 have HC0 := Ae_q hc0
 clear hr0 hc0
 have HR1 := Ae_q hr1
 have HC1 := Ae_q hc1
 clear hr1 hc1
 have H : (if (l0.length : Int) = (l1.length : Int) then (laws_sameInts.l0 k l0 l1 0) else (some false)) = some r := h
 clear h
 by_cases c3 : (l0.length : Int) = (l1.length : Int)
 rotate_left
 ·rw [if_neg c3] at H
  have c3b0 : ((l0.length : Int) == (l1.length : Int)) = false := fN_q.mpr c3
  have c3b1 : ((l0.length : Int) != (l1.length : Int)) = true := nI_q.mpr c3
  have c3b2 : (l0.length == l1.length) = false := by first | simpa using c3 | (simp at c3 ⊢; omega)
  obtain rfl := oI_q H
  go_enter Try.func23, Try.ntmps23
  go_wp2
  repeat (go_quiet (fail); try go_wp2)
  go_ret
  exact ⟨m5_q, m8_q⟩
 rw [if_pos c3] at H
 have c3b0 : ((l0.length : Int) == (l1.length : Int)) = true := beq_iff_eq.mpr c3
 have c3b1 : ((l0.length : Int) != (l1.length : Int)) = false := nE_q.mpr c3
 have c3b2 : (l0.length == l1.length) = true := by first | simpa using c3 | (simp at c3 ⊢; omega)
 clear c3
 have H' := Ae_q H
 clear H
 go_enter Try.func23, Try.ntmps23
 go_wp2
 repeat (go_quiet (fail); try go_wp2)
 go_loopg [5] k (fun kq v5 w' => ∃ (x5_1 : Int), v5 = .int .i64 x5_1 ∧ Aside0 (laws_sameInts.l0 kq l0 l1 x5_1 = some r) ∧ Aside0 (kq ≤ k) ∧ Drawn0 w w')
 case atStart => exact ⟨(0), m5_q, H', ⟨nR_q _⟩, m8_q⟩
 case round =>
  clear H'
  try clear c1
  try clear c2
  try clear p2
  try clear c3
  try clear c3b0
  try clear c3b1
  try clear c3b2
  obtain ⟨x5_1, rfl, HA, HK1, ⟨m1, rfl⟩⟩ := hrel
  cases gk with
  | zero => exact absurd HA.out (by simp [laws_sameInts.l0])
  | succ k1 =>
   have H := HA.out
   clear HA
   simp only [laws_sameInts.l0] at H
   by_cases c4 : x5_1 < (l0.length : Int)
   rotate_left
   ·rw [if_neg c4] at H
    have c4b0 : decide (x5_1 < (l0.length : Int)) = false := dF_q c4
    clear c4
    obtain rfl := oI_q H
    go_wp2
    repeat (go_quiet (fail); try go_wp2)
    go_ret
    exact ⟨m5_q, m8_q⟩
   rw [if_pos c4] at H
   have c4b0 : decide (x5_1 < (l0.length : Int)) = true := dT_q c4
   clear c4
   by_cases c5 : 0 ≤ x5_1
   rotate_left
   ·rw [if_neg c5] at H
    exact absurd H (by simp)
   rw [if_pos c5] at H
   have c5b0 : decide (0 ≤ x5_1) = true := dT_q c5
   clear c5
   by_cases c6 : x5_1 < (l1.length : Int)
   rotate_left
   ·rw [if_neg c6] at H
    exact absurd H (by simp)
   rw [if_pos c6] at H
   have c6b0 : decide (x5_1 < (l1.length : Int)) = true := dT_q c6
   clear c6
   by_cases c7 : (rd l0 x5_1) = (rd l1 x5_1)
   rotate_left
   ·rw [if_neg c7] at H
    have c7b0 : ((rd l0 x5_1) == (rd l1 x5_1)) = false := fN_q.mpr c7
    have c7b1 : ((rd l0 x5_1) != (rd l1 x5_1)) = true := nI_q.mpr c7
    obtain rfl := oI_q H
    have p262 : 0 ≤ (x5_1 : Int) := oD_q (by assumption)
    have q262 : x5_1 < (l0.length : Int) := oD_q (by assumption)
    obtain ⟨ad262, e262, hx262_0⟩ := aI_q HR0.out x5_1 p262 q262
    cases e262
    replace p262 := eq_true p262
    replace q262 := eq_true q262
    have p263 : 0 ≤ (x5_1 : Int) := oD_q (by assumption)
    have q263 : x5_1 < (l1.length : Int) := oD_q (by assumption)
    obtain ⟨ad263, e263, hx263_0⟩ := aI_q HR1.out x5_1 p263 q263
    cases e263
    replace p263 := eq_true p263
    replace q263 := eq_true q263
    go_wp2
    repeat (go_quiet (fail); try go_wp2)
    go_ret
    exact ⟨m5_q, m8_q⟩
   rw [if_pos c7] at H
   have c7b0 : ((rd l0 x5_1) == (rd l1 x5_1)) = true := beq_iff_eq.mpr c7
   have c7b1 : ((rd l0 x5_1) != (rd l1 x5_1)) = false := nE_q.mpr c7
   clear c7
   have H' := Ae_q H
   clear H
   have p262 : 0 ≤ (x5_1 : Int) := oD_q (by assumption)
   have q262 : x5_1 < (l0.length : Int) := oD_q (by assumption)
   obtain ⟨ad262, e262, hx262_0⟩ := aI_q HR0.out x5_1 p262 q262
   cases e262
   replace p262 := eq_true p262
   replace q262 := eq_true q262
   have p263 : 0 ≤ (x5_1 : Int) := oD_q (by assumption)
   have q263 : x5_1 < (l1.length : Int) := oD_q (by assumption)
   obtain ⟨ad263, e263, hx263_0⟩ := aI_q HR1.out x5_1 p263 q263
   cases e263
   replace p263 := eq_true p263
   replace q263 := eq_true q263
   go_wp2
   repeat (go_quiet (fail); try go_wp2)
   go_roundg k1
   case measure => have := HK1.out; omega
   case rel => exact ⟨(wrap64 (x5_1 + 1)), m5_q, H', ⟨m26_q⟩, m8_q⟩

end Go.Proofs.Ytnckblolijkdaaa.PBt
