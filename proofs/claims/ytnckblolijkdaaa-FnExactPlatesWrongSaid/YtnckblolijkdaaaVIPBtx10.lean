import Derived.Test.YtnckblolijkdaaaVIPBtx0
import Derived.Test.YtnckblolijkdaaaVIPBtx4
import Derived.Test.YtnckblolijkdaaaVIPBtx7
import Derived.Test.YtnckblolijkdaaaVIPBtx9
namespace Go.Proofs.Ytnckblolijkdaaa.PBt
open Go.RowKit Go.Proofs.YtnckblolijkdaaaW.PrintWords Go.Proofs.YtnckblolijkdaaaW.PrintLast Go.Proofs.YtnckblolijkdaaaW.PrintMore
attribute [local go_sem] max2_int min2_int max_two min_two max_three min_three max_four min_four
set_option linter.unusedVariables false
set_option linter.unusedSimpArgs false

def impl_PlatesWrong.l0 : Nat → List (S39) → List Int → List (S49) → Int → Int → Option (List Int)
 | 0, _, _, _, _, _ => none
 | k + 1, x0, x5, x15, x16, x17 => if x17 < x16 then (if 0 ≤ x17 then (if x17 < (x15.length : Int) then ((impl_batchPlace.f x0 ((rd_T49 x15 x17).f1)).bind fun t155 => (if 0 ≤ t155 then (if t155 < (x0.length : Int) then ((impl_within.f ((rd_T49 x15 x17).f2) ((rd_T39 x0 t155).f2) ((rd_T39 x0 t155).f3)).bind fun t158 => (if t158 = true then (impl_PlatesWrong.l0 k x0 x5 x15 x16 (wrap64 (x17 + 1))) else (if x5.length < 17592186044416 then (impl_PlatesWrong.l0 k x0 (x5 ++ [x17]) x15 x16 (wrap64 (x17 + 1))) else (none)))) else (none)) else (none))) else (none)) else (none)) else (some x5)
def impl_PlatesWrong.f (k : Nat) (l0 : List (S39)) (l1 : List (S49)) : Option (List Int) := (some (([] : List Int) : List Int)).bind fun y149 => ((impl_PlatesValid.f k l0 l1).bind fun t152 => (if t152 = true then (impl_PlatesWrong.l0 k l0 y149 l1 (l1.length : Int) 0) else (some y149)))
set_option maxHeartbeats 8000000 in
set_option maxRecDepth 100000 in
theorem impl_PlatesWrong.calls (k : Nat) (A0 : Option Addr) (c0 : Nat) (l0 : List (S39)) (A1 : Option Addr) (c1 : Nat) (l1 : List (S49)) (r : List Int) (w : World) (hr0 : Kd.C k39 w A0 l0.length l0) (hc0 : l0.length ≤ c0) (hr1 : Kd.C k49 w A1 l1.length l1) (hc1 : l1.length ≤ c1) (h : impl_PlatesWrong.f k l0 l1 = some r) :
    Calls Try.prog 33 #[.slice A0 l0.length c0, .slice A1 l1.length c1] w fun e w' => ∃ v0_ : Value, e = .returned (v0_) ∧ Kd.R kI_q 3 w' w.heap.size (fun _ => True) v0_ r ∧ Below w.heap.size w w' := by
 have hu49 := Try.underlying49
 have hu39 := Try.underlying39
 have HR0 := Ae_q hr0
 have HC0 := Ae_q hc0
 clear hr0 hc0
 have HR1 := Ae_q hr1
 have HC1 := Ae_q hc1
 clear hr1 hc1
 have HB := Ae_q (bR_q w.heap.size w)
 have H : ((some (([] : List Int) : List Int)).bind fun y149 => ((impl_PlatesValid.f k l0 l1).bind fun t152 => (if t152 = true then (impl_PlatesWrong.l0 k l0 y149 l1 (l1.length : Int) 0) else (some y149)))) = some r := h
 clear h
 obtain ⟨y149, hy149⟩ : ∃ y_ : List Int, y_ = (([] : List Int)) := ⟨_, rfl⟩
 replace H : ((impl_PlatesValid.f k l0 l1).bind fun t152 => (if t152 = true then (impl_PlatesWrong.l0 k l0 y149 l1 (l1.length : Int) 0) else (some y149))) = some r := by first | (rw [hy149]; with_reducible exact H) | (have H2_ := (oS_q _ _).symm.trans H; rw [hy149]; with_reducible exact H2_) | (have H2_ := (oS_q _ _).symm.trans H; with_reducible exact H2_) | with_reducible exact H | (rw [hy149]; exact H) | exact H
 have Ny149 := Ae_q hy149
 clear hy149
 replace H := oB_q.mp H
 obtain ⟨t152, A30, H⟩ := H
 replace H : (if t152 = true then (impl_PlatesWrong.l0 k l0 y149 l1 (l1.length : Int) 0) else (some y149)) = some r := H
 have A3 := Ae_q A30
 clear A30
 by_cases c4 : t152 = true
 rotate_left
 ·replace c4 := fM_q.mpr c4
  subst c4
  have H1 : (some y149) = some r := by rw [if_neg (show ¬ (false = true) by decide)] at H; exact H
  clear H
  have H := H1
  clear H1
  obtain rfl := oI_q H
  go_enter Try.func33, Try.ntmps33
  go_wp2_with (first | ((with_reducible refine gD_q (N := 9) rfl ?_); refine Kd.R_lit kI_q _ 3 ?hg (N := 9) ?hd (xs := ([] : List Int)) (inner := []) (ok := fun _ => True) (okp := fun _ => True) ?hr ?hp (fun _ hk => hk) trivial (bR_q _ _) (nR_q _) (by simp) ?_; (case hd => rfl); (case hg => rfl); (case hr => exact m6_q); (case hp => exact (Reps.none _ _)); intro v150 w32 ho33 hb hg_ hnew_; clear hg_ hnew_; (first | rw [← Ny149.out] at ho33 | (simp only [Int.reduceToNat] at ho33; rw [← Ny149.out] at ho33)); have HO151 := Ae_q (rL_q ho33 (bZ_q (bel HB.out))); replace HB := Ae_q (bT_q (bel HB.out) hb); clear hb ho33) | ((with_reducible refine gC_q (f := 30) rfl ?_); refine gL_q (some 12) rfl rfl Try.func30 m7_q rfl #[.slice A0 l0.length c0, .slice A1 l1.length c1] rfl m0_q ?_; (with_reducible refine (impl_PlatesValid.calls k _ _ l0 _ _ l1 false _ ?side1 ?side2 ?side3 ?side4 A3.out).mono ?_); (case side1 => exact m39_q); (case side2 => exact m40_q); (case side3 => exact m28_q); (case side4 => exact m47_q); rintro e w' ⟨rfl, hb⟩; refine ⟨_, rfl, ?_⟩; replace HO151 := Ae_q (rO_q (rup HO151.out) hb); replace HB := Ae_q (bT_q (bel HB.out) hb); (try clear hb); (try clear hb2); (try clear hk); (try clear hi)))
  go_ret
  exact ⟨_, m2_q, rup HO151.out, bel HB.out⟩
 subst c4
 have H1 : (impl_PlatesWrong.l0 k l0 y149 l1 (l1.length : Int) 0) = some r := by rw [if_pos rfl] at H; exact H
 clear H
 have H := H1
 clear H1
 have H' := Ae_q H
 clear H
 go_enter Try.func33, Try.ntmps33
 go_wp2_with (first | ((with_reducible refine gD_q (N := 9) rfl ?_); refine Kd.R_lit kI_q _ 3 ?hg (N := 9) ?hd (xs := ([] : List Int)) (inner := []) (ok := fun _ => True) (okp := fun _ => True) ?hr ?hp (fun _ hk => hk) trivial (bR_q _ _) (nR_q _) (by simp) ?_; (case hd => rfl); (case hg => rfl); (case hr => exact m6_q); (case hp => exact (Reps.none _ _)); intro v150 w5 ho6 hb hg_ hnew_; clear hg_ hnew_; (first | rw [← Ny149.out] at ho6 | (simp only [Int.reduceToNat] at ho6; rw [← Ny149.out] at ho6)); have HO151 := Ae_q (rL_q ho6 (bZ_q (bel HB.out))); replace HB := Ae_q (bT_q (bel HB.out) hb); clear hb ho6) | ((with_reducible refine gC_q (f := 30) rfl ?_); refine gL_q (some 12) rfl rfl Try.func30 m7_q rfl #[.slice A0 l0.length c0, .slice A1 l1.length c1] rfl m0_q ?_; (with_reducible refine (impl_PlatesValid.calls k _ _ l0 _ _ l1 true _ ?side1 ?side2 ?side3 ?side4 A3.out).mono ?_); (case side1 => exact m39_q); (case side2 => exact m40_q); (case side3 => exact m28_q); (case side4 => exact m47_q); rintro e w' ⟨rfl, hb⟩; refine ⟨_, rfl, ?_⟩; replace HO151 := Ae_q (rO_q (rup HO151.out) hb); replace HB := Ae_q (bT_q (bel HB.out) hb); (try clear hb); (try clear hb2); (try clear hk); (try clear hi)))
 go_loopg [5, 17] k (fun kq v5 v17 w' => ∃ (x5_1 : List Int) (x17_1 : Int), v17 = .int .i64 x17_1 ∧ Aside0 (impl_PlatesWrong.l0 kq l0 x5_1 l1 (l1.length : Int) x17_1 = some r) ∧ Aside0 (kq ≤ k) ∧ Aside0 (Kd.R kI_q 3 w' w.heap.size (fun _ => True) v5 x5_1) ∧ Aside0 (Below w.heap.size w w'))
 case atStart => exact ⟨(y149), (0), m3_q, H', ⟨nR_q _⟩, ⟨rup HO151.out⟩, ⟨bel HB.out⟩⟩
 case round =>
  clear H'
  try clear c1
  try clear p2
  try clear c3
  try clear c4
  obtain ⟨x5_1, x17_1, rfl, HA, HK1, HO_5, HB⟩ := hrel
  cases gk with
  | zero => exact absurd HA.out (by simp [impl_PlatesWrong.l0])
  | succ k1 =>
   have H := HA.out
   clear HA
   simp only [impl_PlatesWrong.l0] at H
   by_cases c8 : x17_1 < (l1.length : Int)
   rotate_left
   ·rw [if_neg c8] at H
    have c8b0 : decide (x17_1 < (l1.length : Int)) = false := dF_q c8
    clear c8
    obtain rfl := oI_q H
    go_wp2
    go_ret
    exact ⟨_, m2_q, rup HO_5.out, bel HB.out⟩
   rw [if_pos c8] at H
   have c8b0 : decide (x17_1 < (l1.length : Int)) = true := dT_q c8
   clear c8
   by_cases c9 : 0 ≤ x17_1
   rotate_left
   ·rw [if_neg c9] at H
    exact absurd H (by simp)
   rw [if_pos c9] at H
   have c9b0 : decide (0 ≤ x17_1) = true := dT_q c9
   clear c9
   by_cases c10 : x17_1 < (l1.length : Int)
   rotate_left
   ·rw [if_neg c10] at H
    exact absurd H (by simp)
   rw [if_pos c10] at H
   have c10b0 : decide (x17_1 < (l1.length : Int)) = true := dT_q c10
   clear c10
   replace H := oB_q.mp H
   obtain ⟨t155, A110, H⟩ := H
   replace H : (if 0 ≤ t155 then (if t155 < (l0.length : Int) then ((impl_within.f ((rd_T49 l1 x17_1).f2) ((rd_T39 l0 t155).f2) ((rd_T39 l0 t155).f3)).bind fun t158 => (if t158 = true then (impl_PlatesWrong.l0 k1 l0 x5_1 l1 (l1.length : Int) (wrap64 (x17_1 + 1))) else (if x5_1.length < 17592186044416 then (impl_PlatesWrong.l0 k1 l0 (x5_1 ++ [x17_1]) l1 (l1.length : Int) (wrap64 (x17_1 + 1))) else (none)))) else (none)) else (none)) = some r := H
   have A11 := Ae_q A110
   clear A110
   by_cases c12 : 0 ≤ t155
   rotate_left
   ·rw [if_neg c12] at H
    exact absurd H (by simp)
   rw [if_pos c12] at H
   have c12b0 : decide (0 ≤ t155) = true := dT_q c12
   clear c12
   by_cases c13 : t155 < (l0.length : Int)
   rotate_left
   ·rw [if_neg c13] at H
    exact absurd H (by simp)
   rw [if_pos c13] at H
   have c13b0 : decide (t155 < (l0.length : Int)) = true := dT_q c13
   clear c13
   replace H := oB_q.mp H
   obtain ⟨t158, A140, H⟩ := H
   replace H : (if t158 = true then (impl_PlatesWrong.l0 k1 l0 x5_1 l1 (l1.length : Int) (wrap64 (x17_1 + 1))) else (if x5_1.length < 17592186044416 then (impl_PlatesWrong.l0 k1 l0 (x5_1 ++ [x17_1]) l1 (l1.length : Int) (wrap64 (x17_1 + 1))) else (none))) = some r := H
   have A14 := Ae_q A140
   clear A140
   by_cases c15 : t158 = true
   ·subst c15
    have H1 : (impl_PlatesWrong.l0 k1 l0 x5_1 l1 (l1.length : Int) (wrap64 (x17_1 + 1))) = some r := by rw [if_pos rfl] at H; exact H
    clear H
    have H := H1
    clear H1
    have H' := Ae_q H
    clear H
    have p153 : 0 ≤ (x17_1 : Int) := oD_q (by assumption)
    have q153 : x17_1 < (l1.length : Int) := oD_q (by assumption)
    obtain ⟨ad153, e153, hx153_0, hx153_1, hx153_2⟩ := at_T49 HR1.out x17_1 p153 q153
    cases e153
    replace hx153_0 := cel HB.out hx153_0
    replace hx153_1 := cel HB.out hx153_1
    replace hx153_2 := cel HB.out hx153_2
    replace p153 := eq_true p153
    replace q153 := eq_true q153
    go_wp2_with (first | ((with_reducible refine gD_q (N := 7) rfl ?_); refine bE_q ?hg (N := 7) ?hd (cs := #[.int .i64 0, .int .i64 0, .int .i64 0]) (t := 49) ?hr ?_; (case hd => rfl); (case hg => rfl); (case hr => exact m6_q); intro gb154 hg w16 hbox hb; replace HO_5 := Ae_q (rO_q (rup HO_5.out) hb); have BK154 := Ae_q (hbox); have GW154 := Ae_q ((by rw [hg]; exact (bZ_q (bel HB.out)) : w.heap.size ≤ gb154)); have GE154 := Ae_q ((by rw [hg]; exact (bZ_q (bel HB.out)) : w.heap.size ≤ gb154)); replace HB := Ae_q (bT_q (bel HB.out) hb); clear hb hbox hg; have hcz17_0 : cI w16 gb154 0 0 := cZ BK154 0 rfl; have hcz17_1 : cI w16 gb154 1 0 := cZ BK154 1 rfl; have hcz17_2 : cI w16 gb154 2 0 := cZ BK154 2 rfl; have hfz17_0 := bF_q BK154.out 0; have hfz17_1 := bF_q BK154.out 1; have hfz17_2 := bF_q BK154.out 2) | ((with_reducible refine gC_q (f := 58) rfl ?_); refine gL_q (some 26) rfl rfl Try.func58 m7_q rfl #[.slice A0 l0.length c0, .int .i64 ((rd_T49 l1 x17_1).f1)] rfl m0_q ?_; (with_reducible refine (impl_batchPlace.calls _ _ l0 ((rd_T49 l1 x17_1).f1) t155 _ ?side1 ?side2 A11.out).mono ?_); (case side1 => exact cB_q HR0.out m21_q); (case side2 => exact m40_q); rintro e w' ⟨rfl, hb⟩; refine ⟨_, rfl, ?_⟩; replace HO_5 := Ae_q (rO_q (by (with_reducible repeat (first | apply rA_q | apply rN_q | apply rD_q)); exact (rM_q (Kd.R_far (p := ⟨gb154, 2, none⟩) (Kd.R_far (p := ⟨gb154, 1, none⟩) (Kd.R_far (p := ⟨gb154, 0, none⟩) (Kd.R_types HO_5.out BK154.out (by decide)) (fun _ hk => hk.2) (.int .i64 ((rd_T49 l1 x17_1).f0))) (fun _ hk => hk.2) (.int .i64 ((rd_T49 l1 x17_1).f1))) (fun _ hk => hk.2) (.int .i64 ((rd_T49 l1 x17_1).f2))) (fun _ h_ => h_.1))) hb); replace BK154 := Ae_q (bB_q (g := gb154) (o := .cells #[.int .i64 ((rd_T49 l1 x17_1).f0), .int .i64 ((rd_T49 l1 x17_1).f1), .int .i64 ((rd_T49 l1 x17_1).f2)] 49 (0, 0)) m20_q hb); replace HB := Ae_q (bT_q m21_q hb); (try clear hb); (try clear hb2); (try clear hk); (try clear hi); have p156 : 0 ≤ (t155 : Int) := oD_q (by assumption); have q156 : t155 < (l0.length : Int) := oD_q (by assumption); obtain ⟨ad156, A156_1, c156_1, e156, hx156_0, hx156_1, hx156_2, hx156_3, hl156_1, hi156_1⟩ := at_T39 HR0.out t155 p156 q156; cases e156; replace hx156_0 := cel HB.out hx156_0; replace hx156_1 := cel HB.out hx156_1; replace hx156_2 := cel HB.out hx156_2; replace hx156_3 := cel HB.out hx156_3; have HR156_1 := Ae_q hi156_1; have HC156_1 := Ae_q hl156_1; clear hi156_1 hl156_1; replace p156 := eq_true p156; replace q156 := eq_true q156) | ((with_reducible refine gD_q (N := 8) rfl ?_); refine bE_q ?hg (N := 8) ?hd (cs := #[.int .i64 0, .slice none 0 0, .int .i64 0, .int .i64 0]) (t := 39) ?hr ?_; (case hd => rfl); (case hg => rfl); (case hr => exact m6_q); intro gb157 hg w19 hbox hb; replace HO_5 := Ae_q (rO_q (rup HO_5.out) hb); have BK157 := Ae_q (hbox); have GW157 := Ae_q ((by rw [hg]; exact (bZ_q m21_q) : w.heap.size ≤ gb157)); have GE157 := Ae_q ((by rw [hg]; exact (bZ_q m21_q) : w.heap.size ≤ gb157)); replace HB := Ae_q (bT_q m21_q hb); have NB154_157 := Ae_q ((by rw [hg]; exact nL_q (blk_lt (g := gb154) (o := .cells #[.int .i64 ((rd_T49 l1 x17_1).f0), .int .i64 ((rd_T49 l1 x17_1).f1), .int .i64 ((rd_T49 l1 x17_1).f2)] 49 (0, 0)) (bup BK154.out)) : gb154 ≠ gb157)); have NB157_154 := Ae_q ((by rw [hg]; exact nG_q (blk_lt (g := gb154) (o := .cells #[.int .i64 ((rd_T49 l1 x17_1).f0), .int .i64 ((rd_T49 l1 x17_1).f1), .int .i64 ((rd_T49 l1 x17_1).f2)] 49 (0, 0)) (bup BK154.out)) : gb157 ≠ gb154)); replace BK154 := Ae_q (bB_q (g := gb154) (o := .cells #[.int .i64 ((rd_T49 l1 x17_1).f0), .int .i64 ((rd_T49 l1 x17_1).f1), .int .i64 ((rd_T49 l1 x17_1).f2)] 49 (0, 0)) (bup BK154.out) hb); clear hb hbox hg; have hnb20 := NB157_154.out; have hnc20 := NB154_157.out; have hcz21_0 : cI w19 gb157 0 0 := cZ BK157 0 rfl; have hcz21_1 : w19.cell? ⟨gb157, 1, none⟩ = some (.slice none 0 0) := (bC_q BK157.out 1).trans rfl; have hcz21_2 : cI w19 gb157 2 0 := cZ BK157 2 rfl; have hcz21_3 : cI w19 gb157 3 0 := cZ BK157 3 rfl; have hfz21_0 := bF_q BK157.out 0; have hfz21_1 := bF_q BK157.out 1; have hfz21_2 := bF_q BK157.out 2; have hfz21_3 := bF_q BK157.out 3; have hcz22_0 : cI w19 gb154 0 ((rd_T49 l1 x17_1).f0) := cZ BK154 0 rfl; have hcz22_1 : cI w19 gb154 1 ((rd_T49 l1 x17_1).f1) := cZ BK154 1 rfl; have hcz22_2 : cI w19 gb154 2 ((rd_T49 l1 x17_1).f2) := cZ BK154 2 rfl; have hfz22_0 := bF_q BK154.out 0; have hfz22_1 := bF_q BK154.out 1; have hfz22_2 := bF_q BK154.out 2) | ((with_reducible refine gC_q (f := 47) rfl ?_); refine gL_q (some 35) rfl rfl Try.func47 m7_q rfl #[.int .i64 ((rd_T49 l1 x17_1).f2), .int .i64 ((rd_T39 l0 t155).f2), .int .i64 ((rd_T39 l0 t155).f3)] rfl m0_q ?_; (with_reducible refine (impl_within.calls ((rd_T49 l1 x17_1).f2) ((rd_T39 l0 t155).f2) ((rd_T39 l0 t155).f3) true _ A14.out).mono ?_); rintro e w' ⟨rfl, ⟨nd, rfl⟩⟩; refine ⟨_, rfl, ?_⟩))
    go_roundg k1
    case measure => have := HK1.out; omega
    case rel => exact ⟨(x5_1), (wrap64 (x17_1 + 1)), m3_q, H', ⟨m41_q⟩, ⟨by (with_reducible repeat (first | apply rA_q | apply rN_q | apply rD_q)); exact rM_q (Kd.R_far (p := ⟨gb157, 3, none⟩) (Kd.R_far (p := ⟨gb157, 2, none⟩) (Kd.R_far (p := ⟨gb157, 1, none⟩) (Kd.R_far (p := ⟨gb157, 0, none⟩) (Kd.R_types HO_5.out BK157.out (by decide)) (fun _ hk => hk.2) (.int .i64 ((rd_T39 l0 t155).f0))) (fun _ hk => hk.2) (.slice A156_1 ((rd_T39 l0 t155).f1).length c156_1)) (fun _ hk => hk.2) (.int .i64 ((rd_T39 l0 t155).f2))) (fun _ hk => hk.2) (.int .i64 ((rd_T39 l0 t155).f3))) (fun _ hk => trivial)⟩, ⟨m36_q⟩⟩
   replace c15 := fM_q.mpr c15
   subst c15
   have H1 : (if x5_1.length < 17592186044416 then (impl_PlatesWrong.l0 k1 l0 (x5_1 ++ [x17_1]) l1 (l1.length : Int) (wrap64 (x17_1 + 1))) else (none)) = some r := by rw [if_neg (show ¬ (false = true) by decide)] at H; exact H
   clear H
   have H := H1
   clear H1
   by_cases c23 : x5_1.length < 17592186044416
   rotate_left
   ·rw [if_neg c23] at H
    exact absurd H (by simp)
   rw [if_pos c23] at H
   have LMc23 := Ae_q c23
   clear c23
   obtain ⟨y159, hy159⟩ : ∃ y_ : List Int, y_ = (x5_1 ++ [x17_1]) := ⟨_, rfl⟩
   replace H : (impl_PlatesWrong.l0 k1 l0 y159 l1 (l1.length : Int) (wrap64 (x17_1 + 1))) = some r := by first | (rw [hy159]; with_reducible exact H) | (have H2_ := (oS_q _ _).symm.trans H; rw [hy159]; with_reducible exact H2_) | (have H2_ := (oS_q _ _).symm.trans H; with_reducible exact H2_) | with_reducible exact H | (rw [hy159]; exact H) | exact H
   have Ny159 := Ae_q hy159
   clear hy159
   have H' := Ae_q H
   clear H
   have p153 : 0 ≤ (x17_1 : Int) := oD_q (by assumption)
   have q153 : x17_1 < (l1.length : Int) := oD_q (by assumption)
   obtain ⟨ad153, e153, hx153_0, hx153_1, hx153_2⟩ := at_T49 HR1.out x17_1 p153 q153
   cases e153
   replace hx153_0 := cel HB.out hx153_0
   replace hx153_1 := cel HB.out hx153_1
   replace hx153_2 := cel HB.out hx153_2
   replace p153 := eq_true p153
   replace q153 := eq_true q153
   go_wp2_with (first | ((with_reducible refine gD_q (N := 7) rfl ?_); refine bE_q ?hg (N := 7) ?hd (cs := #[.int .i64 0, .int .i64 0, .int .i64 0]) (t := 49) ?hr ?_; (case hd => rfl); (case hg => rfl); (case hr => exact m6_q); intro gb154 hg w24 hbox hb; replace HO_5 := Ae_q (rO_q (rup HO_5.out) hb); have BK154 := Ae_q (hbox); have GW154 := Ae_q ((by rw [hg]; exact (bZ_q (bel HB.out)) : w.heap.size ≤ gb154)); have GE154 := Ae_q ((by rw [hg]; exact (bZ_q (bel HB.out)) : w.heap.size ≤ gb154)); replace HB := Ae_q (bT_q (bel HB.out) hb); clear hb hbox hg; have hcz25_0 : cI w24 gb154 0 0 := cZ BK154 0 rfl; have hcz25_1 : cI w24 gb154 1 0 := cZ BK154 1 rfl; have hcz25_2 : cI w24 gb154 2 0 := cZ BK154 2 rfl; have hfz25_0 := bF_q BK154.out 0; have hfz25_1 := bF_q BK154.out 1; have hfz25_2 := bF_q BK154.out 2) | ((with_reducible refine gC_q (f := 58) rfl ?_); refine gL_q (some 26) rfl rfl Try.func58 m7_q rfl #[.slice A0 l0.length c0, .int .i64 ((rd_T49 l1 x17_1).f1)] rfl m0_q ?_; (with_reducible refine (impl_batchPlace.calls _ _ l0 ((rd_T49 l1 x17_1).f1) t155 _ ?side1 ?side2 A11.out).mono ?_); (case side1 => exact cB_q HR0.out m21_q); (case side2 => exact m40_q); rintro e w' ⟨rfl, hb⟩; refine ⟨_, rfl, ?_⟩; replace HO_5 := Ae_q (rO_q (by (with_reducible repeat (first | apply rA_q | apply rN_q | apply rD_q)); exact (rM_q (Kd.R_far (p := ⟨gb154, 2, none⟩) (Kd.R_far (p := ⟨gb154, 1, none⟩) (Kd.R_far (p := ⟨gb154, 0, none⟩) (Kd.R_types HO_5.out BK154.out (by decide)) (fun _ hk => hk.2) (.int .i64 ((rd_T49 l1 x17_1).f0))) (fun _ hk => hk.2) (.int .i64 ((rd_T49 l1 x17_1).f1))) (fun _ hk => hk.2) (.int .i64 ((rd_T49 l1 x17_1).f2))) (fun _ h_ => h_.1))) hb); replace BK154 := Ae_q (bB_q (g := gb154) (o := .cells #[.int .i64 ((rd_T49 l1 x17_1).f0), .int .i64 ((rd_T49 l1 x17_1).f1), .int .i64 ((rd_T49 l1 x17_1).f2)] 49 (0, 0)) m20_q hb); replace HB := Ae_q (bT_q m21_q hb); (try clear hb); (try clear hb2); (try clear hk); (try clear hi); have p156 : 0 ≤ (t155 : Int) := oD_q (by assumption); have q156 : t155 < (l0.length : Int) := oD_q (by assumption); obtain ⟨ad156, A156_1, c156_1, e156, hx156_0, hx156_1, hx156_2, hx156_3, hl156_1, hi156_1⟩ := at_T39 HR0.out t155 p156 q156; cases e156; replace hx156_0 := cel HB.out hx156_0; replace hx156_1 := cel HB.out hx156_1; replace hx156_2 := cel HB.out hx156_2; replace hx156_3 := cel HB.out hx156_3; have HR156_1 := Ae_q hi156_1; have HC156_1 := Ae_q hl156_1; clear hi156_1 hl156_1; replace p156 := eq_true p156; replace q156 := eq_true q156) | ((with_reducible refine gD_q (N := 8) rfl ?_); refine bE_q ?hg (N := 8) ?hd (cs := #[.int .i64 0, .slice none 0 0, .int .i64 0, .int .i64 0]) (t := 39) ?hr ?_; (case hd => rfl); (case hg => rfl); (case hr => exact m6_q); intro gb157 hg w27 hbox hb; replace HO_5 := Ae_q (rO_q (rup HO_5.out) hb); have BK157 := Ae_q (hbox); have GW157 := Ae_q ((by rw [hg]; exact (bZ_q m21_q) : w.heap.size ≤ gb157)); have GE157 := Ae_q ((by rw [hg]; exact (bZ_q m21_q) : w.heap.size ≤ gb157)); replace HB := Ae_q (bT_q m21_q hb); have NB154_157 := Ae_q ((by rw [hg]; exact nL_q (blk_lt (g := gb154) (o := .cells #[.int .i64 ((rd_T49 l1 x17_1).f0), .int .i64 ((rd_T49 l1 x17_1).f1), .int .i64 ((rd_T49 l1 x17_1).f2)] 49 (0, 0)) (bup BK154.out)) : gb154 ≠ gb157)); have NB157_154 := Ae_q ((by rw [hg]; exact nG_q (blk_lt (g := gb154) (o := .cells #[.int .i64 ((rd_T49 l1 x17_1).f0), .int .i64 ((rd_T49 l1 x17_1).f1), .int .i64 ((rd_T49 l1 x17_1).f2)] 49 (0, 0)) (bup BK154.out)) : gb157 ≠ gb154)); replace BK154 := Ae_q (bB_q (g := gb154) (o := .cells #[.int .i64 ((rd_T49 l1 x17_1).f0), .int .i64 ((rd_T49 l1 x17_1).f1), .int .i64 ((rd_T49 l1 x17_1).f2)] 49 (0, 0)) (bup BK154.out) hb); clear hb hbox hg; have hnb28 := NB157_154.out; have hnc28 := NB154_157.out; have hcz29_0 : cI w27 gb157 0 0 := cZ BK157 0 rfl; have hcz29_1 : w27.cell? ⟨gb157, 1, none⟩ = some (.slice none 0 0) := (bC_q BK157.out 1).trans rfl; have hcz29_2 : cI w27 gb157 2 0 := cZ BK157 2 rfl; have hcz29_3 : cI w27 gb157 3 0 := cZ BK157 3 rfl; have hfz29_0 := bF_q BK157.out 0; have hfz29_1 := bF_q BK157.out 1; have hfz29_2 := bF_q BK157.out 2; have hfz29_3 := bF_q BK157.out 3; have hcz30_0 : cI w27 gb154 0 ((rd_T49 l1 x17_1).f0) := cZ BK154 0 rfl; have hcz30_1 : cI w27 gb154 1 ((rd_T49 l1 x17_1).f1) := cZ BK154 1 rfl; have hcz30_2 : cI w27 gb154 2 ((rd_T49 l1 x17_1).f2) := cZ BK154 2 rfl; have hfz30_0 := bF_q BK154.out 0; have hfz30_1 := bF_q BK154.out 1; have hfz30_2 := bF_q BK154.out 2) | ((with_reducible refine gC_q (f := 47) rfl ?_); refine gL_q (some 35) rfl rfl Try.func47 m7_q rfl #[.int .i64 ((rd_T49 l1 x17_1).f2), .int .i64 ((rd_T39 l0 t155).f2), .int .i64 ((rd_T39 l0 t155).f3)] rfl m0_q ?_; (with_reducible refine (impl_within.calls ((rd_T49 l1 x17_1).f2) ((rd_T39 l0 t155).f2) ((rd_T39 l0 t155).f3) false _ A14.out).mono ?_); rintro e w' ⟨rfl, ⟨nd, rfl⟩⟩; refine ⟨_, rfl, ?_⟩) | ((with_reducible refine gate_builtin (b := .append) (xs := #[.tmp 37, .tmp 39]) rfl ?_); at_builtin; refine Kd.R_append kI_q (w0 := w) w.heap.size rfl (.tmp 37) (.tmp 39) 34 3 (.int .i64 0) 8 rfl Try.underlying34 info3 rfl (by decide) (by omega) u5 x5_1 x17_1 [.int .i64 x17_1] (fun _ => True) (fun _ => False) rfl m6_q ?aP (fun _ hk => hk.elim) ?aF ?aO ?aB ?aS ?aL ?_; (case aP => exact rfl); (case aB => exact m36_q); (case aF => exact (fun _ _ => trivial)); (case aO => exact (by (with_reducible repeat (first | apply rA_q | apply rN_q | apply rD_q)); exact rM_q (Kd.R_far (p := ⟨gb157, 3, none⟩) (Kd.R_far (p := ⟨gb157, 2, none⟩) (Kd.R_far (p := ⟨gb157, 1, none⟩) (Kd.R_far (p := ⟨gb157, 0, none⟩) (Kd.R_types HO_5.out BK157.out (by decide)) (fun _ hk => hk.2) (.int .i64 ((rd_T39 l0 t155).f0))) (fun _ hk => hk.2) (.slice A156_1 ((rd_T39 l0 t155).f1).length c156_1)) (fun _ hk => hk.2) (.int .i64 ((rd_T39 l0 t155).f2))) (fun _ hk => hk.2) (.int .i64 ((rd_T39 l0 t155).f3))) (fun _ hk => trivial))); (case aS => exact (bZ_q m36_q)); (case aL => have := LMc23.out; omega); intro v160 w31 ho hb hg hat; rw [← Ny159.out] at ho; replace BK154 := Ae_q (bG_q (g := gb154) (o := .cells #[.int .i64 ((rd_T49 l1 x17_1).f0), .int .i64 ((rd_T49 l1 x17_1).f1), .int .i64 ((rd_T49 l1 x17_1).f2)] 49 (0, 0)) (by (with_reducible repeat (first | refine bN_q ?_ _ | refine bW_q ?_ | refine bL_q ?_ _)); refine blk_far ?_ NB154_157.out _; (with_reducible repeat (first | refine bN_q ?_ _ | refine bW_q ?_ | refine bL_q ?_ _)); refine blk_far ?_ NB154_157.out _; (with_reducible repeat (first | refine bN_q ?_ _ | refine bW_q ?_ | refine bL_q ?_ _)); refine blk_far ?_ NB154_157.out _; (with_reducible repeat (first | refine bN_q ?_ _ | refine bW_q ?_ | refine bL_q ?_ _)); refine blk_far ?_ NB154_157.out _; (with_reducible repeat (first | refine bN_q ?_ _ | refine bW_q ?_ | refine bL_q ?_ _)); exact BK154.out) hg (Kd.R_ne HO_5.out BK154.out (by decide))); replace BK157 := Ae_q (bG_q (g := gb157) (o := .cells #[.int .i64 ((rd_T39 l0 t155).f0), .slice A156_1 ((rd_T39 l0 t155).f1).length c156_1, .int .i64 ((rd_T39 l0 t155).f2), .int .i64 ((rd_T39 l0 t155).f3)] 39 (0, 0)) (by (with_reducible repeat (first | refine bN_q ?_ _ | refine bW_q ?_ | refine bL_q ?_ _)); refine blk_put (cs := #[.int .i64 ((rd_T39 l0 t155).f0), .slice A156_1 ((rd_T39 l0 t155).f1).length c156_1, .int .i64 ((rd_T39 l0 t155).f2), .int .i64 0]) ?_ 3 _ rfl; (with_reducible repeat (first | refine bN_q ?_ _ | refine bW_q ?_ | refine bL_q ?_ _)); refine blk_put (cs := #[.int .i64 ((rd_T39 l0 t155).f0), .slice A156_1 ((rd_T39 l0 t155).f1).length c156_1, .int .i64 0, .int .i64 0]) ?_ 2 _ rfl; (with_reducible repeat (first | refine bN_q ?_ _ | refine bW_q ?_ | refine bL_q ?_ _)); refine blk_put (cs := #[.int .i64 ((rd_T39 l0 t155).f0), .slice none 0 0, .int .i64 0, .int .i64 0]) ?_ 1 _ rfl; (with_reducible repeat (first | refine bN_q ?_ _ | refine bW_q ?_ | refine bL_q ?_ _)); refine blk_put (cs := #[.int .i64 0, .slice none 0 0, .int .i64 0, .int .i64 0]) ?_ 0 _ rfl; (with_reducible repeat (first | refine bN_q ?_ _ | refine bW_q ?_ | refine bL_q ?_ _)); exact BK157.out) hg (Kd.R_ne HO_5.out BK157.out (by decide))); replace HB := Ae_q (hb); have HO161 := Ae_q (ho); clear HO_5; clear ho hb hg hat))
   go_roundg k1
   case measure => have := HK1.out; omega
   case rel => exact ⟨(y159), (wrap64 (x17_1 + 1)), m3_q, H', ⟨m41_q⟩, ⟨rup HO161.out⟩, ⟨m36_q⟩⟩

def spec_l6In.f (a0 : Int) (a1 : Int) (a2 : Int) : Option (Bool) := if a0 ≥ a1 then (some (decide (a0 ≤ a2))) else (some false)
set_option maxHeartbeats 8000000 in
set_option maxRecDepth 100000 in
theorem spec_l6In.calls (a0 : Int) (a1 : Int) (a2 : Int) (r : Bool) (w : World) (h : spec_l6In.f a0 a1 a2 = some r) :
    Calls Try.prog 59 #[.int .i64 a0, .int .i64 a1, .int .i64 a2] w fun e w' => e = .returned (.bool r) ∧ Drawn0 w w' := by
 have H : (if a0 ≥ a1 then (some (decide (a0 ≤ a2))) else (some false)) = some r := h
 clear h
 by_cases c4 : a0 ≥ a1
 ·rw [if_pos c4] at H
  have c4b0 : decide (a1 ≤ a0) = true := dT_q c4
  clear c4
  obtain rfl := oI_q H
  go_enter Try.func59, Try.ntmps59
  go_wp2
  go_ret
  exact ⟨m3_q, m17_q⟩
 rw [if_neg c4] at H
 have c4b0 : decide (a1 ≤ a0) = false := dF_q c4
 clear c4
 obtain rfl := oI_q H
 go_enter Try.func59, Try.ntmps59
 go_wp2
 go_ret
 exact ⟨m3_q, m17_q⟩

def spec_l42Batch.l0 : Nat → Int → Int → List Int → Int → Int → Option (Bool)
 | 0, _, _, _, _, _ => none
 | k + 1, x3, x163000, x163001, x163002, x163003 => if x3 < (x163001.length : Int) then (if 0 ≤ x3 then ((spec_l6In.f (rd x163001 x3) 1 20).bind fun t164 => (if t164 = true then (if x3 > 0 then (if 0 ≤ (wrap64 (x3 - 1)) then (if (wrap64 (x3 - 1)) < (x163001.length : Int) then (if (rd x163001 (wrap64 (x3 - 1))) ≥ (rd x163001 x3) then (some false) else (spec_l42Batch.l0 k (wrap64 (x3 + 1)) x163000 x163001 x163002 x163003)) else (none)) else (none)) else (spec_l42Batch.l0 k (wrap64 (x3 + 1)) x163000 x163001 x163002 x163003)) else (some false))) else (none)) else ((spec_l6In.f x163000 1 20).bind fun t167 => (if t167 = true then ((spec_l6In.f x163002 0 1439).bind fun t168 => (if t168 = true then ((spec_l6In.f x163003 x163002 1439).bind fun t169 => (some t169)) else (some false))) else (some false)))
def spec_l42Batch.f (k : Nat) (a0_0 : Int) (l0_1 : List Int) (a0_2 : Int) (a0_3 : Int) : Option (Bool) := spec_l42Batch.l0 k 0 a0_0 l0_1 a0_2 a0_3
set_option maxHeartbeats 8000000 in
set_option maxRecDepth 100000 in
theorem spec_l42Batch.calls (k : Nat) (a0_0 : Int) (A0_1 : Option Addr) (c0_1 : Nat) (l0_1 : List Int) (a0_2 : Int) (a0_3 : Int) (r : Bool) (w : World) (hr0_1 : Kd.C kI_q w A0_1 l0_1.length l0_1) (hc0_1 : l0_1.length ≤ c0_1) (h : spec_l42Batch.f k a0_0 l0_1 a0_2 a0_3 = some r) :
    Calls Try.prog 48 #[.agg #[.int .i64 a0_0, .slice A0_1 l0_1.length c0_1, .int .i64 a0_2, .int .i64 a0_3]] w fun e w' => e = .returned (.bool r) ∧ Below w.heap.size w w' := by
 have hu39 := Try.underlying39
 have HR0_1 := Ae_q hr0_1
 have HC0_1 := Ae_q hc0_1
 clear hr0_1 hc0_1
 have HB := Ae_q (bR_q w.heap.size w)
 have H : (spec_l42Batch.l0 k 0 a0_0 l0_1 a0_2 a0_3) = some r := h
 clear h
 have H' := Ae_q H
 clear H
 go_enter Try.func48, Try.ntmps48
 go_wp2_with (first | ((with_reducible refine gD_q (N := 1) rfl ?_); refine bE_q ?hg (N := 1) ?hd (cs := #[.int .i64 a0_0, .slice A0_1 l0_1.length c0_1, .int .i64 a0_2, .int .i64 a0_3]) (t := 39) ?hr ?_; (case hd => rfl); (case hg => rfl); (case hr => exact m6_q); intro gb162 hg w' hbox hb; have BK162 := Ae_q (hbox); have GW162 := Ae_q ((by rw [hg]; exact (bZ_q (bel HB.out)) : w.heap.size ≤ gb162)); have GE162 := Ae_q ((by rw [hg]; exact (bZ_q (bel HB.out)) : w.heap.size ≤ gb162)); replace HB := Ae_q (bT_q (bel HB.out) hb); clear hb hbox hg))
 repeat (go_quiet (first | ((with_reducible refine gD_q (N := 1) rfl ?_); refine bE_q ?hg (N := 1) ?hd (cs := #[.int .i64 a0_0, .slice A0_1 l0_1.length c0_1, .int .i64 a0_2, .int .i64 a0_3]) (t := 39) ?hr ?_; (case hd => rfl); (case hg => rfl); (case hr => exact m6_q); intro gb162 hg w' hbox hb; have BK162 := Ae_q (hbox); have GW162 := Ae_q ((by rw [hg]; exact (bZ_q (bel HB.out)) : w.heap.size ≤ gb162)); have GE162 := Ae_q ((by rw [hg]; exact (bZ_q (bel HB.out)) : w.heap.size ≤ gb162)); replace HB := Ae_q (bT_q (bel HB.out) hb); clear hb hbox hg)); try go_wp2_with (first | ((with_reducible refine gD_q (N := 1) rfl ?_); refine bE_q ?hg (N := 1) ?hd (cs := #[.int .i64 a0_0, .slice A0_1 l0_1.length c0_1, .int .i64 a0_2, .int .i64 a0_3]) (t := 39) ?hr ?_; (case hd => rfl); (case hg => rfl); (case hr => exact m6_q); intro gb162 hg w' hbox hb; have BK162 := Ae_q (hbox); have GW162 := Ae_q ((by rw [hg]; exact (bZ_q (bel HB.out)) : w.heap.size ≤ gb162)); have GE162 := Ae_q ((by rw [hg]; exact (bZ_q (bel HB.out)) : w.heap.size ≤ gb162)); replace HB := Ae_q (bT_q (bel HB.out) hb); clear hb hbox hg)))
 go_loopg [3] k (fun kq v3 w' => ∃ (x3_1 : Int), v3 = .int .i64 x3_1 ∧ Aside0 (spec_l42Batch.l0 kq x3_1 a0_0 l0_1 a0_2 a0_3 = some r) ∧ Aside0 (kq ≤ k) ∧ Aside0 (w'.heap[gb162]? = some (.cells #[.int .i64 a0_0, (.slice A0_1 l0_1.length c0_1), .int .i64 a0_2, .int .i64 a0_3] 39 (0, 0))) ∧ Aside0 (Below w.heap.size w w'))
 case atStart => exact ⟨(0), m3_q, H', ⟨nR_q _⟩, ⟨bup BK162.out⟩, ⟨m24_q⟩⟩
 case round =>
  clear H'
  try clear p2
  obtain ⟨x3_1, rfl, HA, HK1, BK162, HB⟩ := hrel
  cases gk with
  | zero => exact absurd HA.out (by simp [spec_l42Batch.l0])
  | succ k1 =>
   have H := HA.out
   clear HA
   simp only [spec_l42Batch.l0] at H
   by_cases c3 : x3_1 < (l0_1.length : Int)
   rotate_left
   ·rw [if_neg c3] at H
    have c3b0 : decide (x3_1 < (l0_1.length : Int)) = false := dF_q c3
    clear c3
    replace H := oB_q.mp H
    obtain ⟨t167, A160, H⟩ := H
    replace H : (if t167 = true then ((spec_l6In.f a0_2 0 1439).bind fun t168 => (if t168 = true then ((spec_l6In.f a0_3 a0_2 1439).bind fun t169 => (some t169)) else (some false))) else (some false)) = some r := H
    have A16 := Ae_q A160
    clear A160
    by_cases c17 : t167 = true
    rotate_left
    ·replace c17 := fM_q.mpr c17
     subst c17
     have H1 : (some false) = some r := by rw [if_neg (show ¬ (false = true) by decide)] at H; exact H
     clear H
     have H := H1
     clear H1
     obtain rfl := oI_q H
     have hcz23_0 : cI wr gb162 0 a0_0 := cZ BK162 0 rfl
     have hcz23_1 : wr.cell? ⟨gb162, 1, none⟩ = some (.slice A0_1 l0_1.length c0_1) := (bC_q BK162.out 1).trans rfl
     have hcz23_2 : cI wr gb162 2 a0_2 := cZ BK162 2 rfl
     have hcz23_3 : cI wr gb162 3 a0_3 := cZ BK162 3 rfl
     have hfz23_0 := bF_q BK162.out 0
     have hfz23_1 := bF_q BK162.out 1
     have hfz23_2 := bF_q BK162.out 2
     have hfz23_3 := bF_q BK162.out 3
     go_wp2_with (first | (go_at_call 59; (with_reducible refine (spec_l6In.calls a0_0 1 20 false _ A16.out).mono ?_); rintro e w' ⟨rfl, ⟨nd, rfl⟩⟩; (try first | exact ⟨rfl, _, wD_q _ _ _⟩ | exact ⟨rfl, _, Eq.trans (wD_q _ _ _) (congrArg (World.drewN _) (nA_q _ _ _))⟩)))
     repeat (go_quiet (first | (go_at_call 59; (with_reducible refine (spec_l6In.calls a0_0 1 20 false _ A16.out).mono ?_); rintro e w' ⟨rfl, ⟨nd, rfl⟩⟩; (try first | exact ⟨rfl, _, wD_q _ _ _⟩ | exact ⟨rfl, _, Eq.trans (wD_q _ _ _) (congrArg (World.drewN _) (nA_q _ _ _))⟩))); try go_wp2_with (first | (go_at_call 59; (with_reducible refine (spec_l6In.calls a0_0 1 20 false _ A16.out).mono ?_); rintro e w' ⟨rfl, ⟨nd, rfl⟩⟩; (try first | exact ⟨rfl, _, wD_q _ _ _⟩ | exact ⟨rfl, _, Eq.trans (wD_q _ _ _) (congrArg (World.drewN _) (nA_q _ _ _))⟩))))
     go_ret
     exact ⟨m2_q, m24_q⟩
    subst c17
    have H1 : ((spec_l6In.f a0_2 0 1439).bind fun t168 => (if t168 = true then ((spec_l6In.f a0_3 a0_2 1439).bind fun t169 => (some t169)) else (some false))) = some r := by rw [if_pos rfl] at H; exact H
    clear H
    have H := H1
    clear H1
    replace H := oB_q.mp H
    obtain ⟨t168, A180, H⟩ := H
    replace H : (if t168 = true then ((spec_l6In.f a0_3 a0_2 1439).bind fun t169 => (some t169)) else (some false)) = some r := H
    have A18 := Ae_q A180
    clear A180
    by_cases c19 : t168 = true
    rotate_left
    ·replace c19 := fM_q.mpr c19
     subst c19
     have H1 : (some false) = some r := by rw [if_neg (show ¬ (false = true) by decide)] at H; exact H
     clear H
     have H := H1
     clear H1
     obtain rfl := oI_q H
     have hcz22_0 : cI wr gb162 0 a0_0 := cZ BK162 0 rfl
     have hcz22_1 : wr.cell? ⟨gb162, 1, none⟩ = some (.slice A0_1 l0_1.length c0_1) := (bC_q BK162.out 1).trans rfl
     have hcz22_2 : cI wr gb162 2 a0_2 := cZ BK162 2 rfl
     have hcz22_3 : cI wr gb162 3 a0_3 := cZ BK162 3 rfl
     have hfz22_0 := bF_q BK162.out 0
     have hfz22_1 := bF_q BK162.out 1
     have hfz22_2 := bF_q BK162.out 2
     have hfz22_3 := bF_q BK162.out 3
     go_wp2_with (first | (go_at_call 59; (with_reducible refine (spec_l6In.calls a0_0 1 20 true _ A16.out).mono ?_); rintro e w' ⟨rfl, ⟨nd, rfl⟩⟩; (try first | exact ⟨rfl, _, wD_q _ _ _⟩ | exact ⟨rfl, _, Eq.trans (wD_q _ _ _) (congrArg (World.drewN _) (nA_q _ _ _))⟩)) | (go_at_call 59; (with_reducible refine (spec_l6In.calls a0_2 0 1439 false _ A18.out).mono ?_); rintro e w' ⟨rfl, ⟨nd, rfl⟩⟩; (try first | exact ⟨rfl, _, wD_q _ _ _⟩ | exact ⟨rfl, _, Eq.trans (wD_q _ _ _) (congrArg (World.drewN _) (nA_q _ _ _))⟩)))
     repeat (go_quiet (first | (go_at_call 59; (first | (with_reducible refine (spec_l6In.calls a0_0 1 20 true _ A16.out).mono ?_) | (with_reducible refine (spec_l6In.calls a0_2 0 1439 false _ A18.out).mono ?_)); rintro e w' ⟨rfl, ⟨nd, rfl⟩⟩; (try first | exact ⟨rfl, _, wD_q _ _ _⟩ | exact ⟨rfl, _, Eq.trans (wD_q _ _ _) (congrArg (World.drewN _) (nA_q _ _ _))⟩))); try go_wp2_with (first | (go_at_call 59; (first | (with_reducible refine (spec_l6In.calls a0_0 1 20 true _ A16.out).mono ?_) | (with_reducible refine (spec_l6In.calls a0_2 0 1439 false _ A18.out).mono ?_)); rintro e w' ⟨rfl, ⟨nd, rfl⟩⟩; (try first | exact ⟨rfl, _, wD_q _ _ _⟩ | exact ⟨rfl, _, Eq.trans (wD_q _ _ _) (congrArg (World.drewN _) (nA_q _ _ _))⟩))))
     go_ret
     exact ⟨m2_q, m24_q⟩
    subst c19
    have H1 : ((spec_l6In.f a0_3 a0_2 1439).bind fun t169 => (some t169)) = some r := by rw [if_pos rfl] at H; exact H
    clear H
    have H := H1
    clear H1
    replace H := oB_q.mp H
    obtain ⟨t169, A200, H⟩ := H
    replace H : (some t169) = some r := H
    have A20 := Ae_q A200
    clear A200
    obtain rfl := oI_q H
    have hcz21_0 : cI wr gb162 0 a0_0 := cZ BK162 0 rfl
    have hcz21_1 : wr.cell? ⟨gb162, 1, none⟩ = some (.slice A0_1 l0_1.length c0_1) := (bC_q BK162.out 1).trans rfl
    have hcz21_2 : cI wr gb162 2 a0_2 := cZ BK162 2 rfl
    have hcz21_3 : cI wr gb162 3 a0_3 := cZ BK162 3 rfl
    have hfz21_0 := bF_q BK162.out 0
    have hfz21_1 := bF_q BK162.out 1
    have hfz21_2 := bF_q BK162.out 2
    have hfz21_3 := bF_q BK162.out 3
    go_wp2_with (first | (go_at_call 59; (first | (with_reducible refine (spec_l6In.calls a0_0 1 20 true _ A16.out).mono ?_) | (with_reducible refine (spec_l6In.calls a0_2 0 1439 true _ A18.out).mono ?_) | (with_reducible refine (spec_l6In.calls a0_3 a0_2 1439 t169 _ A20.out).mono ?_)); rintro e w' ⟨rfl, ⟨nd, rfl⟩⟩; (try first | exact ⟨rfl, _, wD_q _ _ _⟩ | exact ⟨rfl, _, Eq.trans (wD_q _ _ _) (congrArg (World.drewN _) (nA_q _ _ _))⟩)))
    repeat (go_quiet (first | (go_at_call 59; (first | (with_reducible refine (spec_l6In.calls a0_0 1 20 true _ A16.out).mono ?_) | (with_reducible refine (spec_l6In.calls a0_2 0 1439 true _ A18.out).mono ?_) | (with_reducible refine (spec_l6In.calls a0_3 a0_2 1439 t169 _ A20.out).mono ?_)); rintro e w' ⟨rfl, ⟨nd, rfl⟩⟩; (try first | exact ⟨rfl, _, wD_q _ _ _⟩ | exact ⟨rfl, _, Eq.trans (wD_q _ _ _) (congrArg (World.drewN _) (nA_q _ _ _))⟩))); try go_wp2_with (first | (go_at_call 59; (first | (with_reducible refine (spec_l6In.calls a0_0 1 20 true _ A16.out).mono ?_) | (with_reducible refine (spec_l6In.calls a0_2 0 1439 true _ A18.out).mono ?_) | (with_reducible refine (spec_l6In.calls a0_3 a0_2 1439 t169 _ A20.out).mono ?_)); rintro e w' ⟨rfl, ⟨nd, rfl⟩⟩; (try first | exact ⟨rfl, _, wD_q _ _ _⟩ | exact ⟨rfl, _, Eq.trans (wD_q _ _ _) (congrArg (World.drewN _) (nA_q _ _ _))⟩))))
    go_ret
    exact ⟨m2_q, m24_q⟩
   rw [if_pos c3] at H
   have c3b0 : decide (x3_1 < (l0_1.length : Int)) = true := dT_q c3
   clear c3
   by_cases c4 : 0 ≤ x3_1
   rotate_left
   ·rw [if_neg c4] at H
    exact absurd H (by simp)
   rw [if_pos c4] at H
   have c4b0 : decide (0 ≤ x3_1) = true := dT_q c4
   clear c4
   replace H := oB_q.mp H
   obtain ⟨t164, A50, H⟩ := H
   replace H : (if t164 = true then (if x3_1 > 0 then (if 0 ≤ (wrap64 (x3_1 - 1)) then (if (wrap64 (x3_1 - 1)) < (l0_1.length : Int) then (if (rd l0_1 (wrap64 (x3_1 - 1))) ≥ (rd l0_1 x3_1) then (some false) else (spec_l42Batch.l0 k1 (wrap64 (x3_1 + 1)) a0_0 l0_1 a0_2 a0_3)) else (none)) else (none)) else (spec_l42Batch.l0 k1 (wrap64 (x3_1 + 1)) a0_0 l0_1 a0_2 a0_3)) else (some false)) = some r := H
   have A5 := Ae_q A50
   clear A50
   by_cases c6 : t164 = true
   rotate_left
   ·replace c6 := fM_q.mpr c6
    subst c6
    have H1 : (some false) = some r := by rw [if_neg (show ¬ (false = true) by decide)] at H; exact H
    clear H
    have H := H1
    clear H1
    obtain rfl := oI_q H
    have hcz15_0 : cI wr gb162 0 a0_0 := cZ BK162 0 rfl
    have hcz15_1 : wr.cell? ⟨gb162, 1, none⟩ = some (.slice A0_1 l0_1.length c0_1) := (bC_q BK162.out 1).trans rfl
    have hcz15_2 : cI wr gb162 2 a0_2 := cZ BK162 2 rfl
    have hcz15_3 : cI wr gb162 3 a0_3 := cZ BK162 3 rfl
    have hfz15_0 := bF_q BK162.out 0
    have hfz15_1 := bF_q BK162.out 1
    have hfz15_2 := bF_q BK162.out 2
    have hfz15_3 := bF_q BK162.out 3
    have p163 : 0 ≤ (x3_1 : Int) := oD_q (by assumption)
    have q163 : x3_1 < (l0_1.length : Int) := oD_q (by assumption)
    obtain ⟨ad163, e163, hx163_0⟩ := aI_q HR0_1.out x3_1 p163 q163
    cases e163
    replace hx163_0 := cel HB.out hx163_0
    replace p163 := eq_true p163
    replace q163 := eq_true q163
    go_wp2_with (first | (go_at_call 59; (with_reducible refine (spec_l6In.calls (rd l0_1 x3_1) 1 20 false _ A5.out).mono ?_); rintro e w' ⟨rfl, ⟨nd, rfl⟩⟩; (try first | exact ⟨rfl, _, wD_q _ _ _⟩ | exact ⟨rfl, _, Eq.trans (wD_q _ _ _) (congrArg (World.drewN _) (nA_q _ _ _))⟩)))
    repeat (go_quiet (first | (go_at_call 59; (with_reducible refine (spec_l6In.calls (rd l0_1 x3_1) 1 20 false _ A5.out).mono ?_); rintro e w' ⟨rfl, ⟨nd, rfl⟩⟩; (try first | exact ⟨rfl, _, wD_q _ _ _⟩ | exact ⟨rfl, _, Eq.trans (wD_q _ _ _) (congrArg (World.drewN _) (nA_q _ _ _))⟩))); try go_wp2_with (first | (go_at_call 59; (with_reducible refine (spec_l6In.calls (rd l0_1 x3_1) 1 20 false _ A5.out).mono ?_); rintro e w' ⟨rfl, ⟨nd, rfl⟩⟩; (try first | exact ⟨rfl, _, wD_q _ _ _⟩ | exact ⟨rfl, _, Eq.trans (wD_q _ _ _) (congrArg (World.drewN _) (nA_q _ _ _))⟩))))
    go_ret
    exact ⟨m2_q, m24_q⟩
   subst c6
   have H1 : (if x3_1 > 0 then (if 0 ≤ (wrap64 (x3_1 - 1)) then (if (wrap64 (x3_1 - 1)) < (l0_1.length : Int) then (if (rd l0_1 (wrap64 (x3_1 - 1))) ≥ (rd l0_1 x3_1) then (some false) else (spec_l42Batch.l0 k1 (wrap64 (x3_1 + 1)) a0_0 l0_1 a0_2 a0_3)) else (none)) else (none)) else (spec_l42Batch.l0 k1 (wrap64 (x3_1 + 1)) a0_0 l0_1 a0_2 a0_3)) = some r := by rw [if_pos rfl] at H; exact H
   clear H
   have H := H1
   clear H1
   by_cases c7 : x3_1 > 0
   rotate_left
   ·rw [if_neg c7] at H
    have c7b0 : decide (0 < x3_1) = false := dF_q c7
    clear c7
    have H' := Ae_q H
    clear H
    have hcz14_0 : cI wr gb162 0 a0_0 := cZ BK162 0 rfl
    have hcz14_1 : wr.cell? ⟨gb162, 1, none⟩ = some (.slice A0_1 l0_1.length c0_1) := (bC_q BK162.out 1).trans rfl
    have hcz14_2 : cI wr gb162 2 a0_2 := cZ BK162 2 rfl
    have hcz14_3 : cI wr gb162 3 a0_3 := cZ BK162 3 rfl
    have hfz14_0 := bF_q BK162.out 0
    have hfz14_1 := bF_q BK162.out 1
    have hfz14_2 := bF_q BK162.out 2
    have hfz14_3 := bF_q BK162.out 3
    have p163 : 0 ≤ (x3_1 : Int) := oD_q (by assumption)
    have q163 : x3_1 < (l0_1.length : Int) := oD_q (by assumption)
    obtain ⟨ad163, e163, hx163_0⟩ := aI_q HR0_1.out x3_1 p163 q163
    cases e163
    replace hx163_0 := cel HB.out hx163_0
    replace p163 := eq_true p163
    replace q163 := eq_true q163
    go_wp2_with (first | (go_at_call 59; (with_reducible refine (spec_l6In.calls (rd l0_1 x3_1) 1 20 true _ A5.out).mono ?_); rintro e w' ⟨rfl, ⟨nd, rfl⟩⟩; (try first | exact ⟨rfl, _, wD_q _ _ _⟩ | exact ⟨rfl, _, Eq.trans (wD_q _ _ _) (congrArg (World.drewN _) (nA_q _ _ _))⟩)))
    repeat (go_quiet (first | (go_at_call 59; (with_reducible refine (spec_l6In.calls (rd l0_1 x3_1) 1 20 true _ A5.out).mono ?_); rintro e w' ⟨rfl, ⟨nd, rfl⟩⟩; (try first | exact ⟨rfl, _, wD_q _ _ _⟩ | exact ⟨rfl, _, Eq.trans (wD_q _ _ _) (congrArg (World.drewN _) (nA_q _ _ _))⟩))); try go_wp2_with (first | (go_at_call 59; (with_reducible refine (spec_l6In.calls (rd l0_1 x3_1) 1 20 true _ A5.out).mono ?_); rintro e w' ⟨rfl, ⟨nd, rfl⟩⟩; (try first | exact ⟨rfl, _, wD_q _ _ _⟩ | exact ⟨rfl, _, Eq.trans (wD_q _ _ _) (congrArg (World.drewN _) (nA_q _ _ _))⟩))))
    go_roundg k1
    case measure => have := HK1.out; omega
    case rel => exact ⟨(wrap64 (x3_1 + 1)), m3_q, H', ⟨m41_q⟩, ⟨bup BK162.out⟩, ⟨m24_q⟩⟩
   rw [if_pos c7] at H
   have c7b0 : decide (0 < x3_1) = true := dT_q c7
   clear c7
   obtain ⟨ji8, hji8⟩ : ∃ j_ : Int, (wrap64 (x3_1 - 1)) = j_ := ⟨_, rfl⟩
   replace H : (if 0 ≤ (ji8) then (if (ji8) < (l0_1.length : Int) then (if (rd l0_1 (ji8)) ≥ (rd l0_1 x3_1) then (some false) else (spec_l42Batch.l0 k1 (wrap64 (x3_1 + 1)) a0_0 l0_1 a0_2 a0_3)) else (none)) else (none)) = some r := by first | (rw [hji8] at H; exact H) | (simp only [hji8] at H ⊢; exact H)
   (try rw [hji8] at A5)
   have hji8w : (IntKind.i64.wrap (x3_1 - 1)) = ji8 := (i64_w _).trans hji8
   by_cases c9 : 0 ≤ (ji8)
   rotate_left
   ·rw [if_neg c9] at H
    exact absurd H (by simp)
   rw [if_pos c9] at H
   have c9b0 : decide (0 ≤ (ji8)) = true := dT_q c9
   clear c9
   by_cases c10 : (ji8) < (l0_1.length : Int)
   rotate_left
   ·rw [if_neg c10] at H
    exact absurd H (by simp)
   rw [if_pos c10] at H
   have c10b0 : decide ((ji8) < (l0_1.length : Int)) = true := dT_q c10
   clear c10
   by_cases c11 : (rd l0_1 (ji8)) ≥ (rd l0_1 x3_1)
   ·rw [if_pos c11] at H
    have c11b0 : decide ((rd l0_1 x3_1) ≤ (rd l0_1 (ji8))) = true := dT_q c11
    clear c11
    obtain rfl := oI_q H
    have hcz12_0 : cI wr gb162 0 a0_0 := cZ BK162 0 rfl
    have hcz12_1 : wr.cell? ⟨gb162, 1, none⟩ = some (.slice A0_1 l0_1.length c0_1) := (bC_q BK162.out 1).trans rfl
    have hcz12_2 : cI wr gb162 2 a0_2 := cZ BK162 2 rfl
    have hcz12_3 : cI wr gb162 3 a0_3 := cZ BK162 3 rfl
    have hfz12_0 := bF_q BK162.out 0
    have hfz12_1 := bF_q BK162.out 1
    have hfz12_2 := bF_q BK162.out 2
    have hfz12_3 := bF_q BK162.out 3
    have p163 : 0 ≤ (x3_1 : Int) := oD_q (by assumption)
    have q163 : x3_1 < (l0_1.length : Int) := oD_q (by assumption)
    obtain ⟨ad163, e163, hx163_0⟩ := aI_q HR0_1.out x3_1 p163 q163
    cases e163
    replace hx163_0 := cel HB.out hx163_0
    replace p163 := eq_true p163
    replace q163 := eq_true q163
    go_wp2_with (first | (go_at_call 59; (with_reducible refine (spec_l6In.calls (rd l0_1 x3_1) 1 20 true _ A5.out).mono ?_); rintro e w' ⟨rfl, ⟨nd, rfl⟩⟩; (try first | exact ⟨rfl, _, wD_q _ _ _⟩ | exact ⟨rfl, _, Eq.trans (wD_q _ _ _) (congrArg (World.drewN _) (nA_q _ _ _))⟩); have p165 : 0 ≤ ((ji8) : Int) := oD_q (by assumption); have q165 : (ji8) < (l0_1.length : Int) := oD_q (by assumption); obtain ⟨ad165, e165, hx165_0⟩ := aI_q HR0_1.out (ji8) p165 q165; obtain rfl : ad163 = ad165 := (by injection e165); replace hx165_0 := cel HB.out hx165_0; replace p165 := eq_true p165; replace q165 := eq_true q165; have p166 : 0 ≤ (x3_1 : Int) := oD_q (by assumption); have q166 : x3_1 < (l0_1.length : Int) := oD_q (by assumption); obtain ⟨ad166, e166, hx166_0⟩ := aI_q HR0_1.out x3_1 p166 q166; obtain rfl : ad163 = ad166 := (by injection e166); replace hx166_0 := cel HB.out hx166_0; replace p166 := eq_true p166; replace q166 := eq_true q166))
    repeat (go_quiet (first | (go_at_call 59; (with_reducible refine (spec_l6In.calls (rd l0_1 x3_1) 1 20 true _ A5.out).mono ?_); rintro e w' ⟨rfl, ⟨nd, rfl⟩⟩; (try first | exact ⟨rfl, _, wD_q _ _ _⟩ | exact ⟨rfl, _, Eq.trans (wD_q _ _ _) (congrArg (World.drewN _) (nA_q _ _ _))⟩); have p165 : 0 ≤ ((ji8) : Int) := oD_q (by assumption); have q165 : (ji8) < (l0_1.length : Int) := oD_q (by assumption); obtain ⟨ad165, e165, hx165_0⟩ := aI_q HR0_1.out (ji8) p165 q165; obtain rfl : ad163 = ad165 := (by injection e165); replace hx165_0 := cel HB.out hx165_0; replace p165 := eq_true p165; replace q165 := eq_true q165; have p166 : 0 ≤ (x3_1 : Int) := oD_q (by assumption); have q166 : x3_1 < (l0_1.length : Int) := oD_q (by assumption); obtain ⟨ad166, e166, hx166_0⟩ := aI_q HR0_1.out x3_1 p166 q166; obtain rfl : ad163 = ad166 := (by injection e166); replace hx166_0 := cel HB.out hx166_0; replace p166 := eq_true p166; replace q166 := eq_true q166)); try go_wp2_with (first | (go_at_call 59; (with_reducible refine (spec_l6In.calls (rd l0_1 x3_1) 1 20 true _ A5.out).mono ?_); rintro e w' ⟨rfl, ⟨nd, rfl⟩⟩; (try first | exact ⟨rfl, _, wD_q _ _ _⟩ | exact ⟨rfl, _, Eq.trans (wD_q _ _ _) (congrArg (World.drewN _) (nA_q _ _ _))⟩); have p165 : 0 ≤ ((ji8) : Int) := oD_q (by assumption); have q165 : (ji8) < (l0_1.length : Int) := oD_q (by assumption); obtain ⟨ad165, e165, hx165_0⟩ := aI_q HR0_1.out (ji8) p165 q165; obtain rfl : ad163 = ad165 := (by injection e165); replace hx165_0 := cel HB.out hx165_0; replace p165 := eq_true p165; replace q165 := eq_true q165; have p166 : 0 ≤ (x3_1 : Int) := oD_q (by assumption); have q166 : x3_1 < (l0_1.length : Int) := oD_q (by assumption); obtain ⟨ad166, e166, hx166_0⟩ := aI_q HR0_1.out x3_1 p166 q166; obtain rfl : ad163 = ad166 := (by injection e166); replace hx166_0 := cel HB.out hx166_0; replace p166 := eq_true p166; replace q166 := eq_true q166)))
    go_ret
    exact ⟨by first | rfl | (simp [eN_q, eS_q] <;> rfl) | (simp only [← hji8]; first | rfl | (simp [eN_q, eS_q] <;> rfl)) | (simp [*, eN_q, eS_q] <;> rfl), m24_q⟩
   rw [if_neg c11] at H
   have c11b0 : decide ((rd l0_1 x3_1) ≤ (rd l0_1 (ji8))) = false := dF_q c11
   clear c11
   have H' := Ae_q H
   clear H
   have hcz13_0 : cI wr gb162 0 a0_0 := cZ BK162 0 rfl
   have hcz13_1 : wr.cell? ⟨gb162, 1, none⟩ = some (.slice A0_1 l0_1.length c0_1) := (bC_q BK162.out 1).trans rfl
   have hcz13_2 : cI wr gb162 2 a0_2 := cZ BK162 2 rfl
   have hcz13_3 : cI wr gb162 3 a0_3 := cZ BK162 3 rfl
   have hfz13_0 := bF_q BK162.out 0
   have hfz13_1 := bF_q BK162.out 1
   have hfz13_2 := bF_q BK162.out 2
   have hfz13_3 := bF_q BK162.out 3
   have p163 : 0 ≤ (x3_1 : Int) := oD_q (by assumption)
   have q163 : x3_1 < (l0_1.length : Int) := oD_q (by assumption)
   obtain ⟨ad163, e163, hx163_0⟩ := aI_q HR0_1.out x3_1 p163 q163
   cases e163
   replace hx163_0 := cel HB.out hx163_0
   replace p163 := eq_true p163
   replace q163 := eq_true q163
   go_wp2_with (first | (go_at_call 59; (with_reducible refine (spec_l6In.calls (rd l0_1 x3_1) 1 20 true _ A5.out).mono ?_); rintro e w' ⟨rfl, ⟨nd, rfl⟩⟩; (try first | exact ⟨rfl, _, wD_q _ _ _⟩ | exact ⟨rfl, _, Eq.trans (wD_q _ _ _) (congrArg (World.drewN _) (nA_q _ _ _))⟩); have p165 : 0 ≤ ((ji8) : Int) := oD_q (by assumption); have q165 : (ji8) < (l0_1.length : Int) := oD_q (by assumption); obtain ⟨ad165, e165, hx165_0⟩ := aI_q HR0_1.out (ji8) p165 q165; obtain rfl : ad163 = ad165 := (by injection e165); replace hx165_0 := cel HB.out hx165_0; replace p165 := eq_true p165; replace q165 := eq_true q165; have p166 : 0 ≤ (x3_1 : Int) := oD_q (by assumption); have q166 : x3_1 < (l0_1.length : Int) := oD_q (by assumption); obtain ⟨ad166, e166, hx166_0⟩ := aI_q HR0_1.out x3_1 p166 q166; obtain rfl : ad163 = ad166 := (by injection e166); replace hx166_0 := cel HB.out hx166_0; replace p166 := eq_true p166; replace q166 := eq_true q166))
   repeat (go_quiet (first | (go_at_call 59; (with_reducible refine (spec_l6In.calls (rd l0_1 x3_1) 1 20 true _ A5.out).mono ?_); rintro e w' ⟨rfl, ⟨nd, rfl⟩⟩; (try first | exact ⟨rfl, _, wD_q _ _ _⟩ | exact ⟨rfl, _, Eq.trans (wD_q _ _ _) (congrArg (World.drewN _) (nA_q _ _ _))⟩); have p165 : 0 ≤ ((ji8) : Int) := oD_q (by assumption); have q165 : (ji8) < (l0_1.length : Int) := oD_q (by assumption); obtain ⟨ad165, e165, hx165_0⟩ := aI_q HR0_1.out (ji8) p165 q165; obtain rfl : ad163 = ad165 := (by injection e165); replace hx165_0 := cel HB.out hx165_0; replace p165 := eq_true p165; replace q165 := eq_true q165; have p166 : 0 ≤ (x3_1 : Int) := oD_q (by assumption); have q166 : x3_1 < (l0_1.length : Int) := oD_q (by assumption); obtain ⟨ad166, e166, hx166_0⟩ := aI_q HR0_1.out x3_1 p166 q166; obtain rfl : ad163 = ad166 := (by injection e166); replace hx166_0 := cel HB.out hx166_0; replace p166 := eq_true p166; replace q166 := eq_true q166)); try go_wp2_with (first | (go_at_call 59; (with_reducible refine (spec_l6In.calls (rd l0_1 x3_1) 1 20 true _ A5.out).mono ?_); rintro e w' ⟨rfl, ⟨nd, rfl⟩⟩; (try first | exact ⟨rfl, _, wD_q _ _ _⟩ | exact ⟨rfl, _, Eq.trans (wD_q _ _ _) (congrArg (World.drewN _) (nA_q _ _ _))⟩); have p165 : 0 ≤ ((ji8) : Int) := oD_q (by assumption); have q165 : (ji8) < (l0_1.length : Int) := oD_q (by assumption); obtain ⟨ad165, e165, hx165_0⟩ := aI_q HR0_1.out (ji8) p165 q165; obtain rfl : ad163 = ad165 := (by injection e165); replace hx165_0 := cel HB.out hx165_0; replace p165 := eq_true p165; replace q165 := eq_true q165; have p166 : 0 ≤ (x3_1 : Int) := oD_q (by assumption); have q166 : x3_1 < (l0_1.length : Int) := oD_q (by assumption); obtain ⟨ad166, e166, hx166_0⟩ := aI_q HR0_1.out x3_1 p166 q166; obtain rfl : ad163 = ad166 := (by injection e166); replace hx166_0 := cel HB.out hx166_0; replace p166 := eq_true p166; replace q166 := eq_true q166)))
   go_roundg k1
   case measure => have := HK1.out; omega
   case rel => exact ⟨(wrap64 (x3_1 + 1)), m3_q, H', ⟨m41_q⟩, ⟨bup BK162.out⟩, ⟨m24_q⟩⟩

end Go.Proofs.Ytnckblolijkdaaa.PBt
