import Derived.Test.YtnckblolijkdaaaVDPBtx0
import Derived.Test.YtnckblolijkdaaaVDPBtx3
import Derived.Test.YtnckblolijkdaaaVDPBtx5
import Derived.Test.YtnckblolijkdaaaVDPBtx16
import Derived.Test.YtnckblolijkdaaaVDPBtx17
import Derived.Test.YtnckblolijkdaaaVDPBtx20
namespace Go.Proofs.Ytnckblolijkdaaa.PBt
open Go.RowKit Go.Proofs.YtnckblolijkdaaaW.PrintWords Go.Proofs.YtnckblolijkdaaaW.PrintLast Go.Proofs.YtnckblolijkdaaaW.PrintMore
attribute [local go_sem] max2_int min2_int max_two min_two max_three min_three max_four min_four
set_option linter.unusedVariables false
set_option linter.unusedSimpArgs false

def impl_PlatesWrong.l0 : Nat → List (S39) → List Int → List (S49) → Int → Int → Option (List Int)
 | 0, _, _, _, _, _ => none
 | k + 1, x0, x5, x15, x16, x17 => if x17 < x16 then (if 0 ≤ x17 then (if x17 < (x15.length : Int) then ((impl_batchPlace.f x0 ((rd_T49 x15 x17).f1)).bind fun t403 => (if 0 ≤ t403 then (if t403 < (x0.length : Int) then ((impl_within.f ((rd_T49 x15 x17).f2) ((rd_T39 x0 t403).f2) ((rd_T39 x0 t403).f3)).bind fun t406 => (if t406 = true then (impl_PlatesWrong.l0 k x0 x5 x15 x16 (wrap64 (x17 + 1))) else (if x5.length < 17592186044416 then (impl_PlatesWrong.l0 k x0 (x5 ++ [x17]) x15 x16 (wrap64 (x17 + 1))) else (none)))) else (none)) else (none))) else (none)) else (none)) else (some x5)
def impl_PlatesWrong.f (k : Nat) (l0 : List (S39)) (l1 : List (S49)) : Option (List Int) := (some (([] : List Int) : List Int)).bind fun y397 => ((impl_PlatesValid.f k l0 l1).bind fun t400 => (if t400 = true then (impl_PlatesWrong.l0 k l0 y397 l1 (l1.length : Int) 0) else (some y397)))
set_option maxHeartbeats 8000000 in
set_option maxRecDepth 100000 in
theorem impl_PlatesWrong.calls (k : Nat) (A0 : Option Addr) (c0 : Nat) (l0 : List (S39)) (A1 : Option Addr) (c1 : Nat) (l1 : List (S49)) (r : List Int) (w : World) (hr0 : Kd.C k39 w A0 l0.length l0) (hc0 : l0.length ≤ c0) (hr1 : Kd.C k49 w A1 l1.length l1) (hc1 : l1.length ≤ c1) (h : impl_PlatesWrong.f k l0 l1 = some r) :
    Calls Try.prog 33 #[.slice A0 l0.length c0, .slice A1 l1.length c1] w fun e w' => ∃ v0_ : Value, e = .returned (v0_) ∧ Kd.R kI_q 3 w' w.heap.size (fun _ => True) v0_ r ∧ Below w.heap.size w w' := by
 have hu49 := Try.underlying49
 have hu39 := Try.underlying39
 have HR0 := Ae_q hr0
 have HC0 := Ae_q hc0
 clear hr0 hc0
 have HR1 := Ae_q hr1
 have HC1 := Ae_q hc1
 clear hr1 hc1
 have HB := Ae_q (bR_q w.heap.size w)
 have H : ((some (([] : List Int) : List Int)).bind fun y397 => ((impl_PlatesValid.f k l0 l1).bind fun t400 => (if t400 = true then (impl_PlatesWrong.l0 k l0 y397 l1 (l1.length : Int) 0) else (some y397)))) = some r := h
 clear h
 obtain ⟨y397, hy397⟩ : ∃ y_ : List Int, y_ = (([] : List Int)) := ⟨_, rfl⟩
 replace H : ((impl_PlatesValid.f k l0 l1).bind fun t400 => (if t400 = true then (impl_PlatesWrong.l0 k l0 y397 l1 (l1.length : Int) 0) else (some y397))) = some r := by first | (rw [hy397]; with_reducible exact H) | (have H2_ := (oS_q _ _).symm.trans H; rw [hy397]; with_reducible exact H2_) | (have H2_ := (oS_q _ _).symm.trans H; with_reducible exact H2_) | with_reducible exact H | (rw [hy397]; exact H) | exact H
 have Ny397 := Ae_q hy397
 clear hy397
 replace H := oB_q.mp H
 obtain ⟨t400, A30, H⟩ := H
 replace H : (if t400 = true then (impl_PlatesWrong.l0 k l0 y397 l1 (l1.length : Int) 0) else (some y397)) = some r := H
 have A3 := Ae_q A30
 clear A30
 by_cases c4 : t400 = true
 rotate_left
 ·replace c4 := fM_q.mpr c4
  subst c4
  have H1 : (some y397) = some r := by rw [if_neg (show ¬ (false = true) by decide)] at H; exact H
  clear H
  have H := H1
  clear H1
  obtain rfl := oI_q H
  go_enter Try.func33, Try.ntmps33
  go_wp2_with (first | ((with_reducible refine gD_q (N := 9) rfl ?_); refine Kd.R_lit kI_q _ 3 ?hg (N := 9) ?hd (xs := ([] : List Int)) (inner := []) (ok := fun _ => True) (okp := fun _ => True) ?hr ?hp (fun _ hk => hk) trivial (bR_q _ _) (nR_q _) (by simp) ?_; (case hd => rfl); (case hg => rfl); (case hr => exact m13_q); (case hp => exact m56_q); intro v398 w32 ho33 hb hg_ hnew_; clear hg_ hnew_; (first | rw [← Ny397.out] at ho33 | (simp only [Int.reduceToNat] at ho33; rw [← Ny397.out] at ho33)); have HO399 := Ae_q (rL_q ho33 (bZ_q (bel HB.out))); replace HB := Ae_q (bT_q (bel HB.out) hb); clear hb ho33) | ((with_reducible refine gC_q (f := 30) rfl ?_); refine gL_q (some 12) rfl rfl Try.func30 m14_q rfl #[.slice A0 l0.length c0, .slice A1 l1.length c1] rfl m1_q ?_; (with_reducible refine (impl_PlatesValid.calls k _ _ l0 _ _ l1 false _ ?side1 ?side2 ?side3 ?side4 A3.out).mono ?_); (case side1 => exact m37_q); (case side2 => exact m41_q); (case side3 => exact m61_q); (case side4 => exact HC1.out); rintro e w' ⟨rfl, hb⟩; refine ⟨_, rfl, ?_⟩; replace HO399 := Ae_q (rO_q (rup HO399.out) hb); replace HB := Ae_q (bT_q (bel HB.out) hb); (try clear hb); (try clear hb2); (try clear hk); (try clear hi)))
  go_ret
  exact ⟨_, m7_q, rup HO399.out, bel HB.out⟩
 subst c4
 have H1 : (impl_PlatesWrong.l0 k l0 y397 l1 (l1.length : Int) 0) = some r := by rw [if_pos rfl] at H; exact H
 clear H
 have H := H1
 clear H1
 have H' := Ae_q H
 clear H
 go_enter Try.func33, Try.ntmps33
 go_wp2_with (first | ((with_reducible refine gD_q (N := 9) rfl ?_); refine Kd.R_lit kI_q _ 3 ?hg (N := 9) ?hd (xs := ([] : List Int)) (inner := []) (ok := fun _ => True) (okp := fun _ => True) ?hr ?hp (fun _ hk => hk) trivial (bR_q _ _) (nR_q _) (by simp) ?_; (case hd => rfl); (case hg => rfl); (case hr => exact m13_q); (case hp => exact m56_q); intro v398 w5 ho6 hb hg_ hnew_; clear hg_ hnew_; (first | rw [← Ny397.out] at ho6 | (simp only [Int.reduceToNat] at ho6; rw [← Ny397.out] at ho6)); have HO399 := Ae_q (rL_q ho6 (bZ_q (bel HB.out))); replace HB := Ae_q (bT_q (bel HB.out) hb); clear hb ho6) | ((with_reducible refine gC_q (f := 30) rfl ?_); refine gL_q (some 12) rfl rfl Try.func30 m14_q rfl #[.slice A0 l0.length c0, .slice A1 l1.length c1] rfl m1_q ?_; (with_reducible refine (impl_PlatesValid.calls k _ _ l0 _ _ l1 true _ ?side1 ?side2 ?side3 ?side4 A3.out).mono ?_); (case side1 => exact m37_q); (case side2 => exact m41_q); (case side3 => exact m61_q); (case side4 => exact HC1.out); rintro e w' ⟨rfl, hb⟩; refine ⟨_, rfl, ?_⟩; replace HO399 := Ae_q (rO_q (rup HO399.out) hb); replace HB := Ae_q (bT_q (bel HB.out) hb); (try clear hb); (try clear hb2); (try clear hk); (try clear hi)))
 go_loopg [5, 17] k (fun kq v5 v17 w' => ∃ (x5_1 : List Int) (x17_1 : Int), v17 = .int .i64 x17_1 ∧ Aside0 (impl_PlatesWrong.l0 kq l0 x5_1 l1 (l1.length : Int) x17_1 = some r) ∧ Aside0 (kq ≤ k) ∧ Aside0 (Kd.R kI_q 3 w' w.heap.size (fun _ => True) v5 x5_1) ∧ Aside0 (Below w.heap.size w w'))
 case atStart => exact ⟨(y397), (0), m5_q, H', ⟨nR_q _⟩, ⟨rup HO399.out⟩, ⟨bel HB.out⟩⟩
 case round =>
  clear H'
  try clear c1
  try clear p2
  try clear c3
  try clear c4
  obtain ⟨x5_1, x17_1, rfl, HA, HK1, HO_5, HB⟩ := hrel
  cases gk with
  | zero => exact absurd HA.out (by simp [impl_PlatesWrong.l0])
  | succ k1 =>
   have H := HA.out
   clear HA
   simp only [impl_PlatesWrong.l0] at H
   by_cases c8 : x17_1 < (l1.length : Int)
   rotate_left
   ·rw [if_neg c8] at H
    have c8b0 : decide (x17_1 < (l1.length : Int)) = false := dF_q c8
    clear c8
    obtain rfl := oI_q H
    go_wp2
    go_ret
    exact ⟨_, m7_q, rup HO_5.out, bel HB.out⟩
   rw [if_pos c8] at H
   have c8b0 : decide (x17_1 < (l1.length : Int)) = true := dT_q c8
   clear c8
   by_cases c9 : 0 ≤ x17_1
   rotate_left
   ·rw [if_neg c9] at H
    exact absurd H (by simp)
   rw [if_pos c9] at H
   have c9b0 : decide (0 ≤ x17_1) = true := dT_q c9
   clear c9
   by_cases c10 : x17_1 < (l1.length : Int)
   rotate_left
   ·rw [if_neg c10] at H
    exact absurd H (by simp)
   rw [if_pos c10] at H
   have c10b0 : decide (x17_1 < (l1.length : Int)) = true := dT_q c10
   clear c10
   replace H := oB_q.mp H
   obtain ⟨t403, A110, H⟩ := H
   replace H : (if 0 ≤ t403 then (if t403 < (l0.length : Int) then ((impl_within.f ((rd_T49 l1 x17_1).f2) ((rd_T39 l0 t403).f2) ((rd_T39 l0 t403).f3)).bind fun t406 => (if t406 = true then (impl_PlatesWrong.l0 k1 l0 x5_1 l1 (l1.length : Int) (wrap64 (x17_1 + 1))) else (if x5_1.length < 17592186044416 then (impl_PlatesWrong.l0 k1 l0 (x5_1 ++ [x17_1]) l1 (l1.length : Int) (wrap64 (x17_1 + 1))) else (none)))) else (none)) else (none)) = some r := H
   have A11 := Ae_q A110
   clear A110
   by_cases c12 : 0 ≤ t403
   rotate_left
   ·rw [if_neg c12] at H
    exact absurd H (by simp)
   rw [if_pos c12] at H
   have c12b0 : decide (0 ≤ t403) = true := dT_q c12
   clear c12
   by_cases c13 : t403 < (l0.length : Int)
   rotate_left
   ·rw [if_neg c13] at H
    exact absurd H (by simp)
   rw [if_pos c13] at H
   have c13b0 : decide (t403 < (l0.length : Int)) = true := dT_q c13
   clear c13
   replace H := oB_q.mp H
   obtain ⟨t406, A140, H⟩ := H
   replace H : (if t406 = true then (impl_PlatesWrong.l0 k1 l0 x5_1 l1 (l1.length : Int) (wrap64 (x17_1 + 1))) else (if x5_1.length < 17592186044416 then (impl_PlatesWrong.l0 k1 l0 (x5_1 ++ [x17_1]) l1 (l1.length : Int) (wrap64 (x17_1 + 1))) else (none))) = some r := H
   have A14 := Ae_q A140
   clear A140
   by_cases c15 : t406 = true
   ·subst c15
    have H1 : (impl_PlatesWrong.l0 k1 l0 x5_1 l1 (l1.length : Int) (wrap64 (x17_1 + 1))) = some r := by rw [if_pos rfl] at H; exact H
    clear H
    have H := H1
    clear H1
    have H' := Ae_q H
    clear H
    have p401 : 0 ≤ (x17_1 : Int) := oD_q (by assumption)
    have q401 : x17_1 < (l1.length : Int) := oD_q (by assumption)
    obtain ⟨ad401, e401, hx401_0, hx401_1, hx401_2⟩ := at_T49 HR1.out x17_1 p401 q401
    cases e401
    replace hx401_0 := cel HB.out hx401_0
    replace hx401_1 := cel HB.out hx401_1
    replace hx401_2 := cel HB.out hx401_2
    replace p401 := eq_true p401
    replace q401 := eq_true q401
    go_wp2_with (first | ((with_reducible refine gD_q (N := 7) rfl ?_); refine bE_q ?hg (N := 7) ?hd (cs := #[.int .i64 0, .int .i64 0, .int .i64 0]) (t := 49) ?hr ?_; (case hd => rfl); (case hg => rfl); (case hr => exact m13_q); intro gb402 hg w16 hbox hb; replace HO_5 := Ae_q (rO_q (rup HO_5.out) hb); have BK402 := Ae_q (hbox); have GW402 := Ae_q ((by rw [hg]; exact (bZ_q (bel HB.out)) : w.heap.size ≤ gb402)); have GE402 := Ae_q ((by rw [hg]; exact (bZ_q (bel HB.out)) : w.heap.size ≤ gb402)); replace HB := Ae_q (bT_q (bel HB.out) hb); clear hb hbox hg; have hcz17_0 : cI w16 gb402 0 0 := cZ BK402 0 rfl; have hcz17_1 : cI w16 gb402 1 0 := cZ BK402 1 rfl; have hcz17_2 : cI w16 gb402 2 0 := cZ BK402 2 rfl; have hfz17_0 := bF_q BK402.out 0; have hfz17_1 := bF_q BK402.out 1; have hfz17_2 := bF_q BK402.out 2) | ((with_reducible refine gC_q (f := 58) rfl ?_); refine gL_q (some 26) rfl rfl Try.func58 m14_q rfl #[.slice A0 l0.length c0, .int .i64 ((rd_T49 l1 x17_1).f1)] rfl m1_q ?_; (with_reducible refine (impl_batchPlace.calls _ _ l0 ((rd_T49 l1 x17_1).f1) t403 _ ?side1 ?side2 A11.out).mono ?_); (case side1 => exact cB_q HR0.out m22_q); (case side2 => exact m41_q); rintro e w' ⟨rfl, hb⟩; refine ⟨_, rfl, ?_⟩; replace HO_5 := Ae_q (rO_q (by (with_reducible repeat (first | apply rA_q | apply rN_q | apply rD_q)); exact (rM_q (Kd.R_far (p := ⟨gb402, 2, none⟩) (Kd.R_far (p := ⟨gb402, 1, none⟩) (Kd.R_far (p := ⟨gb402, 0, none⟩) (Kd.R_types HO_5.out BK402.out (by decide)) (fun _ hk => hk.2) (.int .i64 ((rd_T49 l1 x17_1).f0))) (fun _ hk => hk.2) (.int .i64 ((rd_T49 l1 x17_1).f1))) (fun _ hk => hk.2) (.int .i64 ((rd_T49 l1 x17_1).f2))) (fun _ h_ => h_.1))) hb); replace BK402 := Ae_q (bB_q (g := gb402) (o := .cells #[.int .i64 ((rd_T49 l1 x17_1).f0), .int .i64 ((rd_T49 l1 x17_1).f1), .int .i64 ((rd_T49 l1 x17_1).f2)] 49 (0, 0)) m19_q hb); replace HB := Ae_q (bT_q m22_q hb); (try clear hb); (try clear hb2); (try clear hk); (try clear hi); have p404 : 0 ≤ (t403 : Int) := oD_q (by assumption); have q404 : t403 < (l0.length : Int) := oD_q (by assumption); obtain ⟨ad404, A404_1, c404_1, e404, hx404_0, hx404_1, hx404_2, hx404_3, hl404_1, hi404_1⟩ := at_T39 HR0.out t403 p404 q404; cases e404; replace hx404_0 := cel HB.out hx404_0; replace hx404_1 := cel HB.out hx404_1; replace hx404_2 := cel HB.out hx404_2; replace hx404_3 := cel HB.out hx404_3; have HR404_1 := Ae_q hi404_1; have HC404_1 := Ae_q hl404_1; clear hi404_1 hl404_1; replace p404 := eq_true p404; replace q404 := eq_true q404) | ((with_reducible refine gD_q (N := 8) rfl ?_); refine bE_q ?hg (N := 8) ?hd (cs := #[.int .i64 0, .slice none 0 0, .int .i64 0, .int .i64 0]) (t := 39) ?hr ?_; (case hd => rfl); (case hg => rfl); (case hr => exact m13_q); intro gb405 hg w19 hbox hb; replace HO_5 := Ae_q (rO_q (rup HO_5.out) hb); have BK405 := Ae_q (hbox); have GW405 := Ae_q ((by rw [hg]; exact (bZ_q m22_q) : w.heap.size ≤ gb405)); have GE405 := Ae_q ((by rw [hg]; exact (bZ_q m22_q) : w.heap.size ≤ gb405)); replace HB := Ae_q (bT_q m22_q hb); have NB402_405 := Ae_q ((by rw [hg]; exact nL_q (blk_lt (g := gb402) (o := .cells #[.int .i64 ((rd_T49 l1 x17_1).f0), .int .i64 ((rd_T49 l1 x17_1).f1), .int .i64 ((rd_T49 l1 x17_1).f2)] 49 (0, 0)) (bup BK402.out)) : gb402 ≠ gb405)); have NB405_402 := Ae_q ((by rw [hg]; exact nG_q (blk_lt (g := gb402) (o := .cells #[.int .i64 ((rd_T49 l1 x17_1).f0), .int .i64 ((rd_T49 l1 x17_1).f1), .int .i64 ((rd_T49 l1 x17_1).f2)] 49 (0, 0)) (bup BK402.out)) : gb405 ≠ gb402)); replace BK402 := Ae_q (bB_q (g := gb402) (o := .cells #[.int .i64 ((rd_T49 l1 x17_1).f0), .int .i64 ((rd_T49 l1 x17_1).f1), .int .i64 ((rd_T49 l1 x17_1).f2)] 49 (0, 0)) (bup BK402.out) hb); clear hb hbox hg; have hnb20 := NB405_402.out; have hnc20 := NB402_405.out; have hcz21_0 : cI w19 gb405 0 0 := cZ BK405 0 rfl; have hcz21_1 : w19.cell? ⟨gb405, 1, none⟩ = some (.slice none 0 0) := (bC_q BK405.out 1).trans rfl; have hcz21_2 : cI w19 gb405 2 0 := cZ BK405 2 rfl; have hcz21_3 : cI w19 gb405 3 0 := cZ BK405 3 rfl; have hfz21_0 := bF_q BK405.out 0; have hfz21_1 := bF_q BK405.out 1; have hfz21_2 := bF_q BK405.out 2; have hfz21_3 := bF_q BK405.out 3; have hcz22_0 : cI w19 gb402 0 ((rd_T49 l1 x17_1).f0) := cZ BK402 0 rfl; have hcz22_1 : cI w19 gb402 1 ((rd_T49 l1 x17_1).f1) := cZ BK402 1 rfl; have hcz22_2 : cI w19 gb402 2 ((rd_T49 l1 x17_1).f2) := cZ BK402 2 rfl; have hfz22_0 := bF_q BK402.out 0; have hfz22_1 := bF_q BK402.out 1; have hfz22_2 := bF_q BK402.out 2) | ((with_reducible refine gC_q (f := 47) rfl ?_); refine gL_q (some 35) rfl rfl Try.func47 m14_q rfl #[.int .i64 ((rd_T49 l1 x17_1).f2), .int .i64 ((rd_T39 l0 t403).f2), .int .i64 ((rd_T39 l0 t403).f3)] rfl m1_q ?_; (with_reducible refine (impl_within.calls ((rd_T49 l1 x17_1).f2) ((rd_T39 l0 t403).f2) ((rd_T39 l0 t403).f3) true _ A14.out).mono ?_); rintro e w' ⟨rfl, ⟨nd, rfl⟩⟩; refine ⟨_, rfl, ?_⟩))
    go_roundg k1
    case measure => have := HK1.out; omega
    case rel => exact ⟨(x5_1), (wrap64 (x17_1 + 1)), m5_q, H', ⟨m39_q⟩, ⟨by (with_reducible repeat (first | apply rA_q | apply rN_q | apply rD_q)); exact rM_q (Kd.R_far (p := ⟨gb405, 3, none⟩) (Kd.R_far (p := ⟨gb405, 2, none⟩) (Kd.R_far (p := ⟨gb405, 1, none⟩) (Kd.R_far (p := ⟨gb405, 0, none⟩) (Kd.R_types HO_5.out BK405.out (by decide)) (fun _ hk => hk.2) (.int .i64 ((rd_T39 l0 t403).f0))) (fun _ hk => hk.2) (.slice A404_1 ((rd_T39 l0 t403).f1).length c404_1)) (fun _ hk => hk.2) (.int .i64 ((rd_T39 l0 t403).f2))) (fun _ hk => hk.2) (.int .i64 ((rd_T39 l0 t403).f3))) (fun _ hk => trivial)⟩, ⟨m35_q⟩⟩
   replace c15 := fM_q.mpr c15
   subst c15
   have H1 : (if x5_1.length < 17592186044416 then (impl_PlatesWrong.l0 k1 l0 (x5_1 ++ [x17_1]) l1 (l1.length : Int) (wrap64 (x17_1 + 1))) else (none)) = some r := by rw [if_neg (show ¬ (false = true) by decide)] at H; exact H
   clear H
   have H := H1
   clear H1
   by_cases c23 : x5_1.length < 17592186044416
   rotate_left
   ·rw [if_neg c23] at H
    exact absurd H (by simp)
   rw [if_pos c23] at H
   have LMc23 := Ae_q c23
   clear c23
   obtain ⟨y407, hy407⟩ : ∃ y_ : List Int, y_ = (x5_1 ++ [x17_1]) := ⟨_, rfl⟩
   replace H : (impl_PlatesWrong.l0 k1 l0 y407 l1 (l1.length : Int) (wrap64 (x17_1 + 1))) = some r := by first | (rw [hy407]; with_reducible exact H) | (have H2_ := (oS_q _ _).symm.trans H; rw [hy407]; with_reducible exact H2_) | (have H2_ := (oS_q _ _).symm.trans H; with_reducible exact H2_) | with_reducible exact H | (rw [hy407]; exact H) | exact H
   have Ny407 := Ae_q hy407
   clear hy407
   have H' := Ae_q H
   clear H
   have p401 : 0 ≤ (x17_1 : Int) := oD_q (by assumption)
   have q401 : x17_1 < (l1.length : Int) := oD_q (by assumption)
   obtain ⟨ad401, e401, hx401_0, hx401_1, hx401_2⟩ := at_T49 HR1.out x17_1 p401 q401
   cases e401
   replace hx401_0 := cel HB.out hx401_0
   replace hx401_1 := cel HB.out hx401_1
   replace hx401_2 := cel HB.out hx401_2
   replace p401 := eq_true p401
   replace q401 := eq_true q401
   go_wp2_with (first | ((with_reducible refine gD_q (N := 7) rfl ?_); refine bE_q ?hg (N := 7) ?hd (cs := #[.int .i64 0, .int .i64 0, .int .i64 0]) (t := 49) ?hr ?_; (case hd => rfl); (case hg => rfl); (case hr => exact m13_q); intro gb402 hg w24 hbox hb; replace HO_5 := Ae_q (rO_q (rup HO_5.out) hb); have BK402 := Ae_q (hbox); have GW402 := Ae_q ((by rw [hg]; exact (bZ_q (bel HB.out)) : w.heap.size ≤ gb402)); have GE402 := Ae_q ((by rw [hg]; exact (bZ_q (bel HB.out)) : w.heap.size ≤ gb402)); replace HB := Ae_q (bT_q (bel HB.out) hb); clear hb hbox hg; have hcz25_0 : cI w24 gb402 0 0 := cZ BK402 0 rfl; have hcz25_1 : cI w24 gb402 1 0 := cZ BK402 1 rfl; have hcz25_2 : cI w24 gb402 2 0 := cZ BK402 2 rfl; have hfz25_0 := bF_q BK402.out 0; have hfz25_1 := bF_q BK402.out 1; have hfz25_2 := bF_q BK402.out 2) | ((with_reducible refine gC_q (f := 58) rfl ?_); refine gL_q (some 26) rfl rfl Try.func58 m14_q rfl #[.slice A0 l0.length c0, .int .i64 ((rd_T49 l1 x17_1).f1)] rfl m1_q ?_; (with_reducible refine (impl_batchPlace.calls _ _ l0 ((rd_T49 l1 x17_1).f1) t403 _ ?side1 ?side2 A11.out).mono ?_); (case side1 => exact cB_q HR0.out m22_q); (case side2 => exact m41_q); rintro e w' ⟨rfl, hb⟩; refine ⟨_, rfl, ?_⟩; replace HO_5 := Ae_q (rO_q (by (with_reducible repeat (first | apply rA_q | apply rN_q | apply rD_q)); exact (rM_q (Kd.R_far (p := ⟨gb402, 2, none⟩) (Kd.R_far (p := ⟨gb402, 1, none⟩) (Kd.R_far (p := ⟨gb402, 0, none⟩) (Kd.R_types HO_5.out BK402.out (by decide)) (fun _ hk => hk.2) (.int .i64 ((rd_T49 l1 x17_1).f0))) (fun _ hk => hk.2) (.int .i64 ((rd_T49 l1 x17_1).f1))) (fun _ hk => hk.2) (.int .i64 ((rd_T49 l1 x17_1).f2))) (fun _ h_ => h_.1))) hb); replace BK402 := Ae_q (bB_q (g := gb402) (o := .cells #[.int .i64 ((rd_T49 l1 x17_1).f0), .int .i64 ((rd_T49 l1 x17_1).f1), .int .i64 ((rd_T49 l1 x17_1).f2)] 49 (0, 0)) m19_q hb); replace HB := Ae_q (bT_q m22_q hb); (try clear hb); (try clear hb2); (try clear hk); (try clear hi); have p404 : 0 ≤ (t403 : Int) := oD_q (by assumption); have q404 : t403 < (l0.length : Int) := oD_q (by assumption); obtain ⟨ad404, A404_1, c404_1, e404, hx404_0, hx404_1, hx404_2, hx404_3, hl404_1, hi404_1⟩ := at_T39 HR0.out t403 p404 q404; cases e404; replace hx404_0 := cel HB.out hx404_0; replace hx404_1 := cel HB.out hx404_1; replace hx404_2 := cel HB.out hx404_2; replace hx404_3 := cel HB.out hx404_3; have HR404_1 := Ae_q hi404_1; have HC404_1 := Ae_q hl404_1; clear hi404_1 hl404_1; replace p404 := eq_true p404; replace q404 := eq_true q404) | ((with_reducible refine gD_q (N := 8) rfl ?_); refine bE_q ?hg (N := 8) ?hd (cs := #[.int .i64 0, .slice none 0 0, .int .i64 0, .int .i64 0]) (t := 39) ?hr ?_; (case hd => rfl); (case hg => rfl); (case hr => exact m13_q); intro gb405 hg w27 hbox hb; replace HO_5 := Ae_q (rO_q (rup HO_5.out) hb); have BK405 := Ae_q (hbox); have GW405 := Ae_q ((by rw [hg]; exact (bZ_q m22_q) : w.heap.size ≤ gb405)); have GE405 := Ae_q ((by rw [hg]; exact (bZ_q m22_q) : w.heap.size ≤ gb405)); replace HB := Ae_q (bT_q m22_q hb); have NB402_405 := Ae_q ((by rw [hg]; exact nL_q (blk_lt (g := gb402) (o := .cells #[.int .i64 ((rd_T49 l1 x17_1).f0), .int .i64 ((rd_T49 l1 x17_1).f1), .int .i64 ((rd_T49 l1 x17_1).f2)] 49 (0, 0)) (bup BK402.out)) : gb402 ≠ gb405)); have NB405_402 := Ae_q ((by rw [hg]; exact nG_q (blk_lt (g := gb402) (o := .cells #[.int .i64 ((rd_T49 l1 x17_1).f0), .int .i64 ((rd_T49 l1 x17_1).f1), .int .i64 ((rd_T49 l1 x17_1).f2)] 49 (0, 0)) (bup BK402.out)) : gb405 ≠ gb402)); replace BK402 := Ae_q (bB_q (g := gb402) (o := .cells #[.int .i64 ((rd_T49 l1 x17_1).f0), .int .i64 ((rd_T49 l1 x17_1).f1), .int .i64 ((rd_T49 l1 x17_1).f2)] 49 (0, 0)) (bup BK402.out) hb); clear hb hbox hg; have hnb28 := NB405_402.out; have hnc28 := NB402_405.out; have hcz29_0 : cI w27 gb405 0 0 := cZ BK405 0 rfl; have hcz29_1 : w27.cell? ⟨gb405, 1, none⟩ = some (.slice none 0 0) := (bC_q BK405.out 1).trans rfl; have hcz29_2 : cI w27 gb405 2 0 := cZ BK405 2 rfl; have hcz29_3 : cI w27 gb405 3 0 := cZ BK405 3 rfl; have hfz29_0 := bF_q BK405.out 0; have hfz29_1 := bF_q BK405.out 1; have hfz29_2 := bF_q BK405.out 2; have hfz29_3 := bF_q BK405.out 3; have hcz30_0 : cI w27 gb402 0 ((rd_T49 l1 x17_1).f0) := cZ BK402 0 rfl; have hcz30_1 : cI w27 gb402 1 ((rd_T49 l1 x17_1).f1) := cZ BK402 1 rfl; have hcz30_2 : cI w27 gb402 2 ((rd_T49 l1 x17_1).f2) := cZ BK402 2 rfl; have hfz30_0 := bF_q BK402.out 0; have hfz30_1 := bF_q BK402.out 1; have hfz30_2 := bF_q BK402.out 2) | ((with_reducible refine gC_q (f := 47) rfl ?_); refine gL_q (some 35) rfl rfl Try.func47 m14_q rfl #[.int .i64 ((rd_T49 l1 x17_1).f2), .int .i64 ((rd_T39 l0 t403).f2), .int .i64 ((rd_T39 l0 t403).f3)] rfl m1_q ?_; (with_reducible refine (impl_within.calls ((rd_T49 l1 x17_1).f2) ((rd_T39 l0 t403).f2) ((rd_T39 l0 t403).f3) false _ A14.out).mono ?_); rintro e w' ⟨rfl, ⟨nd, rfl⟩⟩; refine ⟨_, rfl, ?_⟩) | ((with_reducible refine gate_builtin (b := .append) (xs := #[.tmp 37, .tmp 39]) rfl ?_); at_builtin; refine Kd.R_append kI_q (w0 := w) w.heap.size rfl (.tmp 37) (.tmp 39) 34 3 (.int .i64 0) 8 rfl Try.underlying34 info3 rfl (by decide) (by omega) u5 x5_1 x17_1 [.int .i64 x17_1] (fun _ => True) (fun _ => False) rfl m13_q ?aP (fun _ hk => hk.elim) ?aF ?aO ?aB ?aS ?aL ?_; (case aP => exact rfl); (case aB => exact m35_q); (case aF => exact m58_q); (case aO => exact (by (with_reducible repeat (first | apply rA_q | apply rN_q | apply rD_q)); exact rM_q (Kd.R_far (p := ⟨gb405, 3, none⟩) (Kd.R_far (p := ⟨gb405, 2, none⟩) (Kd.R_far (p := ⟨gb405, 1, none⟩) (Kd.R_far (p := ⟨gb405, 0, none⟩) (Kd.R_types HO_5.out BK405.out (by decide)) (fun _ hk => hk.2) (.int .i64 ((rd_T39 l0 t403).f0))) (fun _ hk => hk.2) (.slice A404_1 ((rd_T39 l0 t403).f1).length c404_1)) (fun _ hk => hk.2) (.int .i64 ((rd_T39 l0 t403).f2))) (fun _ hk => hk.2) (.int .i64 ((rd_T39 l0 t403).f3))) (fun _ hk => trivial))); (case aS => exact (bZ_q m35_q)); (case aL => have := LMc23.out; omega); intro v408 w31 ho hb hg hat; rw [← Ny407.out] at ho; replace BK402 := Ae_q (bG_q (g := gb402) (o := .cells #[.int .i64 ((rd_T49 l1 x17_1).f0), .int .i64 ((rd_T49 l1 x17_1).f1), .int .i64 ((rd_T49 l1 x17_1).f2)] 49 (0, 0)) (by (with_reducible repeat (first | refine bN_q ?_ _ | refine bW_q ?_ | refine bL_q ?_ _)); refine blk_far ?_ NB402_405.out _; (with_reducible repeat (first | refine bN_q ?_ _ | refine bW_q ?_ | refine bL_q ?_ _)); refine blk_far ?_ NB402_405.out _; (with_reducible repeat (first | refine bN_q ?_ _ | refine bW_q ?_ | refine bL_q ?_ _)); refine blk_far ?_ NB402_405.out _; (with_reducible repeat (first | refine bN_q ?_ _ | refine bW_q ?_ | refine bL_q ?_ _)); refine blk_far ?_ NB402_405.out _; (with_reducible repeat (first | refine bN_q ?_ _ | refine bW_q ?_ | refine bL_q ?_ _)); exact BK402.out) hg (Kd.R_ne HO_5.out BK402.out (by decide))); replace BK405 := Ae_q (bG_q (g := gb405) (o := .cells #[.int .i64 ((rd_T39 l0 t403).f0), .slice A404_1 ((rd_T39 l0 t403).f1).length c404_1, .int .i64 ((rd_T39 l0 t403).f2), .int .i64 ((rd_T39 l0 t403).f3)] 39 (0, 0)) (by (with_reducible repeat (first | refine bN_q ?_ _ | refine bW_q ?_ | refine bL_q ?_ _)); refine blk_put (cs := #[.int .i64 ((rd_T39 l0 t403).f0), .slice A404_1 ((rd_T39 l0 t403).f1).length c404_1, .int .i64 ((rd_T39 l0 t403).f2), .int .i64 0]) ?_ 3 _ rfl; (with_reducible repeat (first | refine bN_q ?_ _ | refine bW_q ?_ | refine bL_q ?_ _)); refine blk_put (cs := #[.int .i64 ((rd_T39 l0 t403).f0), .slice A404_1 ((rd_T39 l0 t403).f1).length c404_1, .int .i64 0, .int .i64 0]) ?_ 2 _ rfl; (with_reducible repeat (first | refine bN_q ?_ _ | refine bW_q ?_ | refine bL_q ?_ _)); refine blk_put (cs := #[.int .i64 ((rd_T39 l0 t403).f0), .slice none 0 0, .int .i64 0, .int .i64 0]) ?_ 1 _ rfl; (with_reducible repeat (first | refine bN_q ?_ _ | refine bW_q ?_ | refine bL_q ?_ _)); refine blk_put (cs := #[.int .i64 0, .slice none 0 0, .int .i64 0, .int .i64 0]) ?_ 0 _ rfl; (with_reducible repeat (first | refine bN_q ?_ _ | refine bW_q ?_ | refine bL_q ?_ _)); exact BK405.out) hg (Kd.R_ne HO_5.out BK405.out (by decide))); replace HB := Ae_q (hb); have HO409 := Ae_q (ho); clear HO_5; clear ho hb hg hat))
   go_roundg k1
   case measure => have := HK1.out; omega
   case rel => exact ⟨(y407), (wrap64 (x17_1 + 1)), m5_q, H', ⟨m39_q⟩, ⟨rup HO409.out⟩, ⟨m35_q⟩⟩

mutual
def spec_PlatesWrong.l0 : Nat → List (S39) → List (S49) → List Int → Int → Option (List Int)
 | 0, _, _, _, _ => none
 | k + 1, x0, x1, x5, x6 => if x6 < (x1.length : Int) then ((spec_PlatesValid.f k x0 x1).bind fun t413 => (spec_PlatesWrong.j1 k x0 x1 x5 x6 t413)) else (spec_PlatesWrong.j1 k x0 x1 x5 x6 false)
def spec_PlatesWrong.j1 : Nat → List (S39) → List (S49) → List Int → Int → Bool → Option (List Int)
 | 0, _, _, _, _, _ => none
 | k + 1, x0, x1, x5, x6, x17 => if x17 = true then (if 0 ≤ x6 then (if x6 < (x1.length : Int) then ((spec_l42Find.f k x0 ((rd_T49 x1 x6).f1)).bind fun t415 => (if 0 ≤ t415 then (if t415 < (x0.length : Int) then ((spec_l6In.f ((rd_T49 x1 x6).f2) ((rd_T39 x0 t415).f2) ((rd_T39 x0 t415).f3)).bind fun t419 => (if t419 = true then (spec_PlatesWrong.l0 k x0 x1 x5 (wrap64 (x6 + 1))) else (if x5.length < 17592186044416 then (spec_PlatesWrong.l0 k x0 x1 (x5 ++ [x6]) (wrap64 (x6 + 1))) else (none)))) else (none)) else (none))) else (none)) else (none)) else (some x5)
end
def spec_PlatesWrong.f (k : Nat) (l0 : List (S39)) (l1 : List (S49)) : Option (List Int) := spec_PlatesWrong.l0 k l0 l1 (([] : List Int)) 0
set_option maxHeartbeats 8000000 in
set_option maxRecDepth 100000 in
theorem spec_PlatesWrong.calls (k : Nat) (A0 : Option Addr) (c0 : Nat) (l0 : List (S39)) (A1 : Option Addr) (c1 : Nat) (l1 : List (S49)) (r : List Int) (w : World) (hr0 : Kd.C k39 w A0 l0.length l0) (hc0 : l0.length ≤ c0) (hr1 : Kd.C k49 w A1 l1.length l1) (hc1 : l1.length ≤ c1) (h : spec_PlatesWrong.f k l0 l1 = some r) :
    Calls Try.prog 34 #[.slice A0 l0.length c0, .slice A1 l1.length c1] w fun e w' => ∃ v0_ : Value, e = .returned (v0_) ∧ Kd.R kI_q 3 w' w.heap.size (fun _ => True) v0_ r ∧ Below w.heap.size w w' := by
 have hu39 := Try.underlying39
 have HR0 := Ae_q hr0
 have HC0 := Ae_q hc0
 clear hr0 hc0
 have HR1 := Ae_q hr1
 have HC1 := Ae_q hc1
 clear hr1 hc1
 have HB := Ae_q (bR_q w.heap.size w)
 have H : (spec_PlatesWrong.l0 k l0 l1 (([] : List Int)) 0) = some r := h
 clear h
 obtain ⟨y410, hy410⟩ : ∃ y_ : List Int, y_ = (([] : List Int)) := ⟨_, rfl⟩
 replace H : (spec_PlatesWrong.l0 k l0 l1 y410 0) = some r := by first | (rw [hy410]; with_reducible exact H) | (have H2_ := (oS_q _ _).symm.trans H; rw [hy410]; with_reducible exact H2_) | (have H2_ := (oS_q _ _).symm.trans H; with_reducible exact H2_) | with_reducible exact H | (rw [hy410]; exact H) | exact H
 have Ny410 := Ae_q hy410
 clear hy410
 have H' := Ae_q H
 clear H
 go_enter Try.func34, Try.ntmps34
 go_wp2_with (first | ((with_reducible refine gD_q (N := 8) rfl ?_); refine Kd.R_lit kI_q _ 3 ?hg (N := 8) ?hd (xs := ([] : List Int)) (inner := []) (ok := fun _ => True) (okp := fun _ => True) ?hr ?hp (fun _ hk => hk) trivial (bR_q _ _) (nR_q _) (by simp) ?_; (case hd => rfl); (case hg => rfl); (case hr => exact m13_q); (case hp => exact m56_q); intro v411 w3 ho4 hb hg_ hnew_; clear hg_ hnew_; (first | rw [← Ny410.out] at ho4 | (simp only [Int.reduceToNat] at ho4; rw [← Ny410.out] at ho4)); have HO412 := Ae_q (rL_q ho4 (bZ_q (bel HB.out))); replace HB := Ae_q (bT_q (bel HB.out) hb); clear hb ho4))
 repeat (go_quiet (first | ((with_reducible refine gD_q (N := 8) rfl ?_); refine Kd.R_lit kI_q _ 3 ?hg (N := 8) ?hd (xs := ([] : List Int)) (inner := []) (ok := fun _ => True) (okp := fun _ => True) ?hr ?hp (fun _ hk => hk) trivial (bR_q _ _) (nR_q _) (by simp) ?_; (case hd => rfl); (case hg => rfl); (case hr => exact m13_q); (case hp => exact m56_q); intro v411 w3 ho4 hb hg_ hnew_; clear hg_ hnew_; (first | rw [← Ny410.out] at ho4 | (simp only [Int.reduceToNat] at ho4; rw [← Ny410.out] at ho4)); have HO412 := Ae_q (rL_q ho4 (bZ_q (bel HB.out))); replace HB := Ae_q (bT_q (bel HB.out) hb); clear hb ho4)); try go_wp2_with (first | ((with_reducible refine gD_q (N := 8) rfl ?_); refine Kd.R_lit kI_q _ 3 ?hg (N := 8) ?hd (xs := ([] : List Int)) (inner := []) (ok := fun _ => True) (okp := fun _ => True) ?hr ?hp (fun _ hk => hk) trivial (bR_q _ _) (nR_q _) (by simp) ?_; (case hd => rfl); (case hg => rfl); (case hr => exact m13_q); (case hp => exact m56_q); intro v411 w3 ho4 hb hg_ hnew_; clear hg_ hnew_; (first | rw [← Ny410.out] at ho4 | (simp only [Int.reduceToNat] at ho4; rw [← Ny410.out] at ho4)); have HO412 := Ae_q (rL_q ho4 (bZ_q (bel HB.out))); replace HB := Ae_q (bT_q (bel HB.out) hb); clear hb ho4)))
 go_loopg [5, 6] k (fun kq v5 v6 w' => ∃ (x5_1 : List Int) (x6_1 : Int), v6 = .int .i64 x6_1 ∧ Aside0 (spec_PlatesWrong.l0 kq l0 l1 x5_1 x6_1 = some r) ∧ Aside0 (kq ≤ k) ∧ Aside0 (Kd.R kI_q 3 w' w.heap.size (fun _ => True) v5 x5_1) ∧ Aside0 (Below w.heap.size w w'))
 case atStart => exact ⟨(y410), (0), m5_q, H', ⟨nR_q _⟩, ⟨rup HO412.out⟩, ⟨bel HB.out⟩⟩
 case round =>
  clear H'
  try clear c1
  try clear p2
  try clear c3
  obtain ⟨x5_1, x6_1, rfl, HA, HK1, HO_5, HB⟩ := hrel
  cases gk with
  | zero => exact absurd HA.out (by simp [spec_PlatesWrong.l0])
  | succ k1 =>
   have H := HA.out
   clear HA
   simp only [spec_PlatesWrong.l0] at H
   have HC5 := Ae_q H
   clear H
   go_upto_region 3 with (fail)
   repeat (go_quiet (fail); go_upto_region 3 with (fail))
   go_cut [17] (fun v17 wc => ∃ (kq : Nat) (x17_4 : Bool), v17 = .bool x17_4 ∧ Aside0 (spec_PlatesWrong.j1 kq l0 l1 x5_1 x6_1 x17_4 = some r) ∧ Aside0 (kq ≤ k1) ∧ Aside0 (Kd.R kI_q 3 wc w.heap.size (fun _ => True) u5 x5_1) ∧ Aside0 (Below w.heap.size w wc))
   case first =>
    have H := HC5.out
    clear HC5
    by_cases c6 : x6_1 < (l1.length : Int)
    rotate_left
    ·rw [if_neg c6] at H
     have c6b0 : decide (x6_1 < (l1.length : Int)) = false := dF_q c6
     clear c6
     (first | rw [c6b0] | (simp only [i64_w, i32_w]; rw [c6b0]) | skip)
     have H' := Ae_q H
     clear H
     go_wp2
     repeat (go_quiet (fail); try go_wp2)
     go_meet
     case rel => exact ⟨_, (false), m5_q, H', ⟨m52_q⟩, ⟨rup HO_5.out⟩, ⟨bel HB.out⟩⟩
    rw [if_pos c6] at H
    have c6b0 : decide (x6_1 < (l1.length : Int)) = true := dT_q c6
    clear c6
    (first | rw [c6b0] | (simp only [i64_w, i32_w]; rw [c6b0]) | skip)
    replace H := oB_q.mp H
    obtain ⟨t413, A70, H⟩ := H
    replace H : (spec_PlatesWrong.j1 k1 l0 l1 x5_1 x6_1 t413) = some r := H
    have A7 := Ae_q A70
    clear A70
    have H' := Ae_q H
    clear H
    go_wp2_with (first | (go_at_call 31; (with_reducible refine (spec_PlatesValid.calls k1 _ _ l0 _ _ l1 t413 _ ?side1 ?side2 ?side3 ?side4 A7.out).mono ?_); (case side1 => exact m37_q); (case side2 => exact m41_q); (case side3 => exact m61_q); (case side4 => exact HC1.out); rintro e w' ⟨rfl, hb⟩; replace HO_5 := Ae_q (rO_q (rup HO_5.out) hb); replace HB := Ae_q (bT_q (bel HB.out) hb); (try clear hb); (try clear hb2); (try clear hk); (try clear hi)))
    repeat (go_quiet (first | (go_at_call 31; (with_reducible refine (spec_PlatesValid.calls k1 _ _ l0 _ _ l1 t413 _ ?side1 ?side2 ?side3 ?side4 A7.out).mono ?_); (case side1 => exact m37_q); (case side2 => exact m41_q); (case side3 => exact m61_q); (case side4 => exact HC1.out); rintro e w' ⟨rfl, hb⟩; replace HO_5 := Ae_q (rO_q (rup HO_5.out) hb); replace HB := Ae_q (bT_q (bel HB.out) hb); (try clear hb); (try clear hb2); (try clear hk); (try clear hi))); try go_wp2_with (first | (go_at_call 31; (with_reducible refine (spec_PlatesValid.calls k1 _ _ l0 _ _ l1 t413 _ ?side1 ?side2 ?side3 ?side4 A7.out).mono ?_); (case side1 => exact m37_q); (case side2 => exact m41_q); (case side3 => exact m61_q); (case side4 => exact HC1.out); rintro e w' ⟨rfl, hb⟩; replace HO_5 := Ae_q (rO_q (rup HO_5.out) hb); replace HB := Ae_q (bT_q (bel HB.out) hb); (try clear hb); (try clear hb2); (try clear hk); (try clear hi))))
    go_meet
    case rel => exact ⟨_, (t413), m5_q, H', ⟨m52_q⟩, ⟨rup HO_5.out⟩, ⟨bel HB.out⟩⟩
   case rest =>
    clear HC5
    try clear c1
    try clear p2
    try clear c3
    try clear c6
    try clear c6b0
    try clear p2
    obtain ⟨kq, x17_4, rfl, HA, HJ4, HO_5, HB⟩ := hcut
    cases kq with
    | zero => exact absurd HA.out (by simp [spec_PlatesWrong.j1])
    | succ kj4 =>
     have H := HA.out
     clear HA
     simp only [spec_PlatesWrong.j1] at H
     by_cases c9 : x17_4 = true
     rotate_left
     ·replace c9 := fM_q.mpr c9
      subst c9
      have H1 : (some x5_1) = some r := by rw [if_neg (show ¬ (false = true) by decide)] at H; exact H
      clear H
      have H := H1
      clear H1
      obtain rfl := oI_q H
      go_wp2
      repeat (go_quiet (fail); try go_wp2)
      go_ret
      exact ⟨_, m7_q, rup HO_5.out, bel HB.out⟩
     subst c9
     have H1 : (if 0 ≤ x6_1 then (if x6_1 < (l1.length : Int) then ((spec_l42Find.f kj4 l0 ((rd_T49 l1 x6_1).f1)).bind fun t415 => (if 0 ≤ t415 then (if t415 < (l0.length : Int) then ((spec_l6In.f ((rd_T49 l1 x6_1).f2) ((rd_T39 l0 t415).f2) ((rd_T39 l0 t415).f3)).bind fun t419 => (if t419 = true then (spec_PlatesWrong.l0 kj4 l0 l1 x5_1 (wrap64 (x6_1 + 1))) else (if x5_1.length < 17592186044416 then (spec_PlatesWrong.l0 kj4 l0 l1 (x5_1 ++ [x6_1]) (wrap64 (x6_1 + 1))) else (none)))) else (none)) else (none))) else (none)) else (none)) = some r := by rw [if_pos rfl] at H; exact H
     clear H
     have H := H1
     clear H1
     by_cases c10 : 0 ≤ x6_1
     rotate_left
     ·rw [if_neg c10] at H
      exact absurd H (by simp)
     rw [if_pos c10] at H
     have c10b0 : decide (0 ≤ x6_1) = true := dT_q c10
     clear c10
     by_cases c11 : x6_1 < (l1.length : Int)
     rotate_left
     ·rw [if_neg c11] at H
      exact absurd H (by simp)
     rw [if_pos c11] at H
     have c11b0 : decide (x6_1 < (l1.length : Int)) = true := dT_q c11
     clear c11
     replace H := oB_q.mp H
     obtain ⟨t415, A120, H⟩ := H
     replace H : (if 0 ≤ t415 then (if t415 < (l0.length : Int) then ((spec_l6In.f ((rd_T49 l1 x6_1).f2) ((rd_T39 l0 t415).f2) ((rd_T39 l0 t415).f3)).bind fun t419 => (if t419 = true then (spec_PlatesWrong.l0 kj4 l0 l1 x5_1 (wrap64 (x6_1 + 1))) else (if x5_1.length < 17592186044416 then (spec_PlatesWrong.l0 kj4 l0 l1 (x5_1 ++ [x6_1]) (wrap64 (x6_1 + 1))) else (none)))) else (none)) else (none)) = some r := H
     have A12 := Ae_q A120
     clear A120
     by_cases c13 : 0 ≤ t415
     rotate_left
     ·rw [if_neg c13] at H
      exact absurd H (by simp)
     rw [if_pos c13] at H
     have c13b0 : decide (0 ≤ t415) = true := dT_q c13
     clear c13
     by_cases c14 : t415 < (l0.length : Int)
     rotate_left
     ·rw [if_neg c14] at H
      exact absurd H (by simp)
     rw [if_pos c14] at H
     have c14b0 : decide (t415 < (l0.length : Int)) = true := dT_q c14
     clear c14
     replace H := oB_q.mp H
     obtain ⟨t419, A150, H⟩ := H
     replace H : (if t419 = true then (spec_PlatesWrong.l0 kj4 l0 l1 x5_1 (wrap64 (x6_1 + 1))) else (if x5_1.length < 17592186044416 then (spec_PlatesWrong.l0 kj4 l0 l1 (x5_1 ++ [x6_1]) (wrap64 (x6_1 + 1))) else (none))) = some r := H
     have A15 := Ae_q A150
     clear A150
     by_cases c16 : t419 = true
     ·subst c16
      have H1 : (spec_PlatesWrong.l0 kj4 l0 l1 x5_1 (wrap64 (x6_1 + 1))) = some r := by rw [if_pos rfl] at H; exact H
      clear H
      have H := H1
      clear H1
      have H' := Ae_q H
      clear H
      have p414 : 0 ≤ (x6_1 : Int) := oD_q (by assumption)
      have q414 : x6_1 < (l1.length : Int) := oD_q (by assumption)
      obtain ⟨ad414, e414, hx414_0, hx414_1, hx414_2⟩ := at_T49 HR1.out x6_1 p414 q414
      cases e414
      replace hx414_0 := cel HB.out hx414_0
      replace hx414_1 := cel HB.out hx414_1
      replace hx414_2 := cel HB.out hx414_2
      replace p414 := eq_true p414
      replace q414 := eq_true q414
      go_wp2_with (first | (go_at_call 60; (with_reducible refine (spec_l42Find.calls kj4 _ _ l0 ((rd_T49 l1 x6_1).f1) t415 _ ?side1 ?side2 A12.out).mono ?_); (case side1 => exact m37_q); (case side2 => exact m41_q); rintro e w' ⟨rfl, ⟨nd, rfl⟩⟩; (try first | exact ⟨rfl, _, wD_q _ _ _⟩ | exact ⟨rfl, _, Eq.trans (wD_q _ _ _) (congrArg (World.drewN _) (nA_q _ _ _))⟩); have p416 : 0 ≤ (t415 : Int) := oD_q (by assumption); have q416 : t415 < (l0.length : Int) := oD_q (by assumption); obtain ⟨ad416, A416_1, c416_1, e416, hx416_0, hx416_1, hx416_2, hx416_3, hl416_1, hi416_1⟩ := at_T39 HR0.out t415 p416 q416; cases e416; replace hx416_0 := cel HB.out hx416_0; replace hx416_1 := cel HB.out hx416_1; replace hx416_2 := cel HB.out hx416_2; replace hx416_3 := cel HB.out hx416_3; have HR416_1 := Ae_q hi416_1; have HC416_1 := Ae_q hl416_1; clear hi416_1 hl416_1; replace p416 := eq_true p416; replace q416 := eq_true q416) | ((with_reducible refine gD_q (N := 7) rfl ?_); refine bE_q ?hg (N := 7) ?hd (cs := #[.int .i64 0, .slice none 0 0, .int .i64 0, .int .i64 0]) (t := 39) ?hr ?_; (case hd => rfl); (case hg => rfl); (case hr => exact m13_q); intro gb417 hg w17 hbox hb; replace HO_5 := Ae_q (rO_q (rup HO_5.out) hb); have BK417 := Ae_q (hbox); have GW417 := Ae_q ((by rw [hg]; exact (bZ_q (bel HB.out)) : w.heap.size ≤ gb417)); have GE417 := Ae_q ((by rw [hg]; exact (bZ_q (bel HB.out)) : w.heap.size ≤ gb417)); replace HB := Ae_q (bT_q (bel HB.out) hb); clear hb hbox hg; have hcz18_0 : cI w17 gb417 0 0 := cZ BK417 0 rfl; have hcz18_1 : w17.cell? ⟨gb417, 1, none⟩ = some (.slice none 0 0) := (bC_q BK417.out 1).trans rfl; have hcz18_2 : cI w17 gb417 2 0 := cZ BK417 2 rfl; have hcz18_3 : cI w17 gb417 3 0 := cZ BK417 3 rfl; have hfz18_0 := bF_q BK417.out 0; have hfz18_1 := bF_q BK417.out 1; have hfz18_2 := bF_q BK417.out 2; have hfz18_3 := bF_q BK417.out 3; have p418 : 0 ≤ (x6_1 : Int) := oD_q (by assumption); have q418 : x6_1 < (l1.length : Int) := oD_q (by assumption); obtain ⟨ad418, e418, hx418_0, hx418_1, hx418_2⟩ := at_T49 HR1.out x6_1 p418 q418; obtain rfl : ad414 = ad418 := (by injection e418); have hn418_0 : ad414.block ≠ gb417 := nL_q (Nat.lt_of_lt_of_le m15_q GW417.out); have hn418_1 : ad414.block ≠ gb417 := nL_q (Nat.lt_of_lt_of_le m15_q GW417.out); have hn418_2 : ad414.block ≠ gb417 := nL_q (Nat.lt_of_lt_of_le m15_q GW417.out); have hn418_3 : ad414.block ≠ gb417 := nL_q (Nat.lt_of_lt_of_le m15_q GW417.out); replace hx418_0 := cel HB.out hx418_0; replace hx418_1 := cel HB.out hx418_1; replace hx418_2 := cel HB.out hx418_2; replace hx418_0 := (cell_far (p := ⟨gb417, 0, none⟩) m9_q (.int .i64 ((rd_T39 l0 t415).f0))).trans hx418_0; replace hx418_1 := (cell_far (p := ⟨gb417, 0, none⟩) m9_q (.int .i64 ((rd_T39 l0 t415).f0))).trans hx418_1; replace hx418_2 := (cell_far (p := ⟨gb417, 0, none⟩) m9_q (.int .i64 ((rd_T39 l0 t415).f0))).trans hx418_2; replace hx418_0 := (cell_far (p := ⟨gb417, 1, none⟩) m10_q (.slice A416_1 ((rd_T39 l0 t415).f1).length c416_1)).trans hx418_0; replace hx418_1 := (cell_far (p := ⟨gb417, 1, none⟩) m10_q (.slice A416_1 ((rd_T39 l0 t415).f1).length c416_1)).trans hx418_1; replace hx418_2 := (cell_far (p := ⟨gb417, 1, none⟩) m10_q (.slice A416_1 ((rd_T39 l0 t415).f1).length c416_1)).trans hx418_2; replace hx418_0 := (cell_far (p := ⟨gb417, 2, none⟩) m11_q (.int .i64 ((rd_T39 l0 t415).f2))).trans hx418_0; replace hx418_1 := (cell_far (p := ⟨gb417, 2, none⟩) m11_q (.int .i64 ((rd_T39 l0 t415).f2))).trans hx418_1; replace hx418_2 := (cell_far (p := ⟨gb417, 2, none⟩) m11_q (.int .i64 ((rd_T39 l0 t415).f2))).trans hx418_2; replace hx418_0 := (cell_far (p := ⟨gb417, 3, none⟩) m12_q (.int .i64 ((rd_T39 l0 t415).f3))).trans hx418_0; replace hx418_1 := (cell_far (p := ⟨gb417, 3, none⟩) m12_q (.int .i64 ((rd_T39 l0 t415).f3))).trans hx418_1; replace hx418_2 := (cell_far (p := ⟨gb417, 3, none⟩) m12_q (.int .i64 ((rd_T39 l0 t415).f3))).trans hx418_2; (try have hy418_0 := fun (n_ : Nat) => (show ((((((w17.drewN n_).setCell ⟨gb417, 0, none⟩ (.int .i64 ((rd_T39 l0 t415).f0))).setCell ⟨gb417, 1, none⟩ (.slice A416_1 ((rd_T39 l0 t415).f1).length c416_1)).setCell ⟨gb417, 2, none⟩ (.int .i64 ((rd_T39 l0 t415).f2))).setCell ⟨gb417, 3, none⟩ (.int .i64 ((rd_T39 l0 t415).f3)))).cell? _ = some _ from hx418_0)); (try have hy418_1 := fun (n_ : Nat) => (show ((((((w17.drewN n_).setCell ⟨gb417, 0, none⟩ (.int .i64 ((rd_T39 l0 t415).f0))).setCell ⟨gb417, 1, none⟩ (.slice A416_1 ((rd_T39 l0 t415).f1).length c416_1)).setCell ⟨gb417, 2, none⟩ (.int .i64 ((rd_T39 l0 t415).f2))).setCell ⟨gb417, 3, none⟩ (.int .i64 ((rd_T39 l0 t415).f3)))).cell? _ = some _ from hx418_1)); (try have hy418_2 := fun (n_ : Nat) => (show ((((((w17.drewN n_).setCell ⟨gb417, 0, none⟩ (.int .i64 ((rd_T39 l0 t415).f0))).setCell ⟨gb417, 1, none⟩ (.slice A416_1 ((rd_T39 l0 t415).f1).length c416_1)).setCell ⟨gb417, 2, none⟩ (.int .i64 ((rd_T39 l0 t415).f2))).setCell ⟨gb417, 3, none⟩ (.int .i64 ((rd_T39 l0 t415).f3)))).cell? _ = some _ from hx418_2)); clear hn418_0; clear hn418_1; clear hn418_2; clear hn418_3; replace p418 := eq_true p418; replace q418 := eq_true q418) | (go_at_call 59; (with_reducible refine (spec_l6In.calls ((rd_T49 l1 x6_1).f2) ((rd_T39 l0 t415).f2) ((rd_T39 l0 t415).f3) true _ A15.out).mono ?_); rintro e w' ⟨rfl, ⟨nd, rfl⟩⟩; (try first | exact ⟨rfl, _, wD_q _ _ _⟩ | exact ⟨rfl, _, Eq.trans (wD_q _ _ _) (congrArg (World.drewN _) (nA_q _ _ _))⟩)))
      repeat (go_quiet (first | (go_at_call 60; (with_reducible refine (spec_l42Find.calls kj4 _ _ l0 ((rd_T49 l1 x6_1).f1) t415 _ ?side1 ?side2 A12.out).mono ?_); (case side1 => exact m37_q); (case side2 => exact m41_q); rintro e w' ⟨rfl, ⟨nd, rfl⟩⟩; (try first | exact ⟨rfl, _, wD_q _ _ _⟩ | exact ⟨rfl, _, Eq.trans (wD_q _ _ _) (congrArg (World.drewN _) (nA_q _ _ _))⟩); have p416 : 0 ≤ (t415 : Int) := oD_q (by assumption); have q416 : t415 < (l0.length : Int) := oD_q (by assumption); obtain ⟨ad416, A416_1, c416_1, e416, hx416_0, hx416_1, hx416_2, hx416_3, hl416_1, hi416_1⟩ := at_T39 HR0.out t415 p416 q416; cases e416; replace hx416_0 := cel HB.out hx416_0; replace hx416_1 := cel HB.out hx416_1; replace hx416_2 := cel HB.out hx416_2; replace hx416_3 := cel HB.out hx416_3; have HR416_1 := Ae_q hi416_1; have HC416_1 := Ae_q hl416_1; clear hi416_1 hl416_1; replace p416 := eq_true p416; replace q416 := eq_true q416) | ((with_reducible refine gD_q (N := 7) rfl ?_); refine bE_q ?hg (N := 7) ?hd (cs := #[.int .i64 0, .slice none 0 0, .int .i64 0, .int .i64 0]) (t := 39) ?hr ?_; (case hd => rfl); (case hg => rfl); (case hr => exact m13_q); intro gb417 hg w17 hbox hb; replace HO_5 := Ae_q (rO_q (rup HO_5.out) hb); have BK417 := Ae_q (hbox); have GW417 := Ae_q ((by rw [hg]; exact (bZ_q (bel HB.out)) : w.heap.size ≤ gb417)); have GE417 := Ae_q ((by rw [hg]; exact (bZ_q (bel HB.out)) : w.heap.size ≤ gb417)); replace HB := Ae_q (bT_q (bel HB.out) hb); clear hb hbox hg; have hcz18_0 : cI w17 gb417 0 0 := cZ BK417 0 rfl; have hcz18_1 : w17.cell? ⟨gb417, 1, none⟩ = some (.slice none 0 0) := (bC_q BK417.out 1).trans rfl; have hcz18_2 : cI w17 gb417 2 0 := cZ BK417 2 rfl; have hcz18_3 : cI w17 gb417 3 0 := cZ BK417 3 rfl; have hfz18_0 := bF_q BK417.out 0; have hfz18_1 := bF_q BK417.out 1; have hfz18_2 := bF_q BK417.out 2; have hfz18_3 := bF_q BK417.out 3; have p418 : 0 ≤ (x6_1 : Int) := oD_q (by assumption); have q418 : x6_1 < (l1.length : Int) := oD_q (by assumption); obtain ⟨ad418, e418, hx418_0, hx418_1, hx418_2⟩ := at_T49 HR1.out x6_1 p418 q418; obtain rfl : ad414 = ad418 := (by injection e418); have hn418_0 : ad414.block ≠ gb417 := nL_q (Nat.lt_of_lt_of_le m15_q GW417.out); have hn418_1 : ad414.block ≠ gb417 := nL_q (Nat.lt_of_lt_of_le m15_q GW417.out); have hn418_2 : ad414.block ≠ gb417 := nL_q (Nat.lt_of_lt_of_le m15_q GW417.out); have hn418_3 : ad414.block ≠ gb417 := nL_q (Nat.lt_of_lt_of_le m15_q GW417.out); replace hx418_0 := cel HB.out hx418_0; replace hx418_1 := cel HB.out hx418_1; replace hx418_2 := cel HB.out hx418_2; replace hx418_0 := (cell_far (p := ⟨gb417, 0, none⟩) m9_q (.int .i64 ((rd_T39 l0 t415).f0))).trans hx418_0; replace hx418_1 := (cell_far (p := ⟨gb417, 0, none⟩) m9_q (.int .i64 ((rd_T39 l0 t415).f0))).trans hx418_1; replace hx418_2 := (cell_far (p := ⟨gb417, 0, none⟩) m9_q (.int .i64 ((rd_T39 l0 t415).f0))).trans hx418_2; replace hx418_0 := (cell_far (p := ⟨gb417, 1, none⟩) m10_q (.slice A416_1 ((rd_T39 l0 t415).f1).length c416_1)).trans hx418_0; replace hx418_1 := (cell_far (p := ⟨gb417, 1, none⟩) m10_q (.slice A416_1 ((rd_T39 l0 t415).f1).length c416_1)).trans hx418_1; replace hx418_2 := (cell_far (p := ⟨gb417, 1, none⟩) m10_q (.slice A416_1 ((rd_T39 l0 t415).f1).length c416_1)).trans hx418_2; replace hx418_0 := (cell_far (p := ⟨gb417, 2, none⟩) m11_q (.int .i64 ((rd_T39 l0 t415).f2))).trans hx418_0; replace hx418_1 := (cell_far (p := ⟨gb417, 2, none⟩) m11_q (.int .i64 ((rd_T39 l0 t415).f2))).trans hx418_1; replace hx418_2 := (cell_far (p := ⟨gb417, 2, none⟩) m11_q (.int .i64 ((rd_T39 l0 t415).f2))).trans hx418_2; replace hx418_0 := (cell_far (p := ⟨gb417, 3, none⟩) m12_q (.int .i64 ((rd_T39 l0 t415).f3))).trans hx418_0; replace hx418_1 := (cell_far (p := ⟨gb417, 3, none⟩) m12_q (.int .i64 ((rd_T39 l0 t415).f3))).trans hx418_1; replace hx418_2 := (cell_far (p := ⟨gb417, 3, none⟩) m12_q (.int .i64 ((rd_T39 l0 t415).f3))).trans hx418_2; (try have hy418_0 := fun (n_ : Nat) => (show ((((((w17.drewN n_).setCell ⟨gb417, 0, none⟩ (.int .i64 ((rd_T39 l0 t415).f0))).setCell ⟨gb417, 1, none⟩ (.slice A416_1 ((rd_T39 l0 t415).f1).length c416_1)).setCell ⟨gb417, 2, none⟩ (.int .i64 ((rd_T39 l0 t415).f2))).setCell ⟨gb417, 3, none⟩ (.int .i64 ((rd_T39 l0 t415).f3)))).cell? _ = some _ from hx418_0)); (try have hy418_1 := fun (n_ : Nat) => (show ((((((w17.drewN n_).setCell ⟨gb417, 0, none⟩ (.int .i64 ((rd_T39 l0 t415).f0))).setCell ⟨gb417, 1, none⟩ (.slice A416_1 ((rd_T39 l0 t415).f1).length c416_1)).setCell ⟨gb417, 2, none⟩ (.int .i64 ((rd_T39 l0 t415).f2))).setCell ⟨gb417, 3, none⟩ (.int .i64 ((rd_T39 l0 t415).f3)))).cell? _ = some _ from hx418_1)); (try have hy418_2 := fun (n_ : Nat) => (show ((((((w17.drewN n_).setCell ⟨gb417, 0, none⟩ (.int .i64 ((rd_T39 l0 t415).f0))).setCell ⟨gb417, 1, none⟩ (.slice A416_1 ((rd_T39 l0 t415).f1).length c416_1)).setCell ⟨gb417, 2, none⟩ (.int .i64 ((rd_T39 l0 t415).f2))).setCell ⟨gb417, 3, none⟩ (.int .i64 ((rd_T39 l0 t415).f3)))).cell? _ = some _ from hx418_2)); clear hn418_0; clear hn418_1; clear hn418_2; clear hn418_3; replace p418 := eq_true p418; replace q418 := eq_true q418) | (go_at_call 59; (with_reducible refine (spec_l6In.calls ((rd_T49 l1 x6_1).f2) ((rd_T39 l0 t415).f2) ((rd_T39 l0 t415).f3) true _ A15.out).mono ?_); rintro e w' ⟨rfl, ⟨nd, rfl⟩⟩; (try first | exact ⟨rfl, _, wD_q _ _ _⟩ | exact ⟨rfl, _, Eq.trans (wD_q _ _ _) (congrArg (World.drewN _) (nA_q _ _ _))⟩))); try go_wp2_with (first | (go_at_call 60; (with_reducible refine (spec_l42Find.calls kj4 _ _ l0 ((rd_T49 l1 x6_1).f1) t415 _ ?side1 ?side2 A12.out).mono ?_); (case side1 => exact m37_q); (case side2 => exact m41_q); rintro e w' ⟨rfl, ⟨nd, rfl⟩⟩; (try first | exact ⟨rfl, _, wD_q _ _ _⟩ | exact ⟨rfl, _, Eq.trans (wD_q _ _ _) (congrArg (World.drewN _) (nA_q _ _ _))⟩); have p416 : 0 ≤ (t415 : Int) := oD_q (by assumption); have q416 : t415 < (l0.length : Int) := oD_q (by assumption); obtain ⟨ad416, A416_1, c416_1, e416, hx416_0, hx416_1, hx416_2, hx416_3, hl416_1, hi416_1⟩ := at_T39 HR0.out t415 p416 q416; cases e416; replace hx416_0 := cel HB.out hx416_0; replace hx416_1 := cel HB.out hx416_1; replace hx416_2 := cel HB.out hx416_2; replace hx416_3 := cel HB.out hx416_3; have HR416_1 := Ae_q hi416_1; have HC416_1 := Ae_q hl416_1; clear hi416_1 hl416_1; replace p416 := eq_true p416; replace q416 := eq_true q416) | ((with_reducible refine gD_q (N := 7) rfl ?_); refine bE_q ?hg (N := 7) ?hd (cs := #[.int .i64 0, .slice none 0 0, .int .i64 0, .int .i64 0]) (t := 39) ?hr ?_; (case hd => rfl); (case hg => rfl); (case hr => exact m13_q); intro gb417 hg w17 hbox hb; replace HO_5 := Ae_q (rO_q (rup HO_5.out) hb); have BK417 := Ae_q (hbox); have GW417 := Ae_q ((by rw [hg]; exact (bZ_q (bel HB.out)) : w.heap.size ≤ gb417)); have GE417 := Ae_q ((by rw [hg]; exact (bZ_q (bel HB.out)) : w.heap.size ≤ gb417)); replace HB := Ae_q (bT_q (bel HB.out) hb); clear hb hbox hg; have hcz18_0 : cI w17 gb417 0 0 := cZ BK417 0 rfl; have hcz18_1 : w17.cell? ⟨gb417, 1, none⟩ = some (.slice none 0 0) := (bC_q BK417.out 1).trans rfl; have hcz18_2 : cI w17 gb417 2 0 := cZ BK417 2 rfl; have hcz18_3 : cI w17 gb417 3 0 := cZ BK417 3 rfl; have hfz18_0 := bF_q BK417.out 0; have hfz18_1 := bF_q BK417.out 1; have hfz18_2 := bF_q BK417.out 2; have hfz18_3 := bF_q BK417.out 3; have p418 : 0 ≤ (x6_1 : Int) := oD_q (by assumption); have q418 : x6_1 < (l1.length : Int) := oD_q (by assumption); obtain ⟨ad418, e418, hx418_0, hx418_1, hx418_2⟩ := at_T49 HR1.out x6_1 p418 q418; obtain rfl : ad414 = ad418 := (by injection e418); have hn418_0 : ad414.block ≠ gb417 := nL_q (Nat.lt_of_lt_of_le m15_q GW417.out); have hn418_1 : ad414.block ≠ gb417 := nL_q (Nat.lt_of_lt_of_le m15_q GW417.out); have hn418_2 : ad414.block ≠ gb417 := nL_q (Nat.lt_of_lt_of_le m15_q GW417.out); have hn418_3 : ad414.block ≠ gb417 := nL_q (Nat.lt_of_lt_of_le m15_q GW417.out); replace hx418_0 := cel HB.out hx418_0; replace hx418_1 := cel HB.out hx418_1; replace hx418_2 := cel HB.out hx418_2; replace hx418_0 := (cell_far (p := ⟨gb417, 0, none⟩) m9_q (.int .i64 ((rd_T39 l0 t415).f0))).trans hx418_0; replace hx418_1 := (cell_far (p := ⟨gb417, 0, none⟩) m9_q (.int .i64 ((rd_T39 l0 t415).f0))).trans hx418_1; replace hx418_2 := (cell_far (p := ⟨gb417, 0, none⟩) m9_q (.int .i64 ((rd_T39 l0 t415).f0))).trans hx418_2; replace hx418_0 := (cell_far (p := ⟨gb417, 1, none⟩) m10_q (.slice A416_1 ((rd_T39 l0 t415).f1).length c416_1)).trans hx418_0; replace hx418_1 := (cell_far (p := ⟨gb417, 1, none⟩) m10_q (.slice A416_1 ((rd_T39 l0 t415).f1).length c416_1)).trans hx418_1; replace hx418_2 := (cell_far (p := ⟨gb417, 1, none⟩) m10_q (.slice A416_1 ((rd_T39 l0 t415).f1).length c416_1)).trans hx418_2; replace hx418_0 := (cell_far (p := ⟨gb417, 2, none⟩) m11_q (.int .i64 ((rd_T39 l0 t415).f2))).trans hx418_0; replace hx418_1 := (cell_far (p := ⟨gb417, 2, none⟩) m11_q (.int .i64 ((rd_T39 l0 t415).f2))).trans hx418_1; replace hx418_2 := (cell_far (p := ⟨gb417, 2, none⟩) m11_q (.int .i64 ((rd_T39 l0 t415).f2))).trans hx418_2; replace hx418_0 := (cell_far (p := ⟨gb417, 3, none⟩) m12_q (.int .i64 ((rd_T39 l0 t415).f3))).trans hx418_0; replace hx418_1 := (cell_far (p := ⟨gb417, 3, none⟩) m12_q (.int .i64 ((rd_T39 l0 t415).f3))).trans hx418_1; replace hx418_2 := (cell_far (p := ⟨gb417, 3, none⟩) m12_q (.int .i64 ((rd_T39 l0 t415).f3))).trans hx418_2; (try have hy418_0 := fun (n_ : Nat) => (show ((((((w17.drewN n_).setCell ⟨gb417, 0, none⟩ (.int .i64 ((rd_T39 l0 t415).f0))).setCell ⟨gb417, 1, none⟩ (.slice A416_1 ((rd_T39 l0 t415).f1).length c416_1)).setCell ⟨gb417, 2, none⟩ (.int .i64 ((rd_T39 l0 t415).f2))).setCell ⟨gb417, 3, none⟩ (.int .i64 ((rd_T39 l0 t415).f3)))).cell? _ = some _ from hx418_0)); (try have hy418_1 := fun (n_ : Nat) => (show ((((((w17.drewN n_).setCell ⟨gb417, 0, none⟩ (.int .i64 ((rd_T39 l0 t415).f0))).setCell ⟨gb417, 1, none⟩ (.slice A416_1 ((rd_T39 l0 t415).f1).length c416_1)).setCell ⟨gb417, 2, none⟩ (.int .i64 ((rd_T39 l0 t415).f2))).setCell ⟨gb417, 3, none⟩ (.int .i64 ((rd_T39 l0 t415).f3)))).cell? _ = some _ from hx418_1)); (try have hy418_2 := fun (n_ : Nat) => (show ((((((w17.drewN n_).setCell ⟨gb417, 0, none⟩ (.int .i64 ((rd_T39 l0 t415).f0))).setCell ⟨gb417, 1, none⟩ (.slice A416_1 ((rd_T39 l0 t415).f1).length c416_1)).setCell ⟨gb417, 2, none⟩ (.int .i64 ((rd_T39 l0 t415).f2))).setCell ⟨gb417, 3, none⟩ (.int .i64 ((rd_T39 l0 t415).f3)))).cell? _ = some _ from hx418_2)); clear hn418_0; clear hn418_1; clear hn418_2; clear hn418_3; replace p418 := eq_true p418; replace q418 := eq_true q418) | (go_at_call 59; (with_reducible refine (spec_l6In.calls ((rd_T49 l1 x6_1).f2) ((rd_T39 l0 t415).f2) ((rd_T39 l0 t415).f3) true _ A15.out).mono ?_); rintro e w' ⟨rfl, ⟨nd, rfl⟩⟩; (try first | exact ⟨rfl, _, wD_q _ _ _⟩ | exact ⟨rfl, _, Eq.trans (wD_q _ _ _) (congrArg (World.drewN _) (nA_q _ _ _))⟩))))
      go_roundg kj4
      case measure => have := HK1.out; have := HJ4.out; omega
      case rel => exact ⟨(x5_1), (wrap64 (x6_1 + 1)), m5_q, H', ⟨by have := HK1.out; have := HJ4.out; omega⟩, ⟨by (with_reducible repeat (first | apply rA_q | apply rN_q | apply rD_q)); exact rM_q (Kd.R_far (p := ⟨gb417, 3, none⟩) (Kd.R_far (p := ⟨gb417, 2, none⟩) (Kd.R_far (p := ⟨gb417, 1, none⟩) (Kd.R_far (p := ⟨gb417, 0, none⟩) (Kd.R_types HO_5.out BK417.out (by decide)) (fun _ hk => hk.2) (.int .i64 ((rd_T39 l0 t415).f0))) (fun _ hk => hk.2) (.slice A416_1 ((rd_T39 l0 t415).f1).length c416_1)) (fun _ hk => hk.2) (.int .i64 ((rd_T39 l0 t415).f2))) (fun _ hk => hk.2) (.int .i64 ((rd_T39 l0 t415).f3))) (fun _ hk => trivial)⟩, ⟨m26_q⟩⟩
     replace c16 := fM_q.mpr c16
     subst c16
     have H1 : (if x5_1.length < 17592186044416 then (spec_PlatesWrong.l0 kj4 l0 l1 (x5_1 ++ [x6_1]) (wrap64 (x6_1 + 1))) else (none)) = some r := by rw [if_neg (show ¬ (false = true) by decide)] at H; exact H
     clear H
     have H := H1
     clear H1
     by_cases c19 : x5_1.length < 17592186044416
     rotate_left
     ·rw [if_neg c19] at H
      exact absurd H (by simp)
     rw [if_pos c19] at H
     have LMc19 := Ae_q c19
     clear c19
     obtain ⟨y420, hy420⟩ : ∃ y_ : List Int, y_ = (x5_1 ++ [x6_1]) := ⟨_, rfl⟩
     replace H : (spec_PlatesWrong.l0 kj4 l0 l1 y420 (wrap64 (x6_1 + 1))) = some r := by first | (rw [hy420]; with_reducible exact H) | (have H2_ := (oS_q _ _).symm.trans H; rw [hy420]; with_reducible exact H2_) | (have H2_ := (oS_q _ _).symm.trans H; with_reducible exact H2_) | with_reducible exact H | (rw [hy420]; exact H) | exact H
     have Ny420 := Ae_q hy420
     clear hy420
     have H' := Ae_q H
     clear H
     have p414 : 0 ≤ (x6_1 : Int) := oD_q (by assumption)
     have q414 : x6_1 < (l1.length : Int) := oD_q (by assumption)
     obtain ⟨ad414, e414, hx414_0, hx414_1, hx414_2⟩ := at_T49 HR1.out x6_1 p414 q414
     cases e414
     replace hx414_0 := cel HB.out hx414_0
     replace hx414_1 := cel HB.out hx414_1
     replace hx414_2 := cel HB.out hx414_2
     replace p414 := eq_true p414
     replace q414 := eq_true q414
     go_wp2_with (first | (go_at_call 60; (with_reducible refine (spec_l42Find.calls kj4 _ _ l0 ((rd_T49 l1 x6_1).f1) t415 _ ?side1 ?side2 A12.out).mono ?_); (case side1 => exact m37_q); (case side2 => exact m41_q); rintro e w' ⟨rfl, ⟨nd, rfl⟩⟩; (try first | exact ⟨rfl, _, wD_q _ _ _⟩ | exact ⟨rfl, _, Eq.trans (wD_q _ _ _) (congrArg (World.drewN _) (nA_q _ _ _))⟩); have p416 : 0 ≤ (t415 : Int) := oD_q (by assumption); have q416 : t415 < (l0.length : Int) := oD_q (by assumption); obtain ⟨ad416, A416_1, c416_1, e416, hx416_0, hx416_1, hx416_2, hx416_3, hl416_1, hi416_1⟩ := at_T39 HR0.out t415 p416 q416; cases e416; replace hx416_0 := cel HB.out hx416_0; replace hx416_1 := cel HB.out hx416_1; replace hx416_2 := cel HB.out hx416_2; replace hx416_3 := cel HB.out hx416_3; have HR416_1 := Ae_q hi416_1; have HC416_1 := Ae_q hl416_1; clear hi416_1 hl416_1; replace p416 := eq_true p416; replace q416 := eq_true q416) | ((with_reducible refine gD_q (N := 7) rfl ?_); refine bE_q ?hg (N := 7) ?hd (cs := #[.int .i64 0, .slice none 0 0, .int .i64 0, .int .i64 0]) (t := 39) ?hr ?_; (case hd => rfl); (case hg => rfl); (case hr => exact m13_q); intro gb417 hg w20 hbox hb; replace HO_5 := Ae_q (rO_q (rup HO_5.out) hb); have BK417 := Ae_q (hbox); have GW417 := Ae_q ((by rw [hg]; exact (bZ_q (bel HB.out)) : w.heap.size ≤ gb417)); have GE417 := Ae_q ((by rw [hg]; exact (bZ_q (bel HB.out)) : w.heap.size ≤ gb417)); replace HB := Ae_q (bT_q (bel HB.out) hb); clear hb hbox hg; have hcz21_0 : cI w20 gb417 0 0 := cZ BK417 0 rfl; have hcz21_1 : w20.cell? ⟨gb417, 1, none⟩ = some (.slice none 0 0) := (bC_q BK417.out 1).trans rfl; have hcz21_2 : cI w20 gb417 2 0 := cZ BK417 2 rfl; have hcz21_3 : cI w20 gb417 3 0 := cZ BK417 3 rfl; have hfz21_0 := bF_q BK417.out 0; have hfz21_1 := bF_q BK417.out 1; have hfz21_2 := bF_q BK417.out 2; have hfz21_3 := bF_q BK417.out 3; have p418 : 0 ≤ (x6_1 : Int) := oD_q (by assumption); have q418 : x6_1 < (l1.length : Int) := oD_q (by assumption); obtain ⟨ad418, e418, hx418_0, hx418_1, hx418_2⟩ := at_T49 HR1.out x6_1 p418 q418; obtain rfl : ad414 = ad418 := (by injection e418); have hn418_0 : ad414.block ≠ gb417 := nL_q (Nat.lt_of_lt_of_le m15_q GW417.out); have hn418_1 : ad414.block ≠ gb417 := nL_q (Nat.lt_of_lt_of_le m15_q GW417.out); have hn418_2 : ad414.block ≠ gb417 := nL_q (Nat.lt_of_lt_of_le m15_q GW417.out); have hn418_3 : ad414.block ≠ gb417 := nL_q (Nat.lt_of_lt_of_le m15_q GW417.out); replace hx418_0 := cel HB.out hx418_0; replace hx418_1 := cel HB.out hx418_1; replace hx418_2 := cel HB.out hx418_2; replace hx418_0 := (cell_far (p := ⟨gb417, 0, none⟩) m9_q (.int .i64 ((rd_T39 l0 t415).f0))).trans hx418_0; replace hx418_1 := (cell_far (p := ⟨gb417, 0, none⟩) m9_q (.int .i64 ((rd_T39 l0 t415).f0))).trans hx418_1; replace hx418_2 := (cell_far (p := ⟨gb417, 0, none⟩) m9_q (.int .i64 ((rd_T39 l0 t415).f0))).trans hx418_2; replace hx418_0 := (cell_far (p := ⟨gb417, 1, none⟩) m10_q (.slice A416_1 ((rd_T39 l0 t415).f1).length c416_1)).trans hx418_0; replace hx418_1 := (cell_far (p := ⟨gb417, 1, none⟩) m10_q (.slice A416_1 ((rd_T39 l0 t415).f1).length c416_1)).trans hx418_1; replace hx418_2 := (cell_far (p := ⟨gb417, 1, none⟩) m10_q (.slice A416_1 ((rd_T39 l0 t415).f1).length c416_1)).trans hx418_2; replace hx418_0 := (cell_far (p := ⟨gb417, 2, none⟩) m11_q (.int .i64 ((rd_T39 l0 t415).f2))).trans hx418_0; replace hx418_1 := (cell_far (p := ⟨gb417, 2, none⟩) m11_q (.int .i64 ((rd_T39 l0 t415).f2))).trans hx418_1; replace hx418_2 := (cell_far (p := ⟨gb417, 2, none⟩) m11_q (.int .i64 ((rd_T39 l0 t415).f2))).trans hx418_2; replace hx418_0 := (cell_far (p := ⟨gb417, 3, none⟩) m12_q (.int .i64 ((rd_T39 l0 t415).f3))).trans hx418_0; replace hx418_1 := (cell_far (p := ⟨gb417, 3, none⟩) m12_q (.int .i64 ((rd_T39 l0 t415).f3))).trans hx418_1; replace hx418_2 := (cell_far (p := ⟨gb417, 3, none⟩) m12_q (.int .i64 ((rd_T39 l0 t415).f3))).trans hx418_2; (try have hy418_0 := fun (n_ : Nat) => (show ((((((w20.drewN n_).setCell ⟨gb417, 0, none⟩ (.int .i64 ((rd_T39 l0 t415).f0))).setCell ⟨gb417, 1, none⟩ (.slice A416_1 ((rd_T39 l0 t415).f1).length c416_1)).setCell ⟨gb417, 2, none⟩ (.int .i64 ((rd_T39 l0 t415).f2))).setCell ⟨gb417, 3, none⟩ (.int .i64 ((rd_T39 l0 t415).f3)))).cell? _ = some _ from hx418_0)); (try have hy418_1 := fun (n_ : Nat) => (show ((((((w20.drewN n_).setCell ⟨gb417, 0, none⟩ (.int .i64 ((rd_T39 l0 t415).f0))).setCell ⟨gb417, 1, none⟩ (.slice A416_1 ((rd_T39 l0 t415).f1).length c416_1)).setCell ⟨gb417, 2, none⟩ (.int .i64 ((rd_T39 l0 t415).f2))).setCell ⟨gb417, 3, none⟩ (.int .i64 ((rd_T39 l0 t415).f3)))).cell? _ = some _ from hx418_1)); (try have hy418_2 := fun (n_ : Nat) => (show ((((((w20.drewN n_).setCell ⟨gb417, 0, none⟩ (.int .i64 ((rd_T39 l0 t415).f0))).setCell ⟨gb417, 1, none⟩ (.slice A416_1 ((rd_T39 l0 t415).f1).length c416_1)).setCell ⟨gb417, 2, none⟩ (.int .i64 ((rd_T39 l0 t415).f2))).setCell ⟨gb417, 3, none⟩ (.int .i64 ((rd_T39 l0 t415).f3)))).cell? _ = some _ from hx418_2)); clear hn418_0; clear hn418_1; clear hn418_2; clear hn418_3; replace p418 := eq_true p418; replace q418 := eq_true q418) | (go_at_call 59; (with_reducible refine (spec_l6In.calls ((rd_T49 l1 x6_1).f2) ((rd_T39 l0 t415).f2) ((rd_T39 l0 t415).f3) false _ A15.out).mono ?_); rintro e w' ⟨rfl, ⟨nd, rfl⟩⟩; (try first | exact ⟨rfl, _, wD_q _ _ _⟩ | exact ⟨rfl, _, Eq.trans (wD_q _ _ _) (congrArg (World.drewN _) (nA_q _ _ _))⟩)) | ((with_reducible refine gate_builtin (b := .append) (xs := #[.tmp 41, .tmp 43]) rfl ?_); at_builtin; refine Kd.R_append kI_q (w0 := w) w.heap.size rfl (.tmp 41) (.tmp 43) 34 3 (.int .i64 0) 8 rfl Try.underlying34 info3 rfl (by decide) (by omega) u5 x5_1 x6_1 [.int .i64 x6_1] (fun _ => True) (fun _ => False) rfl m13_q ?aP (fun _ hk => hk.elim) ?aF ?aO ?aB ?aS ?aL ?_; (case aP => exact rfl); (case aB => exact m26_q); (case aF => exact m58_q); (case aO => exact (by (with_reducible repeat (first | apply rA_q | apply rN_q | apply rD_q)); exact rM_q (Kd.R_far (p := ⟨gb417, 3, none⟩) (Kd.R_far (p := ⟨gb417, 2, none⟩) (Kd.R_far (p := ⟨gb417, 1, none⟩) (Kd.R_far (p := ⟨gb417, 0, none⟩) (Kd.R_types HO_5.out BK417.out (by decide)) (fun _ hk => hk.2) (.int .i64 ((rd_T39 l0 t415).f0))) (fun _ hk => hk.2) (.slice A416_1 ((rd_T39 l0 t415).f1).length c416_1)) (fun _ hk => hk.2) (.int .i64 ((rd_T39 l0 t415).f2))) (fun _ hk => hk.2) (.int .i64 ((rd_T39 l0 t415).f3))) (fun _ hk => trivial))); (case aS => exact (bZ_q m26_q)); (case aL => have := LMc19.out; omega); intro v421 w22 ho hb hg hat; rw [← Ny420.out] at ho; replace BK417 := Ae_q (bG_q (g := gb417) (o := .cells #[.int .i64 ((rd_T39 l0 t415).f0), .slice A416_1 ((rd_T39 l0 t415).f1).length c416_1, .int .i64 ((rd_T39 l0 t415).f2), .int .i64 ((rd_T39 l0 t415).f3)] 39 (0, 0)) m6_q hg (Kd.R_ne HO_5.out BK417.out (by decide))); replace HB := Ae_q (hb); have HO422 := Ae_q (ho); clear HO_5; clear ho hb hg hat))
     repeat (go_quiet (first | (go_at_call 60; (with_reducible refine (spec_l42Find.calls kj4 _ _ l0 ((rd_T49 l1 x6_1).f1) t415 _ ?side1 ?side2 A12.out).mono ?_); (case side1 => exact m37_q); (case side2 => exact m41_q); rintro e w' ⟨rfl, ⟨nd, rfl⟩⟩; (try first | exact ⟨rfl, _, wD_q _ _ _⟩ | exact ⟨rfl, _, Eq.trans (wD_q _ _ _) (congrArg (World.drewN _) (nA_q _ _ _))⟩); have p416 : 0 ≤ (t415 : Int) := oD_q (by assumption); have q416 : t415 < (l0.length : Int) := oD_q (by assumption); obtain ⟨ad416, A416_1, c416_1, e416, hx416_0, hx416_1, hx416_2, hx416_3, hl416_1, hi416_1⟩ := at_T39 HR0.out t415 p416 q416; cases e416; replace hx416_0 := cel HB.out hx416_0; replace hx416_1 := cel HB.out hx416_1; replace hx416_2 := cel HB.out hx416_2; replace hx416_3 := cel HB.out hx416_3; have HR416_1 := Ae_q hi416_1; have HC416_1 := Ae_q hl416_1; clear hi416_1 hl416_1; replace p416 := eq_true p416; replace q416 := eq_true q416) | ((with_reducible refine gD_q (N := 7) rfl ?_); refine bE_q ?hg (N := 7) ?hd (cs := #[.int .i64 0, .slice none 0 0, .int .i64 0, .int .i64 0]) (t := 39) ?hr ?_; (case hd => rfl); (case hg => rfl); (case hr => exact m13_q); intro gb417 hg w20 hbox hb; replace HO_5 := Ae_q (rO_q (rup HO_5.out) hb); have BK417 := Ae_q (hbox); have GW417 := Ae_q ((by rw [hg]; exact (bZ_q (bel HB.out)) : w.heap.size ≤ gb417)); have GE417 := Ae_q ((by rw [hg]; exact (bZ_q (bel HB.out)) : w.heap.size ≤ gb417)); replace HB := Ae_q (bT_q (bel HB.out) hb); clear hb hbox hg; have hcz21_0 : cI w20 gb417 0 0 := cZ BK417 0 rfl; have hcz21_1 : w20.cell? ⟨gb417, 1, none⟩ = some (.slice none 0 0) := (bC_q BK417.out 1).trans rfl; have hcz21_2 : cI w20 gb417 2 0 := cZ BK417 2 rfl; have hcz21_3 : cI w20 gb417 3 0 := cZ BK417 3 rfl; have hfz21_0 := bF_q BK417.out 0; have hfz21_1 := bF_q BK417.out 1; have hfz21_2 := bF_q BK417.out 2; have hfz21_3 := bF_q BK417.out 3; have p418 : 0 ≤ (x6_1 : Int) := oD_q (by assumption); have q418 : x6_1 < (l1.length : Int) := oD_q (by assumption); obtain ⟨ad418, e418, hx418_0, hx418_1, hx418_2⟩ := at_T49 HR1.out x6_1 p418 q418; obtain rfl : ad414 = ad418 := (by injection e418); have hn418_0 : ad414.block ≠ gb417 := nL_q (Nat.lt_of_lt_of_le m15_q GW417.out); have hn418_1 : ad414.block ≠ gb417 := nL_q (Nat.lt_of_lt_of_le m15_q GW417.out); have hn418_2 : ad414.block ≠ gb417 := nL_q (Nat.lt_of_lt_of_le m15_q GW417.out); have hn418_3 : ad414.block ≠ gb417 := nL_q (Nat.lt_of_lt_of_le m15_q GW417.out); replace hx418_0 := cel HB.out hx418_0; replace hx418_1 := cel HB.out hx418_1; replace hx418_2 := cel HB.out hx418_2; replace hx418_0 := (cell_far (p := ⟨gb417, 0, none⟩) m9_q (.int .i64 ((rd_T39 l0 t415).f0))).trans hx418_0; replace hx418_1 := (cell_far (p := ⟨gb417, 0, none⟩) m9_q (.int .i64 ((rd_T39 l0 t415).f0))).trans hx418_1; replace hx418_2 := (cell_far (p := ⟨gb417, 0, none⟩) m9_q (.int .i64 ((rd_T39 l0 t415).f0))).trans hx418_2; replace hx418_0 := (cell_far (p := ⟨gb417, 1, none⟩) m10_q (.slice A416_1 ((rd_T39 l0 t415).f1).length c416_1)).trans hx418_0; replace hx418_1 := (cell_far (p := ⟨gb417, 1, none⟩) m10_q (.slice A416_1 ((rd_T39 l0 t415).f1).length c416_1)).trans hx418_1; replace hx418_2 := (cell_far (p := ⟨gb417, 1, none⟩) m10_q (.slice A416_1 ((rd_T39 l0 t415).f1).length c416_1)).trans hx418_2; replace hx418_0 := (cell_far (p := ⟨gb417, 2, none⟩) m11_q (.int .i64 ((rd_T39 l0 t415).f2))).trans hx418_0; replace hx418_1 := (cell_far (p := ⟨gb417, 2, none⟩) m11_q (.int .i64 ((rd_T39 l0 t415).f2))).trans hx418_1; replace hx418_2 := (cell_far (p := ⟨gb417, 2, none⟩) m11_q (.int .i64 ((rd_T39 l0 t415).f2))).trans hx418_2; replace hx418_0 := (cell_far (p := ⟨gb417, 3, none⟩) m12_q (.int .i64 ((rd_T39 l0 t415).f3))).trans hx418_0; replace hx418_1 := (cell_far (p := ⟨gb417, 3, none⟩) m12_q (.int .i64 ((rd_T39 l0 t415).f3))).trans hx418_1; replace hx418_2 := (cell_far (p := ⟨gb417, 3, none⟩) m12_q (.int .i64 ((rd_T39 l0 t415).f3))).trans hx418_2; (try have hy418_0 := fun (n_ : Nat) => (show ((((((w20.drewN n_).setCell ⟨gb417, 0, none⟩ (.int .i64 ((rd_T39 l0 t415).f0))).setCell ⟨gb417, 1, none⟩ (.slice A416_1 ((rd_T39 l0 t415).f1).length c416_1)).setCell ⟨gb417, 2, none⟩ (.int .i64 ((rd_T39 l0 t415).f2))).setCell ⟨gb417, 3, none⟩ (.int .i64 ((rd_T39 l0 t415).f3)))).cell? _ = some _ from hx418_0)); (try have hy418_1 := fun (n_ : Nat) => (show ((((((w20.drewN n_).setCell ⟨gb417, 0, none⟩ (.int .i64 ((rd_T39 l0 t415).f0))).setCell ⟨gb417, 1, none⟩ (.slice A416_1 ((rd_T39 l0 t415).f1).length c416_1)).setCell ⟨gb417, 2, none⟩ (.int .i64 ((rd_T39 l0 t415).f2))).setCell ⟨gb417, 3, none⟩ (.int .i64 ((rd_T39 l0 t415).f3)))).cell? _ = some _ from hx418_1)); (try have hy418_2 := fun (n_ : Nat) => (show ((((((w20.drewN n_).setCell ⟨gb417, 0, none⟩ (.int .i64 ((rd_T39 l0 t415).f0))).setCell ⟨gb417, 1, none⟩ (.slice A416_1 ((rd_T39 l0 t415).f1).length c416_1)).setCell ⟨gb417, 2, none⟩ (.int .i64 ((rd_T39 l0 t415).f2))).setCell ⟨gb417, 3, none⟩ (.int .i64 ((rd_T39 l0 t415).f3)))).cell? _ = some _ from hx418_2)); clear hn418_0; clear hn418_1; clear hn418_2; clear hn418_3; replace p418 := eq_true p418; replace q418 := eq_true q418) | (go_at_call 59; (with_reducible refine (spec_l6In.calls ((rd_T49 l1 x6_1).f2) ((rd_T39 l0 t415).f2) ((rd_T39 l0 t415).f3) false _ A15.out).mono ?_); rintro e w' ⟨rfl, ⟨nd, rfl⟩⟩; (try first | exact ⟨rfl, _, wD_q _ _ _⟩ | exact ⟨rfl, _, Eq.trans (wD_q _ _ _) (congrArg (World.drewN _) (nA_q _ _ _))⟩)) | ((with_reducible refine gate_builtin (b := .append) (xs := #[.tmp 41, .tmp 43]) rfl ?_); at_builtin; refine Kd.R_append kI_q (w0 := w) w.heap.size rfl (.tmp 41) (.tmp 43) 34 3 (.int .i64 0) 8 rfl Try.underlying34 info3 rfl (by decide) (by omega) u5 x5_1 x6_1 [.int .i64 x6_1] (fun _ => True) (fun _ => False) rfl m13_q ?aP (fun _ hk => hk.elim) ?aF ?aO ?aB ?aS ?aL ?_; (case aP => exact rfl); (case aB => exact m26_q); (case aF => exact m58_q); (case aO => exact (by (with_reducible repeat (first | apply rA_q | apply rN_q | apply rD_q)); exact rM_q (Kd.R_far (p := ⟨gb417, 3, none⟩) (Kd.R_far (p := ⟨gb417, 2, none⟩) (Kd.R_far (p := ⟨gb417, 1, none⟩) (Kd.R_far (p := ⟨gb417, 0, none⟩) (Kd.R_types HO_5.out BK417.out (by decide)) (fun _ hk => hk.2) (.int .i64 ((rd_T39 l0 t415).f0))) (fun _ hk => hk.2) (.slice A416_1 ((rd_T39 l0 t415).f1).length c416_1)) (fun _ hk => hk.2) (.int .i64 ((rd_T39 l0 t415).f2))) (fun _ hk => hk.2) (.int .i64 ((rd_T39 l0 t415).f3))) (fun _ hk => trivial))); (case aS => exact (bZ_q m26_q)); (case aL => have := LMc19.out; omega); intro v421 w22 ho hb hg hat; rw [← Ny420.out] at ho; replace BK417 := Ae_q (bG_q (g := gb417) (o := .cells #[.int .i64 ((rd_T39 l0 t415).f0), .slice A416_1 ((rd_T39 l0 t415).f1).length c416_1, .int .i64 ((rd_T39 l0 t415).f2), .int .i64 ((rd_T39 l0 t415).f3)] 39 (0, 0)) m6_q hg (Kd.R_ne HO_5.out BK417.out (by decide))); replace HB := Ae_q (hb); have HO422 := Ae_q (ho); clear HO_5; clear ho hb hg hat)); try go_wp2_with (first | (go_at_call 60; (with_reducible refine (spec_l42Find.calls kj4 _ _ l0 ((rd_T49 l1 x6_1).f1) t415 _ ?side1 ?side2 A12.out).mono ?_); (case side1 => exact m37_q); (case side2 => exact m41_q); rintro e w' ⟨rfl, ⟨nd, rfl⟩⟩; (try first | exact ⟨rfl, _, wD_q _ _ _⟩ | exact ⟨rfl, _, Eq.trans (wD_q _ _ _) (congrArg (World.drewN _) (nA_q _ _ _))⟩); have p416 : 0 ≤ (t415 : Int) := oD_q (by assumption); have q416 : t415 < (l0.length : Int) := oD_q (by assumption); obtain ⟨ad416, A416_1, c416_1, e416, hx416_0, hx416_1, hx416_2, hx416_3, hl416_1, hi416_1⟩ := at_T39 HR0.out t415 p416 q416; cases e416; replace hx416_0 := cel HB.out hx416_0; replace hx416_1 := cel HB.out hx416_1; replace hx416_2 := cel HB.out hx416_2; replace hx416_3 := cel HB.out hx416_3; have HR416_1 := Ae_q hi416_1; have HC416_1 := Ae_q hl416_1; clear hi416_1 hl416_1; replace p416 := eq_true p416; replace q416 := eq_true q416) | ((with_reducible refine gD_q (N := 7) rfl ?_); refine bE_q ?hg (N := 7) ?hd (cs := #[.int .i64 0, .slice none 0 0, .int .i64 0, .int .i64 0]) (t := 39) ?hr ?_; (case hd => rfl); (case hg => rfl); (case hr => exact m13_q); intro gb417 hg w20 hbox hb; replace HO_5 := Ae_q (rO_q (rup HO_5.out) hb); have BK417 := Ae_q (hbox); have GW417 := Ae_q ((by rw [hg]; exact (bZ_q (bel HB.out)) : w.heap.size ≤ gb417)); have GE417 := Ae_q ((by rw [hg]; exact (bZ_q (bel HB.out)) : w.heap.size ≤ gb417)); replace HB := Ae_q (bT_q (bel HB.out) hb); clear hb hbox hg; have hcz21_0 : cI w20 gb417 0 0 := cZ BK417 0 rfl; have hcz21_1 : w20.cell? ⟨gb417, 1, none⟩ = some (.slice none 0 0) := (bC_q BK417.out 1).trans rfl; have hcz21_2 : cI w20 gb417 2 0 := cZ BK417 2 rfl; have hcz21_3 : cI w20 gb417 3 0 := cZ BK417 3 rfl; have hfz21_0 := bF_q BK417.out 0; have hfz21_1 := bF_q BK417.out 1; have hfz21_2 := bF_q BK417.out 2; have hfz21_3 := bF_q BK417.out 3; have p418 : 0 ≤ (x6_1 : Int) := oD_q (by assumption); have q418 : x6_1 < (l1.length : Int) := oD_q (by assumption); obtain ⟨ad418, e418, hx418_0, hx418_1, hx418_2⟩ := at_T49 HR1.out x6_1 p418 q418; obtain rfl : ad414 = ad418 := (by injection e418); have hn418_0 : ad414.block ≠ gb417 := nL_q (Nat.lt_of_lt_of_le m15_q GW417.out); have hn418_1 : ad414.block ≠ gb417 := nL_q (Nat.lt_of_lt_of_le m15_q GW417.out); have hn418_2 : ad414.block ≠ gb417 := nL_q (Nat.lt_of_lt_of_le m15_q GW417.out); have hn418_3 : ad414.block ≠ gb417 := nL_q (Nat.lt_of_lt_of_le m15_q GW417.out); replace hx418_0 := cel HB.out hx418_0; replace hx418_1 := cel HB.out hx418_1; replace hx418_2 := cel HB.out hx418_2; replace hx418_0 := (cell_far (p := ⟨gb417, 0, none⟩) m9_q (.int .i64 ((rd_T39 l0 t415).f0))).trans hx418_0; replace hx418_1 := (cell_far (p := ⟨gb417, 0, none⟩) m9_q (.int .i64 ((rd_T39 l0 t415).f0))).trans hx418_1; replace hx418_2 := (cell_far (p := ⟨gb417, 0, none⟩) m9_q (.int .i64 ((rd_T39 l0 t415).f0))).trans hx418_2; replace hx418_0 := (cell_far (p := ⟨gb417, 1, none⟩) m10_q (.slice A416_1 ((rd_T39 l0 t415).f1).length c416_1)).trans hx418_0; replace hx418_1 := (cell_far (p := ⟨gb417, 1, none⟩) m10_q (.slice A416_1 ((rd_T39 l0 t415).f1).length c416_1)).trans hx418_1; replace hx418_2 := (cell_far (p := ⟨gb417, 1, none⟩) m10_q (.slice A416_1 ((rd_T39 l0 t415).f1).length c416_1)).trans hx418_2; replace hx418_0 := (cell_far (p := ⟨gb417, 2, none⟩) m11_q (.int .i64 ((rd_T39 l0 t415).f2))).trans hx418_0; replace hx418_1 := (cell_far (p := ⟨gb417, 2, none⟩) m11_q (.int .i64 ((rd_T39 l0 t415).f2))).trans hx418_1; replace hx418_2 := (cell_far (p := ⟨gb417, 2, none⟩) m11_q (.int .i64 ((rd_T39 l0 t415).f2))).trans hx418_2; replace hx418_0 := (cell_far (p := ⟨gb417, 3, none⟩) m12_q (.int .i64 ((rd_T39 l0 t415).f3))).trans hx418_0; replace hx418_1 := (cell_far (p := ⟨gb417, 3, none⟩) m12_q (.int .i64 ((rd_T39 l0 t415).f3))).trans hx418_1; replace hx418_2 := (cell_far (p := ⟨gb417, 3, none⟩) m12_q (.int .i64 ((rd_T39 l0 t415).f3))).trans hx418_2; (try have hy418_0 := fun (n_ : Nat) => (show ((((((w20.drewN n_).setCell ⟨gb417, 0, none⟩ (.int .i64 ((rd_T39 l0 t415).f0))).setCell ⟨gb417, 1, none⟩ (.slice A416_1 ((rd_T39 l0 t415).f1).length c416_1)).setCell ⟨gb417, 2, none⟩ (.int .i64 ((rd_T39 l0 t415).f2))).setCell ⟨gb417, 3, none⟩ (.int .i64 ((rd_T39 l0 t415).f3)))).cell? _ = some _ from hx418_0)); (try have hy418_1 := fun (n_ : Nat) => (show ((((((w20.drewN n_).setCell ⟨gb417, 0, none⟩ (.int .i64 ((rd_T39 l0 t415).f0))).setCell ⟨gb417, 1, none⟩ (.slice A416_1 ((rd_T39 l0 t415).f1).length c416_1)).setCell ⟨gb417, 2, none⟩ (.int .i64 ((rd_T39 l0 t415).f2))).setCell ⟨gb417, 3, none⟩ (.int .i64 ((rd_T39 l0 t415).f3)))).cell? _ = some _ from hx418_1)); (try have hy418_2 := fun (n_ : Nat) => (show ((((((w20.drewN n_).setCell ⟨gb417, 0, none⟩ (.int .i64 ((rd_T39 l0 t415).f0))).setCell ⟨gb417, 1, none⟩ (.slice A416_1 ((rd_T39 l0 t415).f1).length c416_1)).setCell ⟨gb417, 2, none⟩ (.int .i64 ((rd_T39 l0 t415).f2))).setCell ⟨gb417, 3, none⟩ (.int .i64 ((rd_T39 l0 t415).f3)))).cell? _ = some _ from hx418_2)); clear hn418_0; clear hn418_1; clear hn418_2; clear hn418_3; replace p418 := eq_true p418; replace q418 := eq_true q418) | (go_at_call 59; (with_reducible refine (spec_l6In.calls ((rd_T49 l1 x6_1).f2) ((rd_T39 l0 t415).f2) ((rd_T39 l0 t415).f3) false _ A15.out).mono ?_); rintro e w' ⟨rfl, ⟨nd, rfl⟩⟩; (try first | exact ⟨rfl, _, wD_q _ _ _⟩ | exact ⟨rfl, _, Eq.trans (wD_q _ _ _) (congrArg (World.drewN _) (nA_q _ _ _))⟩)) | ((with_reducible refine gate_builtin (b := .append) (xs := #[.tmp 41, .tmp 43]) rfl ?_); at_builtin; refine Kd.R_append kI_q (w0 := w) w.heap.size rfl (.tmp 41) (.tmp 43) 34 3 (.int .i64 0) 8 rfl Try.underlying34 info3 rfl (by decide) (by omega) u5 x5_1 x6_1 [.int .i64 x6_1] (fun _ => True) (fun _ => False) rfl m13_q ?aP (fun _ hk => hk.elim) ?aF ?aO ?aB ?aS ?aL ?_; (case aP => exact rfl); (case aB => exact m26_q); (case aF => exact m58_q); (case aO => exact (by (with_reducible repeat (first | apply rA_q | apply rN_q | apply rD_q)); exact rM_q (Kd.R_far (p := ⟨gb417, 3, none⟩) (Kd.R_far (p := ⟨gb417, 2, none⟩) (Kd.R_far (p := ⟨gb417, 1, none⟩) (Kd.R_far (p := ⟨gb417, 0, none⟩) (Kd.R_types HO_5.out BK417.out (by decide)) (fun _ hk => hk.2) (.int .i64 ((rd_T39 l0 t415).f0))) (fun _ hk => hk.2) (.slice A416_1 ((rd_T39 l0 t415).f1).length c416_1)) (fun _ hk => hk.2) (.int .i64 ((rd_T39 l0 t415).f2))) (fun _ hk => hk.2) (.int .i64 ((rd_T39 l0 t415).f3))) (fun _ hk => trivial))); (case aS => exact (bZ_q m26_q)); (case aL => have := LMc19.out; omega); intro v421 w22 ho hb hg hat; rw [← Ny420.out] at ho; replace BK417 := Ae_q (bG_q (g := gb417) (o := .cells #[.int .i64 ((rd_T39 l0 t415).f0), .slice A416_1 ((rd_T39 l0 t415).f1).length c416_1, .int .i64 ((rd_T39 l0 t415).f2), .int .i64 ((rd_T39 l0 t415).f3)] 39 (0, 0)) m6_q hg (Kd.R_ne HO_5.out BK417.out (by decide))); replace HB := Ae_q (hb); have HO422 := Ae_q (ho); clear HO_5; clear ho hb hg hat)))
     go_roundg kj4
     case measure => have := HK1.out; have := HJ4.out; omega
     case rel => exact ⟨(y420), (wrap64 (x6_1 + 1)), m5_q, H', ⟨by have := HK1.out; have := HJ4.out; omega⟩, ⟨rup HO422.out⟩, ⟨m26_q⟩⟩

end Go.Proofs.Ytnckblolijkdaaa.PBt
