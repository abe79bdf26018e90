import Derived.Test.YtnckblolijkdaaaVJPBtx0
namespace Go.Proofs.Ytnckblolijkdaaa.PBt
open Go.RowKit Go.Proofs.YtnckblolijkdaaaW.PrintWords Go.Proofs.YtnckblolijkdaaaW.PrintLast Go.Proofs.YtnckblolijkdaaaW.PrintMore
attribute [local go_sem] max2_int min2_int max_two min_two max_three min_three max_four min_four
set_option linter.unusedVariables false
set_option linter.unusedSimpArgs false

def laws_szIntS.f (l0 : List Int) (a1 : Int) : Option (Int) := if (wrap64 (a1 - (l0.length : Int))) < 0 then (some (-1)) else (some (wrap64 (a1 - (l0.length : Int))))
set_option maxHeartbeats 8000000 in
set_option maxRecDepth 100000 in
theorem laws_szIntS.calls (A0 : Option Addr) (c0 : Nat) (l0 : List Int) (a1 : Int) (r : Int) (w : World) (hr0 : Kd.C kI_q w A0 l0.length l0) (hc0 : l0.length ≤ c0) (h : laws_szIntS.f l0 a1 = some r) :
    Calls Try.prog 65 #[.slice A0 l0.length c0, .int .i64 a1] w fun e w' => e = .returned (.int .i64 r) ∧ Drawn0 w w' := by
 have HR0 := Ae_q hr0
 have HC0 := Ae_q hc0
 clear hr0 hc0
 have H : (if (wrap64 (a1 - (l0.length : Int))) < 0 then (some (-1)) else (some (wrap64 (a1 - (l0.length : Int))))) = some r := h
 clear h
 by_cases c3 : (wrap64 (a1 - (l0.length : Int))) < 0
 ·rw [if_pos c3] at H
  have c3b0 : decide ((wrap64 (a1 - (l0.length : Int))) < 0) = true := dT_q c3
  clear c3
  obtain rfl := oI_q H
  go_enter Try.func65, Try.ntmps65
  go_wp2
  go_ret
  exact ⟨m3_q, m8_q⟩
 rw [if_neg c3] at H
 have c3b0 : decide ((wrap64 (a1 - (l0.length : Int))) < 0) = false := dF_q c3
 clear c3
 obtain rfl := oI_q H
 go_enter Try.func65, Try.ntmps65
 go_wp2
 go_ret
 exact ⟨m3_q, m8_q⟩

def laws_szBatch.f (a0_0 : Int) (l0_1 : List Int) (a0_2 : Int) (a0_3 : Int) (a1 : Int) : Option (Int) := (laws_szIntS.f l0_1 a1).bind fun t102 => (if t102 < 0 then (some (-1)) else (some t102))
set_option maxHeartbeats 8000000 in
set_option maxRecDepth 100000 in
theorem laws_szBatch.calls (a0_0 : Int) (A0_1 : Option Addr) (c0_1 : Nat) (l0_1 : List Int) (a0_2 : Int) (a0_3 : Int) (a1 : Int) (r : Int) (w : World) (hr0_1 : Kd.C kI_q w A0_1 l0_1.length l0_1) (hc0_1 : l0_1.length ≤ c0_1) (h : laws_szBatch.f a0_0 l0_1 a0_2 a0_3 a1 = some r) :
    Calls Try.prog 49 #[.agg #[.int .i64 a0_0, .slice A0_1 l0_1.length c0_1, .int .i64 a0_2, .int .i64 a0_3], .int .i64 a1] w fun e w' => e = .returned (.int .i64 r) ∧ Below w.heap.size w w' := by
 have hu69 := Try.underlying69
 have HR0_1 := Ae_q hr0_1
 have HC0_1 := Ae_q hc0_1
 clear hr0_1 hc0_1
 have HB := Ae_q (bR_q w.heap.size w)
 have H : ((laws_szIntS.f l0_1 a1).bind fun t102 => (if t102 < 0 then (some (-1)) else (some t102))) = some r := h
 clear h
 replace H := oB_q.mp H
 obtain ⟨t102, A30, H⟩ := H
 replace H : (if t102 < 0 then (some (-1)) else (some t102)) = some r := H
 have A3 := Ae_q A30
 clear A30
 by_cases c4 : t102 < 0
 ·rw [if_pos c4] at H
  have c4b0 : decide (t102 < 0) = true := dT_q c4
  clear c4
  obtain rfl := oI_q H
  go_enter Try.func49, Try.ntmps49
  go_wp2_with (first | ((with_reducible refine gD_q (N := 2) rfl ?_); refine bE_q ?hg (N := 2) ?hd (cs := #[.int .i64 a0_0, .slice A0_1 l0_1.length c0_1, .int .i64 a0_2, .int .i64 a0_3]) (t := 69) ?hr ?_; (case hd => rfl); (case hg => rfl); (case hr => exact m6_q); intro gb101 hg w5 hbox hb; have BK101 := Ae_q (hbox); have GW101 := Ae_q ((by rw [hg]; exact (bZ_q (bel HB.out)) : w.heap.size ≤ gb101)); have GE101 := Ae_q ((by rw [hg]; exact (bZ_q (bel HB.out)) : w.heap.size ≤ gb101)); replace HB := Ae_q (bT_q (bel HB.out) hb); clear hb hbox hg; have hcz6_0 : cI w5 gb101 0 a0_0 := cZ BK101 0 rfl; have hcz6_1 : w5.cell? ⟨gb101, 1, none⟩ = some (.slice A0_1 l0_1.length c0_1) := (bC_q BK101.out 1).trans rfl; have hcz6_2 : cI w5 gb101 2 a0_2 := cZ BK101 2 rfl; have hcz6_3 : cI w5 gb101 3 a0_3 := cZ BK101 3 rfl; have hfz6_0 := bF_q BK101.out 0; have hfz6_1 := bF_q BK101.out 1; have hfz6_2 := bF_q BK101.out 2; have hfz6_3 := bF_q BK101.out 3) | ((with_reducible refine gC_q (f := 65) rfl ?_); refine gL_q (some 8) rfl rfl Try.func65 m5_q rfl #[.slice A0_1 l0_1.length c0_1, .int .i64 a1] rfl m0_q ?_; (with_reducible refine (laws_szIntS.calls _ _ l0_1 a1 t102 _ ?side1 ?side2 A3.out).mono ?_); (case side1 => exact m46_q); (case side2 => exact HC0_1.out); rintro e w' ⟨rfl, ⟨nd, rfl⟩⟩; refine ⟨_, rfl, ?_⟩))
  go_ret
  exact ⟨m2_q, m44_q⟩
 rw [if_neg c4] at H
 have c4b0 : decide (t102 < 0) = false := dF_q c4
 clear c4
 obtain rfl := oI_q H
 go_enter Try.func49, Try.ntmps49
 go_wp2_with (first | ((with_reducible refine gD_q (N := 2) rfl ?_); refine bE_q ?hg (N := 2) ?hd (cs := #[.int .i64 a0_0, .slice A0_1 l0_1.length c0_1, .int .i64 a0_2, .int .i64 a0_3]) (t := 69) ?hr ?_; (case hd => rfl); (case hg => rfl); (case hr => exact m6_q); intro gb101 hg w7 hbox hb; have BK101 := Ae_q (hbox); have GW101 := Ae_q ((by rw [hg]; exact (bZ_q (bel HB.out)) : w.heap.size ≤ gb101)); have GE101 := Ae_q ((by rw [hg]; exact (bZ_q (bel HB.out)) : w.heap.size ≤ gb101)); replace HB := Ae_q (bT_q (bel HB.out) hb); clear hb hbox hg; have hcz8_0 : cI w7 gb101 0 a0_0 := cZ BK101 0 rfl; have hcz8_1 : w7.cell? ⟨gb101, 1, none⟩ = some (.slice A0_1 l0_1.length c0_1) := (bC_q BK101.out 1).trans rfl; have hcz8_2 : cI w7 gb101 2 a0_2 := cZ BK101 2 rfl; have hcz8_3 : cI w7 gb101 3 a0_3 := cZ BK101 3 rfl; have hfz8_0 := bF_q BK101.out 0; have hfz8_1 := bF_q BK101.out 1; have hfz8_2 := bF_q BK101.out 2; have hfz8_3 := bF_q BK101.out 3) | ((with_reducible refine gC_q (f := 65) rfl ?_); refine gL_q (some 8) rfl rfl Try.func65 m5_q rfl #[.slice A0_1 l0_1.length c0_1, .int .i64 a1] rfl m0_q ?_; (with_reducible refine (laws_szIntS.calls _ _ l0_1 a1 t102 _ ?side1 ?side2 A3.out).mono ?_); (case side1 => exact m46_q); (case side2 => exact HC0_1.out); rintro e w' ⟨rfl, ⟨nd, rfl⟩⟩; refine ⟨_, rfl, ?_⟩))
 go_ret
 exact ⟨m2_q, m44_q⟩

def laws_szBatchS.l0 : Nat → List (S69) → Int → Int → Option (Int)
 | 0, _, _, _ => none
 | k + 1, x0, x1, x5 => if x5 < (x0.length : Int) then (if 0 ≤ x5 then ((laws_szBatch.f ((rd_T69 x0 x5).f0) ((rd_T69 x0 x5).f1) ((rd_T69 x0 x5).f2) ((rd_T69 x0 x5).f3) x1).bind fun t104 => (if t104 < 0 then (some (-1)) else (laws_szBatchS.l0 k x0 t104 (wrap64 (x5 + 1))))) else (none)) else (some x1)
def laws_szBatchS.f (k : Nat) (l0 : List (S69)) (a1 : Int) : Option (Int) := if (wrap64 (a1 - (l0.length : Int))) < 0 then (some (-1)) else (laws_szBatchS.l0 k l0 (wrap64 (a1 - (l0.length : Int))) 0)
set_option maxHeartbeats 8000000 in
set_option maxRecDepth 100000 in
theorem laws_szBatchS.calls (k : Nat) (A0 : Option Addr) (c0 : Nat) (l0 : List (S69)) (a1 : Int) (r : Int) (w : World) (hr0 : Kd.C k69 w A0 l0.length l0) (hc0 : l0.length ≤ c0) (h : laws_szBatchS.f k l0 a1 = some r) :
    Calls Try.prog 17 #[.slice A0 l0.length c0, .int .i64 a1] w fun e w' => e = .returned (.int .i64 r) ∧ Below w.heap.size w w' := by
 have hu69 := Try.underlying69
 have HR0 := Ae_q hr0
 have HC0 := Ae_q hc0
 clear hr0 hc0
 have HB := Ae_q (bR_q w.heap.size w)
 have H : (if (wrap64 (a1 - (l0.length : Int))) < 0 then (some (-1)) else (laws_szBatchS.l0 k l0 (wrap64 (a1 - (l0.length : Int))) 0)) = some r := h
 clear h
 by_cases c3 : (wrap64 (a1 - (l0.length : Int))) < 0
 ·rw [if_pos c3] at H
  have c3b0 : decide ((wrap64 (a1 - (l0.length : Int))) < 0) = true := dT_q c3
  clear c3
  obtain rfl := oI_q H
  go_enter Try.func17, Try.ntmps17
  go_wp2
  go_ret
  exact ⟨m2_q, bel HB.out⟩
 rw [if_neg c3] at H
 have c3b0 : decide ((wrap64 (a1 - (l0.length : Int))) < 0) = false := dF_q c3
 clear c3
 have H' := Ae_q H
 clear H
 go_enter Try.func17, Try.ntmps17
 go_wp2
 go_loopg [1, 5] k (fun kq v1 v5 w' => ∃ (x1_1 : Int) (x5_1 : Int), v1 = .int .i64 x1_1 ∧ v5 = .int .i64 x5_1 ∧ Aside0 (laws_szBatchS.l0 kq l0 x1_1 x5_1 = some r) ∧ Aside0 (kq ≤ k) ∧ Aside0 (Below w.heap.size w w'))
 case atStart => exact ⟨(wrap64 (a1 - (l0.length : Int))), (0), m3_q, m3_q, H', ⟨nR_q _⟩, ⟨bel HB.out⟩⟩
 case round =>
  clear H'
  try clear c1
  try clear p2
  try clear c3
  try clear c3b0
  obtain ⟨x1_1, x5_1, rfl, rfl, HA, HK1, HB⟩ := hrel
  cases gk with
  | zero => exact absurd HA.out (by simp [laws_szBatchS.l0])
  | succ k1 =>
   have H := HA.out
   clear HA
   simp only [laws_szBatchS.l0] at H
   by_cases c4 : x5_1 < (l0.length : Int)
   rotate_left
   ·rw [if_neg c4] at H
    have c4b0 : decide (x5_1 < (l0.length : Int)) = false := dF_q c4
    clear c4
    obtain rfl := oI_q H
    go_wp2
    go_ret
    exact ⟨m2_q, bel HB.out⟩
   rw [if_pos c4] at H
   have c4b0 : decide (x5_1 < (l0.length : Int)) = true := dT_q c4
   clear c4
   by_cases c5 : 0 ≤ x5_1
   rotate_left
   ·rw [if_neg c5] at H
    exact absurd H (by simp)
   rw [if_pos c5] at H
   have c5b0 : decide (0 ≤ x5_1) = true := dT_q c5
   clear c5
   replace H := oB_q.mp H
   obtain ⟨t104, A60, H⟩ := H
   replace H : (if t104 < 0 then (some (-1)) else (laws_szBatchS.l0 k1 l0 t104 (wrap64 (x5_1 + 1)))) = some r := H
   have A6 := Ae_q A60
   clear A60
   by_cases c7 : t104 < 0
   ·rw [if_pos c7] at H
    have c7b0 : decide (t104 < 0) = true := dT_q c7
    clear c7
    obtain rfl := oI_q H
    have p103 : 0 ≤ (x5_1 : Int) := oD_q (by assumption)
    have q103 : x5_1 < (l0.length : Int) := oD_q (by assumption)
    obtain ⟨ad103, A103_1, c103_1, e103, hx103_0, hx103_1, hx103_2, hx103_3, hl103_1, hi103_1⟩ := at_T69 HR0.out x5_1 p103 q103
    cases e103
    replace hx103_0 := cel HB.out hx103_0
    replace hx103_1 := cel HB.out hx103_1
    replace hx103_2 := cel HB.out hx103_2
    replace hx103_3 := cel HB.out hx103_3
    have HR103_1 := Ae_q hi103_1
    have HC103_1 := Ae_q hl103_1
    clear hi103_1 hl103_1
    replace p103 := eq_true p103
    replace q103 := eq_true q103
    go_wp2_with (first | ((with_reducible refine gC_q (f := 49) rfl ?_); refine gL_q (some 23) rfl rfl Try.func49 m5_q rfl #[.agg #[.int .i64 ((rd_T69 l0 x5_1).f0), .slice A103_1 ((rd_T69 l0 x5_1).f1).length c103_1, .int .i64 ((rd_T69 l0 x5_1).f2), .int .i64 ((rd_T69 l0 x5_1).f3)], .int .i64 x1_1] rfl m0_q ?_; (with_reducible refine (laws_szBatch.calls ((rd_T69 l0 x5_1).f0) _ _ ((rd_T69 l0 x5_1).f1) ((rd_T69 l0 x5_1).f2) ((rd_T69 l0 x5_1).f3) x1_1 t104 _ ?side1 ?side2 A6.out).mono ?_); (case side1 => exact cup (cB_q HR103_1.out HB.out)); (case side2 => exact HC103_1.out); rintro e w' ⟨rfl, hb⟩; refine ⟨_, rfl, ?_⟩; replace HB := Ae_q (bT_q (bel HB.out) hb); (try clear hb); (try clear hb2); (try clear hk); (try clear hi)))
    go_ret
    exact ⟨m2_q, bel HB.out⟩
   rw [if_neg c7] at H
   have c7b0 : decide (t104 < 0) = false := dF_q c7
   clear c7
   have H' := Ae_q H
   clear H
   have p103 : 0 ≤ (x5_1 : Int) := oD_q (by assumption)
   have q103 : x5_1 < (l0.length : Int) := oD_q (by assumption)
   obtain ⟨ad103, A103_1, c103_1, e103, hx103_0, hx103_1, hx103_2, hx103_3, hl103_1, hi103_1⟩ := at_T69 HR0.out x5_1 p103 q103
   cases e103
   replace hx103_0 := cel HB.out hx103_0
   replace hx103_1 := cel HB.out hx103_1
   replace hx103_2 := cel HB.out hx103_2
   replace hx103_3 := cel HB.out hx103_3
   have HR103_1 := Ae_q hi103_1
   have HC103_1 := Ae_q hl103_1
   clear hi103_1 hl103_1
   replace p103 := eq_true p103
   replace q103 := eq_true q103
   go_wp2_with (first | ((with_reducible refine gC_q (f := 49) rfl ?_); refine gL_q (some 23) rfl rfl Try.func49 m5_q rfl #[.agg #[.int .i64 ((rd_T69 l0 x5_1).f0), .slice A103_1 ((rd_T69 l0 x5_1).f1).length c103_1, .int .i64 ((rd_T69 l0 x5_1).f2), .int .i64 ((rd_T69 l0 x5_1).f3)], .int .i64 x1_1] rfl m0_q ?_; (with_reducible refine (laws_szBatch.calls ((rd_T69 l0 x5_1).f0) _ _ ((rd_T69 l0 x5_1).f1) ((rd_T69 l0 x5_1).f2) ((rd_T69 l0 x5_1).f3) x1_1 t104 _ ?side1 ?side2 A6.out).mono ?_); (case side1 => exact cup (cB_q HR103_1.out HB.out)); (case side2 => exact HC103_1.out); rintro e w9 ⟨rfl, hb⟩; refine ⟨_, rfl, ?_⟩; replace HB := Ae_q (bT_q (bel HB.out) hb); (try clear hb); (try clear hb2); (try clear hk); (try clear hi)))
   go_roundg k1
   case measure => have := HK1.out; omega
   case rel => exact ⟨(t104), (wrap64 (x5_1 + 1)), m3_q, m3_q, H', ⟨m28_q⟩, ⟨bel HB.out⟩⟩

def laws_toIntS.l0 : Nat → List Int → List Int → Int → Option (List Int)
 | 0, _, _, _ => none
 | k + 1, x0, x3, x4 => if x4 < (x0.length : Int) then (if 0 ≤ x4 then (if x4 < (x3.length : Int) then (laws_toIntS.l0 k x0 (x3.set (x4 : Int).toNat (rd x0 x4)) (wrap64 (x4 + 1))) else (none)) else (none)) else (some x3)
def laws_toIntS.f (k : Nat) (l0 : List Int) : Option (List Int) := if 0 ≤ (l0.length : Int) then (if ((l0.length : Int) : Int).toNat ≤ 35184372088832 then (laws_toIntS.l0 k l0 (List.replicate ((l0.length : Int) : Int).toNat 0) 0) else (none)) else (none)
set_option maxHeartbeats 8000000 in
set_option maxRecDepth 100000 in
theorem laws_toIntS.calls (k : Nat) (A0 : Option Addr) (c0 : Nat) (l0 : List Int) (r : List Int) (w : World) (hr0 : Kd.C kI_q w A0 l0.length l0) (hc0 : l0.length ≤ c0) (h : laws_toIntS.f k l0 = some r) :
    Calls Try.prog 66 #[.slice A0 l0.length c0] w fun e w' => ∃ v0_ : Value, e = .returned (v0_) ∧ Kd.R kI_q 3 w' w.heap.size (fun _ => True) v0_ r ∧ Below w.heap.size w w' := by
 have HR0 := Ae_q hr0
 have HC0 := Ae_q hc0
 clear hr0 hc0
 have HB := Ae_q (bR_q w.heap.size w)
 have H : (if 0 ≤ (l0.length : Int) then (if ((l0.length : Int) : Int).toNat ≤ 35184372088832 then (laws_toIntS.l0 k l0 (List.replicate ((l0.length : Int) : Int).toNat 0) 0) else (none)) else (none)) = some r := h
 clear h
 by_cases c2 : 0 ≤ (l0.length : Int)
 rotate_left
 ·rw [if_neg c2] at H
  exact absurd H (by simp)
 rw [if_pos c2] at H
 have c2b0 := eq_true c2
 have c2b1 : decide (0 ≤ (l0.length : Int)) = true := dT_q c2
 clear c2
 by_cases c3 : ((l0.length : Int) : Int).toNat ≤ 35184372088832
 rotate_left
 ·rw [if_neg c3] at H
  exact absurd H (by simp)
 rw [if_pos c3] at H
 have c3b0 := eq_true c3
 have c3b1 : decide (((l0.length : Int) : Int).toNat ≤ 35184372088832) = true := dT_q c3
 clear c3
 obtain ⟨y105, hy105⟩ : ∃ y_ : List Int, y_ = (List.replicate ((l0.length : Int) : Int).toNat 0) := ⟨_, rfl⟩
 replace H : (laws_toIntS.l0 k l0 y105 0) = some r := by first | (rw [hy105]; with_reducible exact H) | (have H2_ := (oS_q _ _).symm.trans H; rw [hy105]; with_reducible exact H2_) | (have H2_ := (oS_q _ _).symm.trans H; with_reducible exact H2_) | with_reducible exact H | (rw [hy105]; exact H) | exact H
 have Ny105 := Ae_q hy105
 clear hy105
 have H' := Ae_q H
 clear H
 go_enter Try.func66, Try.ntmps66
 go_wp2_with (first | ((with_reducible refine gD_q (N := 7) rfl ?_); refine Kd.R_make kI_q _ 3 rfl (N := 7) rfl 34 _ _ rfl (l0.length : Int) rfl rfl Try.underlying34 (.int .i64 0) 8 info3 rfl (by decide) (by omega) 0 (ok := fun _ => True) (okp := fun _ => True) rfl (fun _ hk => hk) trivial (oD_q (by assumption)) (nT_q (Nat.mul_le_mul_right _ (oD_q (by assumption) : (l0.length : Int).toNat ≤ 35184372088832)) (by omega)) (bR_q _ _) (nR_q _) ?_; intro v106 w4 ho5 hb hg_ hnew_; clear hg_ hnew_; (first | rw [← Ny105.out] at ho5 | (simp only [Int.reduceToNat] at ho5; rw [← Ny105.out] at ho5)); have HO107 := Ae_q (rL_q ho5 (bZ_q (bel HB.out))); replace HB := Ae_q (bT_q (bel HB.out) hb); clear hb ho5))
 go_loopg [4] k (fun kq v4 w' => ∃ (x3_1 : List Int) (x4_1 : Int), v4 = .int .i64 x4_1 ∧ Aside0 (laws_toIntS.l0 kq l0 x3_1 x4_1 = some r) ∧ Aside0 (kq ≤ k) ∧ Aside0 (Kd.R kI_q 3 w' w.heap.size (fun _ => True) v106 x3_1) ∧ Aside0 (Below w.heap.size w w'))
 case atStart => exact ⟨(y105), (0), m3_q, H', ⟨nR_q _⟩, ⟨rup HO107.out⟩, ⟨bel HB.out⟩⟩
 case round =>
  clear H'
  try clear c2
  try clear c2b0
  try clear c2b1
  try clear p2
  try clear c3
  try clear c3b0
  try clear c3b1
  obtain ⟨x3_1, x4_1, rfl, HA, HK1, HO_3, HB⟩ := hrel
  cases gk with
  | zero => exact absurd HA.out (by simp [laws_toIntS.l0])
  | succ k1 =>
   have H := HA.out
   clear HA
   simp only [laws_toIntS.l0] at H
   by_cases c6 : x4_1 < (l0.length : Int)
   rotate_left
   ·rw [if_neg c6] at H
    have c6b0 : decide (x4_1 < (l0.length : Int)) = false := dF_q c6
    clear c6
    obtain rfl := oI_q H
    go_wp2
    go_ret
    exact ⟨_, m2_q, rup HO_3.out, bel HB.out⟩
   rw [if_pos c6] at H
   have c6b0 : decide (x4_1 < (l0.length : Int)) = true := dT_q c6
   clear c6
   by_cases c7 : 0 ≤ x4_1
   rotate_left
   ·rw [if_neg c7] at H
    exact absurd H (by simp)
   rw [if_pos c7] at H
   have c7b0 : decide (0 ≤ x4_1) = true := dT_q c7
   clear c7
   by_cases c8 : x4_1 < (x3_1.length : Int)
   rotate_left
   ·rw [if_neg c8] at H
    exact absurd H (by simp)
   rw [if_pos c8] at H
   have c8b0 : decide (x4_1 < (x3_1.length : Int)) = true := dT_q c8
   clear c8
   obtain ⟨y109, hy109⟩ : ∃ y_ : List Int, y_ = (x3_1.set (x4_1 : Int).toNat (rd l0 x4_1)) := ⟨_, rfl⟩
   replace H : (laws_toIntS.l0 k1 l0 y109 (wrap64 (x4_1 + 1))) = some r := by first | (rw [hy109]; with_reducible exact H) | (have H2_ := (oS_q _ _).symm.trans H; rw [hy109]; with_reducible exact H2_) | (have H2_ := (oS_q _ _).symm.trans H; with_reducible exact H2_) | with_reducible exact H | (rw [hy109]; exact H) | exact H
   have Ny109 := Ae_q hy109
   clear hy109
   have H' := Ae_q H
   clear H
   have p108 : 0 ≤ (x4_1 : Int) := oD_q (by assumption)
   have q108 : x4_1 < (l0.length : Int) := oD_q (by assumption)
   obtain ⟨ad108, e108, hx108_0⟩ := aI_q HR0.out x4_1 p108 q108
   cases e108
   replace hx108_0 := cel HB.out hx108_0
   replace p108 := eq_true p108
   replace q108 := eq_true q108
   have p9 : 0 ≤ (x4_1 : Int) := oD_q (by assumption)
   have q9 : (x4_1 : Int) < ((x3_1.length : Int) : Int) := oD_q (by assumption)
   obtain ⟨go9, co9, eo9, gb9, gl9, cl9, HG9⟩ := Kd.R_form HO_3.out (by omega)
   (first | cases eo9 | (injection eo9 with ea_ en_ ec_; (first | subst ea_ | (injection ea_ with ea_; subst ea_)); subst ec_; clear en_))
   have GB9 := Ae_q gb9
   have GG9 := Ae_q HG9
   clear gb9 gl9 HG9
   obtain ⟨hx9_0, hf9_0⟩ := Kd.R_celln 0 HO_3.out (x4_1 : Int) p9 q9
   replace p9 := eq_true p9
   replace q9 := eq_true q9
   have HP10 := Kd.R_putg HO_3.out (x4_1 : Int) (rd l0 x4_1)
   go_wp2_with (first | ((with_reducible refine gate_store (t := 3) (p := 20) rfl ?_); refine store_event (t := 3) (p := 20) (v := ?vo_w11) (w1 := (wr.setCell ⟨go9, (x4_1 : Int).toNat, none⟩ (.int .i64 (rd l0 x4_1)))) ?hg ?ho ?hn ?hr ?_; (case ho => rfl); (case hg => rfl); (case hn => rfl); (case hr => exact m6_q); intro w11 hw; have hg : wr.grownBy w11 (some go9) := (by rw [hw]; exact HP10.2); have hp_ : Kd.R kI_q 3 w11 w.heap.size (fun _ => True) (.slice (some ⟨go9, 0, none⟩) x3_1.length co9) y109 := (by rw [hw, Ny109.out]; exact HP10.1); clear HP10; replace HO_3 := Ae_q (hp_); replace HB := Ae_q ((by rw [hw]; exact bS_q (HB.out) GB9.out : Below w.heap.size w w11)); clear hg hw hp_))
   go_roundg k1
   case measure => have := HK1.out; omega
   case rel => exact ⟨(y109), (wrap64 (x4_1 + 1)), m3_q, H', ⟨m28_q⟩, ⟨rup HO_3.out⟩, ⟨bel HB.out⟩⟩

def laws_toBatch.f (k : Nat) (a0_0 : Int) (l0_1 : List Int) (a0_2 : Int) (a0_3 : Int) : Option (Int × List Int × Int × Int) := (laws_toIntS.f k l0_1).bind fun t113 => (some (a0_0, t113, a0_2, a0_3))
set_option maxHeartbeats 8000000 in
set_option maxRecDepth 100000 in
theorem laws_toBatch.calls (k : Nat) (a0_0 : Int) (A0_1 : Option Addr) (c0_1 : Nat) (l0_1 : List Int) (a0_2 : Int) (a0_3 : Int) (r1 : Int) (r2 : List Int) (r3 : Int) (r4 : Int) (w : World) (hr0_1 : Kd.C kI_q w A0_1 l0_1.length l0_1) (hc0_1 : l0_1.length ≤ c0_1) (h : laws_toBatch.f k a0_0 l0_1 a0_2 a0_3 = some (r1, r2, r3, r4)) :
    Calls Try.prog 50 #[.agg #[.int .i64 a0_0, .slice A0_1 l0_1.length c0_1, .int .i64 a0_2, .int .i64 a0_3]] w fun e w' => ∃ v1_ : Value, e = .returned (.agg #[.int .i64 r1, v1_, .int .i64 r3, .int .i64 r4]) ∧ Kd.R kI_q 3 w' w.heap.size (fun _ => True) v1_ r2 ∧ Below w.heap.size w w' := by
 have hu69 := Try.underlying69
 have hu39 := Try.underlying39
 have HR0_1 := Ae_q hr0_1
 have HC0_1 := Ae_q hc0_1
 clear hr0_1 hc0_1
 have HB := Ae_q (bR_q w.heap.size w)
 have H : ((laws_toIntS.f k l0_1).bind fun t113 => (some (a0_0, t113, a0_2, a0_3))) = some (r1, r2, r3, r4) := h
 clear h
 replace H := oB_q.mp H
 obtain ⟨t113, A20, H⟩ := H
 replace H : (some (a0_0, t113, a0_2, a0_3)) = some (r1, r2, r3, r4) := H
 have A2 := Ae_q A20
 clear A20
 simp only [oE_q, pE_q] at H
 obtain ⟨rfl, rfl, rfl, rfl⟩ := H
 go_enter Try.func50, Try.ntmps50
 go_wp2_with (first | ((first | ((with_reducible refine gD_q (N := 1) rfl ?_); refine bE_q ?hg (N := 1) ?hd (cs := #[.int .i64 a0_0, .slice A0_1 l0_1.length c0_1, .int .i64 a0_2, .int .i64 a0_3]) (t := 69) ?hr ?_; (case hd => rfl); (case hg => rfl); (case hr => exact m6_q); intro gb110 hg w' hbox hb; have BK110 := Ae_q (hbox); have GW110 := Ae_q ((by rw [hg]; exact (bZ_q (bel HB.out)) : w.heap.size ≤ gb110)); have GE110 := Ae_q ((by rw [hg]; exact (bZ_q (bel HB.out)) : w.heap.size ≤ gb110)); replace HB := Ae_q (bT_q (bel HB.out) hb)) | ((with_reducible refine gD_q (N := 2) rfl ?_); refine bE_q ?hg (N := 2) ?hd (cs := #[.int .i64 0, .slice none 0 0, .int .i64 0, .int .i64 0]) (t := 39) ?hr ?_; (case hd => rfl); (case hg => rfl); (case hr => exact m6_q); intro gb111 hg w4 hbox hb; have BK111 := Ae_q (hbox); have GW111 := Ae_q ((by rw [hg]; exact (bZ_q m37_q) : w.heap.size ≤ gb111)); have GE111 := Ae_q ((by rw [hg]; exact (bZ_q m37_q) : w.heap.size ≤ gb111)); replace HB := Ae_q (bT_q m37_q hb); have NB110_111 := Ae_q ((by rw [hg]; exact nL_q (blk_lt (g := gb110) (o := .cells #[.int .i64 a0_0, .slice A0_1 l0_1.length c0_1, .int .i64 a0_2, .int .i64 a0_3] 69 (0, 0)) (bup BK110.out)) : gb110 ≠ gb111)); have NB111_110 := Ae_q ((by rw [hg]; exact nG_q (blk_lt (g := gb110) (o := .cells #[.int .i64 a0_0, .slice A0_1 l0_1.length c0_1, .int .i64 a0_2, .int .i64 a0_3] 69 (0, 0)) (bup BK110.out)) : gb111 ≠ gb110)); replace BK110 := Ae_q (bB_q (g := gb110) (o := .cells #[.int .i64 a0_0, .slice A0_1 l0_1.length c0_1, .int .i64 a0_2, .int .i64 a0_3] 69 (0, 0)) (bup BK110.out) hb))); clear hb hbox hg) | ((with_reducible refine gD_q (N := 3) rfl ?_); refine bE_q ?hg (N := 3) ?hd (cs := #[.int .i64 0, .slice none 0 0, .int .i64 0, .int .i64 0]) (t := 39) ?hr ?_; (case hd => rfl); (case hg => rfl); (case hr => exact m6_q); intro gb112 hg w5 hbox hb; have BK112 := Ae_q (hbox); have GW112 := Ae_q ((by rw [hg]; exact (bZ_q m35_q) : w.heap.size ≤ gb112)); have GE112 := Ae_q ((by rw [hg]; exact (bZ_q m35_q) : w.heap.size ≤ gb112)); replace HB := Ae_q (bT_q m35_q hb); have NB110_112 := Ae_q ((by rw [hg]; exact nL_q (blk_lt (g := gb110) (o := .cells #[.int .i64 a0_0, .slice A0_1 l0_1.length c0_1, .int .i64 a0_2, .int .i64 a0_3] 69 (0, 0)) (bup BK110.out)) : gb110 ≠ gb112)); have NB112_110 := Ae_q ((by rw [hg]; exact nG_q (blk_lt (g := gb110) (o := .cells #[.int .i64 a0_0, .slice A0_1 l0_1.length c0_1, .int .i64 a0_2, .int .i64 a0_3] 69 (0, 0)) (bup BK110.out)) : gb112 ≠ gb110)); replace BK110 := Ae_q (bB_q (g := gb110) (o := .cells #[.int .i64 a0_0, .slice A0_1 l0_1.length c0_1, .int .i64 a0_2, .int .i64 a0_3] 69 (0, 0)) (bup BK110.out) hb); have NB111_112 := Ae_q ((by rw [hg]; exact nL_q (blk_lt (g := gb111) (o := .cells #[.int .i64 0, .slice none 0 0, .int .i64 0, .int .i64 0] 39 (0, 0)) (bup BK111.out)) : gb111 ≠ gb112)); have NB112_111 := Ae_q ((by rw [hg]; exact nG_q (blk_lt (g := gb111) (o := .cells #[.int .i64 0, .slice none 0 0, .int .i64 0, .int .i64 0] 39 (0, 0)) (bup BK111.out)) : gb112 ≠ gb111)); replace BK111 := Ae_q (bB_q (g := gb111) (o := .cells #[.int .i64 0, .slice none 0 0, .int .i64 0, .int .i64 0] 39 (0, 0)) (bup BK111.out) hb); clear hb hbox hg; have hnb6 := NB110_111.out; have hnc6 := NB111_110.out; have hnb7 := NB110_112.out; have hnc7 := NB112_110.out; have hcz8_0 : cI w5 gb110 0 a0_0 := cZ BK110 0 rfl; have hcz8_1 : w5.cell? ⟨gb110, 1, none⟩ = some (.slice A0_1 l0_1.length c0_1) := (bC_q BK110.out 1).trans rfl; have hcz8_2 : cI w5 gb110 2 a0_2 := cZ BK110 2 rfl; have hcz8_3 : cI w5 gb110 3 a0_3 := cZ BK110 3 rfl; have hfz8_0 := bF_q BK110.out 0; have hfz8_1 := bF_q BK110.out 1; have hfz8_2 := bF_q BK110.out 2; have hfz8_3 := bF_q BK110.out 3; have hnb9 := NB112_111.out; have hnc9 := NB111_112.out; have hcz10_0 : cI w5 gb112 0 0 := cZ BK112 0 rfl; have hcz10_1 : w5.cell? ⟨gb112, 1, none⟩ = some (.slice none 0 0) := (bC_q BK112.out 1).trans rfl; have hcz10_2 : cI w5 gb112 2 0 := cZ BK112 2 rfl; have hcz10_3 : cI w5 gb112 3 0 := cZ BK112 3 rfl; have hfz10_0 := bF_q BK112.out 0; have hfz10_1 := bF_q BK112.out 1; have hfz10_2 := bF_q BK112.out 2; have hfz10_3 := bF_q BK112.out 3) | ((with_reducible refine gC_q (f := 66) rfl ?_); refine gL_q (some 9) rfl rfl Try.func66 m5_q rfl #[.slice A0_1 l0_1.length c0_1] rfl m0_q ?_; (with_reducible refine (laws_toIntS.calls k _ _ l0_1 t113 _ ?side1 ?side2 A2.out).mono ?_); (case side1 => exact cB_q HR0_1.out m23_q); (case side2 => exact HC0_1.out); rintro e w11 ⟨v114, rfl, ho0, hb⟩; refine ⟨_, rfl, ?_⟩; have HO115 := Ae_q (rL_q ho0 (bZ_q m23_q)); replace BK110 := Ae_q (bB_q (g := gb110) (o := .cells #[.int .i64 a0_0, .slice A0_1 l0_1.length c0_1, .int .i64 a0_2, .int .i64 a0_3] 69 (0, 0)) (by (with_reducible repeat (first | refine bN_q ?_ _ | refine bW_q ?_ | refine bL_q ?_ _)); refine blk_far ?_ NB110_112.out _; (with_reducible repeat (first | refine bN_q ?_ _ | refine bW_q ?_ | refine bL_q ?_ _)); exact BK110.out) hb); replace BK111 := Ae_q (bB_q (g := gb111) (o := .cells #[.int .i64 0, .slice none 0 0, .int .i64 0, .int .i64 0] 39 (0, 0)) (by (with_reducible repeat (first | refine bN_q ?_ _ | refine bW_q ?_ | refine bL_q ?_ _)); refine blk_far ?_ NB111_112.out _; (with_reducible repeat (first | refine bN_q ?_ _ | refine bW_q ?_ | refine bL_q ?_ _)); exact BK111.out) hb); replace BK112 := Ae_q (bB_q (g := gb112) (o := .cells #[.int .i64 a0_0, .slice none 0 0, .int .i64 0, .int .i64 0] 39 (0, 0)) (by (with_reducible repeat (first | refine bN_q ?_ _ | refine bW_q ?_ | refine bL_q ?_ _)); refine blk_put (cs := #[.int .i64 0, .slice none 0 0, .int .i64 0, .int .i64 0]) ?_ 0 _ rfl; (with_reducible repeat (first | refine bN_q ?_ _ | refine bW_q ?_ | refine bL_q ?_ _)); exact BK112.out) hb); replace HB := Ae_q (bT_q m23_q hb); (try clear hb); (try clear hb2); (try clear hk); (try clear hi); (try clear ho0); obtain ⟨Ao12, co12, eo12⟩ := rS_q HO115.out; subst eo12; have hcz13_0 : cI w11 gb112 0 a0_0 := cZ BK112 0 rfl; have hcz13_1 : w11.cell? ⟨gb112, 1, none⟩ = some (.slice none 0 0) := (bC_q BK112.out 1).trans rfl; have hcz13_2 : cI w11 gb112 2 0 := cZ BK112 2 rfl; have hcz13_3 : cI w11 gb112 3 0 := cZ BK112 3 rfl; have hfz13_0 := bF_q BK112.out 0; have hfz13_1 := bF_q BK112.out 1; have hfz13_2 := bF_q BK112.out 2; have hfz13_3 := bF_q BK112.out 3; have hcz14_0 : cI w11 gb110 0 a0_0 := cZ BK110 0 rfl; have hcz14_1 : w11.cell? ⟨gb110, 1, none⟩ = some (.slice A0_1 l0_1.length c0_1) := (bC_q BK110.out 1).trans rfl; have hcz14_2 : cI w11 gb110 2 a0_2 := cZ BK110 2 rfl; have hcz14_3 : cI w11 gb110 3 a0_3 := cZ BK110 3 rfl; have hfz14_0 := bF_q BK110.out 0; have hfz14_1 := bF_q BK110.out 1; have hfz14_2 := bF_q BK110.out 2; have hfz14_3 := bF_q BK110.out 3; have hcz15_0 : cI w11 gb111 0 0 := cZ BK111 0 rfl; have hcz15_1 : w11.cell? ⟨gb111, 1, none⟩ = some (.slice none 0 0) := (bC_q BK111.out 1).trans rfl; have hcz15_2 : cI w11 gb111 2 0 := cZ BK111 2 rfl; have hcz15_3 : cI w11 gb111 3 0 := cZ BK111 3 rfl; have hfz15_0 := bF_q BK111.out 0; have hfz15_1 := bF_q BK111.out 1; have hfz15_2 := bF_q BK111.out 2; have hfz15_3 := bF_q BK111.out 3))
 refine bodyPost_ret (results_cell_row rfl _ _ gb111 39 #[.int .i64 a0_0, .slice Ao12 t113.length co12, .int .i64 a0_2, .int .i64 a0_3] (0, 0) _ rfl (by (with_reducible repeat (first | refine bN_q ?_ _ | refine bW_q ?_ | refine bL_q ?_ _)); refine blk_put (cs := #[.int .i64 a0_0, .slice Ao12 t113.length co12, .int .i64 a0_2, .int .i64 0]) ?_ 3 _ rfl; (with_reducible repeat (first | refine bN_q ?_ _ | refine bW_q ?_ | refine bL_q ?_ _)); refine blk_put (cs := #[.int .i64 a0_0, .slice Ao12 t113.length co12, .int .i64 0, .int .i64 0]) ?_ 2 _ rfl; (with_reducible repeat (first | refine bN_q ?_ _ | refine bW_q ?_ | refine bL_q ?_ _)); refine blk_put (cs := #[.int .i64 a0_0, .slice none 0 0, .int .i64 0, .int .i64 0]) ?_ 1 _ rfl; (with_reducible repeat (first | refine bN_q ?_ _ | refine bW_q ?_ | refine bL_q ?_ _)); refine blk_put (cs := #[.int .i64 0, .slice none 0 0, .int .i64 0, .int .i64 0]) ?_ 0 _ rfl; (with_reducible repeat (first | refine bN_q ?_ _ | refine bW_q ?_ | refine bL_q ?_ _)); refine blk_far ?_ NB111_112.out _; (with_reducible repeat (first | refine bN_q ?_ _ | refine bW_q ?_ | refine bL_q ?_ _)); refine blk_far ?_ NB111_112.out _; (with_reducible repeat (first | refine bN_q ?_ _ | refine bW_q ?_ | refine bL_q ?_ _)); refine blk_far ?_ NB111_112.out _; (with_reducible repeat (first | refine bN_q ?_ _ | refine bW_q ?_ | refine bL_q ?_ _)); exact BK111.out) Try.underlying39 rfl m5_q) rfl ?_
 exact ⟨_, m2_q, by (with_reducible repeat (first | apply rA_q | apply rN_q | apply rD_q)); exact rM_q (Kd.R_far (p := ⟨gb111, 3, none⟩) (Kd.R_far (p := ⟨gb111, 2, none⟩) (Kd.R_far (p := ⟨gb111, 1, none⟩) (Kd.R_far (p := ⟨gb111, 0, none⟩) (Kd.R_far (p := ⟨gb112, 3, none⟩) (Kd.R_far (p := ⟨gb112, 2, none⟩) (Kd.R_far (p := ⟨gb112, 1, none⟩) (Kd.R_types (Kd.R_types HO115.out BK112.out (by decide)) BK111.out (by decide)) (fun _ hk => hk.1.2) (.slice Ao12 t113.length co12)) (fun _ hk => hk.1.2) (.int .i64 a0_2)) (fun _ hk => hk.1.2) (.int .i64 a0_3)) (fun _ hk => hk.2) (.int .i64 a0_0)) (fun _ hk => hk.2) (.slice Ao12 t113.length co12)) (fun _ hk => hk.2) (.int .i64 a0_2)) (fun _ hk => hk.2) (.int .i64 a0_3)) (fun _ hk => trivial), m23_q⟩

def laws_toBatchS.l0 : Nat → List (S69) → List (S39) → Int → Option ((List (S39)))
 | 0, _, _, _ => none
 | k + 1, x0, x3, x4 => if x4 < (x0.length : Int) then (if 0 ≤ x4 then ((laws_toBatch.f k ((rd_T69 x0 x4).f0) ((rd_T69 x0 x4).f1) ((rd_T69 x0 x4).f2) ((rd_T69 x0 x4).f3)).bind fun bt120 => (if x4 < (x3.length : Int) then (laws_toBatchS.l0 k x0 (x3.set (x4 : Int).toNat (⟨bt120.1, bt120.2.1, bt120.2.2.1, bt120.2.2.2⟩ : S39)) (wrap64 (x4 + 1))) else (none))) else (none)) else (some x3)
def laws_toBatchS.f (k : Nat) (l0 : List (S69)) : Option ((List (S39))) := if 0 ≤ (l0.length : Int) then (if ((l0.length : Int) : Int).toNat ≤ 5864062014805 then (laws_toBatchS.l0 k l0 (List.replicate ((l0.length : Int) : Int).toNat z39) 0) else (none)) else (none)
set_option maxHeartbeats 8000000 in
set_option maxRecDepth 100000 in
theorem laws_toBatchS.calls (k : Nat) (A0 : Option Addr) (c0 : Nat) (l0 : List (S69)) (r : List (S39)) (w : World) (hr0 : Kd.C k69 w A0 l0.length l0) (hc0 : l0.length ≤ c0) (h : laws_toBatchS.f k l0 = some r) :
    Calls Try.prog 18 #[.slice A0 l0.length c0] w fun e w' => ∃ v0_ : Value, e = .returned (v0_) ∧ Kd.S k39 39 w' w.heap.size (fun _ => True) v0_ r ∧ Below w.heap.size w w' := by
 have hu69 := Try.underlying69
 have hu39 := Try.underlying39
 have HR0 := Ae_q hr0
 have HC0 := Ae_q hc0
 clear hr0 hc0
 have HB := Ae_q (bR_q w.heap.size w)
 have H : (if 0 ≤ (l0.length : Int) then (if ((l0.length : Int) : Int).toNat ≤ 5864062014805 then (laws_toBatchS.l0 k l0 (List.replicate ((l0.length : Int) : Int).toNat z39) 0) else (none)) else (none)) = some r := h
 clear h
 by_cases c2 : 0 ≤ (l0.length : Int)
 rotate_left
 ·rw [if_neg c2] at H
  exact absurd H (by simp)
 rw [if_pos c2] at H
 have c2b0 := eq_true c2
 have c2b1 : decide (0 ≤ (l0.length : Int)) = true := dT_q c2
 clear c2
 by_cases c3 : ((l0.length : Int) : Int).toNat ≤ 5864062014805
 rotate_left
 ·rw [if_neg c3] at H
  exact absurd H (by simp)
 rw [if_pos c3] at H
 have c3b0 := eq_true c3
 have c3b1 : decide (((l0.length : Int) : Int).toNat ≤ 5864062014805) = true := dT_q c3
 clear c3
 obtain ⟨y116, hy116⟩ : ∃ y_ : List (S39), y_ = (List.replicate ((l0.length : Int) : Int).toNat z39) := ⟨_, rfl⟩
 replace H : (laws_toBatchS.l0 k l0 y116 0) = some r := by first | (rw [hy116]; with_reducible exact H) | (have H2_ := (oS_q _ _).symm.trans H; rw [hy116]; with_reducible exact H2_) | (have H2_ := (oS_q _ _).symm.trans H; with_reducible exact H2_) | with_reducible exact H | (rw [hy116]; exact H) | exact H
 have Ny116 := Ae_q hy116
 clear hy116
 have H' := Ae_q H
 clear H
 go_enter Try.func18, Try.ntmps18
 go_wp2_with (first | ((with_reducible refine gD_q (N := 7) rfl ?_); refine Kd.S_make k39 _ 39 rfl (N := 7) rfl 23 _ _ rfl (l0.length : Int) rfl rfl Try.underlying23 (.agg #[(.int .i64 0), (.slice none 0 0), (.int .i64 0), (.int .i64 0)]) 48 info39 rfl (by decide) (by omega) z39 (ok := fun _ => True) (okp := fun _ => True) (k39_mkM _ _ _ z39 (Kd.R_nil _ _ _ _ _)) (fun _ hk => hk) trivial (oD_q (by assumption)) (nT_q (Nat.mul_le_mul_right _ (oD_q (by assumption) : (l0.length : Int).toNat ≤ 5864062014805)) (by omega)) (bR_q _ _) (nR_q _) ?_; intro v117 w4 ho5 hb hg_ hnew_; clear hg_ hnew_; (first | rw [← Ny116.out] at ho5 | (simp only [Int.reduceToNat] at ho5; rw [← Ny116.out] at ho5)); have HO118 := Ae_q (Kd.S_lower ho5 (bZ_q (bel HB.out))); replace HB := Ae_q (bT_q (bel HB.out) hb); clear hb ho5))
 go_loopg [4] k (fun kq v4 w' => ∃ (x3_1 : List (S39)) (x4_1 : Int), v4 = .int .i64 x4_1 ∧ Aside0 (laws_toBatchS.l0 kq l0 x3_1 x4_1 = some r) ∧ Aside0 (kq ≤ k) ∧ Aside0 (Kd.S k39 39 w' w.heap.size (fun _ => True) v117 x3_1) ∧ Aside0 (Below w.heap.size w w'))
 case atStart => exact ⟨(y116), (0), m3_q, H', ⟨nR_q _⟩, ⟨by (with_reducible repeat (first | apply tA_q | apply tN_q | apply tD_q)); exact HO118.out⟩, ⟨bel HB.out⟩⟩
 case round =>
  clear H'
  try clear c1
  try clear c2
  try clear c2b0
  try clear c2b1
  try clear p2
  try clear c3
  try clear c3b0
  try clear c3b1
  obtain ⟨x3_1, x4_1, rfl, HA, HK1, HO_3, HB⟩ := hrel
  cases gk with
  | zero => exact absurd HA.out (by simp [laws_toBatchS.l0])
  | succ k1 =>
   have H := HA.out
   clear HA
   simp only [laws_toBatchS.l0] at H
   by_cases c6 : x4_1 < (l0.length : Int)
   rotate_left
   ·rw [if_neg c6] at H
    have c6b0 : decide (x4_1 < (l0.length : Int)) = false := dF_q c6
    clear c6
    obtain rfl := oI_q H
    go_wp2
    go_ret
    exact ⟨_, m2_q, m41_q, bel HB.out⟩
   rw [if_pos c6] at H
   have c6b0 : decide (x4_1 < (l0.length : Int)) = true := dT_q c6
   clear c6
   by_cases c7 : 0 ≤ x4_1
   rotate_left
   ·rw [if_neg c7] at H
    exact absurd H (by simp)
   rw [if_pos c7] at H
   have c7b0 : decide (0 ≤ x4_1) = true := dT_q c7
   clear c7
   replace H := oB_q.mp H
   obtain ⟨⟨t120, t121, t124, t125⟩, A80, H⟩ := H
   replace H : (if x4_1 < (x3_1.length : Int) then (laws_toBatchS.l0 k1 l0 (x3_1.set (x4_1 : Int).toNat (⟨t120, t121, t124, t125⟩ : S39)) (wrap64 (x4_1 + 1))) else (none)) = some r := H
   have A8 := Ae_q A80
   clear A80
   by_cases c9 : x4_1 < (x3_1.length : Int)
   rotate_left
   ·rw [if_neg c9] at H
    exact absurd H (by simp)
   rw [if_pos c9] at H
   have c9b0 : decide (x4_1 < (x3_1.length : Int)) = true := dT_q c9
   clear c9
   obtain ⟨y126, hy126⟩ : ∃ y_ : List (S39), y_ = (x3_1.set (x4_1 : Int).toNat (⟨t120, t121, t124, t125⟩ : S39)) := ⟨_, rfl⟩
   replace H : (laws_toBatchS.l0 k1 l0 y126 (wrap64 (x4_1 + 1))) = some r := by first | (rw [hy126]; with_reducible exact H) | (have H2_ := (oS_q _ _).symm.trans H; rw [hy126]; with_reducible exact H2_) | (have H2_ := (oS_q _ _).symm.trans H; with_reducible exact H2_) | with_reducible exact H | (rw [hy126]; exact H) | exact H
   have Ny126 := Ae_q hy126
   clear hy126
   have H' := Ae_q H
   clear H
   have p119 : 0 ≤ (x4_1 : Int) := oD_q (by assumption)
   have q119 : x4_1 < (l0.length : Int) := oD_q (by assumption)
   obtain ⟨ad119, A119_1, c119_1, e119, hx119_0, hx119_1, hx119_2, hx119_3, hl119_1, hi119_1⟩ := at_T69 HR0.out x4_1 p119 q119
   cases e119
   replace hx119_0 := cel HB.out hx119_0
   replace hx119_1 := cel HB.out hx119_1
   replace hx119_2 := cel HB.out hx119_2
   replace hx119_3 := cel HB.out hx119_3
   have HR119_1 := Ae_q hi119_1
   have HC119_1 := Ae_q hl119_1
   clear hi119_1 hl119_1
   replace p119 := eq_true p119
   replace q119 := eq_true q119
   go_wp2_with (first | ((with_reducible refine gC_q (f := 50) rfl ?_); refine gL_q (some 20) rfl rfl Try.func50 m5_q rfl #[.agg #[.int .i64 ((rd_T69 l0 x4_1).f0), .slice A119_1 ((rd_T69 l0 x4_1).f1).length c119_1, .int .i64 ((rd_T69 l0 x4_1).f2), .int .i64 ((rd_T69 l0 x4_1).f3)]] rfl m0_q ?_; (with_reducible refine (laws_toBatch.calls k1 ((rd_T69 l0 x4_1).f0) _ _ ((rd_T69 l0 x4_1).f1) ((rd_T69 l0 x4_1).f2) ((rd_T69 l0 x4_1).f3) t120 t121 t124 t125 _ ?side1 ?side2 A8.out).mono ?_); (case side1 => exact cup (cB_q HR119_1.out HB.out)); (case side2 => exact HC119_1.out); rintro e w11 ⟨v122, rfl, ho0, hb⟩; refine ⟨_, rfl, ?_⟩; have hst_v122 := fun (W : World) (a : Addr) (m : Mode) => run_store Try.prog W a v122 m (by obtain ⟨A_, c_, e_⟩ := rS_q ho0; rw [e_]; rfl); replace HO_3 := Ae_q (Kd.S_elder' m41_q (rB_q ho0) hb); have HO123 := Ae_q (rL_q ho0 (bZ_q (bel HB.out))); replace HB := Ae_q (bT_q (bel HB.out) hb); (try clear hb); (try clear hb2); (try clear hk); (try clear hi); (try clear ho0); have p10 : 0 ≤ (x4_1 : Int) := oD_q (by assumption); have q10 : (x4_1 : Int) < ((x3_1.length : Int) : Int) := oD_q (by assumption); obtain ⟨go10, co10, eo10, gb10, gl10, cl10, HG10⟩ := Kd.S_form HO_3.out (by omega); (first | cases eo10 | (injection eo10 with ea_ en_ ec_; (first | subst ea_ | (injection ea_ with ea_; subst ea_)); subst ec_; clear en_)); have GB10 := Ae_q gb10; have GG10 := Ae_q HG10; clear gb10 gl10 HG10; obtain ⟨_, ce10, hcl10, hM10, hcc10, hfr10, _, _⟩ := Kd.S_elem HO_3.out z39 (x4_1 : Int) p10 q10; obtain ⟨ve10_1, rfl, ge10_1⟩ := k39_openM hM10; have hx10_0 : w11.cell? ⟨go10, (x4_1 : Int).toNat * 4, none⟩ = some (.int .i64 ((rd_T39 x3_1 x4_1).f0)) := hcc10 0 _ rfl; have hx10_1 : w11.cell? ⟨go10, (x4_1 : Int).toNat * 4 + 1, none⟩ = some (ve10_1) := hcc10 1 _ rfl; have hx10_2 : w11.cell? ⟨go10, (x4_1 : Int).toNat * 4 + 2, none⟩ = some (.int .i64 ((rd_T39 x3_1 x4_1).f2)) := hcc10 2 _ rfl; have hx10_3 : w11.cell? ⟨go10, (x4_1 : Int).toNat * 4 + 3, none⟩ = some (.int .i64 ((rd_T39 x3_1 x4_1).f3)) := hcc10 3 _ rfl; have hf10_0 : w11.frozen? ⟨go10, (x4_1 : Int).toNat * 4, none⟩ = false := hfr10 0; have hf10_1 : w11.frozen? ⟨go10, (x4_1 : Int).toNat * 4 + 1, none⟩ = false := hfr10 1; have hf10_2 : w11.frozen? ⟨go10, (x4_1 : Int).toNat * 4 + 2, none⟩ = false := hfr10 2; have hf10_3 : w11.frozen? ⟨go10, (x4_1 : Int).toNat * 4 + 3, none⟩ = false := hfr10 3; clear hcl10 hcc10 hfr10 hM10; replace p10 := eq_true p10; replace q10 := eq_true q10; have n_ := Ae_q (Kd.S_mono (ok' := (fun k_ => some k_ ≠ (v122 : Value).ownBlock)) HO_3.out (fun k_ hk => hk.2)); clear HO_3; have HO_3 := n_; clear n_; have HX12 := Ae_q (show Kd.S k39 39 w11 w.heap.size (fun k_ => ((fun _ => True)) k_ ∧ ¬ ((fun k_ => some k_ = (v122 : Value).ownBlock)) k_) (.slice (some ⟨go10, 0, none⟩) x3_1.length co10) x3_1 from (by (with_reducible repeat (first | apply tA_q | apply tN_q | apply tD_q)); exact Kd.S_mono HO_3.out (fun k_ hk => ⟨trivial, fun e_ => hk e_⟩))); obtain ⟨oki12, ce12, hcl12, hM12, hcc12, hfr12, hoki12, hH12⟩ := Kd.S_elem HX12.out z39 (x4_1 : Int) (oD_q (by assumption)) (by have h_ : (x4_1 : Int) < ((x3_1.length : Int) : Int) := oD_q (by assumption); first | exact h_ | (have e_ := (Kd.S_reads' HO_3.out).1; omega) | simpa using h_); obtain ⟨ve12_1, rfl, ge12_1⟩ := k39_openM hM12; have HP12 := Kd.S_seg hH12 (oD_q (by assumption)) (by have h_ : (x4_1 : Int) < ((x3_1.length : Int) : Int) := oD_q (by assumption); first | exact h_ | (have e_ := (Kd.S_reads' HO_3.out).1; omega) | simpa using h_) (seg := [.int .i64 t120, v122, .int .i64 t124, .int .i64 t125]) (j := 0) (show 4 ≤ 4 from by decide) (x' := (⟨t120, t121, t124, t125⟩ : S39)) (k39_mkM _ _ _ (⟨t120, t121, t124, t125⟩ : S39) (rM_q (Kd.R_tight rfl (rM_q (ok' := fun k_ => ((fun _ => True)) k_ ∧ k_ ≠ go10) (Kd.R_apart' (HO123.out) (Kd.S_typed HO_3.out) (by decide)) (fun k_ hk => ⟨trivial, fun e_ => (hk.2) (by rw [e_]; rfl)⟩))) (fun _ h_ => Or.inr (h_)))) (fun _ hk => hk) (fun k_ hk_ => ((rM_q (ok' := fun k_ => ((fun _ => True)) k_ ∧ k_ ≠ go10) (Kd.R_apart' (HO123.out) (Kd.S_typed HO_3.out) (by decide)) (fun k_ hk => ⟨trivial, fun e_ => (hk.2) (by rw [e_]; rfl)⟩))).1 k_ hk_.symm); have hx12_0 := hcc12 0 _ rfl; (try simp only [show (k39).sz = 4 from rfl, Nat.mul_one, Nat.add_zero] at hx12_0); have hf12_0 := hfr12 0; (try simp only [show (k39).sz = 4 from rfl, Nat.mul_one, Nat.add_zero] at hf12_0); have hx12_1 := hcc12 1 _ rfl; (try simp only [show (k39).sz = 4 from rfl, Nat.mul_one, Nat.add_zero] at hx12_1); have hf12_1 := hfr12 1; (try simp only [show (k39).sz = 4 from rfl, Nat.mul_one, Nat.add_zero] at hf12_1); have hx12_2 := hcc12 2 _ rfl; (try simp only [show (k39).sz = 4 from rfl, Nat.mul_one, Nat.add_zero] at hx12_2); have hf12_2 := hfr12 2; (try simp only [show (k39).sz = 4 from rfl, Nat.mul_one, Nat.add_zero] at hf12_2); have hx12_3 := hcc12 3 _ rfl; (try simp only [show (k39).sz = 4 from rfl, Nat.mul_one, Nat.add_zero] at hx12_3); have hf12_3 := hfr12 3; (try simp only [show (k39).sz = 4 from rfl, Nat.mul_one, Nat.add_zero] at hf12_3); clear hcl12 hcc12 hfr12 hM12 hoki12 hH12) | ((with_reducible refine gate_store (t := 39) (p := 21) rfl ?_); refine store_event (t := 39) (p := 21) (v := ?vo_w13) (w1 := ((((w11.setCell ⟨go10, (x4_1 : Int).toNat * 4, none⟩ (.int .i64 t120)).setCell ⟨go10, (x4_1 : Int).toNat * 4 + 1, none⟩ (v122)).setCell ⟨go10, (x4_1 : Int).toNat * 4 + 2, none⟩ (.int .i64 t124)).setCell ⟨go10, (x4_1 : Int).toNat * 4 + 3, none⟩ (.int .i64 t125))) ?hg ?ho ?hn ?hr ?_; (case ho => rfl); (case hg => rfl); (case hn => rfl); (case hr => exact m6_q); intro w13 hw; have hg : w11.grownBy w13 (some go10) := (by rw [hw]; exact HP12.2); have hp_ : Kd.S k39 39 w13 w.heap.size (fun _ => True) (.slice (some ⟨go10, 0, none⟩) x3_1.length co10) y126 := (by rw [hw, Ny126.out]; exact HP12.1); clear HP12; replace HO_3 := Ae_q (hp_); replace HB := Ae_q ((by rw [hw]; exact bS_q (bS_q (bS_q (bS_q (HB.out) GB10.out) GB10.out) GB10.out) GB10.out : Below w.heap.size w w13)); clear HO123; clear hg hw hp_))
   go_roundg k1
   case measure => have := HK1.out; omega
   case rel => exact ⟨(y126), (wrap64 (x4_1 + 1)), m3_q, H', ⟨m28_q⟩, ⟨m41_q⟩, ⟨bel HB.out⟩⟩

def laws_eqIntS.l0 : Nat → List Int → List Int → Int → Option (Bool)
 | 0, _, _, _ => none
 | k + 1, x0, x1, x5 => if x5 < (x0.length : Int) then (if 0 ≤ x5 then (if x5 < (x1.length : Int) then (if (rd x0 x5) = (rd x1 x5) then (laws_eqIntS.l0 k x0 x1 (wrap64 (x5 + 1))) else (some false)) else (none)) else (none)) else (some true)
def laws_eqIntS.f (k : Nat) (l0 : List Int) (l1 : List Int) : Option (Bool) := if (l0.length : Int) = (l1.length : Int) then (laws_eqIntS.l0 k l0 l1 0) else (some false)
set_option maxHeartbeats 8000000 in
set_option maxRecDepth 100000 in
theorem laws_eqIntS.calls (k : Nat) (A0 : Option Addr) (c0 : Nat) (l0 : List Int) (A1 : Option Addr) (c1 : Nat) (l1 : List Int) (r : Bool) (w : World) (hr0 : Kd.C kI_q w A0 l0.length l0) (hc0 : l0.length ≤ c0) (hr1 : Kd.C kI_q w A1 l1.length l1) (hc1 : l1.length ≤ c1) (h : laws_eqIntS.f k l0 l1 = some r) :
    Calls Try.prog 25 #[.slice A0 l0.length c0, .slice A1 l1.length c1] w fun e w' => e = .returned (.bool r) ∧ Drawn0 w w' := by
 have HR0 := Ae_q hr0
 have HC0 := Ae_q hc0
 clear hr0 hc0
 have HR1 := Ae_q hr1
 have HC1 := Ae_q hc1
 clear hr1 hc1
 have H : (if (l0.length : Int) = (l1.length : Int) then (laws_eqIntS.l0 k l0 l1 0) else (some false)) = some r := h
 clear h
 by_cases c3 : (l0.length : Int) = (l1.length : Int)
 rotate_left
 ·rw [if_neg c3] at H
  have c3b0 : ((l0.length : Int) == (l1.length : Int)) = false := fN_q.mpr c3
  have c3b1 : ((l0.length : Int) != (l1.length : Int)) = true := nI_q.mpr c3
  have c3b2 : (l0.length == l1.length) = false := by first | simpa using c3 | (simp at c3 ⊢; omega)
  obtain rfl := oI_q H
  go_enter Try.func25, Try.ntmps25
  go_wp2
  repeat (go_quiet (fail); try go_wp2)
  go_ret
  exact ⟨m3_q, m8_q⟩
 rw [if_pos c3] at H
 have c3b0 : ((l0.length : Int) == (l1.length : Int)) = true := beq_iff_eq.mpr c3
 have c3b1 : ((l0.length : Int) != (l1.length : Int)) = false := nE_q.mpr c3
 have c3b2 : (l0.length == l1.length) = true := by first | simpa using c3 | (simp at c3 ⊢; omega)
 clear c3
 have H' := Ae_q H
 clear H
 go_enter Try.func25, Try.ntmps25
 go_wp2
 repeat (go_quiet (fail); try go_wp2)
 go_loopg [5] k (fun kq v5 w' => ∃ (x5_1 : Int), v5 = .int .i64 x5_1 ∧ Aside0 (laws_eqIntS.l0 kq l0 l1 x5_1 = some r) ∧ Aside0 (kq ≤ k) ∧ Drawn0 w w')
 case atStart => exact ⟨(0), m3_q, H', ⟨nR_q _⟩, m8_q⟩
 case round =>
  clear H'
  try clear c1
  try clear c2
  try clear p2
  try clear c3
  try clear c3b0
  try clear c3b1
  try clear c3b2
  obtain ⟨x5_1, rfl, HA, HK1, ⟨m1, rfl⟩⟩ := hrel
  cases gk with
  | zero => exact absurd HA.out (by simp [laws_eqIntS.l0])
  | succ k1 =>
   have H := HA.out
   clear HA
   simp only [laws_eqIntS.l0] at H
   by_cases c4 : x5_1 < (l0.length : Int)
   rotate_left
   ·rw [if_neg c4] at H
    have c4b0 : decide (x5_1 < (l0.length : Int)) = false := dF_q c4
    clear c4
    obtain rfl := oI_q H
    go_wp2
    repeat (go_quiet (fail); try go_wp2)
    go_ret
    exact ⟨m3_q, m8_q⟩
   rw [if_pos c4] at H
   have c4b0 : decide (x5_1 < (l0.length : Int)) = true := dT_q c4
   clear c4
   by_cases c5 : 0 ≤ x5_1
   rotate_left
   ·rw [if_neg c5] at H
    exact absurd H (by simp)
   rw [if_pos c5] at H
   have c5b0 : decide (0 ≤ x5_1) = true := dT_q c5
   clear c5
   by_cases c6 : x5_1 < (l1.length : Int)
   rotate_left
   ·rw [if_neg c6] at H
    exact absurd H (by simp)
   rw [if_pos c6] at H
   have c6b0 : decide (x5_1 < (l1.length : Int)) = true := dT_q c6
   clear c6
   by_cases c7 : (rd l0 x5_1) = (rd l1 x5_1)
   rotate_left
   ·rw [if_neg c7] at H
    have c7b0 : ((rd l0 x5_1) == (rd l1 x5_1)) = false := fN_q.mpr c7
    have c7b1 : ((rd l0 x5_1) != (rd l1 x5_1)) = true := nI_q.mpr c7
    obtain rfl := oI_q H
    have p127 : 0 ≤ (x5_1 : Int) := oD_q (by assumption)
    have q127 : x5_1 < (l0.length : Int) := oD_q (by assumption)
    obtain ⟨ad127, e127, hx127_0⟩ := aI_q HR0.out x5_1 p127 q127
    cases e127
    replace p127 := eq_true p127
    replace q127 := eq_true q127
    have p128 : 0 ≤ (x5_1 : Int) := oD_q (by assumption)
    have q128 : x5_1 < (l1.length : Int) := oD_q (by assumption)
    obtain ⟨ad128, e128, hx128_0⟩ := aI_q HR1.out x5_1 p128 q128
    cases e128
    replace p128 := eq_true p128
    replace q128 := eq_true q128
    go_wp2
    repeat (go_quiet (fail); try go_wp2)
    go_ret
    exact ⟨m3_q, m8_q⟩
   rw [if_pos c7] at H
   have c7b0 : ((rd l0 x5_1) == (rd l1 x5_1)) = true := beq_iff_eq.mpr c7
   have c7b1 : ((rd l0 x5_1) != (rd l1 x5_1)) = false := nE_q.mpr c7
   clear c7
   have H' := Ae_q H
   clear H
   have p127 : 0 ≤ (x5_1 : Int) := oD_q (by assumption)
   have q127 : x5_1 < (l0.length : Int) := oD_q (by assumption)
   obtain ⟨ad127, e127, hx127_0⟩ := aI_q HR0.out x5_1 p127 q127
   cases e127
   replace p127 := eq_true p127
   replace q127 := eq_true q127
   have p128 : 0 ≤ (x5_1 : Int) := oD_q (by assumption)
   have q128 : x5_1 < (l1.length : Int) := oD_q (by assumption)
   obtain ⟨ad128, e128, hx128_0⟩ := aI_q HR1.out x5_1 p128 q128
   cases e128
   replace p128 := eq_true p128
   replace q128 := eq_true q128
   go_wp2
   repeat (go_quiet (fail); try go_wp2)
   go_roundg k1
   case measure => have := HK1.out; omega
   case rel => exact ⟨(wrap64 (x5_1 + 1)), m3_q, H', ⟨m28_q⟩, m8_q⟩

def laws_eqBatch.f (k : Nat) (a0_0 : Int) (l0_1 : List Int) (a0_2 : Int) (a0_3 : Int) (a1_0 : Int) (l1_1 : List Int) (a1_2 : Int) (a1_3 : Int) : Option (Bool) := if a0_0 = a1_0 then ((laws_eqIntS.f k l0_1 l1_1).bind fun t131 => (if t131 = true then (if a0_2 = a1_2 then (if a0_3 = a1_3 then (some true) else (some false)) else (some false)) else (some false))) else (some false)
set_option maxHeartbeats 8000000 in
set_option maxRecDepth 100000 in
theorem laws_eqBatch.calls (k : Nat) (a0_0 : Int) (A0_1 : Option Addr) (c0_1 : Nat) (l0_1 : List Int) (a0_2 : Int) (a0_3 : Int) (a1_0 : Int) (A1_1 : Option Addr) (c1_1 : Nat) (l1_1 : List Int) (a1_2 : Int) (a1_3 : Int) (r : Bool) (w : World) (hr0_1 : Kd.C kI_q w A0_1 l0_1.length l0_1) (hc0_1 : l0_1.length ≤ c0_1) (hr1_1 : Kd.C kI_q w A1_1 l1_1.length l1_1) (hc1_1 : l1_1.length ≤ c1_1) (h : laws_eqBatch.f k a0_0 l0_1 a0_2 a0_3 a1_0 l1_1 a1_2 a1_3 = some r) :
    Calls Try.prog 51 #[.agg #[.int .i64 a0_0, .slice A0_1 l0_1.length c0_1, .int .i64 a0_2, .int .i64 a0_3], .agg #[.int .i64 a1_0, .slice A1_1 l1_1.length c1_1, .int .i64 a1_2, .int .i64 a1_3]] w fun e w' => e = .returned (.bool r) ∧ Below w.heap.size w w' := by
 have hu39 := Try.underlying39
 have HR0_1 := Ae_q hr0_1
 have HC0_1 := Ae_q hc0_1
 clear hr0_1 hc0_1
 have HR1_1 := Ae_q hr1_1
 have HC1_1 := Ae_q hc1_1
 clear hr1_1 hc1_1
 have HB := Ae_q (bR_q w.heap.size w)
 have H : (if a0_0 = a1_0 then ((laws_eqIntS.f k l0_1 l1_1).bind fun t131 => (if t131 = true then (if a0_2 = a1_2 then (if a0_3 = a1_3 then (some true) else (some false)) else (some false)) else (some false))) else (some false)) = some r := h
 clear h
 by_cases c3 : a0_0 = a1_0
 rotate_left
 ·rw [if_neg c3] at H
  have c3b0 : (a0_0 == a1_0) = false := fN_q.mpr c3
  have c3b1 : (a0_0 != a1_0) = true := nI_q.mpr c3
  obtain rfl := oI_q H
  go_enter Try.func51, Try.ntmps51
  go_wp2_with (first | ((with_reducible refine gD_q (N := 2) rfl ?_); refine bE_q ?hg (N := 2) ?hd (cs := #[.int .i64 a0_0, .slice A0_1 l0_1.length c0_1, .int .i64 a0_2, .int .i64 a0_3]) (t := 39) ?hr ?_; (case hd => rfl); (case hg => rfl); (case hr => exact m6_q); intro gb129 hg w' hbox hb; have BK129 := Ae_q (hbox); have GW129 := Ae_q ((by rw [hg]; exact (bZ_q (bel HB.out)) : w.heap.size ≤ gb129)); have GE129 := Ae_q ((by rw [hg]; exact (bZ_q (bel HB.out)) : w.heap.size ≤ gb129)); replace HB := Ae_q (bT_q (bel HB.out) hb); clear hb hbox hg) | ((with_reducible refine gD_q (N := 3) rfl ?_); refine bE_q ?hg (N := 3) ?hd (cs := #[.int .i64 a1_0, .slice A1_1 l1_1.length c1_1, .int .i64 a1_2, .int .i64 a1_3]) (t := 39) ?hr ?_; (case hd => rfl); (case hg => rfl); (case hr => exact m6_q); intro gb130 hg w29 hbox hb; have BK130 := Ae_q (hbox); have GW130 := Ae_q ((by rw [hg]; exact (bZ_q m11_q) : w.heap.size ≤ gb130)); have GE130 := Ae_q ((by rw [hg]; exact (bZ_q m11_q) : w.heap.size ≤ gb130)); replace HB := Ae_q (bT_q m11_q hb); have NB129_130 := Ae_q ((by rw [hg]; exact nL_q (blk_lt (g := gb129) (o := .cells #[.int .i64 a0_0, .slice A0_1 l0_1.length c0_1, .int .i64 a0_2, .int .i64 a0_3] 39 (0, 0)) (bup BK129.out)) : gb129 ≠ gb130)); have NB130_129 := Ae_q ((by rw [hg]; exact nG_q (blk_lt (g := gb129) (o := .cells #[.int .i64 a0_0, .slice A0_1 l0_1.length c0_1, .int .i64 a0_2, .int .i64 a0_3] 39 (0, 0)) (bup BK129.out)) : gb130 ≠ gb129)); replace BK129 := Ae_q (bB_q (g := gb129) (o := .cells #[.int .i64 a0_0, .slice A0_1 l0_1.length c0_1, .int .i64 a0_2, .int .i64 a0_3] 39 (0, 0)) (bup BK129.out) hb); clear hb hbox hg; have hnb30 := NB129_130.out; have hnc30 := NB130_129.out; have hcz31_0 : cI w29 gb129 0 a0_0 := cZ BK129 0 rfl; have hcz31_1 : w29.cell? ⟨gb129, 1, none⟩ = some (.slice A0_1 l0_1.length c0_1) := (bC_q BK129.out 1).trans rfl; have hcz31_2 : cI w29 gb129 2 a0_2 := cZ BK129 2 rfl; have hcz31_3 : cI w29 gb129 3 a0_3 := cZ BK129 3 rfl; have hfz31_0 := bF_q BK129.out 0; have hfz31_1 := bF_q BK129.out 1; have hfz31_2 := bF_q BK129.out 2; have hfz31_3 := bF_q BK129.out 3; have hcz32_0 : cI w29 gb130 0 a1_0 := cZ BK130 0 rfl; have hcz32_1 : w29.cell? ⟨gb130, 1, none⟩ = some (.slice A1_1 l1_1.length c1_1) := (bC_q BK130.out 1).trans rfl; have hcz32_2 : cI w29 gb130 2 a1_2 := cZ BK130 2 rfl; have hcz32_3 : cI w29 gb130 3 a1_3 := cZ BK130 3 rfl; have hfz32_0 := bF_q BK130.out 0; have hfz32_1 := bF_q BK130.out 1; have hfz32_2 := bF_q BK130.out 2; have hfz32_3 := bF_q BK130.out 3))
  go_ret
  exact ⟨m2_q, m20_q⟩
 rw [if_pos c3] at H
 have c3b0 : (a0_0 == a1_0) = true := beq_iff_eq.mpr c3
 have c3b1 : (a0_0 != a1_0) = false := nE_q.mpr c3
 clear c3
 replace H := oB_q.mp H
 obtain ⟨t131, A40, H⟩ := H
 replace H : (if t131 = true then (if a0_2 = a1_2 then (if a0_3 = a1_3 then (some true) else (some false)) else (some false)) else (some false)) = some r := H
 have A4 := Ae_q A40
 clear A40
 by_cases c5 : t131 = true
 rotate_left
 ·replace c5 := fM_q.mpr c5
  subst c5
  have H1 : (some false) = some r := by rw [if_neg (show ¬ (false = true) by decide)] at H; exact H
  clear H
  have H := H1
  clear H1
  obtain rfl := oI_q H
  go_enter Try.func51, Try.ntmps51
  go_wp2_with (first | ((with_reducible refine gD_q (N := 2) rfl ?_); refine bE_q ?hg (N := 2) ?hd (cs := #[.int .i64 a0_0, .slice A0_1 l0_1.length c0_1, .int .i64 a0_2, .int .i64 a0_3]) (t := 39) ?hr ?_; (case hd => rfl); (case hg => rfl); (case hr => exact m6_q); intro gb129 hg w' hbox hb; have BK129 := Ae_q (hbox); have GW129 := Ae_q ((by rw [hg]; exact (bZ_q (bel HB.out)) : w.heap.size ≤ gb129)); have GE129 := Ae_q ((by rw [hg]; exact (bZ_q (bel HB.out)) : w.heap.size ≤ gb129)); replace HB := Ae_q (bT_q (bel HB.out) hb); clear hb hbox hg) | ((with_reducible refine gD_q (N := 3) rfl ?_); refine bE_q ?hg (N := 3) ?hd (cs := #[.int .i64 a1_0, .slice A1_1 l1_1.length c1_1, .int .i64 a1_2, .int .i64 a1_3]) (t := 39) ?hr ?_; (case hd => rfl); (case hg => rfl); (case hr => exact m6_q); intro gb130 hg w24 hbox hb; have BK130 := Ae_q (hbox); have GW130 := Ae_q ((by rw [hg]; exact (bZ_q m11_q) : w.heap.size ≤ gb130)); have GE130 := Ae_q ((by rw [hg]; exact (bZ_q m11_q) : w.heap.size ≤ gb130)); replace HB := Ae_q (bT_q m11_q hb); have NB129_130 := Ae_q ((by rw [hg]; exact nL_q (blk_lt (g := gb129) (o := .cells #[.int .i64 a0_0, .slice A0_1 l0_1.length c0_1, .int .i64 a0_2, .int .i64 a0_3] 39 (0, 0)) (bup BK129.out)) : gb129 ≠ gb130)); have NB130_129 := Ae_q ((by rw [hg]; exact nG_q (blk_lt (g := gb129) (o := .cells #[.int .i64 a0_0, .slice A0_1 l0_1.length c0_1, .int .i64 a0_2, .int .i64 a0_3] 39 (0, 0)) (bup BK129.out)) : gb130 ≠ gb129)); replace BK129 := Ae_q (bB_q (g := gb129) (o := .cells #[.int .i64 a0_0, .slice A0_1 l0_1.length c0_1, .int .i64 a0_2, .int .i64 a0_3] 39 (0, 0)) (bup BK129.out) hb); clear hb hbox hg; have hnb25 := NB129_130.out; have hnc25 := NB130_129.out; have hcz26_0 : cI w24 gb129 0 a0_0 := cZ BK129 0 rfl; have hcz26_1 : w24.cell? ⟨gb129, 1, none⟩ = some (.slice A0_1 l0_1.length c0_1) := (bC_q BK129.out 1).trans rfl; have hcz26_2 : cI w24 gb129 2 a0_2 := cZ BK129 2 rfl; have hcz26_3 : cI w24 gb129 3 a0_3 := cZ BK129 3 rfl; have hfz26_0 := bF_q BK129.out 0; have hfz26_1 := bF_q BK129.out 1; have hfz26_2 := bF_q BK129.out 2; have hfz26_3 := bF_q BK129.out 3; have hcz27_0 : cI w24 gb130 0 a1_0 := cZ BK130 0 rfl; have hcz27_1 : w24.cell? ⟨gb130, 1, none⟩ = some (.slice A1_1 l1_1.length c1_1) := (bC_q BK130.out 1).trans rfl; have hcz27_2 : cI w24 gb130 2 a1_2 := cZ BK130 2 rfl; have hcz27_3 : cI w24 gb130 3 a1_3 := cZ BK130 3 rfl; have hfz27_0 := bF_q BK130.out 0; have hfz27_1 := bF_q BK130.out 1; have hfz27_2 := bF_q BK130.out 2; have hfz27_3 := bF_q BK130.out 3) | ((with_reducible refine gC_q (f := 25) rfl ?_); refine gL_q (some 14) rfl rfl Try.func25 m5_q rfl #[.slice A0_1 l0_1.length c0_1, .slice A1_1 l1_1.length c1_1] rfl m0_q ?_; (with_reducible refine (laws_eqIntS.calls k _ _ l0_1 _ _ l1_1 false _ ?side1 ?side2 ?side3 ?side4 A4.out).mono ?_); (case side1 => exact m46_q); (case side2 => exact HC0_1.out); (case side3 => exact m57_q); (case side4 => exact HC1_1.out); rintro e w' ⟨rfl, ⟨nd, rfl⟩⟩; refine ⟨_, rfl, ?_⟩))
  go_ret
  exact ⟨m2_q, m20_q⟩
 subst c5
 have H1 : (if a0_2 = a1_2 then (if a0_3 = a1_3 then (some true) else (some false)) else (some false)) = some r := by rw [if_pos rfl] at H; exact H
 clear H
 have H := H1
 clear H1
 by_cases c6 : a0_2 = a1_2
 rotate_left
 ·rw [if_neg c6] at H
  have c6b0 : (a0_2 == a1_2) = false := fN_q.mpr c6
  have c6b1 : (a0_2 != a1_2) = true := nI_q.mpr c6
  obtain rfl := oI_q H
  go_enter Try.func51, Try.ntmps51
  go_wp2_with (first | ((with_reducible refine gD_q (N := 2) rfl ?_); refine bE_q ?hg (N := 2) ?hd (cs := #[.int .i64 a0_0, .slice A0_1 l0_1.length c0_1, .int .i64 a0_2, .int .i64 a0_3]) (t := 39) ?hr ?_; (case hd => rfl); (case hg => rfl); (case hr => exact m6_q); intro gb129 hg w' hbox hb; have BK129 := Ae_q (hbox); have GW129 := Ae_q ((by rw [hg]; exact (bZ_q (bel HB.out)) : w.heap.size ≤ gb129)); have GE129 := Ae_q ((by rw [hg]; exact (bZ_q (bel HB.out)) : w.heap.size ≤ gb129)); replace HB := Ae_q (bT_q (bel HB.out) hb); clear hb hbox hg) | ((with_reducible refine gD_q (N := 3) rfl ?_); refine bE_q ?hg (N := 3) ?hd (cs := #[.int .i64 a1_0, .slice A1_1 l1_1.length c1_1, .int .i64 a1_2, .int .i64 a1_3]) (t := 39) ?hr ?_; (case hd => rfl); (case hg => rfl); (case hr => exact m6_q); intro gb130 hg w19 hbox hb; have BK130 := Ae_q (hbox); have GW130 := Ae_q ((by rw [hg]; exact (bZ_q m11_q) : w.heap.size ≤ gb130)); have GE130 := Ae_q ((by rw [hg]; exact (bZ_q m11_q) : w.heap.size ≤ gb130)); replace HB := Ae_q (bT_q m11_q hb); have NB129_130 := Ae_q ((by rw [hg]; exact nL_q (blk_lt (g := gb129) (o := .cells #[.int .i64 a0_0, .slice A0_1 l0_1.length c0_1, .int .i64 a0_2, .int .i64 a0_3] 39 (0, 0)) (bup BK129.out)) : gb129 ≠ gb130)); have NB130_129 := Ae_q ((by rw [hg]; exact nG_q (blk_lt (g := gb129) (o := .cells #[.int .i64 a0_0, .slice A0_1 l0_1.length c0_1, .int .i64 a0_2, .int .i64 a0_3] 39 (0, 0)) (bup BK129.out)) : gb130 ≠ gb129)); replace BK129 := Ae_q (bB_q (g := gb129) (o := .cells #[.int .i64 a0_0, .slice A0_1 l0_1.length c0_1, .int .i64 a0_2, .int .i64 a0_3] 39 (0, 0)) (bup BK129.out) hb); clear hb hbox hg; have hnb20 := NB129_130.out; have hnc20 := NB130_129.out; have hcz21_0 : cI w19 gb129 0 a0_0 := cZ BK129 0 rfl; have hcz21_1 : w19.cell? ⟨gb129, 1, none⟩ = some (.slice A0_1 l0_1.length c0_1) := (bC_q BK129.out 1).trans rfl; have hcz21_2 : cI w19 gb129 2 a0_2 := cZ BK129 2 rfl; have hcz21_3 : cI w19 gb129 3 a0_3 := cZ BK129 3 rfl; have hfz21_0 := bF_q BK129.out 0; have hfz21_1 := bF_q BK129.out 1; have hfz21_2 := bF_q BK129.out 2; have hfz21_3 := bF_q BK129.out 3; have hcz22_0 : cI w19 gb130 0 a1_0 := cZ BK130 0 rfl; have hcz22_1 : w19.cell? ⟨gb130, 1, none⟩ = some (.slice A1_1 l1_1.length c1_1) := (bC_q BK130.out 1).trans rfl; have hcz22_2 : cI w19 gb130 2 a1_2 := cZ BK130 2 rfl; have hcz22_3 : cI w19 gb130 3 a1_3 := cZ BK130 3 rfl; have hfz22_0 := bF_q BK130.out 0; have hfz22_1 := bF_q BK130.out 1; have hfz22_2 := bF_q BK130.out 2; have hfz22_3 := bF_q BK130.out 3) | ((with_reducible refine gC_q (f := 25) rfl ?_); refine gL_q (some 14) rfl rfl Try.func25 m5_q rfl #[.slice A0_1 l0_1.length c0_1, .slice A1_1 l1_1.length c1_1] rfl m0_q ?_; (with_reducible refine (laws_eqIntS.calls k _ _ l0_1 _ _ l1_1 true _ ?side1 ?side2 ?side3 ?side4 A4.out).mono ?_); (case side1 => exact m46_q); (case side2 => exact HC0_1.out); (case side3 => exact m57_q); (case side4 => exact HC1_1.out); rintro e w' ⟨rfl, ⟨nd, rfl⟩⟩; refine ⟨_, rfl, ?_⟩))
  go_ret
  exact ⟨m2_q, m20_q⟩
 rw [if_pos c6] at H
 have c6b0 : (a0_2 == a1_2) = true := beq_iff_eq.mpr c6
 have c6b1 : (a0_2 != a1_2) = false := nE_q.mpr c6
 clear c6
 by_cases c7 : a0_3 = a1_3
 ·rw [if_pos c7] at H
  have c7b0 : (a0_3 == a1_3) = true := beq_iff_eq.mpr c7
  have c7b1 : (a0_3 != a1_3) = false := nE_q.mpr c7
  clear c7
  obtain rfl := oI_q H
  go_enter Try.func51, Try.ntmps51
  go_wp2_with (first | ((with_reducible refine gD_q (N := 2) rfl ?_); refine bE_q ?hg (N := 2) ?hd (cs := #[.int .i64 a0_0, .slice A0_1 l0_1.length c0_1, .int .i64 a0_2, .int .i64 a0_3]) (t := 39) ?hr ?_; (case hd => rfl); (case hg => rfl); (case hr => exact m6_q); intro gb129 hg w' hbox hb; have BK129 := Ae_q (hbox); have GW129 := Ae_q ((by rw [hg]; exact (bZ_q (bel HB.out)) : w.heap.size ≤ gb129)); have GE129 := Ae_q ((by rw [hg]; exact (bZ_q (bel HB.out)) : w.heap.size ≤ gb129)); replace HB := Ae_q (bT_q (bel HB.out) hb); clear hb hbox hg) | ((with_reducible refine gD_q (N := 3) rfl ?_); refine bE_q ?hg (N := 3) ?hd (cs := #[.int .i64 a1_0, .slice A1_1 l1_1.length c1_1, .int .i64 a1_2, .int .i64 a1_3]) (t := 39) ?hr ?_; (case hd => rfl); (case hg => rfl); (case hr => exact m6_q); intro gb130 hg w9 hbox hb; have BK130 := Ae_q (hbox); have GW130 := Ae_q ((by rw [hg]; exact (bZ_q m11_q) : w.heap.size ≤ gb130)); have GE130 := Ae_q ((by rw [hg]; exact (bZ_q m11_q) : w.heap.size ≤ gb130)); replace HB := Ae_q (bT_q m11_q hb); have NB129_130 := Ae_q ((by rw [hg]; exact nL_q (blk_lt (g := gb129) (o := .cells #[.int .i64 a0_0, .slice A0_1 l0_1.length c0_1, .int .i64 a0_2, .int .i64 a0_3] 39 (0, 0)) (bup BK129.out)) : gb129 ≠ gb130)); have NB130_129 := Ae_q ((by rw [hg]; exact nG_q (blk_lt (g := gb129) (o := .cells #[.int .i64 a0_0, .slice A0_1 l0_1.length c0_1, .int .i64 a0_2, .int .i64 a0_3] 39 (0, 0)) (bup BK129.out)) : gb130 ≠ gb129)); replace BK129 := Ae_q (bB_q (g := gb129) (o := .cells #[.int .i64 a0_0, .slice A0_1 l0_1.length c0_1, .int .i64 a0_2, .int .i64 a0_3] 39 (0, 0)) (bup BK129.out) hb); clear hb hbox hg; have hnb10 := NB129_130.out; have hnc10 := NB130_129.out; have hcz11_0 : cI w9 gb129 0 a0_0 := cZ BK129 0 rfl; have hcz11_1 : w9.cell? ⟨gb129, 1, none⟩ = some (.slice A0_1 l0_1.length c0_1) := (bC_q BK129.out 1).trans rfl; have hcz11_2 : cI w9 gb129 2 a0_2 := cZ BK129 2 rfl; have hcz11_3 : cI w9 gb129 3 a0_3 := cZ BK129 3 rfl; have hfz11_0 := bF_q BK129.out 0; have hfz11_1 := bF_q BK129.out 1; have hfz11_2 := bF_q BK129.out 2; have hfz11_3 := bF_q BK129.out 3; have hcz12_0 : cI w9 gb130 0 a1_0 := cZ BK130 0 rfl; have hcz12_1 : w9.cell? ⟨gb130, 1, none⟩ = some (.slice A1_1 l1_1.length c1_1) := (bC_q BK130.out 1).trans rfl; have hcz12_2 : cI w9 gb130 2 a1_2 := cZ BK130 2 rfl; have hcz12_3 : cI w9 gb130 3 a1_3 := cZ BK130 3 rfl; have hfz12_0 := bF_q BK130.out 0; have hfz12_1 := bF_q BK130.out 1; have hfz12_2 := bF_q BK130.out 2; have hfz12_3 := bF_q BK130.out 3) | ((with_reducible refine gC_q (f := 25) rfl ?_); refine gL_q (some 14) rfl rfl Try.func25 m5_q rfl #[.slice A0_1 l0_1.length c0_1, .slice A1_1 l1_1.length c1_1] rfl m0_q ?_; (with_reducible refine (laws_eqIntS.calls k _ _ l0_1 _ _ l1_1 true _ ?side1 ?side2 ?side3 ?side4 A4.out).mono ?_); (case side1 => exact m46_q); (case side2 => exact HC0_1.out); (case side3 => exact m57_q); (case side4 => exact HC1_1.out); rintro e w' ⟨rfl, ⟨nd, rfl⟩⟩; refine ⟨_, rfl, ?_⟩))
  go_ret
  exact ⟨m2_q, m20_q⟩
 rw [if_neg c7] at H
 have c7b0 : (a0_3 == a1_3) = false := fN_q.mpr c7
 have c7b1 : (a0_3 != a1_3) = true := nI_q.mpr c7
 obtain rfl := oI_q H
 go_enter Try.func51, Try.ntmps51
 go_wp2_with (first | ((with_reducible refine gD_q (N := 2) rfl ?_); refine bE_q ?hg (N := 2) ?hd (cs := #[.int .i64 a0_0, .slice A0_1 l0_1.length c0_1, .int .i64 a0_2, .int .i64 a0_3]) (t := 39) ?hr ?_; (case hd => rfl); (case hg => rfl); (case hr => exact m6_q); intro gb129 hg w13 hbox hb; have BK129 := Ae_q (hbox); have GW129 := Ae_q ((by rw [hg]; exact (bZ_q (bel HB.out)) : w.heap.size ≤ gb129)); have GE129 := Ae_q ((by rw [hg]; exact (bZ_q (bel HB.out)) : w.heap.size ≤ gb129)); replace HB := Ae_q (bT_q (bel HB.out) hb); clear hb hbox hg) | ((with_reducible refine gD_q (N := 3) rfl ?_); refine bE_q ?hg (N := 3) ?hd (cs := #[.int .i64 a1_0, .slice A1_1 l1_1.length c1_1, .int .i64 a1_2, .int .i64 a1_3]) (t := 39) ?hr ?_; (case hd => rfl); (case hg => rfl); (case hr => exact m6_q); intro gb130 hg w14 hbox hb; have BK130 := Ae_q (hbox); have GW130 := Ae_q ((by rw [hg]; exact (bZ_q m11_q) : w.heap.size ≤ gb130)); have GE130 := Ae_q ((by rw [hg]; exact (bZ_q m11_q) : w.heap.size ≤ gb130)); replace HB := Ae_q (bT_q m11_q hb); have NB129_130 := Ae_q ((by rw [hg]; exact nL_q (blk_lt (g := gb129) (o := .cells #[.int .i64 a0_0, .slice A0_1 l0_1.length c0_1, .int .i64 a0_2, .int .i64 a0_3] 39 (0, 0)) (bup BK129.out)) : gb129 ≠ gb130)); have NB130_129 := Ae_q ((by rw [hg]; exact nG_q (blk_lt (g := gb129) (o := .cells #[.int .i64 a0_0, .slice A0_1 l0_1.length c0_1, .int .i64 a0_2, .int .i64 a0_3] 39 (0, 0)) (bup BK129.out)) : gb130 ≠ gb129)); replace BK129 := Ae_q (bB_q (g := gb129) (o := .cells #[.int .i64 a0_0, .slice A0_1 l0_1.length c0_1, .int .i64 a0_2, .int .i64 a0_3] 39 (0, 0)) (bup BK129.out) hb); clear hb hbox hg; have hnb15 := NB129_130.out; have hnc15 := NB130_129.out; have hcz16_0 : cI w14 gb129 0 a0_0 := cZ BK129 0 rfl; have hcz16_1 : w14.cell? ⟨gb129, 1, none⟩ = some (.slice A0_1 l0_1.length c0_1) := (bC_q BK129.out 1).trans rfl; have hcz16_2 : cI w14 gb129 2 a0_2 := cZ BK129 2 rfl; have hcz16_3 : cI w14 gb129 3 a0_3 := cZ BK129 3 rfl; have hfz16_0 := bF_q BK129.out 0; have hfz16_1 := bF_q BK129.out 1; have hfz16_2 := bF_q BK129.out 2; have hfz16_3 := bF_q BK129.out 3; have hcz17_0 : cI w14 gb130 0 a1_0 := cZ BK130 0 rfl; have hcz17_1 : w14.cell? ⟨gb130, 1, none⟩ = some (.slice A1_1 l1_1.length c1_1) := (bC_q BK130.out 1).trans rfl; have hcz17_2 : cI w14 gb130 2 a1_2 := cZ BK130 2 rfl; have hcz17_3 : cI w14 gb130 3 a1_3 := cZ BK130 3 rfl; have hfz17_0 := bF_q BK130.out 0; have hfz17_1 := bF_q BK130.out 1; have hfz17_2 := bF_q BK130.out 2; have hfz17_3 := bF_q BK130.out 3) | ((with_reducible refine gC_q (f := 25) rfl ?_); refine gL_q (some 14) rfl rfl Try.func25 m5_q rfl #[.slice A0_1 l0_1.length c0_1, .slice A1_1 l1_1.length c1_1] rfl m0_q ?_; (with_reducible refine (laws_eqIntS.calls k _ _ l0_1 _ _ l1_1 true _ ?side1 ?side2 ?side3 ?side4 A4.out).mono ?_); (case side1 => exact m46_q); (case side2 => exact HC0_1.out); (case side3 => exact m57_q); (case side4 => exact HC1_1.out); rintro e w' ⟨rfl, ⟨nd, rfl⟩⟩; refine ⟨_, rfl, ?_⟩))
 go_ret
 exact ⟨m2_q, m20_q⟩

end Go.Proofs.Ytnckblolijkdaaa.PBt
