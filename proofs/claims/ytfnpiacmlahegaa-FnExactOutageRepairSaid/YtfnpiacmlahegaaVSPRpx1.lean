import Derived.Test.YtfnpiacmlahegaaVSPRpx0
namespace Go.Proofs.Ytfnpiacmlahegaa.PRp
open Go.RowKit Go.Proofs.YtfnpiacmlahegaaW.PrintWords Go.Proofs.YtfnpiacmlahegaaW.PrintLast Go.Proofs.YtfnpiacmlahegaaW.PrintMore
attribute [local go_sem] max2_int min2_int max_two min_two max_three min_three max_four min_four
set_option linter.unusedVariables false
set_option linter.unusedSimpArgs false

def laws_szIntS.f (l0 : List Int) (a1 : Int) : Option (Int) := if (wrap64 (a1 - (l0.length : Int))) < 0 then (some (-1)) else (some (wrap64 (a1 - (l0.length : Int))))
set_option maxHeartbeats 8000000 in
set_option maxRecDepth 100000 in
theorem laws_szIntS.calls (A0 : Option Addr) (c0 : Nat) (l0 : List Int) (a1 : Int) (r : Int) (w : World) (hr0 : Kd.C kI_q w A0 l0.length l0) (hc0 : l0.length ≤ c0) (h : laws_szIntS.f l0 a1 = some r) :
    Calls Try.prog 42 #[.slice A0 l0.length c0, .int .i64 a1] w fun e w' => e = .returned (.int .i64 r) ∧ Drawn0 w w' := by
 have HR0 := Ae_q hr0
 have HC0 := Ae_q hc0
 clear hr0 hc0
 have H : (if (wrap64 (a1 - (l0.length : Int))) < 0 then (some (-1)) else (some (wrap64 (a1 - (l0.length : Int))))) = some r := h
 clear h
 by_cases c3 : (wrap64 (a1 - (l0.length : Int))) < 0
 ·rw [if_pos c3] at H
  have c3b0 : decide ((wrap64 (a1 - (l0.length : Int))) < 0) = true := dT_q c3
  clear c3
  obtain rfl := oI_q H
  go_enter Try.func42, Try.ntmps42
  go_wp2
  go_ret
  exact ⟨m5_q, m37_q⟩
 rw [if_neg c3] at H
 have c3b0 : decide ((wrap64 (a1 - (l0.length : Int))) < 0) = false := dF_q c3
 clear c3
 obtain rfl := oI_q H
 go_enter Try.func42, Try.ntmps42
 go_wp2
 go_ret
 exact ⟨m5_q, m37_q⟩

def laws_szStep.f (a0_0 : Int) (a0_1 : Int) (a0_2 : Int) (l0_3 : List Int) (a1 : Int) : Option (Int) := (laws_szIntS.f l0_3 a1).bind fun t102 => (if t102 < 0 then (some (-1)) else (some t102))
set_option maxHeartbeats 8000000 in
set_option maxRecDepth 100000 in
theorem laws_szStep.calls (a0_0 : Int) (a0_1 : Int) (a0_2 : Int) (A0_3 : Option Addr) (c0_3 : Nat) (l0_3 : List Int) (a1 : Int) (r : Int) (w : World) (hr0_3 : Kd.C kI_q w A0_3 l0_3.length l0_3) (hc0_3 : l0_3.length ≤ c0_3) (h : laws_szStep.f a0_0 a0_1 a0_2 l0_3 a1 = some r) :
    Calls Try.prog 33 #[.agg #[.int .i64 a0_0, .int .i64 a0_1, .int .i64 a0_2, .slice A0_3 l0_3.length c0_3], .int .i64 a1] w fun e w' => e = .returned (.int .i64 r) ∧ Below w.heap.size w w' := by
 have hu59 := Try.underlying59
 have HR0_3 := Ae_q hr0_3
 have HC0_3 := Ae_q hc0_3
 clear hr0_3 hc0_3
 have HB := Ae_q (bR_q w.heap.size w)
 have H : ((laws_szIntS.f l0_3 a1).bind fun t102 => (if t102 < 0 then (some (-1)) else (some t102))) = some r := h
 clear h
 replace H := oB_q.mp H
 obtain ⟨t102, A30, H⟩ := H
 replace H : (if t102 < 0 then (some (-1)) else (some t102)) = some r := H
 have A3 := Ae_q A30
 clear A30
 by_cases c4 : t102 < 0
 ·rw [if_pos c4] at H
  have c4b0 : decide (t102 < 0) = true := dT_q c4
  clear c4
  obtain rfl := oI_q H
  go_enter Try.func33, Try.ntmps33
  go_wp2_with (first | ((with_reducible refine gD_q (N := 2) rfl ?_); refine bE_q ?hg (N := 2) ?hd (cs := #[.int .i64 a0_0, .int .i64 a0_1, .int .i64 a0_2, .slice A0_3 l0_3.length c0_3]) (t := 59) ?hr ?_; (case hd => rfl); (case hg => rfl); (case hr => exact m6_q); intro gb101 hg w5 hbox hb; have BK101 := Ae_q (hbox); have GW101 := Ae_q ((by rw [hg]; exact (bZ_q (bel HB.out)) : w.heap.size ≤ gb101)); have GE101 := Ae_q ((by rw [hg]; exact (bZ_q (bel HB.out)) : w.heap.size ≤ gb101)); replace HB := Ae_q (bT_q (bel HB.out) hb); clear hb hbox hg; have hcz6_0 : cI w5 gb101 0 a0_0 := cZ BK101 0 rfl; have hcz6_1 : cI w5 gb101 1 a0_1 := cZ BK101 1 rfl; have hcz6_2 : cI w5 gb101 2 a0_2 := cZ BK101 2 rfl; have hcz6_3 : w5.cell? ⟨gb101, 3, none⟩ = some (.slice A0_3 l0_3.length c0_3) := (bC_q BK101.out 3).trans rfl; have hfz6_0 := bF_q BK101.out 0; have hfz6_1 := bF_q BK101.out 1; have hfz6_2 := bF_q BK101.out 2; have hfz6_3 := bF_q BK101.out 3) | ((with_reducible refine gC_q (f := 42) rfl ?_); refine gL_q (some 8) rfl rfl Try.func42 m7_q rfl #[.slice A0_3 l0_3.length c0_3, .int .i64 a1] rfl m1_q ?_; (with_reducible refine (laws_szIntS.calls _ _ l0_3 a1 t102 _ ?side1 ?side2 A3.out).mono ?_); (case side1 => exact m119_q); (case side2 => exact HC0_3.out); rintro e w' ⟨rfl, ⟨nd, rfl⟩⟩; refine ⟨_, rfl, ?_⟩))
  go_ret
  exact ⟨m4_q, m107_q⟩
 rw [if_neg c4] at H
 have c4b0 : decide (t102 < 0) = false := dF_q c4
 clear c4
 obtain rfl := oI_q H
 go_enter Try.func33, Try.ntmps33
 go_wp2_with (first | ((with_reducible refine gD_q (N := 2) rfl ?_); refine bE_q ?hg (N := 2) ?hd (cs := #[.int .i64 a0_0, .int .i64 a0_1, .int .i64 a0_2, .slice A0_3 l0_3.length c0_3]) (t := 59) ?hr ?_; (case hd => rfl); (case hg => rfl); (case hr => exact m6_q); intro gb101 hg w7 hbox hb; have BK101 := Ae_q (hbox); have GW101 := Ae_q ((by rw [hg]; exact (bZ_q (bel HB.out)) : w.heap.size ≤ gb101)); have GE101 := Ae_q ((by rw [hg]; exact (bZ_q (bel HB.out)) : w.heap.size ≤ gb101)); replace HB := Ae_q (bT_q (bel HB.out) hb); clear hb hbox hg; have hcz8_0 : cI w7 gb101 0 a0_0 := cZ BK101 0 rfl; have hcz8_1 : cI w7 gb101 1 a0_1 := cZ BK101 1 rfl; have hcz8_2 : cI w7 gb101 2 a0_2 := cZ BK101 2 rfl; have hcz8_3 : w7.cell? ⟨gb101, 3, none⟩ = some (.slice A0_3 l0_3.length c0_3) := (bC_q BK101.out 3).trans rfl; have hfz8_0 := bF_q BK101.out 0; have hfz8_1 := bF_q BK101.out 1; have hfz8_2 := bF_q BK101.out 2; have hfz8_3 := bF_q BK101.out 3) | ((with_reducible refine gC_q (f := 42) rfl ?_); refine gL_q (some 8) rfl rfl Try.func42 m7_q rfl #[.slice A0_3 l0_3.length c0_3, .int .i64 a1] rfl m1_q ?_; (with_reducible refine (laws_szIntS.calls _ _ l0_3 a1 t102 _ ?side1 ?side2 A3.out).mono ?_); (case side1 => exact m119_q); (case side2 => exact HC0_3.out); rintro e w' ⟨rfl, ⟨nd, rfl⟩⟩; refine ⟨_, rfl, ?_⟩))
 go_ret
 exact ⟨m4_q, m107_q⟩

def laws_szStepS.l0 : Nat → List (S59) → Int → Int → Option (Int)
 | 0, _, _, _ => none
 | k + 1, x0, x1, x5 => if x5 < (x0.length : Int) then (if 0 ≤ x5 then ((laws_szStep.f ((rd_T59 x0 x5).f0) ((rd_T59 x0 x5).f1) ((rd_T59 x0 x5).f2) ((rd_T59 x0 x5).f3) x1).bind fun t104 => (if t104 < 0 then (some (-1)) else (laws_szStepS.l0 k x0 t104 (wrap64 (x5 + 1))))) else (none)) else (some x1)
def laws_szStepS.f (k : Nat) (l0 : List (S59)) (a1 : Int) : Option (Int) := if (wrap64 (a1 - (l0.length : Int))) < 0 then (some (-1)) else (laws_szStepS.l0 k l0 (wrap64 (a1 - (l0.length : Int))) 0)
set_option maxHeartbeats 8000000 in
set_option maxRecDepth 100000 in
theorem laws_szStepS.calls (k : Nat) (A0 : Option Addr) (c0 : Nat) (l0 : List (S59)) (a1 : Int) (r : Int) (w : World) (hr0 : Kd.C k59 w A0 l0.length l0) (hc0 : l0.length ≤ c0) (h : laws_szStepS.f k l0 a1 = some r) :
    Calls Try.prog 10 #[.slice A0 l0.length c0, .int .i64 a1] w fun e w' => e = .returned (.int .i64 r) ∧ Below w.heap.size w w' := by
 have hu59 := Try.underlying59
 have HR0 := Ae_q hr0
 have HC0 := Ae_q hc0
 clear hr0 hc0
 have HB := Ae_q (bR_q w.heap.size w)
 have H : (if (wrap64 (a1 - (l0.length : Int))) < 0 then (some (-1)) else (laws_szStepS.l0 k l0 (wrap64 (a1 - (l0.length : Int))) 0)) = some r := h
 clear h
 by_cases c3 : (wrap64 (a1 - (l0.length : Int))) < 0
 ·rw [if_pos c3] at H
  have c3b0 : decide ((wrap64 (a1 - (l0.length : Int))) < 0) = true := dT_q c3
  clear c3
  obtain rfl := oI_q H
  go_enter Try.func10, Try.ntmps10
  go_wp2
  go_ret
  exact ⟨m4_q, bel HB.out⟩
 rw [if_neg c3] at H
 have c3b0 : decide ((wrap64 (a1 - (l0.length : Int))) < 0) = false := dF_q c3
 clear c3
 have H' := Ae_q H
 clear H
 go_enter Try.func10, Try.ntmps10
 go_wp2
 go_loopg [1, 5] k (fun kq v1 v5 w' => ∃ (x1_1 : Int) (x5_1 : Int), v1 = .int .i64 x1_1 ∧ v5 = .int .i64 x5_1 ∧ Aside0 (laws_szStepS.l0 kq l0 x1_1 x5_1 = some r) ∧ Aside0 (kq ≤ k) ∧ Aside0 (Below w.heap.size w w'))
 case atStart => exact ⟨(wrap64 (a1 - (l0.length : Int))), (0), m5_q, m5_q, H', ⟨nR_q _⟩, ⟨bel HB.out⟩⟩
 case round =>
  clear H'
  try clear c1
  try clear p2
  try clear c3
  try clear c3b0
  obtain ⟨x1_1, x5_1, rfl, rfl, HA, HK1, HB⟩ := hrel
  cases gk with
  | zero => exact absurd HA.out (by simp [laws_szStepS.l0])
  | succ k1 =>
   have H := HA.out
   clear HA
   simp only [laws_szStepS.l0] at H
   by_cases c4 : x5_1 < (l0.length : Int)
   rotate_left
   ·rw [if_neg c4] at H
    have c4b0 : decide (x5_1 < (l0.length : Int)) = false := dF_q c4
    clear c4
    obtain rfl := oI_q H
    go_wp2
    go_ret
    exact ⟨m4_q, bel HB.out⟩
   rw [if_pos c4] at H
   have c4b0 : decide (x5_1 < (l0.length : Int)) = true := dT_q c4
   clear c4
   by_cases c5 : 0 ≤ x5_1
   rotate_left
   ·rw [if_neg c5] at H
    exact absurd H (by simp)
   rw [if_pos c5] at H
   have c5b0 : decide (0 ≤ x5_1) = true := dT_q c5
   clear c5
   replace H := oB_q.mp H
   obtain ⟨t104, A60, H⟩ := H
   replace H : (if t104 < 0 then (some (-1)) else (laws_szStepS.l0 k1 l0 t104 (wrap64 (x5_1 + 1)))) = some r := H
   have A6 := Ae_q A60
   clear A60
   by_cases c7 : t104 < 0
   ·rw [if_pos c7] at H
    have c7b0 : decide (t104 < 0) = true := dT_q c7
    clear c7
    obtain rfl := oI_q H
    have p103 : 0 ≤ (x5_1 : Int) := oD_q (by assumption)
    have q103 : x5_1 < (l0.length : Int) := oD_q (by assumption)
    obtain ⟨ad103, A103_3, c103_3, e103, hx103_0, hx103_1, hx103_2, hx103_3, hl103_3, hi103_3⟩ := at_T59 HR0.out x5_1 p103 q103
    cases e103
    replace hx103_0 := cel HB.out hx103_0
    replace hx103_1 := cel HB.out hx103_1
    replace hx103_2 := cel HB.out hx103_2
    replace hx103_3 := cel HB.out hx103_3
    have HR103_3 := Ae_q hi103_3
    have HC103_3 := Ae_q hl103_3
    clear hi103_3 hl103_3
    replace p103 := eq_true p103
    replace q103 := eq_true q103
    go_wp2_with (first | ((with_reducible refine gC_q (f := 33) rfl ?_); refine gL_q (some 23) rfl rfl Try.func33 m7_q rfl #[.agg #[.int .i64 ((rd_T59 l0 x5_1).f0), .int .i64 ((rd_T59 l0 x5_1).f1), .int .i64 ((rd_T59 l0 x5_1).f2), .slice A103_3 ((rd_T59 l0 x5_1).f3).length c103_3], .int .i64 x1_1] rfl m1_q ?_; (with_reducible refine (laws_szStep.calls ((rd_T59 l0 x5_1).f0) ((rd_T59 l0 x5_1).f1) ((rd_T59 l0 x5_1).f2) _ _ ((rd_T59 l0 x5_1).f3) x1_1 t104 _ ?side1 ?side2 A6.out).mono ?_); (case side1 => exact cup (cB_q HR103_3.out HB.out)); (case side2 => exact HC103_3.out); rintro e w' ⟨rfl, hb⟩; refine ⟨_, rfl, ?_⟩; replace HB := Ae_q (bT_q (bel HB.out) hb); (try clear hb); (try clear hb2); (try clear hk); (try clear hi)))
    go_ret
    exact ⟨m4_q, bel HB.out⟩
   rw [if_neg c7] at H
   have c7b0 : decide (t104 < 0) = false := dF_q c7
   clear c7
   have H' := Ae_q H
   clear H
   have p103 : 0 ≤ (x5_1 : Int) := oD_q (by assumption)
   have q103 : x5_1 < (l0.length : Int) := oD_q (by assumption)
   obtain ⟨ad103, A103_3, c103_3, e103, hx103_0, hx103_1, hx103_2, hx103_3, hl103_3, hi103_3⟩ := at_T59 HR0.out x5_1 p103 q103
   cases e103
   replace hx103_0 := cel HB.out hx103_0
   replace hx103_1 := cel HB.out hx103_1
   replace hx103_2 := cel HB.out hx103_2
   replace hx103_3 := cel HB.out hx103_3
   have HR103_3 := Ae_q hi103_3
   have HC103_3 := Ae_q hl103_3
   clear hi103_3 hl103_3
   replace p103 := eq_true p103
   replace q103 := eq_true q103
   go_wp2_with (first | ((with_reducible refine gC_q (f := 33) rfl ?_); refine gL_q (some 23) rfl rfl Try.func33 m7_q rfl #[.agg #[.int .i64 ((rd_T59 l0 x5_1).f0), .int .i64 ((rd_T59 l0 x5_1).f1), .int .i64 ((rd_T59 l0 x5_1).f2), .slice A103_3 ((rd_T59 l0 x5_1).f3).length c103_3], .int .i64 x1_1] rfl m1_q ?_; (with_reducible refine (laws_szStep.calls ((rd_T59 l0 x5_1).f0) ((rd_T59 l0 x5_1).f1) ((rd_T59 l0 x5_1).f2) _ _ ((rd_T59 l0 x5_1).f3) x1_1 t104 _ ?side1 ?side2 A6.out).mono ?_); (case side1 => exact cup (cB_q HR103_3.out HB.out)); (case side2 => exact HC103_3.out); rintro e w' ⟨rfl, hb⟩; refine ⟨_, rfl, ?_⟩; replace HB := Ae_q (bT_q (bel HB.out) hb); (try clear hb); (try clear hb2); (try clear hk); (try clear hi)))
   go_roundg k1
   case measure => have := HK1.out; omega
   case rel => exact ⟨(t104), (wrap64 (x5_1 + 1)), m5_q, m5_q, H', ⟨m74_q⟩, ⟨bel HB.out⟩⟩

def spec_l6In.f (a0 : Int) (a1 : Int) (a2 : Int) : Option (Bool) := if a0 ≥ a1 then (some (decide (a0 ≤ a2))) else (some false)
set_option maxHeartbeats 8000000 in
set_option maxRecDepth 100000 in
theorem spec_l6In.calls (a0 : Int) (a1 : Int) (a2 : Int) (r : Bool) (w : World) (h : spec_l6In.f a0 a1 a2 = some r) :
    Calls Try.prog 59 #[.int .i64 a0, .int .i64 a1, .int .i64 a2] w fun e w' => e = .returned (.bool r) ∧ Drawn0 w w' := by
 have H : (if a0 ≥ a1 then (some (decide (a0 ≤ a2))) else (some false)) = some r := h
 clear h
 by_cases c4 : a0 ≥ a1
 ·rw [if_pos c4] at H
  have c4b0 : decide (a1 ≤ a0) = true := dT_q c4
  clear c4
  obtain rfl := oI_q H
  go_enter Try.func59, Try.ntmps59
  go_wp2
  go_ret
  exact ⟨m5_q, m37_q⟩
 rw [if_neg c4] at H
 have c4b0 : decide (a1 ≤ a0) = false := dF_q c4
 clear c4
 obtain rfl := oI_q H
 go_enter Try.func59, Try.ntmps59
 go_wp2
 go_ret
 exact ⟨m5_q, m37_q⟩

mutual
def spec_StepsValid.l0 : Nat → List (S63) → Int → Option (Bool)
 | 0, _, _ => none
 | k + 1, x0, x3 => if x3 < (x0.length : Int) then (if 0 ≤ x3 then ((spec_l6In.f ((rd_T63 x0 x3).f0) 1 99).bind fun t107 => (if t107 = true then ((spec_l6In.f ((rd_T63 x0 x3).f1) 0 4).bind fun t108 => (if t108 = true then ((spec_l6In.f ((rd_T63 x0 x3).f2) 0 4).bind fun t109 => (spec_StepsValid.j1 k x0 x3 (!t109) ((rd_T63 x0 x3).f0) ((rd_T63 x0 x3).f1) ((rd_T63 x0 x3).f2) ((rd_T63 x0 x3).f3))) else (spec_StepsValid.j1 k x0 x3 true ((rd_T63 x0 x3).f0) ((rd_T63 x0 x3).f1) ((rd_T63 x0 x3).f2) ((rd_T63 x0 x3).f3)))) else (spec_StepsValid.j1 k x0 x3 true ((rd_T63 x0 x3).f0) ((rd_T63 x0 x3).f1) ((rd_T63 x0 x3).f2) ((rd_T63 x0 x3).f3)))) else (none)) else (some (decide ((x0.length : Int) ≤ 8)))
def spec_StepsValid.j1 : Nat → List (S63) → Int → Bool → Int → Int → Int → List Int → Option (Bool)
 | 0, _, _, _, _, _, _, _ => none
 | k + 1, x0, x3, x31, x107000, x107001, x107002, x107003 => if x31 = true then (some false) else (spec_StepsValid.l1 k x0 x3 0 x107000 x107001 x107002 x107003)
def spec_StepsValid.l1 : Nat → List (S63) → Int → Int → Int → Int → Int → List Int → Option (Bool)
 | 0, _, _, _, _, _, _, _ => none
 | k + 1, x0, x3, x5, x107000, x107001, x107002, x107003 => if x5 < (x107003.length : Int) then (if 0 ≤ x5 then ((spec_l6In.f (rd x107003 x5) 0 (wrap64 (x3 - 1))).bind fun t111 => (if t111 = true then (if x5 > 0 then (if 0 ≤ (wrap64 (x5 - 1)) then (if (wrap64 (x5 - 1)) < (x107003.length : Int) then (if (rd x107003 (wrap64 (x5 - 1))) ≥ (rd x107003 x5) then (some false) else (spec_StepsValid.l1 k x0 x3 (wrap64 (x5 + 1)) x107000 x107001 x107002 x107003)) else (none)) else (none)) else (spec_StepsValid.l1 k x0 x3 (wrap64 (x5 + 1)) x107000 x107001 x107002 x107003)) else (some false))) else (none)) else (spec_StepsValid.l0 k x0 (wrap64 (x3 + 1)))
end
def spec_StepsValid.f (k : Nat) (l0 : List (S63)) : Option (Bool) := spec_StepsValid.l0 k l0 0
set_option maxHeartbeats 8000000 in
set_option maxRecDepth 100000 in
theorem spec_StepsValid.calls (k : Nat) (A0 : Option Addr) (c0 : Nat) (l0 : List (S63)) (r : Bool) (w : World) (hr0 : Kd.C k63 w A0 l0.length l0) (hc0 : l0.length ≤ c0) (h : spec_StepsValid.f k l0 = some r) :
    Calls Try.prog 44 #[.slice A0 l0.length c0] w fun e w' => e = .returned (.bool r) ∧ Below w.heap.size w w' := by
 have hu63 := Try.underlying63
 have HR0 := Ae_q hr0
 have HC0 := Ae_q hc0
 clear hr0 hc0
 have HB := Ae_q (bR_q w.heap.size w)
 have H : (spec_StepsValid.l0 k l0 0) = some r := h
 clear h
 have H' := Ae_q H
 clear H
 go_enter Try.func44, Try.ntmps44
 go_wp2
 repeat (go_quiet (fail); try go_wp2)
 go_loopg [3] k (fun kq v3 w' => ∃ (x3_1 : Int), v3 = .int .i64 x3_1 ∧ Aside0 (spec_StepsValid.l0 kq l0 x3_1 = some r) ∧ Aside0 (kq ≤ k) ∧ Aside0 (Below w.heap.size w w'))
 case atStart => exact ⟨(0), m5_q, H', ⟨nR_q _⟩, ⟨bel HB.out⟩⟩
 case round =>
  clear H'
  obtain ⟨x3_1, rfl, HA, HK1, HB⟩ := hrel
  cases gk with
  | zero => exact absurd HA.out (by simp [spec_StepsValid.l0])
  | succ k1 =>
   have H := HA.out
   clear HA
   simp only [spec_StepsValid.l0] at H
   by_cases c2 : x3_1 < (l0.length : Int)
   rotate_left
   ·rw [if_neg c2] at H
    have c2b0 : decide (x3_1 < (l0.length : Int)) = false := dF_q c2
    clear c2
    obtain rfl := oI_q H
    go_wp2
    repeat (go_quiet (fail); try go_wp2)
    go_ret
    exact ⟨m4_q, bel HB.out⟩
   rw [if_pos c2] at H
   have c2b0 : decide (x3_1 < (l0.length : Int)) = true := dT_q c2
   clear c2
   by_cases c3 : 0 ≤ x3_1
   rotate_left
   ·rw [if_neg c3] at H
    exact absurd H (by simp)
   rw [if_pos c3] at H
   have c3b0 : decide (0 ≤ x3_1) = true := dT_q c3
   clear c3
   have HC4 := Ae_q H
   clear H
   have p105 : 0 ≤ (x3_1 : Int) := oD_q (by assumption)
   have q105 : x3_1 < (l0.length : Int) := oD_q (by assumption)
   obtain ⟨ad105, A105_3, c105_3, e105, hx105_0, hx105_1, hx105_2, hx105_3, hl105_3, hi105_3⟩ := at_T63 HR0.out x3_1 p105 q105
   cases e105
   replace hx105_0 := cel HB.out hx105_0
   replace hx105_1 := cel HB.out hx105_1
   replace hx105_2 := cel HB.out hx105_2
   replace hx105_3 := cel HB.out hx105_3
   have HR105_3 := Ae_q hi105_3
   have HC105_3 := Ae_q hl105_3
   clear hi105_3 hl105_3
   replace p105 := eq_true p105
   replace q105 := eq_true q105
   go_upto_region 5 with (first | ((with_reducible refine gD_q (N := 4) rfl ?_); refine bE_q ?hg (N := 4) ?hd (cs := #[.int .i64 0, .int .i64 0, .int .i64 0, .slice none 0 0]) (t := 63) ?hr ?_; (case hd => rfl); (case hg => rfl); (case hr => exact m6_q); intro gb106 hg w5 hbox hb; have BK106 := Ae_q (hbox); have GW106 := Ae_q ((by rw [hg]; exact (bZ_q (bel HB.out)) : w.heap.size ≤ gb106)); have GE106 := Ae_q ((by rw [hg]; exact (bZ_q (bel HB.out)) : w.heap.size ≤ gb106)); replace HB := Ae_q (bT_q (bel HB.out) hb); clear hb hbox hg; have hcz6_0 : cI w5 gb106 0 0 := cZ BK106 0 rfl; have hcz6_1 : cI w5 gb106 1 0 := cZ BK106 1 rfl; have hcz6_2 : cI w5 gb106 2 0 := cZ BK106 2 rfl; have hcz6_3 : w5.cell? ⟨gb106, 3, none⟩ = some (.slice none 0 0) := (bC_q BK106.out 3).trans rfl; have hfz6_0 := bF_q BK106.out 0; have hfz6_1 := bF_q BK106.out 1; have hfz6_2 := bF_q BK106.out 2; have hfz6_3 := bF_q BK106.out 3))
   repeat (go_quiet (first | ((with_reducible refine gD_q (N := 4) rfl ?_); refine bE_q ?hg (N := 4) ?hd (cs := #[.int .i64 0, .int .i64 0, .int .i64 0, .slice none 0 0]) (t := 63) ?hr ?_; (case hd => rfl); (case hg => rfl); (case hr => exact m6_q); intro gb106 hg w5 hbox hb; have BK106 := Ae_q (hbox); have GW106 := Ae_q ((by rw [hg]; exact (bZ_q (bel HB.out)) : w.heap.size ≤ gb106)); have GE106 := Ae_q ((by rw [hg]; exact (bZ_q (bel HB.out)) : w.heap.size ≤ gb106)); replace HB := Ae_q (bT_q (bel HB.out) hb); clear hb hbox hg; have hcz6_0 : cI w5 gb106 0 0 := cZ BK106 0 rfl; have hcz6_1 : cI w5 gb106 1 0 := cZ BK106 1 rfl; have hcz6_2 : cI w5 gb106 2 0 := cZ BK106 2 rfl; have hcz6_3 : w5.cell? ⟨gb106, 3, none⟩ = some (.slice none 0 0) := (bC_q BK106.out 3).trans rfl; have hfz6_0 := bF_q BK106.out 0; have hfz6_1 := bF_q BK106.out 1; have hfz6_2 := bF_q BK106.out 2; have hfz6_3 := bF_q BK106.out 3)); go_upto_region 5 with (first | ((with_reducible refine gD_q (N := 4) rfl ?_); refine bE_q ?hg (N := 4) ?hd (cs := #[.int .i64 0, .int .i64 0, .int .i64 0, .slice none 0 0]) (t := 63) ?hr ?_; (case hd => rfl); (case hg => rfl); (case hr => exact m6_q); intro gb106 hg w5 hbox hb; have BK106 := Ae_q (hbox); have GW106 := Ae_q ((by rw [hg]; exact (bZ_q (bel HB.out)) : w.heap.size ≤ gb106)); have GE106 := Ae_q ((by rw [hg]; exact (bZ_q (bel HB.out)) : w.heap.size ≤ gb106)); replace HB := Ae_q (bT_q (bel HB.out) hb); clear hb hbox hg; have hcz6_0 : cI w5 gb106 0 0 := cZ BK106 0 rfl; have hcz6_1 : cI w5 gb106 1 0 := cZ BK106 1 rfl; have hcz6_2 : cI w5 gb106 2 0 := cZ BK106 2 rfl; have hcz6_3 : w5.cell? ⟨gb106, 3, none⟩ = some (.slice none 0 0) := (bC_q BK106.out 3).trans rfl; have hfz6_0 := bF_q BK106.out 0; have hfz6_1 := bF_q BK106.out 1; have hfz6_2 := bF_q BK106.out 2; have hfz6_3 := bF_q BK106.out 3)))
   (try simp only [Act.put, sA_q, sZ_q, sS_q])
   go_cut [31] (fun v31 wc => ∃ (kq : Nat) (x31_3 : Bool), v31 = .bool x31_3 ∧ Aside0 (spec_StepsValid.j1 kq l0 x3_1 x31_3 ((rd_T63 l0 x3_1).f0) ((rd_T63 l0 x3_1).f1) ((rd_T63 l0 x3_1).f2) ((rd_T63 l0 x3_1).f3) = some r) ∧ Aside0 (kq ≤ k1) ∧ Aside0 (wc.heap[gb106]? = some (.cells #[.int .i64 ((rd_T63 l0 x3_1).f0), .int .i64 ((rd_T63 l0 x3_1).f1), .int .i64 ((rd_T63 l0 x3_1).f2), (.slice A105_3 ((rd_T63 l0 x3_1).f3).length c105_3)] 63 (0, 0))) ∧ Aside0 (Below w.heap.size w wc))
   case first =>
    have H := HC4.out
    clear HC4
    replace H := oB_q.mp H
    obtain ⟨t107, A70, H⟩ := H
    replace H : (if t107 = true then ((spec_l6In.f ((rd_T63 l0 x3_1).f1) 0 4).bind fun t108 => (if t108 = true then ((spec_l6In.f ((rd_T63 l0 x3_1).f2) 0 4).bind fun t109 => (spec_StepsValid.j1 k1 l0 x3_1 (!t109) ((rd_T63 l0 x3_1).f0) ((rd_T63 l0 x3_1).f1) ((rd_T63 l0 x3_1).f2) ((rd_T63 l0 x3_1).f3))) else (spec_StepsValid.j1 k1 l0 x3_1 true ((rd_T63 l0 x3_1).f0) ((rd_T63 l0 x3_1).f1) ((rd_T63 l0 x3_1).f2) ((rd_T63 l0 x3_1).f3)))) else (spec_StepsValid.j1 k1 l0 x3_1 true ((rd_T63 l0 x3_1).f0) ((rd_T63 l0 x3_1).f1) ((rd_T63 l0 x3_1).f2) ((rd_T63 l0 x3_1).f3))) = some r := H
    have A7 := Ae_q A70
    clear A70
    by_cases c8 : t107 = true
    rotate_left
    ·replace c8 := fM_q.mpr c8
     subst c8
     have H1 : (spec_StepsValid.j1 k1 l0 x3_1 true ((rd_T63 l0 x3_1).f0) ((rd_T63 l0 x3_1).f1) ((rd_T63 l0 x3_1).f2) ((rd_T63 l0 x3_1).f3)) = some r := by rw [if_neg (show ¬ (false = true) by decide)] at H; exact H
     clear H
     have H := H1
     clear H1
     have H' := Ae_q H
     clear H
     have hcz14_0 : cI w5 gb106 0 0 := cZ BK106 0 rfl
     have hcz14_1 : cI w5 gb106 1 0 := cZ BK106 1 rfl
     have hcz14_2 : cI w5 gb106 2 0 := cZ BK106 2 rfl
     have hcz14_3 : w5.cell? ⟨gb106, 3, none⟩ = some (.slice none 0 0) := (bC_q BK106.out 3).trans rfl
     have hfz14_0 := bF_q BK106.out 0
     have hfz14_1 := bF_q BK106.out 1
     have hfz14_2 := bF_q BK106.out 2
     have hfz14_3 := bF_q BK106.out 3
     go_wp2_with (first | (go_at_call 59; (with_reducible refine (spec_l6In.calls ((rd_T63 l0 x3_1).f0) 1 99 false _ A7.out).mono ?_); rintro e w' ⟨rfl, ⟨nd, rfl⟩⟩; (try first | exact ⟨rfl, _, wD_q _ _ _⟩ | exact ⟨rfl, _, Eq.trans (wD_q _ _ _) (congrArg (World.drewN _) (nA_q _ _ _))⟩)))
     repeat (go_quiet (first | (go_at_call 59; (with_reducible refine (spec_l6In.calls ((rd_T63 l0 x3_1).f0) 1 99 false _ A7.out).mono ?_); rintro e w' ⟨rfl, ⟨nd, rfl⟩⟩; (try first | exact ⟨rfl, _, wD_q _ _ _⟩ | exact ⟨rfl, _, Eq.trans (wD_q _ _ _) (congrArg (World.drewN _) (nA_q _ _ _))⟩))); try go_wp2_with (first | (go_at_call 59; (with_reducible refine (spec_l6In.calls ((rd_T63 l0 x3_1).f0) 1 99 false _ A7.out).mono ?_); rintro e w' ⟨rfl, ⟨nd, rfl⟩⟩; (try first | exact ⟨rfl, _, wD_q _ _ _⟩ | exact ⟨rfl, _, Eq.trans (wD_q _ _ _) (congrArg (World.drewN _) (nA_q _ _ _))⟩))))
     go_meet
     case rel => exact ⟨_, (true), m5_q, H', ⟨m78_q⟩, ⟨m9_q⟩, ⟨m26_q⟩⟩
    subst c8
    have H1 : ((spec_l6In.f ((rd_T63 l0 x3_1).f1) 0 4).bind fun t108 => (if t108 = true then ((spec_l6In.f ((rd_T63 l0 x3_1).f2) 0 4).bind fun t109 => (spec_StepsValid.j1 k1 l0 x3_1 (!t109) ((rd_T63 l0 x3_1).f0) ((rd_T63 l0 x3_1).f1) ((rd_T63 l0 x3_1).f2) ((rd_T63 l0 x3_1).f3))) else (spec_StepsValid.j1 k1 l0 x3_1 true ((rd_T63 l0 x3_1).f0) ((rd_T63 l0 x3_1).f1) ((rd_T63 l0 x3_1).f2) ((rd_T63 l0 x3_1).f3)))) = some r := by rw [if_pos rfl] at H; exact H
    clear H
    have H := H1
    clear H1
    replace H := oB_q.mp H
    obtain ⟨t108, A90, H⟩ := H
    replace H : (if t108 = true then ((spec_l6In.f ((rd_T63 l0 x3_1).f2) 0 4).bind fun t109 => (spec_StepsValid.j1 k1 l0 x3_1 (!t109) ((rd_T63 l0 x3_1).f0) ((rd_T63 l0 x3_1).f1) ((rd_T63 l0 x3_1).f2) ((rd_T63 l0 x3_1).f3))) else (spec_StepsValid.j1 k1 l0 x3_1 true ((rd_T63 l0 x3_1).f0) ((rd_T63 l0 x3_1).f1) ((rd_T63 l0 x3_1).f2) ((rd_T63 l0 x3_1).f3))) = some r := H
    have A9 := Ae_q A90
    clear A90
    by_cases c10 : t108 = true
    rotate_left
    ·replace c10 := fM_q.mpr c10
     subst c10
     have H1 : (spec_StepsValid.j1 k1 l0 x3_1 true ((rd_T63 l0 x3_1).f0) ((rd_T63 l0 x3_1).f1) ((rd_T63 l0 x3_1).f2) ((rd_T63 l0 x3_1).f3)) = some r := by rw [if_neg (show ¬ (false = true) by decide)] at H; exact H
     clear H
     have H := H1
     clear H1
     have H' := Ae_q H
     clear H
     have hcz13_0 : cI w5 gb106 0 0 := cZ BK106 0 rfl
     have hcz13_1 : cI w5 gb106 1 0 := cZ BK106 1 rfl
     have hcz13_2 : cI w5 gb106 2 0 := cZ BK106 2 rfl
     have hcz13_3 : w5.cell? ⟨gb106, 3, none⟩ = some (.slice none 0 0) := (bC_q BK106.out 3).trans rfl
     have hfz13_0 := bF_q BK106.out 0
     have hfz13_1 := bF_q BK106.out 1
     have hfz13_2 := bF_q BK106.out 2
     have hfz13_3 := bF_q BK106.out 3
     go_wp2_with (first | (go_at_call 59; (with_reducible refine (spec_l6In.calls ((rd_T63 l0 x3_1).f0) 1 99 true _ A7.out).mono ?_); rintro e w' ⟨rfl, ⟨nd, rfl⟩⟩; (try first | exact ⟨rfl, _, wD_q _ _ _⟩ | exact ⟨rfl, _, Eq.trans (wD_q _ _ _) (congrArg (World.drewN _) (nA_q _ _ _))⟩)) | (go_at_call 59; (with_reducible refine (spec_l6In.calls ((rd_T63 l0 x3_1).f1) 0 4 false _ A9.out).mono ?_); rintro e w' ⟨rfl, ⟨nd, rfl⟩⟩; (try first | exact ⟨rfl, _, wD_q _ _ _⟩ | exact ⟨rfl, _, Eq.trans (wD_q _ _ _) (congrArg (World.drewN _) (nA_q _ _ _))⟩)))
     repeat (go_quiet (first | (go_at_call 59; (first | (with_reducible refine (spec_l6In.calls ((rd_T63 l0 x3_1).f0) 1 99 true _ A7.out).mono ?_) | (with_reducible refine (spec_l6In.calls ((rd_T63 l0 x3_1).f1) 0 4 false _ A9.out).mono ?_)); rintro e w' ⟨rfl, ⟨nd, rfl⟩⟩; (try first | exact ⟨rfl, _, wD_q _ _ _⟩ | exact ⟨rfl, _, Eq.trans (wD_q _ _ _) (congrArg (World.drewN _) (nA_q _ _ _))⟩))); try go_wp2_with (first | (go_at_call 59; (first | (with_reducible refine (spec_l6In.calls ((rd_T63 l0 x3_1).f0) 1 99 true _ A7.out).mono ?_) | (with_reducible refine (spec_l6In.calls ((rd_T63 l0 x3_1).f1) 0 4 false _ A9.out).mono ?_)); rintro e w' ⟨rfl, ⟨nd, rfl⟩⟩; (try first | exact ⟨rfl, _, wD_q _ _ _⟩ | exact ⟨rfl, _, Eq.trans (wD_q _ _ _) (congrArg (World.drewN _) (nA_q _ _ _))⟩))))
     go_meet
     case rel => exact ⟨_, (true), m5_q, H', ⟨m78_q⟩, ⟨m9_q⟩, ⟨m26_q⟩⟩
    subst c10
    have H1 : ((spec_l6In.f ((rd_T63 l0 x3_1).f2) 0 4).bind fun t109 => (spec_StepsValid.j1 k1 l0 x3_1 (!t109) ((rd_T63 l0 x3_1).f0) ((rd_T63 l0 x3_1).f1) ((rd_T63 l0 x3_1).f2) ((rd_T63 l0 x3_1).f3))) = some r := by rw [if_pos rfl] at H; exact H
    clear H
    have H := H1
    clear H1
    replace H := oB_q.mp H
    obtain ⟨t109, A110, H⟩ := H
    replace H : (spec_StepsValid.j1 k1 l0 x3_1 (!t109) ((rd_T63 l0 x3_1).f0) ((rd_T63 l0 x3_1).f1) ((rd_T63 l0 x3_1).f2) ((rd_T63 l0 x3_1).f3)) = some r := H
    have A11 := Ae_q A110
    clear A110
    have H' := Ae_q H
    clear H
    have hcz12_0 : cI w5 gb106 0 0 := cZ BK106 0 rfl
    have hcz12_1 : cI w5 gb106 1 0 := cZ BK106 1 rfl
    have hcz12_2 : cI w5 gb106 2 0 := cZ BK106 2 rfl
    have hcz12_3 : w5.cell? ⟨gb106, 3, none⟩ = some (.slice none 0 0) := (bC_q BK106.out 3).trans rfl
    have hfz12_0 := bF_q BK106.out 0
    have hfz12_1 := bF_q BK106.out 1
    have hfz12_2 := bF_q BK106.out 2
    have hfz12_3 := bF_q BK106.out 3
    go_wp2_with (first | (go_at_call 59; (first | (with_reducible refine (spec_l6In.calls ((rd_T63 l0 x3_1).f0) 1 99 true _ A7.out).mono ?_) | (with_reducible refine (spec_l6In.calls ((rd_T63 l0 x3_1).f1) 0 4 true _ A9.out).mono ?_) | (with_reducible refine (spec_l6In.calls ((rd_T63 l0 x3_1).f2) 0 4 t109 _ A11.out).mono ?_)); rintro e w' ⟨rfl, ⟨nd, rfl⟩⟩; (try first | exact ⟨rfl, _, wD_q _ _ _⟩ | exact ⟨rfl, _, Eq.trans (wD_q _ _ _) (congrArg (World.drewN _) (nA_q _ _ _))⟩)))
    repeat (go_quiet (first | (go_at_call 59; (first | (with_reducible refine (spec_l6In.calls ((rd_T63 l0 x3_1).f0) 1 99 true _ A7.out).mono ?_) | (with_reducible refine (spec_l6In.calls ((rd_T63 l0 x3_1).f1) 0 4 true _ A9.out).mono ?_) | (with_reducible refine (spec_l6In.calls ((rd_T63 l0 x3_1).f2) 0 4 t109 _ A11.out).mono ?_)); rintro e w' ⟨rfl, ⟨nd, rfl⟩⟩; (try first | exact ⟨rfl, _, wD_q _ _ _⟩ | exact ⟨rfl, _, Eq.trans (wD_q _ _ _) (congrArg (World.drewN _) (nA_q _ _ _))⟩))); try go_wp2_with (first | (go_at_call 59; (first | (with_reducible refine (spec_l6In.calls ((rd_T63 l0 x3_1).f0) 1 99 true _ A7.out).mono ?_) | (with_reducible refine (spec_l6In.calls ((rd_T63 l0 x3_1).f1) 0 4 true _ A9.out).mono ?_) | (with_reducible refine (spec_l6In.calls ((rd_T63 l0 x3_1).f2) 0 4 t109 _ A11.out).mono ?_)); rintro e w' ⟨rfl, ⟨nd, rfl⟩⟩; (try first | exact ⟨rfl, _, wD_q _ _ _⟩ | exact ⟨rfl, _, Eq.trans (wD_q _ _ _) (congrArg (World.drewN _) (nA_q _ _ _))⟩))))
    go_meet
    case rel => exact ⟨_, (!t109), m5_q, H', ⟨m78_q⟩, ⟨m9_q⟩, ⟨m26_q⟩⟩
   case rest =>
    clear HC4
    try clear c1
    try clear p1
    try clear q1
    try clear hx1
    try clear c2
    try clear c2b0
    try clear p2
    try clear c3
    try clear c3b0
    try clear c4
    try clear c8
    try clear c10
    try clear p10
    try clear q10
    try clear hx10
    try clear hcz12_0
    try clear hcz12_1
    try clear hcz12_2
    try clear hcz12_3
    try clear hcz13_0
    try clear hcz13_1
    try clear hcz13_2
    try clear hcz13_3
    try clear hcz14_0
    try clear hcz14_1
    try clear hcz14_2
    try clear hcz14_3
    try clear hcz6_0
    try clear hcz6_1
    try clear hcz6_2
    try clear hcz6_3
    try clear hfz12_0
    try clear hfz12_1
    try clear hfz12_2
    try clear hfz12_3
    try clear hfz13_0
    try clear hfz13_1
    try clear hfz13_2
    try clear hfz13_3
    try clear hfz14_0
    try clear hfz14_1
    try clear hfz14_2
    try clear hfz14_3
    try clear hfz6_0
    try clear hfz6_1
    try clear hfz6_2
    try clear hfz6_3
    try clear hx105_0
    try clear hx105_1
    try clear hx105_2
    try clear hx105_3
    try clear p105
    try clear q105
    obtain ⟨kq, x31_3, rfl, HA, HJ3, BK106, HB⟩ := hcut
    cases kq with
    | zero => exact absurd HA.out (by simp [spec_StepsValid.j1])
    | succ kj3 =>
     have H := HA.out
     clear HA
     simp only [spec_StepsValid.j1] at H
     by_cases c15 : x31_3 = true
     ·subst c15
      have H1 : (some false) = some r := by rw [if_pos rfl] at H; exact H
      clear H
      have H := H1
      clear H1
      obtain rfl := oI_q H
      go_wp2
      repeat (go_quiet (fail); try go_wp2)
      go_ret
      exact ⟨m4_q, m26_q⟩
     replace c15 := fM_q.mpr c15
     subst c15
     have H1 : (spec_StepsValid.l1 kj3 l0 x3_1 0 ((rd_T63 l0 x3_1).f0) ((rd_T63 l0 x3_1).f1) ((rd_T63 l0 x3_1).f2) ((rd_T63 l0 x3_1).f3)) = some r := by rw [if_neg (show ¬ (false = true) by decide)] at H; exact H
     clear H
     have H := H1
     clear H1
     have H' := Ae_q H
     clear H
     go_wp2
     repeat (go_quiet (fail); try go_wp2)
     go_loopg [5] kj3 (fun kq v5 w' => ∃ (x5_3 : Int), v5 = .int .i64 x5_3 ∧ Aside0 (spec_StepsValid.l1 kq l0 x3_1 x5_3 ((rd_T63 l0 x3_1).f0) ((rd_T63 l0 x3_1).f1) ((rd_T63 l0 x3_1).f2) ((rd_T63 l0 x3_1).f3) = some r) ∧ Aside0 (kq ≤ kj3) ∧ Aside0 (w'.heap[gb106]? = some (.cells #[.int .i64 ((rd_T63 l0 x3_1).f0), .int .i64 ((rd_T63 l0 x3_1).f1), .int .i64 ((rd_T63 l0 x3_1).f2), (.slice A105_3 ((rd_T63 l0 x3_1).f3).length c105_3)] 63 (0, 0))) ∧ Aside0 (Below w.heap.size w w'))
     case atStart => exact ⟨(0), m5_q, H', ⟨nR_q _⟩, ⟨bup BK106.out⟩, ⟨m26_q⟩⟩
     case round =>
      clear H'
      try clear c1
      try clear p1
      try clear q1
      try clear hx1
      try clear c2
      try clear c2b0
      try clear p2
      try clear c3
      try clear c3b0
      try clear c4
      try clear c8
      try clear c10
      try clear p10
      try clear q10
      try clear hx10
      try clear c15
      try clear hcz12_0
      try clear hcz12_1
      try clear hcz12_2
      try clear hcz12_3
      try clear hcz13_0
      try clear hcz13_1
      try clear hcz13_2
      try clear hcz13_3
      try clear hcz14_0
      try clear hcz14_1
      try clear hcz14_2
      try clear hcz14_3
      try clear hcz6_0
      try clear hcz6_1
      try clear hcz6_2
      try clear hcz6_3
      try clear hfz12_0
      try clear hfz12_1
      try clear hfz12_2
      try clear hfz12_3
      try clear hfz13_0
      try clear hfz13_1
      try clear hfz13_2
      try clear hfz13_3
      try clear hfz14_0
      try clear hfz14_1
      try clear hfz14_2
      try clear hfz14_3
      try clear hfz6_0
      try clear hfz6_1
      try clear hfz6_2
      try clear hfz6_3
      try clear hx105_0
      try clear hx105_1
      try clear hx105_2
      try clear hx105_3
      try clear p1
      try clear p10
      try clear p105
      try clear p2
      try clear q1
      try clear q10
      try clear q105
      obtain ⟨x5_3, rfl, HA, HK3, BK106, HB⟩ := hrel
      cases gk with
      | zero => exact absurd HA.out (by simp [spec_StepsValid.l1])
      | succ k3 =>
       have H := HA.out
       clear HA
       simp only [spec_StepsValid.l1] at H
       by_cases c16 : x5_3 < (((rd_T63 l0 x3_1).f3).length : Int)
       rotate_left
       ·rw [if_neg c16] at H
        have c16b0 : decide (x5_3 < (((rd_T63 l0 x3_1).f3).length : Int)) = false := dF_q c16
        clear c16
        have H' := Ae_q H
        clear H
        have hcz29_0 : cI wr gb106 0 ((rd_T63 l0 x3_1).f0) := cZ BK106 0 rfl
        have hcz29_1 : cI wr gb106 1 ((rd_T63 l0 x3_1).f1) := cZ BK106 1 rfl
        have hcz29_2 : cI wr gb106 2 ((rd_T63 l0 x3_1).f2) := cZ BK106 2 rfl
        have hcz29_3 : wr.cell? ⟨gb106, 3, none⟩ = some (.slice A105_3 ((rd_T63 l0 x3_1).f3).length c105_3) := (bC_q BK106.out 3).trans rfl
        have hfz29_0 := bF_q BK106.out 0
        have hfz29_1 := bF_q BK106.out 1
        have hfz29_2 := bF_q BK106.out 2
        have hfz29_3 := bF_q BK106.out 3
        go_wp2
        repeat (go_quiet (fail); try go_wp2)
        go_roundg k3
        case measure => have := HK1.out; have := HJ3.out; have := HK3.out; omega
        case rel => exact ⟨(wrap64 (x3_1 + 1)), m5_q, H', ⟨m114_q⟩, ⟨m26_q⟩⟩
       rw [if_pos c16] at H
       have c16b0 : decide (x5_3 < (((rd_T63 l0 x3_1).f3).length : Int)) = true := dT_q c16
       clear c16
       by_cases c17 : 0 ≤ x5_3
       rotate_left
       ·rw [if_neg c17] at H
        exact absurd H (by simp)
       rw [if_pos c17] at H
       have c17b0 : decide (0 ≤ x5_3) = true := dT_q c17
       clear c17
       replace H := oB_q.mp H
       obtain ⟨t111, A180, H⟩ := H
       replace H : (if t111 = true then (if x5_3 > 0 then (if 0 ≤ (wrap64 (x5_3 - 1)) then (if (wrap64 (x5_3 - 1)) < (((rd_T63 l0 x3_1).f3).length : Int) then (if (rd ((rd_T63 l0 x3_1).f3) (wrap64 (x5_3 - 1))) ≥ (rd ((rd_T63 l0 x3_1).f3) x5_3) then (some false) else (spec_StepsValid.l1 k3 l0 x3_1 (wrap64 (x5_3 + 1)) ((rd_T63 l0 x3_1).f0) ((rd_T63 l0 x3_1).f1) ((rd_T63 l0 x3_1).f2) ((rd_T63 l0 x3_1).f3))) else (none)) else (none)) else (spec_StepsValid.l1 k3 l0 x3_1 (wrap64 (x5_3 + 1)) ((rd_T63 l0 x3_1).f0) ((rd_T63 l0 x3_1).f1) ((rd_T63 l0 x3_1).f2) ((rd_T63 l0 x3_1).f3))) else (some false)) = some r := H
       have A18 := Ae_q A180
       clear A180
       by_cases c19 : t111 = true
       rotate_left
       ·replace c19 := fM_q.mpr c19
        subst c19
        have H1 : (some false) = some r := by rw [if_neg (show ¬ (false = true) by decide)] at H; exact H
        clear H
        have H := H1
        clear H1
        obtain rfl := oI_q H
        have hcz28_0 : cI wr gb106 0 ((rd_T63 l0 x3_1).f0) := cZ BK106 0 rfl
        have hcz28_1 : cI wr gb106 1 ((rd_T63 l0 x3_1).f1) := cZ BK106 1 rfl
        have hcz28_2 : cI wr gb106 2 ((rd_T63 l0 x3_1).f2) := cZ BK106 2 rfl
        have hcz28_3 : wr.cell? ⟨gb106, 3, none⟩ = some (.slice A105_3 ((rd_T63 l0 x3_1).f3).length c105_3) := (bC_q BK106.out 3).trans rfl
        have hfz28_0 := bF_q BK106.out 0
        have hfz28_1 := bF_q BK106.out 1
        have hfz28_2 := bF_q BK106.out 2
        have hfz28_3 := bF_q BK106.out 3
        have p110 : 0 ≤ (x5_3 : Int) := oD_q (by assumption)
        have q110 : x5_3 < (((rd_T63 l0 x3_1).f3).length : Int) := oD_q (by assumption)
        obtain ⟨ad110, e110, hx110_0⟩ := aI_q HR105_3.out x5_3 p110 q110
        cases e110
        replace hx110_0 := cel HB.out hx110_0
        replace p110 := eq_true p110
        replace q110 := eq_true q110
        go_wp2_with (first | (go_at_call 59; (with_reducible refine (spec_l6In.calls (rd ((rd_T63 l0 x3_1).f3) x5_3) 0 (wrap64 (x3_1 - 1)) false _ A18.out).mono ?_); rintro e w' ⟨rfl, ⟨nd, rfl⟩⟩; (try first | exact ⟨rfl, _, wD_q _ _ _⟩ | exact ⟨rfl, _, Eq.trans (wD_q _ _ _) (congrArg (World.drewN _) (nA_q _ _ _))⟩)))
        repeat (go_quiet (first | (go_at_call 59; (with_reducible refine (spec_l6In.calls (rd ((rd_T63 l0 x3_1).f3) x5_3) 0 (wrap64 (x3_1 - 1)) false _ A18.out).mono ?_); rintro e w' ⟨rfl, ⟨nd, rfl⟩⟩; (try first | exact ⟨rfl, _, wD_q _ _ _⟩ | exact ⟨rfl, _, Eq.trans (wD_q _ _ _) (congrArg (World.drewN _) (nA_q _ _ _))⟩))); try go_wp2_with (first | (go_at_call 59; (with_reducible refine (spec_l6In.calls (rd ((rd_T63 l0 x3_1).f3) x5_3) 0 (wrap64 (x3_1 - 1)) false _ A18.out).mono ?_); rintro e w' ⟨rfl, ⟨nd, rfl⟩⟩; (try first | exact ⟨rfl, _, wD_q _ _ _⟩ | exact ⟨rfl, _, Eq.trans (wD_q _ _ _) (congrArg (World.drewN _) (nA_q _ _ _))⟩))))
        go_ret
        exact ⟨m4_q, m26_q⟩
       subst c19
       have H1 : (if x5_3 > 0 then (if 0 ≤ (wrap64 (x5_3 - 1)) then (if (wrap64 (x5_3 - 1)) < (((rd_T63 l0 x3_1).f3).length : Int) then (if (rd ((rd_T63 l0 x3_1).f3) (wrap64 (x5_3 - 1))) ≥ (rd ((rd_T63 l0 x3_1).f3) x5_3) then (some false) else (spec_StepsValid.l1 k3 l0 x3_1 (wrap64 (x5_3 + 1)) ((rd_T63 l0 x3_1).f0) ((rd_T63 l0 x3_1).f1) ((rd_T63 l0 x3_1).f2) ((rd_T63 l0 x3_1).f3))) else (none)) else (none)) else (spec_StepsValid.l1 k3 l0 x3_1 (wrap64 (x5_3 + 1)) ((rd_T63 l0 x3_1).f0) ((rd_T63 l0 x3_1).f1) ((rd_T63 l0 x3_1).f2) ((rd_T63 l0 x3_1).f3))) = some r := by rw [if_pos rfl] at H; exact H
       clear H
       have H := H1
       clear H1
       by_cases c20 : x5_3 > 0
       rotate_left
       ·rw [if_neg c20] at H
        have c20b0 : decide (0 < x5_3) = false := dF_q c20
        clear c20
        have H' := Ae_q H
        clear H
        have hcz27_0 : cI wr gb106 0 ((rd_T63 l0 x3_1).f0) := cZ BK106 0 rfl
        have hcz27_1 : cI wr gb106 1 ((rd_T63 l0 x3_1).f1) := cZ BK106 1 rfl
        have hcz27_2 : cI wr gb106 2 ((rd_T63 l0 x3_1).f2) := cZ BK106 2 rfl
        have hcz27_3 : wr.cell? ⟨gb106, 3, none⟩ = some (.slice A105_3 ((rd_T63 l0 x3_1).f3).length c105_3) := (bC_q BK106.out 3).trans rfl
        have hfz27_0 := bF_q BK106.out 0
        have hfz27_1 := bF_q BK106.out 1
        have hfz27_2 := bF_q BK106.out 2
        have hfz27_3 := bF_q BK106.out 3
        have p110 : 0 ≤ (x5_3 : Int) := oD_q (by assumption)
        have q110 : x5_3 < (((rd_T63 l0 x3_1).f3).length : Int) := oD_q (by assumption)
        obtain ⟨ad110, e110, hx110_0⟩ := aI_q HR105_3.out x5_3 p110 q110
        cases e110
        replace hx110_0 := cel HB.out hx110_0
        replace p110 := eq_true p110
        replace q110 := eq_true q110
        go_wp2_with (first | (go_at_call 59; (with_reducible refine (spec_l6In.calls (rd ((rd_T63 l0 x3_1).f3) x5_3) 0 (wrap64 (x3_1 - 1)) true _ A18.out).mono ?_); rintro e w' ⟨rfl, ⟨nd, rfl⟩⟩; (try first | exact ⟨rfl, _, wD_q _ _ _⟩ | exact ⟨rfl, _, Eq.trans (wD_q _ _ _) (congrArg (World.drewN _) (nA_q _ _ _))⟩)))
        repeat (go_quiet (first | (go_at_call 59; (with_reducible refine (spec_l6In.calls (rd ((rd_T63 l0 x3_1).f3) x5_3) 0 (wrap64 (x3_1 - 1)) true _ A18.out).mono ?_); rintro e w' ⟨rfl, ⟨nd, rfl⟩⟩; (try first | exact ⟨rfl, _, wD_q _ _ _⟩ | exact ⟨rfl, _, Eq.trans (wD_q _ _ _) (congrArg (World.drewN _) (nA_q _ _ _))⟩))); try go_wp2_with (first | (go_at_call 59; (with_reducible refine (spec_l6In.calls (rd ((rd_T63 l0 x3_1).f3) x5_3) 0 (wrap64 (x3_1 - 1)) true _ A18.out).mono ?_); rintro e w' ⟨rfl, ⟨nd, rfl⟩⟩; (try first | exact ⟨rfl, _, wD_q _ _ _⟩ | exact ⟨rfl, _, Eq.trans (wD_q _ _ _) (congrArg (World.drewN _) (nA_q _ _ _))⟩))))
        go_roundg k3
        case measure => have := HK1.out; have := HJ3.out; have := HK3.out; omega
        case rel => exact ⟨(wrap64 (x5_3 + 1)), m5_q, H', ⟨m114_q⟩, ⟨bup BK106.out⟩, ⟨m26_q⟩⟩
       rw [if_pos c20] at H
       have c20b0 : decide (0 < x5_3) = true := dT_q c20
       clear c20
       obtain ⟨ji21, hji21⟩ : ∃ j_ : Int, (wrap64 (x5_3 - 1)) = j_ := ⟨_, rfl⟩
       replace H : (if 0 ≤ (ji21) then (if (ji21) < (((rd_T63 l0 x3_1).f3).length : Int) then (if (rd ((rd_T63 l0 x3_1).f3) (ji21)) ≥ (rd ((rd_T63 l0 x3_1).f3) x5_3) then (some false) else (spec_StepsValid.l1 k3 l0 x3_1 (wrap64 (x5_3 + 1)) ((rd_T63 l0 x3_1).f0) ((rd_T63 l0 x3_1).f1) ((rd_T63 l0 x3_1).f2) ((rd_T63 l0 x3_1).f3))) else (none)) else (none)) = some r := by first | (rw [hji21] at H; exact H) | (simp only [hji21] at H ⊢; exact H)
       (try rw [hji21] at A18)
       have hji21w : (IntKind.i64.wrap (x5_3 - 1)) = ji21 := (i64_w _).trans hji21
       by_cases c22 : 0 ≤ (ji21)
       rotate_left
       ·rw [if_neg c22] at H
        exact absurd H (by simp)
       rw [if_pos c22] at H
       have c22b0 : decide (0 ≤ (ji21)) = true := dT_q c22
       clear c22
       by_cases c23 : (ji21) < (((rd_T63 l0 x3_1).f3).length : Int)
       rotate_left
       ·rw [if_neg c23] at H
        exact absurd H (by simp)
       rw [if_pos c23] at H
       have c23b0 : decide ((ji21) < (((rd_T63 l0 x3_1).f3).length : Int)) = true := dT_q c23
       clear c23
       by_cases c24 : (rd ((rd_T63 l0 x3_1).f3) (ji21)) ≥ (rd ((rd_T63 l0 x3_1).f3) x5_3)
       ·rw [if_pos c24] at H
        have c24b0 : decide ((rd ((rd_T63 l0 x3_1).f3) x5_3) ≤ (rd ((rd_T63 l0 x3_1).f3) (ji21))) = true := dT_q c24
        clear c24
        obtain rfl := oI_q H
        have hcz25_0 : cI wr gb106 0 ((rd_T63 l0 x3_1).f0) := cZ BK106 0 rfl
        have hcz25_1 : cI wr gb106 1 ((rd_T63 l0 x3_1).f1) := cZ BK106 1 rfl
        have hcz25_2 : cI wr gb106 2 ((rd_T63 l0 x3_1).f2) := cZ BK106 2 rfl
        have hcz25_3 : wr.cell? ⟨gb106, 3, none⟩ = some (.slice A105_3 ((rd_T63 l0 x3_1).f3).length c105_3) := (bC_q BK106.out 3).trans rfl
        have hfz25_0 := bF_q BK106.out 0
        have hfz25_1 := bF_q BK106.out 1
        have hfz25_2 := bF_q BK106.out 2
        have hfz25_3 := bF_q BK106.out 3
        have p110 : 0 ≤ (x5_3 : Int) := oD_q (by assumption)
        have q110 : x5_3 < (((rd_T63 l0 x3_1).f3).length : Int) := oD_q (by assumption)
        obtain ⟨ad110, e110, hx110_0⟩ := aI_q HR105_3.out x5_3 p110 q110
        cases e110
        replace hx110_0 := cel HB.out hx110_0
        replace p110 := eq_true p110
        replace q110 := eq_true q110
        have p112 : 0 ≤ ((ji21) : Int) := oD_q (by assumption); have q112 : (ji21) < (((rd_T63 l0 x3_1).f3).length : Int) := oD_q (by assumption); obtain ⟨ad112, e112, hx112_0⟩ := aI_q HR105_3.out (ji21) p112 q112; obtain rfl : ad110 = ad112 := (by injection e112); replace hx112_0 := cel HB.out hx112_0; replace p112 := eq_true p112; replace q112 := eq_true q112; have p113 : 0 ≤ (x5_3 : Int) := oD_q (by assumption); have q113 : x5_3 < (((rd_T63 l0 x3_1).f3).length : Int) := oD_q (by assumption); obtain ⟨ad113, e113, hx113_0⟩ := aI_q HR105_3.out x5_3 p113 q113; obtain rfl : ad110 = ad113 := (by injection e113); replace hx113_0 := cel HB.out hx113_0; replace p113 := eq_true p113; replace q113 := eq_true q113
        go_wp2_with (first | (go_at_call 59; (with_reducible refine (spec_l6In.calls (rd ((rd_T63 l0 x3_1).f3) x5_3) 0 (wrap64 (x3_1 - 1)) true _ A18.out).mono ?_); rintro e w' ⟨rfl, ⟨nd, rfl⟩⟩; (try first | exact ⟨rfl, _, wD_q _ _ _⟩ | exact ⟨rfl, _, Eq.trans (wD_q _ _ _) (congrArg (World.drewN _) (nA_q _ _ _))⟩)))
        repeat (go_quiet (first | (go_at_call 59; (with_reducible refine (spec_l6In.calls (rd ((rd_T63 l0 x3_1).f3) x5_3) 0 (wrap64 (x3_1 - 1)) true _ A18.out).mono ?_); rintro e w' ⟨rfl, ⟨nd, rfl⟩⟩; (try first | exact ⟨rfl, _, wD_q _ _ _⟩ | exact ⟨rfl, _, Eq.trans (wD_q _ _ _) (congrArg (World.drewN _) (nA_q _ _ _))⟩))); try go_wp2_with (first | (go_at_call 59; (with_reducible refine (spec_l6In.calls (rd ((rd_T63 l0 x3_1).f3) x5_3) 0 (wrap64 (x3_1 - 1)) true _ A18.out).mono ?_); rintro e w' ⟨rfl, ⟨nd, rfl⟩⟩; (try first | exact ⟨rfl, _, wD_q _ _ _⟩ | exact ⟨rfl, _, Eq.trans (wD_q _ _ _) (congrArg (World.drewN _) (nA_q _ _ _))⟩))))
        go_ret
        exact ⟨by first | rfl | (simp [eN_q, eS_q] <;> rfl) | (simp only [← hji21]; first | rfl | (simp [eN_q, eS_q] <;> rfl)) | (simp [*, eN_q, eS_q] <;> rfl), m26_q⟩
       rw [if_neg c24] at H
       have c24b0 : decide ((rd ((rd_T63 l0 x3_1).f3) x5_3) ≤ (rd ((rd_T63 l0 x3_1).f3) (ji21))) = false := dF_q c24
       clear c24
       have H' := Ae_q H
       clear H
       have hcz26_0 : cI wr gb106 0 ((rd_T63 l0 x3_1).f0) := cZ BK106 0 rfl
       have hcz26_1 : cI wr gb106 1 ((rd_T63 l0 x3_1).f1) := cZ BK106 1 rfl
       have hcz26_2 : cI wr gb106 2 ((rd_T63 l0 x3_1).f2) := cZ BK106 2 rfl
       have hcz26_3 : wr.cell? ⟨gb106, 3, none⟩ = some (.slice A105_3 ((rd_T63 l0 x3_1).f3).length c105_3) := (bC_q BK106.out 3).trans rfl
       have hfz26_0 := bF_q BK106.out 0
       have hfz26_1 := bF_q BK106.out 1
       have hfz26_2 := bF_q BK106.out 2
       have hfz26_3 := bF_q BK106.out 3
       have p110 : 0 ≤ (x5_3 : Int) := oD_q (by assumption)
       have q110 : x5_3 < (((rd_T63 l0 x3_1).f3).length : Int) := oD_q (by assumption)
       obtain ⟨ad110, e110, hx110_0⟩ := aI_q HR105_3.out x5_3 p110 q110
       cases e110
       replace hx110_0 := cel HB.out hx110_0
       replace p110 := eq_true p110
       replace q110 := eq_true q110
       have p112 : 0 ≤ ((ji21) : Int) := oD_q (by assumption); have q112 : (ji21) < (((rd_T63 l0 x3_1).f3).length : Int) := oD_q (by assumption); obtain ⟨ad112, e112, hx112_0⟩ := aI_q HR105_3.out (ji21) p112 q112; obtain rfl : ad110 = ad112 := (by injection e112); replace hx112_0 := cel HB.out hx112_0; replace p112 := eq_true p112; replace q112 := eq_true q112; have p113 : 0 ≤ (x5_3 : Int) := oD_q (by assumption); have q113 : x5_3 < (((rd_T63 l0 x3_1).f3).length : Int) := oD_q (by assumption); obtain ⟨ad113, e113, hx113_0⟩ := aI_q HR105_3.out x5_3 p113 q113; obtain rfl : ad110 = ad113 := (by injection e113); replace hx113_0 := cel HB.out hx113_0; replace p113 := eq_true p113; replace q113 := eq_true q113
       go_wp2_with (first | (go_at_call 59; (with_reducible refine (spec_l6In.calls (rd ((rd_T63 l0 x3_1).f3) x5_3) 0 (wrap64 (x3_1 - 1)) true _ A18.out).mono ?_); rintro e w' ⟨rfl, ⟨nd, rfl⟩⟩; (try first | exact ⟨rfl, _, wD_q _ _ _⟩ | exact ⟨rfl, _, Eq.trans (wD_q _ _ _) (congrArg (World.drewN _) (nA_q _ _ _))⟩)))
       repeat (go_quiet (first | (go_at_call 59; (with_reducible refine (spec_l6In.calls (rd ((rd_T63 l0 x3_1).f3) x5_3) 0 (wrap64 (x3_1 - 1)) true _ A18.out).mono ?_); rintro e w' ⟨rfl, ⟨nd, rfl⟩⟩; (try first | exact ⟨rfl, _, wD_q _ _ _⟩ | exact ⟨rfl, _, Eq.trans (wD_q _ _ _) (congrArg (World.drewN _) (nA_q _ _ _))⟩))); try go_wp2_with (first | (go_at_call 59; (with_reducible refine (spec_l6In.calls (rd ((rd_T63 l0 x3_1).f3) x5_3) 0 (wrap64 (x3_1 - 1)) true _ A18.out).mono ?_); rintro e w' ⟨rfl, ⟨nd, rfl⟩⟩; (try first | exact ⟨rfl, _, wD_q _ _ _⟩ | exact ⟨rfl, _, Eq.trans (wD_q _ _ _) (congrArg (World.drewN _) (nA_q _ _ _))⟩))))
       go_roundg k3
       case measure => have := HK1.out; have := HJ3.out; have := HK3.out; omega
       case rel => exact ⟨(wrap64 (x5_3 + 1)), m5_q, H', ⟨m114_q⟩, ⟨bup BK106.out⟩, ⟨m26_q⟩⟩

end Go.Proofs.Ytfnpiacmlahegaa.PRp
