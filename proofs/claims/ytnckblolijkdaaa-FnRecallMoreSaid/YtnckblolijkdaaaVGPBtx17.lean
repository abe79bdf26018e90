import Derived.Test.YtnckblolijkdaaaVGPBtx0
import Derived.Test.YtnckblolijkdaaaVGPBtx5
import Derived.Test.YtnckblolijkdaaaVGPBtx6
namespace Go.Proofs.Ytnckblolijkdaaa.PBt
open Go.RowKit Go.Proofs.YtnckblolijkdaaaW.PrintWords Go.Proofs.YtnckblolijkdaaaW.PrintLast Go.Proofs.YtnckblolijkdaaaW.PrintMore
attribute [local go_sem] max2_int min2_int max_two min_two max_three min_three max_four min_four
set_option linter.unusedVariables false
set_option linter.unusedSimpArgs false

def spec_l42Find.l0 : Nat → List (S39) → Int → Int → Option (Int)
 | 0, _, _, _ => none
 | k + 1, x0, x1, x5 => if x5 < (x0.length : Int) then (if 0 ≤ x5 then (if ((rd_T39 x0 x5).f0) = x1 then (some x5) else (spec_l42Find.l0 k x0 x1 (wrap64 (x5 + 1)))) else (none)) else (some (-1))
def spec_l42Find.f (k : Nat) (l0 : List (S39)) (a1 : Int) : Option (Int) := spec_l42Find.l0 k l0 a1 0
set_option maxHeartbeats 8000000 in
set_option maxRecDepth 100000 in
theorem spec_l42Find.calls (k : Nat) (A0 : Option Addr) (c0 : Nat) (l0 : List (S39)) (a1 : Int) (r : Int) (w : World) (hr0 : Kd.C k39 w A0 l0.length l0) (hc0 : l0.length ≤ c0) (h : spec_l42Find.f k l0 a1 = some r) :
    Calls Try.prog 60 #[.slice A0 l0.length c0, .int .i64 a1] w fun e w' => e = .returned (.int .i64 r) ∧ Drawn0 w w' := by
 have HR0 := Ae_q hr0
 have HC0 := Ae_q hc0
 clear hr0 hc0
 have H : (spec_l42Find.l0 k l0 a1 0) = some r := h
 clear h
 have H' := Ae_q H
 clear H
 go_enter Try.func60, Try.ntmps60
 go_wp2
 go_loopg [5] k (fun kq v5 w' => ∃ (x5_1 : Int), v5 = .int .i64 x5_1 ∧ Aside0 (spec_l42Find.l0 kq l0 a1 x5_1 = some r) ∧ Aside0 (kq ≤ k) ∧ Drawn0 w w')
 case atStart => exact ⟨(0), m5_q, H', ⟨nR_q _⟩, m8_q⟩
 case round =>
  clear H'
  try clear p2
  obtain ⟨x5_1, rfl, HA, HK1, ⟨m1, rfl⟩⟩ := hrel
  cases gk with
  | zero => exact absurd HA.out (by simp [spec_l42Find.l0])
  | succ k1 =>
   have H := HA.out
   clear HA
   simp only [spec_l42Find.l0] at H
   by_cases c3 : x5_1 < (l0.length : Int)
   rotate_left
   ·rw [if_neg c3] at H
    have c3b0 : decide (x5_1 < (l0.length : Int)) = false := dF_q c3
    clear c3
    obtain rfl := oI_q H
    go_wp2
    go_ret
    exact ⟨m5_q, m8_q⟩
   rw [if_pos c3] at H
   have c3b0 : decide (x5_1 < (l0.length : Int)) = true := dT_q c3
   clear c3
   by_cases c4 : 0 ≤ x5_1
   rotate_left
   ·rw [if_neg c4] at H
    exact absurd H (by simp)
   rw [if_pos c4] at H
   have c4b0 : decide (0 ≤ x5_1) = true := dT_q c4
   clear c4
   by_cases c5 : ((rd_T39 l0 x5_1).f0) = a1
   ·rw [if_pos c5] at H
    have c5b0 : (((rd_T39 l0 x5_1).f0) == a1) = true := beq_iff_eq.mpr c5
    have c5b1 : (((rd_T39 l0 x5_1).f0) != a1) = false := nE_q.mpr c5
    clear c5
    obtain rfl := oI_q H
    have p348 : 0 ≤ (x5_1 : Int) := oD_q (by assumption)
    have q348 : x5_1 < (l0.length : Int) := oD_q (by assumption)
    obtain ⟨ad348, A348_1, c348_1, e348, hx348_0, hx348_1, hx348_2, hx348_3, hl348_1, hi348_1⟩ := at_T39 HR0.out x5_1 p348 q348
    cases e348
    have HR348_1 := Ae_q hi348_1
    have HC348_1 := Ae_q hl348_1
    clear hi348_1 hl348_1
    replace p348 := eq_true p348
    replace q348 := eq_true q348
    go_wp2
    go_ret
    exact ⟨m5_q, m8_q⟩
   rw [if_neg c5] at H
   have c5b0 : (((rd_T39 l0 x5_1).f0) == a1) = false := fN_q.mpr c5
   have c5b1 : (((rd_T39 l0 x5_1).f0) != a1) = true := nI_q.mpr c5
   have H' := Ae_q H
   clear H
   have p348 : 0 ≤ (x5_1 : Int) := oD_q (by assumption)
   have q348 : x5_1 < (l0.length : Int) := oD_q (by assumption)
   obtain ⟨ad348, A348_1, c348_1, e348, hx348_0, hx348_1, hx348_2, hx348_3, hl348_1, hi348_1⟩ := at_T39 HR0.out x5_1 p348 q348
   cases e348
   have HR348_1 := Ae_q hi348_1
   have HC348_1 := Ae_q hl348_1
   clear hi348_1 hl348_1
   replace p348 := eq_true p348
   replace q348 := eq_true q348
   go_wp2
   go_roundg k1
   case measure => have := HK1.out; omega
   case rel => exact ⟨(wrap64 (x5_1 + 1)), m5_q, H', ⟨m26_q⟩, m8_q⟩

def spec_PlatesValid.l0 : Nat → List (S39) → List (S49) → Int → Option (Bool)
 | 0, _, _, _ => none
 | k + 1, x0, x1, x5 => if x5 < (x1.length : Int) then (if 0 ≤ x5 then ((spec_l6In.f ((rd_T49 x1 x5).f0) 1 99).bind fun t352 => (if t352 = true then ((spec_l42Find.f k x0 ((rd_T49 x1 x5).f1)).bind fun t353 => (if t353 < 0 then (some false) else ((spec_l6In.f ((rd_T49 x1 x5).f2) 0 1439).bind fun t354 => (if t354 = true then (spec_PlatesValid.l0 k x0 x1 (wrap64 (x5 + 1))) else (some false))))) else (some false))) else (none)) else ((spec_BatchesValid.f k x0).bind fun t349 => (if t349 = true then (some (decide ((x1.length : Int) ≤ 16))) else (some false)))
def spec_PlatesValid.f (k : Nat) (l0 : List (S39)) (l1 : List (S49)) : Option (Bool) := spec_PlatesValid.l0 k l0 l1 0
set_option maxHeartbeats 8000000 in
set_option maxRecDepth 100000 in
theorem spec_PlatesValid.calls (k : Nat) (A0 : Option Addr) (c0 : Nat) (l0 : List (S39)) (A1 : Option Addr) (c1 : Nat) (l1 : List (S49)) (r : Bool) (w : World) (hr0 : Kd.C k39 w A0 l0.length l0) (hc0 : l0.length ≤ c0) (hr1 : Kd.C k49 w A1 l1.length l1) (hc1 : l1.length ≤ c1) (h : spec_PlatesValid.f k l0 l1 = some r) :
    Calls Try.prog 31 #[.slice A0 l0.length c0, .slice A1 l1.length c1] w fun e w' => e = .returned (.bool r) ∧ Below w.heap.size w w' := by
 have hu49 := Try.underlying49
 have HR0 := Ae_q hr0
 have HC0 := Ae_q hc0
 clear hr0 hc0
 have HR1 := Ae_q hr1
 have HC1 := Ae_q hc1
 clear hr1 hc1
 have HB := Ae_q (bR_q w.heap.size w)
 have H : (spec_PlatesValid.l0 k l0 l1 0) = some r := h
 clear h
 have H' := Ae_q H
 clear H
 go_enter Try.func31, Try.ntmps31
 go_wp2
 go_loopg [5] k (fun kq v5 w' => ∃ (x5_1 : Int), v5 = .int .i64 x5_1 ∧ Aside0 (spec_PlatesValid.l0 kq l0 l1 x5_1 = some r) ∧ Aside0 (kq ≤ k) ∧ Aside0 (Below w.heap.size w w'))
 case atStart => exact ⟨(0), m5_q, H', ⟨nR_q _⟩, ⟨bel HB.out⟩⟩
 case round =>
  clear H'
  try clear c1
  try clear p2
  obtain ⟨x5_1, rfl, HA, HK1, HB⟩ := hrel
  cases gk with
  | zero => exact absurd HA.out (by simp [spec_PlatesValid.l0])
  | succ k1 =>
   have H := HA.out
   clear HA
   simp only [spec_PlatesValid.l0] at H
   by_cases c3 : x5_1 < (l1.length : Int)
   rotate_left
   ·rw [if_neg c3] at H
    have c3b0 : decide (x5_1 < (l1.length : Int)) = false := dF_q c3
    clear c3
    replace H := oB_q.mp H
    obtain ⟨t349, A190, H⟩ := H
    replace H : (if t349 = true then (some (decide ((l1.length : Int) ≤ 16))) else (some false)) = some r := H
    have A19 := Ae_q A190
    clear A190
    by_cases c20 : t349 = true
    ·subst c20
     have H1 : (some (decide ((l1.length : Int) ≤ 16))) = some r := by rw [if_pos rfl] at H; exact H
     clear H
     have H := H1
     clear H1
     obtain rfl := oI_q H
     go_wp2_with (first | ((with_reducible refine gC_q (f := 16) rfl ?_); refine gL_q (some 35) rfl rfl Try.func16 m9_q rfl #[.slice A0 l0.length c0] rfl m0_q ?_; (with_reducible refine (spec_BatchesValid.calls k1 _ _ l0 true _ ?side1 ?side2 A19.out).mono ?_); (case side1 => exact m28_q); (case side2 => exact m41_q); rintro e w' ⟨rfl, hb⟩; refine ⟨_, rfl, ?_⟩; replace HB := Ae_q (bT_q (bel HB.out) hb); (try clear hb); (try clear hb2); (try clear hk); (try clear hi)))
     go_ret
     exact ⟨m6_q, bel HB.out⟩
    replace c20 := fM_q.mpr c20
    subst c20
    have H1 : (some false) = some r := by rw [if_neg (show ¬ (false = true) by decide)] at H; exact H
    clear H
    have H := H1
    clear H1
    obtain rfl := oI_q H
    go_wp2_with (first | ((with_reducible refine gC_q (f := 16) rfl ?_); refine gL_q (some 35) rfl rfl Try.func16 m9_q rfl #[.slice A0 l0.length c0] rfl m0_q ?_; (with_reducible refine (spec_BatchesValid.calls k1 _ _ l0 false _ ?side1 ?side2 A19.out).mono ?_); (case side1 => exact m28_q); (case side2 => exact m41_q); rintro e w' ⟨rfl, hb⟩; refine ⟨_, rfl, ?_⟩; replace HB := Ae_q (bT_q (bel HB.out) hb); (try clear hb); (try clear hb2); (try clear hk); (try clear hi)))
    go_ret
    exact ⟨m6_q, bel HB.out⟩
   rw [if_pos c3] at H
   have c3b0 : decide (x5_1 < (l1.length : Int)) = true := dT_q c3
   clear c3
   by_cases c4 : 0 ≤ x5_1
   rotate_left
   ·rw [if_neg c4] at H
    exact absurd H (by simp)
   rw [if_pos c4] at H
   have c4b0 : decide (0 ≤ x5_1) = true := dT_q c4
   clear c4
   replace H := oB_q.mp H
   obtain ⟨t352, A50, H⟩ := H
   replace H : (if t352 = true then ((spec_l42Find.f k1 l0 ((rd_T49 l1 x5_1).f1)).bind fun t353 => (if t353 < 0 then (some false) else ((spec_l6In.f ((rd_T49 l1 x5_1).f2) 0 1439).bind fun t354 => (if t354 = true then (spec_PlatesValid.l0 k1 l0 l1 (wrap64 (x5_1 + 1))) else (some false))))) else (some false)) = some r := H
   have A5 := Ae_q A50
   clear A50
   by_cases c6 : t352 = true
   rotate_left
   ·replace c6 := fM_q.mpr c6
    subst c6
    have H1 : (some false) = some r := by rw [if_neg (show ¬ (false = true) by decide)] at H; exact H
    clear H
    have H := H1
    clear H1
    obtain rfl := oI_q H
    have p350 : 0 ≤ (x5_1 : Int) := oD_q (by assumption)
    have q350 : x5_1 < (l1.length : Int) := oD_q (by assumption)
    obtain ⟨ad350, e350, hx350_0, hx350_1, hx350_2⟩ := at_T49 HR1.out x5_1 p350 q350
    cases e350
    replace hx350_0 := cel HB.out hx350_0
    replace hx350_1 := cel HB.out hx350_1
    replace hx350_2 := cel HB.out hx350_2
    replace p350 := eq_true p350
    replace q350 := eq_true q350
    go_wp2_with (first | ((with_reducible refine gD_q (N := 6) rfl ?_); (try (refine gate_guard (by rfl) ?_; dsimp only)); refine bE_q ?hg (N := 6) ?hd (cs := #[.int .i64 0, .int .i64 0, .int .i64 0]) (t := 49) ?hr ?_; (case hd => rfl); (case hg => rfl); (case hr => exact m11_q); intro gb351 hg w17 hbox hb; have BK351 := Ae_q (hbox); have GW351 := Ae_q ((by rw [hg]; exact (bZ_q (bel HB.out)) : w.heap.size ≤ gb351)); have GE351 := Ae_q ((by rw [hg]; exact (bZ_q (bel HB.out)) : w.heap.size ≤ gb351)); replace HB := Ae_q (bT_q (bel HB.out) hb); clear hb hbox hg; have hcz18_0 : cI w17 gb351 0 0 := cZ BK351 0 rfl; have hcz18_1 : cI w17 gb351 1 0 := cZ BK351 1 rfl; have hcz18_2 : cI w17 gb351 2 0 := cZ BK351 2 rfl; have hfz18_0 := bF_q BK351.out 0; have hfz18_1 := bF_q BK351.out 1; have hfz18_2 := bF_q BK351.out 2) | ((with_reducible refine gC_q (f := 59) rfl ?_); refine gL_q (some 19) rfl rfl Try.func59 m9_q rfl #[.int .i64 ((rd_T49 l1 x5_1).f0), .int .i64 1, .int .i64 99] rfl m0_q ?_; (with_reducible refine (spec_l6In.calls ((rd_T49 l1 x5_1).f0) 1 99 false _ A5.out).mono ?_); rintro e w' ⟨rfl, ⟨nd, rfl⟩⟩; refine ⟨_, rfl, ?_⟩))
    go_ret
    exact ⟨m6_q, m17_q⟩
   subst c6
   have H1 : ((spec_l42Find.f k1 l0 ((rd_T49 l1 x5_1).f1)).bind fun t353 => (if t353 < 0 then (some false) else ((spec_l6In.f ((rd_T49 l1 x5_1).f2) 0 1439).bind fun t354 => (if t354 = true then (spec_PlatesValid.l0 k1 l0 l1 (wrap64 (x5_1 + 1))) else (some false))))) = some r := by rw [if_pos rfl] at H; exact H
   clear H
   have H := H1
   clear H1
   replace H := oB_q.mp H
   obtain ⟨t353, A70, H⟩ := H
   replace H : (if t353 < 0 then (some false) else ((spec_l6In.f ((rd_T49 l1 x5_1).f2) 0 1439).bind fun t354 => (if t354 = true then (spec_PlatesValid.l0 k1 l0 l1 (wrap64 (x5_1 + 1))) else (some false)))) = some r := H
   have A7 := Ae_q A70
   clear A70
   by_cases c8 : t353 < 0
   ·rw [if_pos c8] at H
    have c8b0 : decide (t353 < 0) = true := dT_q c8
    clear c8
    obtain rfl := oI_q H
    have p350 : 0 ≤ (x5_1 : Int) := oD_q (by assumption)
    have q350 : x5_1 < (l1.length : Int) := oD_q (by assumption)
    obtain ⟨ad350, e350, hx350_0, hx350_1, hx350_2⟩ := at_T49 HR1.out x5_1 p350 q350
    cases e350
    replace hx350_0 := cel HB.out hx350_0
    replace hx350_1 := cel HB.out hx350_1
    replace hx350_2 := cel HB.out hx350_2
    replace p350 := eq_true p350
    replace q350 := eq_true q350
    go_wp2_with (first | ((with_reducible refine gD_q (N := 6) rfl ?_); (try (refine gate_guard (by rfl) ?_; dsimp only)); refine bE_q ?hg (N := 6) ?hd (cs := #[.int .i64 0, .int .i64 0, .int .i64 0]) (t := 49) ?hr ?_; (case hd => rfl); (case hg => rfl); (case hr => exact m11_q); intro gb351 hg w9 hbox hb; have BK351 := Ae_q (hbox); have GW351 := Ae_q ((by rw [hg]; exact (bZ_q (bel HB.out)) : w.heap.size ≤ gb351)); have GE351 := Ae_q ((by rw [hg]; exact (bZ_q (bel HB.out)) : w.heap.size ≤ gb351)); replace HB := Ae_q (bT_q (bel HB.out) hb); clear hb hbox hg; have hcz10_0 : cI w9 gb351 0 0 := cZ BK351 0 rfl; have hcz10_1 : cI w9 gb351 1 0 := cZ BK351 1 rfl; have hcz10_2 : cI w9 gb351 2 0 := cZ BK351 2 rfl; have hfz10_0 := bF_q BK351.out 0; have hfz10_1 := bF_q BK351.out 1; have hfz10_2 := bF_q BK351.out 2) | ((with_reducible refine gC_q (f := 59) rfl ?_); refine gL_q (some 19) rfl rfl Try.func59 m9_q rfl #[.int .i64 ((rd_T49 l1 x5_1).f0), .int .i64 1, .int .i64 99] rfl m0_q ?_; (with_reducible refine (spec_l6In.calls ((rd_T49 l1 x5_1).f0) 1 99 true _ A5.out).mono ?_); rintro e w' ⟨rfl, ⟨nd, rfl⟩⟩; refine ⟨_, rfl, ?_⟩) | (go_at_call 60; (with_reducible refine (spec_l42Find.calls k1 _ _ l0 ((rd_T49 l1 x5_1).f1) t353 _ ?side1 ?side2 A7.out).mono ?_); (case side1 => exact cB_q HR0.out m17_q); (case side2 => exact m41_q); rintro e w' ⟨rfl, ⟨nd, rfl⟩⟩))
    go_ret
    exact ⟨m6_q, m17_q⟩
   rw [if_neg c8] at H
   have c8b0 : decide (t353 < 0) = false := dF_q c8
   clear c8
   replace H := oB_q.mp H
   obtain ⟨t354, A110, H⟩ := H
   replace H : (if t354 = true then (spec_PlatesValid.l0 k1 l0 l1 (wrap64 (x5_1 + 1))) else (some false)) = some r := H
   have A11 := Ae_q A110
   clear A110
   by_cases c12 : t354 = true
   ·subst c12
    have H1 : (spec_PlatesValid.l0 k1 l0 l1 (wrap64 (x5_1 + 1))) = some r := by rw [if_pos rfl] at H; exact H
    clear H
    have H := H1
    clear H1
    have H' := Ae_q H
    clear H
    have p350 : 0 ≤ (x5_1 : Int) := oD_q (by assumption)
    have q350 : x5_1 < (l1.length : Int) := oD_q (by assumption)
    obtain ⟨ad350, e350, hx350_0, hx350_1, hx350_2⟩ := at_T49 HR1.out x5_1 p350 q350
    cases e350
    replace hx350_0 := cel HB.out hx350_0
    replace hx350_1 := cel HB.out hx350_1
    replace hx350_2 := cel HB.out hx350_2
    replace p350 := eq_true p350
    replace q350 := eq_true q350
    go_wp2_with (first | ((with_reducible refine gD_q (N := 6) rfl ?_); (try (refine gate_guard (by rfl) ?_; dsimp only)); refine bE_q ?hg (N := 6) ?hd (cs := #[.int .i64 0, .int .i64 0, .int .i64 0]) (t := 49) ?hr ?_; (case hd => rfl); (case hg => rfl); (case hr => exact m11_q); intro gb351 hg w13 hbox hb; have BK351 := Ae_q (hbox); have GW351 := Ae_q ((by rw [hg]; exact (bZ_q (bel HB.out)) : w.heap.size ≤ gb351)); have GE351 := Ae_q ((by rw [hg]; exact (bZ_q (bel HB.out)) : w.heap.size ≤ gb351)); replace HB := Ae_q (bT_q (bel HB.out) hb); clear hb hbox hg; have hcz14_0 : cI w13 gb351 0 0 := cZ BK351 0 rfl; have hcz14_1 : cI w13 gb351 1 0 := cZ BK351 1 rfl; have hcz14_2 : cI w13 gb351 2 0 := cZ BK351 2 rfl; have hfz14_0 := bF_q BK351.out 0; have hfz14_1 := bF_q BK351.out 1; have hfz14_2 := bF_q BK351.out 2) | ((with_reducible refine gC_q (f := 59) rfl ?_); refine gL_q (some 19) rfl rfl Try.func59 m9_q rfl #[.int .i64 ((rd_T49 l1 x5_1).f0), .int .i64 1, .int .i64 99] rfl m0_q ?_; (with_reducible refine (spec_l6In.calls ((rd_T49 l1 x5_1).f0) 1 99 true _ A5.out).mono ?_); rintro e w' ⟨rfl, ⟨nd, rfl⟩⟩; refine ⟨_, rfl, ?_⟩) | ((first | (go_at_call 60; (with_reducible refine (spec_l42Find.calls k1 _ _ l0 ((rd_T49 l1 x5_1).f1) t353 _ ?side1 ?side2 A7.out).mono ?_); (case side1 => exact cB_q HR0.out m17_q); (case side2 => exact m41_q)) | (go_at_call 59; (with_reducible refine (spec_l6In.calls ((rd_T49 l1 x5_1).f2) 0 1439 true _ A11.out).mono ?_))); rintro e w' ⟨rfl, ⟨nd, rfl⟩⟩))
    go_roundg k1
    case measure => have := HK1.out; omega
    case rel => exact ⟨(wrap64 (x5_1 + 1)), m5_q, H', ⟨m26_q⟩, ⟨m17_q⟩⟩
   replace c12 := fM_q.mpr c12
   subst c12
   have H1 : (some false) = some r := by rw [if_neg (show ¬ (false = true) by decide)] at H; exact H
   clear H
   have H := H1
   clear H1
   obtain rfl := oI_q H
   have p350 : 0 ≤ (x5_1 : Int) := oD_q (by assumption)
   have q350 : x5_1 < (l1.length : Int) := oD_q (by assumption)
   obtain ⟨ad350, e350, hx350_0, hx350_1, hx350_2⟩ := at_T49 HR1.out x5_1 p350 q350
   cases e350
   replace hx350_0 := cel HB.out hx350_0
   replace hx350_1 := cel HB.out hx350_1
   replace hx350_2 := cel HB.out hx350_2
   replace p350 := eq_true p350
   replace q350 := eq_true q350
   go_wp2_with (first | ((with_reducible refine gD_q (N := 6) rfl ?_); (try (refine gate_guard (by rfl) ?_; dsimp only)); refine bE_q ?hg (N := 6) ?hd (cs := #[.int .i64 0, .int .i64 0, .int .i64 0]) (t := 49) ?hr ?_; (case hd => rfl); (case hg => rfl); (case hr => exact m11_q); intro gb351 hg w15 hbox hb; have BK351 := Ae_q (hbox); have GW351 := Ae_q ((by rw [hg]; exact (bZ_q (bel HB.out)) : w.heap.size ≤ gb351)); have GE351 := Ae_q ((by rw [hg]; exact (bZ_q (bel HB.out)) : w.heap.size ≤ gb351)); replace HB := Ae_q (bT_q (bel HB.out) hb); clear hb hbox hg; have hcz16_0 : cI w15 gb351 0 0 := cZ BK351 0 rfl; have hcz16_1 : cI w15 gb351 1 0 := cZ BK351 1 rfl; have hcz16_2 : cI w15 gb351 2 0 := cZ BK351 2 rfl; have hfz16_0 := bF_q BK351.out 0; have hfz16_1 := bF_q BK351.out 1; have hfz16_2 := bF_q BK351.out 2) | ((with_reducible refine gC_q (f := 59) rfl ?_); refine gL_q (some 19) rfl rfl Try.func59 m9_q rfl #[.int .i64 ((rd_T49 l1 x5_1).f0), .int .i64 1, .int .i64 99] rfl m0_q ?_; (with_reducible refine (spec_l6In.calls ((rd_T49 l1 x5_1).f0) 1 99 true _ A5.out).mono ?_); rintro e w' ⟨rfl, ⟨nd, rfl⟩⟩; refine ⟨_, rfl, ?_⟩) | ((first | (go_at_call 60; (with_reducible refine (spec_l42Find.calls k1 _ _ l0 ((rd_T49 l1 x5_1).f1) t353 _ ?side1 ?side2 A7.out).mono ?_); (case side1 => exact cB_q HR0.out m17_q); (case side2 => exact m41_q)) | (go_at_call 59; (with_reducible refine (spec_l6In.calls ((rd_T49 l1 x5_1).f2) 0 1439 false _ A11.out).mono ?_))); rintro e w' ⟨rfl, ⟨nd, rfl⟩⟩))
   go_ret
   exact ⟨m6_q, m17_q⟩

end Go.Proofs.Ytnckblolijkdaaa.PBt
