import Derived.Test.YtfnpiacmlahegaaVSPRpx0
import Derived.Test.YtfnpiacmlahegaaVSPRpx1
namespace Go.Proofs.Ytfnpiacmlahegaa.PRp
open Go.RowKit Go.Proofs.YtfnpiacmlahegaaW.PrintWords Go.Proofs.YtfnpiacmlahegaaW.PrintLast Go.Proofs.YtfnpiacmlahegaaW.PrintMore
attribute [local go_sem] max2_int min2_int max_two min_two max_three min_three max_four min_four
set_option linter.unusedVariables false
set_option linter.unusedSimpArgs false

def laws_szKitchen.f (a0_0 : Int) (l0_1 : List Int) (a1 : Int) : Option (Int) := (laws_szIntS.f l0_1 a1).bind fun t256 => (if t256 < 0 then (some (-1)) else (some t256))
set_option maxHeartbeats 8000000 in
set_option maxRecDepth 100000 in
theorem laws_szKitchen.calls (a0_0 : Int) (A0_1 : Option Addr) (c0_1 : Nat) (l0_1 : List Int) (a1 : Int) (r : Int) (w : World) (hr0_1 : Kd.C kI_q w A0_1 l0_1.length l0_1) (hc0_1 : l0_1.length ≤ c0_1) (h : laws_szKitchen.f a0_0 l0_1 a1 = some r) :
    Calls Try.prog 21 #[.agg #[.int .i64 a0_0, .slice A0_1 l0_1.length c0_1], .int .i64 a1] w fun e w' => e = .returned (.int .i64 r) ∧ Below w.heap.size w w' := by
 have hu39 := Try.underlying39
 have HR0_1 := Ae_q hr0_1
 have HC0_1 := Ae_q hc0_1
 clear hr0_1 hc0_1
 have HB := Ae_q (bR_q w.heap.size w)
 have H : ((laws_szIntS.f l0_1 a1).bind fun t256 => (if t256 < 0 then (some (-1)) else (some t256))) = some r := h
 clear h
 replace H := oB_q.mp H
 obtain ⟨t256, A30, H⟩ := H
 replace H : (if t256 < 0 then (some (-1)) else (some t256)) = some r := H
 have A3 := Ae_q A30
 clear A30
 by_cases c4 : t256 < 0
 ·rw [if_pos c4] at H
  have c4b0 : decide (t256 < 0) = true := dT_q c4
  clear c4
  obtain rfl := oI_q H
  go_enter Try.func21, Try.ntmps21
  go_wp2_with (first | ((with_reducible refine gD_q (N := 2) rfl ?_); refine bE_q ?hg (N := 2) ?hd (cs := #[.int .i64 a0_0, .slice A0_1 l0_1.length c0_1]) (t := 39) ?hr ?_; (case hd => rfl); (case hg => rfl); (case hr => exact m6_q); intro gb255 hg w5 hbox hb; have BK255 := Ae_q (hbox); have GW255 := Ae_q ((by rw [hg]; exact (bZ_q (bel HB.out)) : w.heap.size ≤ gb255)); have GE255 := Ae_q ((by rw [hg]; exact (bZ_q (bel HB.out)) : w.heap.size ≤ gb255)); replace HB := Ae_q (bT_q (bel HB.out) hb); clear hb hbox hg; have hcz6_0 : cI w5 gb255 0 a0_0 := cZ BK255 0 rfl; have hcz6_1 : w5.cell? ⟨gb255, 1, none⟩ = some (.slice A0_1 l0_1.length c0_1) := (bC_q BK255.out 1).trans rfl; have hfz6_0 := bF_q BK255.out 0; have hfz6_1 := bF_q BK255.out 1) | ((with_reducible refine gC_q (f := 42) rfl ?_); refine gL_q (some 8) rfl rfl Try.func42 m7_q rfl #[.slice A0_1 l0_1.length c0_1, .int .i64 a1] rfl m1_q ?_; (with_reducible refine (laws_szIntS.calls _ _ l0_1 a1 t256 _ ?side1 ?side2 A3.out).mono ?_); (case side1 => exact m120_q); (case side2 => exact HC0_1.out); rintro e w' ⟨rfl, ⟨nd, rfl⟩⟩; refine ⟨_, rfl, ?_⟩))
  go_ret
  exact ⟨m4_q, m108_q⟩
 rw [if_neg c4] at H
 have c4b0 : decide (t256 < 0) = false := dF_q c4
 clear c4
 obtain rfl := oI_q H
 go_enter Try.func21, Try.ntmps21
 go_wp2_with (first | ((with_reducible refine gD_q (N := 2) rfl ?_); refine bE_q ?hg (N := 2) ?hd (cs := #[.int .i64 a0_0, .slice A0_1 l0_1.length c0_1]) (t := 39) ?hr ?_; (case hd => rfl); (case hg => rfl); (case hr => exact m6_q); intro gb255 hg w7 hbox hb; have BK255 := Ae_q (hbox); have GW255 := Ae_q ((by rw [hg]; exact (bZ_q (bel HB.out)) : w.heap.size ≤ gb255)); have GE255 := Ae_q ((by rw [hg]; exact (bZ_q (bel HB.out)) : w.heap.size ≤ gb255)); replace HB := Ae_q (bT_q (bel HB.out) hb); clear hb hbox hg; have hcz8_0 : cI w7 gb255 0 a0_0 := cZ BK255 0 rfl; have hcz8_1 : w7.cell? ⟨gb255, 1, none⟩ = some (.slice A0_1 l0_1.length c0_1) := (bC_q BK255.out 1).trans rfl; have hfz8_0 := bF_q BK255.out 0; have hfz8_1 := bF_q BK255.out 1) | ((with_reducible refine gC_q (f := 42) rfl ?_); refine gL_q (some 8) rfl rfl Try.func42 m7_q rfl #[.slice A0_1 l0_1.length c0_1, .int .i64 a1] rfl m1_q ?_; (with_reducible refine (laws_szIntS.calls _ _ l0_1 a1 t256 _ ?side1 ?side2 A3.out).mono ?_); (case side1 => exact m120_q); (case side2 => exact HC0_1.out); rintro e w' ⟨rfl, ⟨nd, rfl⟩⟩; refine ⟨_, rfl, ?_⟩))
 go_ret
 exact ⟨m4_q, m108_q⟩

def spec_KitchenValid.l0 : Nat → Int → Int → List Int → Option (Bool)
 | 0, _, _, _ => none
 | k + 1, x3, x258000, x258001 => if x3 < (x258001.length : Int) then (if 0 ≤ x3 then ((spec_l6In.f (rd x258001 x3) 0 3).bind fun t259 => (if t259 = true then (spec_KitchenValid.l0 k (wrap64 (x3 + 1)) x258000 x258001) else (some false))) else (none)) else ((spec_l6In.f x258000 0 9).bind fun t260 => (if t260 = true then (some ((x258001.length : Int) == 4)) else (some false)))
def spec_KitchenValid.f (k : Nat) (a0_0 : Int) (l0_1 : List Int) : Option (Bool) := spec_KitchenValid.l0 k 0 a0_0 l0_1
set_option maxHeartbeats 8000000 in
set_option maxRecDepth 100000 in
theorem spec_KitchenValid.calls (k : Nat) (a0_0 : Int) (A0_1 : Option Addr) (c0_1 : Nat) (l0_1 : List Int) (r : Bool) (w : World) (hr0_1 : Kd.C kI_q w A0_1 l0_1.length l0_1) (hc0_1 : l0_1.length ≤ c0_1) (h : spec_KitchenValid.f k a0_0 l0_1 = some r) :
    Calls Try.prog 43 #[.agg #[.int .i64 a0_0, .slice A0_1 l0_1.length c0_1]] w fun e w' => e = .returned (.bool r) ∧ Below w.heap.size w w' := by
 have hu43 := Try.underlying43
 have HR0_1 := Ae_q hr0_1
 have HC0_1 := Ae_q hc0_1
 clear hr0_1 hc0_1
 have HB := Ae_q (bR_q w.heap.size w)
 have H : (spec_KitchenValid.l0 k 0 a0_0 l0_1) = some r := h
 clear h
 have H' := Ae_q H
 clear H
 go_enter Try.func43, Try.ntmps43
 go_wp2_with (first | ((with_reducible refine gD_q (N := 1) rfl ?_); (try (refine gate_guard (by rfl) ?_; dsimp only)); refine bE_q ?hg (N := 1) ?hd (cs := #[.int .i64 a0_0, .slice A0_1 l0_1.length c0_1]) (t := 43) ?hr ?_; (case hd => rfl); (case hg => rfl); (case hr => exact m6_q); intro gb257 hg w' hbox hb; have BK257 := Ae_q (hbox); have GW257 := Ae_q ((by rw [hg]; exact (bZ_q (bel HB.out)) : w.heap.size ≤ gb257)); have GE257 := Ae_q ((by rw [hg]; exact (bZ_q (bel HB.out)) : w.heap.size ≤ gb257)); replace HB := Ae_q (bT_q (bel HB.out) hb); clear hb hbox hg))
 go_loopg [3] k (fun kq v3 w' => ∃ (x3_1 : Int), v3 = .int .i64 x3_1 ∧ Aside0 (spec_KitchenValid.l0 kq x3_1 a0_0 l0_1 = some r) ∧ Aside0 (kq ≤ k) ∧ Aside0 (w'.heap[gb257]? = some (.cells #[.int .i64 a0_0, (.slice A0_1 l0_1.length c0_1)] 43 (0, 0))) ∧ Aside0 (Below w.heap.size w w'))
 case atStart => exact ⟨(0), m5_q, H', ⟨nR_q _⟩, ⟨bup BK257.out⟩, ⟨m58_q⟩⟩
 case round =>
  clear H'
  try clear p2
  obtain ⟨x3_1, rfl, HA, HK1, BK257, HB⟩ := hrel
  cases gk with
  | zero => exact absurd HA.out (by simp [spec_KitchenValid.l0])
  | succ k1 =>
   have H := HA.out
   clear HA
   simp only [spec_KitchenValid.l0] at H
   by_cases c3 : x3_1 < (l0_1.length : Int)
   rotate_left
   ·rw [if_neg c3] at H
    have c3b0 : decide (x3_1 < (l0_1.length : Int)) = false := dF_q c3
    clear c3
    replace H := oB_q.mp H
    obtain ⟨t260, A90, H⟩ := H
    replace H : (if t260 = true then (some ((l0_1.length : Int) == 4)) else (some false)) = some r := H
    have A9 := Ae_q A90
    clear A90
    by_cases c10 : t260 = true
    ·subst c10
     have H1 : (some ((l0_1.length : Int) == 4)) = some r := by rw [if_pos rfl] at H; exact H
     clear H
     have H := H1
     clear H1
     obtain rfl := oI_q H
     have hcz11_0 : cI wr gb257 0 a0_0 := cZ BK257 0 rfl
     have hcz11_1 : wr.cell? ⟨gb257, 1, none⟩ = some (.slice A0_1 l0_1.length c0_1) := (bC_q BK257.out 1).trans rfl
     have hfz11_0 := bF_q BK257.out 0
     have hfz11_1 := bF_q BK257.out 1
     go_wp2_with (first | ((with_reducible refine gC_q (f := 59) rfl ?_); refine gL_q (some 20) rfl rfl Try.func59 m7_q rfl #[.int .i64 a0_0, .int .i64 0, .int .i64 9] rfl m1_q ?_; (with_reducible refine (spec_l6In.calls a0_0 0 9 true _ A9.out).mono ?_); rintro e w' ⟨rfl, ⟨nd, rfl⟩⟩; refine ⟨_, rfl, ?_⟩))
     go_ret
     exact ⟨m4_q, m58_q⟩
    replace c10 := fM_q.mpr c10
    subst c10
    have H1 : (some false) = some r := by rw [if_neg (show ¬ (false = true) by decide)] at H; exact H
    clear H
    have H := H1
    clear H1
    obtain rfl := oI_q H
    have hcz12_0 : cI wr gb257 0 a0_0 := cZ BK257 0 rfl
    have hcz12_1 : wr.cell? ⟨gb257, 1, none⟩ = some (.slice A0_1 l0_1.length c0_1) := (bC_q BK257.out 1).trans rfl
    have hfz12_0 := bF_q BK257.out 0
    have hfz12_1 := bF_q BK257.out 1
    go_wp2_with (first | ((with_reducible refine gC_q (f := 59) rfl ?_); refine gL_q (some 20) rfl rfl Try.func59 m7_q rfl #[.int .i64 a0_0, .int .i64 0, .int .i64 9] rfl m1_q ?_; (with_reducible refine (spec_l6In.calls a0_0 0 9 false _ A9.out).mono ?_); rintro e w' ⟨rfl, ⟨nd, rfl⟩⟩; refine ⟨_, rfl, ?_⟩))
    go_ret
    exact ⟨m4_q, m58_q⟩
   rw [if_pos c3] at H
   have c3b0 : decide (x3_1 < (l0_1.length : Int)) = true := dT_q c3
   clear c3
   by_cases c4 : 0 ≤ x3_1
   rotate_left
   ·rw [if_neg c4] at H
    exact absurd H (by simp)
   rw [if_pos c4] at H
   have c4b0 : decide (0 ≤ x3_1) = true := dT_q c4
   clear c4
   replace H := oB_q.mp H
   obtain ⟨t259, A50, H⟩ := H
   replace H : (if t259 = true then (spec_KitchenValid.l0 k1 (wrap64 (x3_1 + 1)) a0_0 l0_1) else (some false)) = some r := H
   have A5 := Ae_q A50
   clear A50
   by_cases c6 : t259 = true
   rotate_left
   ·replace c6 := fM_q.mpr c6
    subst c6
    have H1 : (some false) = some r := by rw [if_neg (show ¬ (false = true) by decide)] at H; exact H
    clear H
    have H := H1
    clear H1
    obtain rfl := oI_q H
    have hcz8_0 : cI wr gb257 0 a0_0 := cZ BK257 0 rfl
    have hcz8_1 : wr.cell? ⟨gb257, 1, none⟩ = some (.slice A0_1 l0_1.length c0_1) := (bC_q BK257.out 1).trans rfl
    have hfz8_0 := bF_q BK257.out 0
    have hfz8_1 := bF_q BK257.out 1
    have p258 : 0 ≤ (x3_1 : Int) := oD_q (by assumption)
    have q258 : x3_1 < (l0_1.length : Int) := oD_q (by assumption)
    obtain ⟨ad258, e258, hx258_0⟩ := aI_q HR0_1.out x3_1 p258 q258
    cases e258
    replace hx258_0 := cel HB.out hx258_0
    replace p258 := eq_true p258
    replace q258 := eq_true q258
    go_wp2_with (first | ((with_reducible refine gC_q (f := 59) rfl ?_); refine gL_q (some 16) rfl rfl Try.func59 m7_q rfl #[.int .i64 (rd l0_1 x3_1), .int .i64 0, .int .i64 3] rfl m1_q ?_; (with_reducible refine (spec_l6In.calls (rd l0_1 x3_1) 0 3 false _ A5.out).mono ?_); rintro e w' ⟨rfl, ⟨nd, rfl⟩⟩; refine ⟨_, rfl, ?_⟩))
    go_ret
    exact ⟨m4_q, m58_q⟩
   subst c6
   have H1 : (spec_KitchenValid.l0 k1 (wrap64 (x3_1 + 1)) a0_0 l0_1) = some r := by rw [if_pos rfl] at H; exact H
   clear H
   have H := H1
   clear H1
   have H' := Ae_q H
   clear H
   have hcz7_0 : cI wr gb257 0 a0_0 := cZ BK257 0 rfl
   have hcz7_1 : wr.cell? ⟨gb257, 1, none⟩ = some (.slice A0_1 l0_1.length c0_1) := (bC_q BK257.out 1).trans rfl
   have hfz7_0 := bF_q BK257.out 0
   have hfz7_1 := bF_q BK257.out 1
   have p258 : 0 ≤ (x3_1 : Int) := oD_q (by assumption)
   have q258 : x3_1 < (l0_1.length : Int) := oD_q (by assumption)
   obtain ⟨ad258, e258, hx258_0⟩ := aI_q HR0_1.out x3_1 p258 q258
   cases e258
   replace hx258_0 := cel HB.out hx258_0
   replace p258 := eq_true p258
   replace q258 := eq_true q258
   go_wp2_with (first | ((with_reducible refine gC_q (f := 59) rfl ?_); refine gL_q (some 16) rfl rfl Try.func59 m7_q rfl #[.int .i64 (rd l0_1 x3_1), .int .i64 0, .int .i64 3] rfl m1_q ?_; (with_reducible refine (spec_l6In.calls (rd l0_1 x3_1) 0 3 true _ A5.out).mono ?_); rintro e w' ⟨rfl, ⟨nd, rfl⟩⟩; refine ⟨_, rfl, ?_⟩))
   go_roundg k1
   case measure => have := HK1.out; omega
   case rel => exact ⟨(wrap64 (x3_1 + 1)), m5_q, H', ⟨m74_q⟩, ⟨bup BK257.out⟩, ⟨m58_q⟩⟩

def spec_l32After.l0 : Nat → List (S63) → List Int → Int → Int → Int → Option (Int)
 | 0, _, _, _, _, _ => none
 | k + 1, x0, x1, x2, x7, x8 => if 0 ≤ x2 then (if x2 < (x0.length : Int) then (if x8 < (((rd_T63 x0 x2).f3).length : Int) then (if 0 ≤ x8 then (if 0 ≤ (rd ((rd_T63 x0 x2).f3) x8) then (if (rd ((rd_T63 x0 x2).f3) x8) < (x1.length : Int) then (if (rd ((rd_T63 x0 x2).f3) x8) < (x0.length : Int) then (spec_l32After.l0 k x0 x1 x2 (mx x7 (wrap64 ((rd x1 (rd ((rd_T63 x0 x2).f3) x8)) + ((rd_T63 x0 (rd ((rd_T63 x0 x2).f3) x8)).f0)))) (wrap64 (x8 + 1))) else (none)) else (none)) else (none)) else (none)) else (some x7)) else (none)) else (none)
def spec_l32After.f (k : Nat) (l0 : List (S63)) (l1 : List Int) (a2 : Int) : Option (Int) := spec_l32After.l0 k l0 l1 a2 0 0
set_option maxHeartbeats 8000000 in
set_option maxRecDepth 100000 in
theorem spec_l32After.calls (k : Nat) (A0 : Option Addr) (c0 : Nat) (l0 : List (S63)) (A1 : Option Addr) (c1 : Nat) (l1 : List Int) (a2 : Int) (r : Int) (w : World) (hr0 : Kd.C k63 w A0 l0.length l0) (hc0 : l0.length ≤ c0) (hr1 : Kd.C kI_q w A1 l1.length l1) (hc1 : l1.length ≤ c1) (h : spec_l32After.f k l0 l1 a2 = some r) :
    Calls Try.prog 46 #[.slice A0 l0.length c0, .slice A1 l1.length c1, .int .i64 a2] w fun e w' => e = .returned (.int .i64 r) ∧ Below w.heap.size w w' := by
 have HR0 := Ae_q hr0
 have HC0 := Ae_q hc0
 clear hr0 hc0
 have HR1 := Ae_q hr1
 have HC1 := Ae_q hc1
 clear hr1 hc1
 have HB := Ae_q (bR_q w.heap.size w)
 have H : (spec_l32After.l0 k l0 l1 a2 0 0) = some r := h
 clear h
 have H' := Ae_q H
 clear H
 go_enter Try.func46, Try.ntmps46
 go_wp2
 repeat (go_quiet (fail); try go_wp2)
 go_loopg [7, 8] k (fun kq v7 v8 w' => ∃ (x7_1 : Int) (x8_1 : Int), v7 = .int .i64 x7_1 ∧ v8 = .int .i64 x8_1 ∧ Aside0 (spec_l32After.l0 kq l0 l1 a2 x7_1 x8_1 = some r) ∧ Aside0 (kq ≤ k) ∧ Aside0 (Below w.heap.size w w'))
 case atStart => exact ⟨(0), (0), m5_q, m5_q, H', ⟨nR_q _⟩, ⟨bel HB.out⟩⟩
 case round =>
  clear H'
  try clear c1
  try clear p2
  obtain ⟨x7_1, x8_1, rfl, rfl, HA, HK1, HB⟩ := hrel
  cases gk with
  | zero => exact absurd HA.out (by simp [spec_l32After.l0])
  | succ k1 =>
   have H := HA.out
   clear HA
   simp only [spec_l32After.l0] at H
   by_cases c4 : 0 ≤ a2
   rotate_left
   ·rw [if_neg c4] at H
    exact absurd H (by simp)
   rw [if_pos c4] at H
   have c4b0 : decide (0 ≤ a2) = true := dT_q c4
   clear c4
   by_cases c5 : a2 < (l0.length : Int)
   rotate_left
   ·rw [if_neg c5] at H
    exact absurd H (by simp)
   rw [if_pos c5] at H
   have c5b0 : decide (a2 < (l0.length : Int)) = true := dT_q c5
   clear c5
   by_cases c6 : x8_1 < (((rd_T63 l0 a2).f3).length : Int)
   rotate_left
   ·rw [if_neg c6] at H
    have c6b0 : decide (x8_1 < (((rd_T63 l0 a2).f3).length : Int)) = false := dF_q c6
    clear c6
    obtain rfl := oI_q H
    have p264 : 0 ≤ (a2 : Int) := oD_q (by assumption)
    have q264 : a2 < (l0.length : Int) := oD_q (by assumption)
    obtain ⟨ad264, A264_3, c264_3, e264, hx264_0, hx264_1, hx264_2, hx264_3, hl264_3, hi264_3⟩ := at_T63 HR0.out a2 p264 q264
    cases e264
    replace hx264_0 := cel HB.out hx264_0
    replace hx264_1 := cel HB.out hx264_1
    replace hx264_2 := cel HB.out hx264_2
    replace hx264_3 := cel HB.out hx264_3
    have HR264_3 := Ae_q hi264_3
    have HC264_3 := Ae_q hl264_3
    clear hi264_3 hl264_3
    replace p264 := eq_true p264
    replace q264 := eq_true q264
    go_wp2
    repeat (go_quiet (fail); try go_wp2)
    go_ret
    exact ⟨m4_q, bel HB.out⟩
   rw [if_pos c6] at H
   have c6b0 : decide (x8_1 < (((rd_T63 l0 a2).f3).length : Int)) = true := dT_q c6
   clear c6
   by_cases c7 : 0 ≤ x8_1
   rotate_left
   ·rw [if_neg c7] at H
    exact absurd H (by simp)
   rw [if_pos c7] at H
   have c7b0 : decide (0 ≤ x8_1) = true := dT_q c7
   clear c7
   by_cases c8 : 0 ≤ (rd ((rd_T63 l0 a2).f3) x8_1)
   rotate_left
   ·rw [if_neg c8] at H
    exact absurd H (by simp)
   rw [if_pos c8] at H
   have c8b0 : decide (0 ≤ (rd ((rd_T63 l0 a2).f3) x8_1)) = true := dT_q c8
   clear c8
   by_cases c9 : (rd ((rd_T63 l0 a2).f3) x8_1) < (l1.length : Int)
   rotate_left
   ·rw [if_neg c9] at H
    exact absurd H (by simp)
   rw [if_pos c9] at H
   have c9b0 : decide ((rd ((rd_T63 l0 a2).f3) x8_1) < (l1.length : Int)) = true := dT_q c9
   clear c9
   by_cases c10 : (rd ((rd_T63 l0 a2).f3) x8_1) < (l0.length : Int)
   rotate_left
   ·rw [if_neg c10] at H
    exact absurd H (by simp)
   rw [if_pos c10] at H
   have c10b0 : decide ((rd ((rd_T63 l0 a2).f3) x8_1) < (l0.length : Int)) = true := dT_q c10
   clear c10
   obtain ⟨ji11, hji11⟩ : ∃ j_ : Int, (mx x7_1 (wrap64 ((rd l1 (rd ((rd_T63 l0 a2).f3) x8_1)) + ((rd_T63 l0 (rd ((rd_T63 l0 a2).f3) x8_1)).f0)))) = j_ := ⟨_, rfl⟩
   replace H : (spec_l32After.l0 k1 l0 l1 a2 ji11 (wrap64 (x8_1 + 1))) = some r := by first | (rw [hji11] at H; exact H) | (simp only [hji11] at H ⊢; exact H)
   have hji11_ : (if x7_1 < (wrap64 ((rd l1 (rd ((rd_T63 l0 a2).f3) x8_1)) + ((rd_T63 l0 (rd ((rd_T63 l0 a2).f3) x8_1)).f0))) then (wrap64 ((rd l1 (rd ((rd_T63 l0 a2).f3) x8_1)) + ((rd_T63 l0 (rd ((rd_T63 l0 a2).f3) x8_1)).f0))) else x7_1) = ji11 := hji11
   have H' := Ae_q H
   clear H
   have p264 : 0 ≤ (a2 : Int) := oD_q (by assumption)
   have q264 : a2 < (l0.length : Int) := oD_q (by assumption)
   obtain ⟨ad264, A264_3, c264_3, e264, hx264_0, hx264_1, hx264_2, hx264_3, hl264_3, hi264_3⟩ := at_T63 HR0.out a2 p264 q264
   cases e264
   replace hx264_0 := cel HB.out hx264_0
   replace hx264_1 := cel HB.out hx264_1
   replace hx264_2 := cel HB.out hx264_2
   replace hx264_3 := cel HB.out hx264_3
   have HR264_3 := Ae_q hi264_3
   have HC264_3 := Ae_q hl264_3
   clear hi264_3 hl264_3
   replace p264 := eq_true p264
   replace q264 := eq_true q264
   have p265 : 0 ≤ (a2 : Int) := oD_q (by assumption)
   have q265 : a2 < (l0.length : Int) := oD_q (by assumption)
   obtain ⟨ad265, A265_3, c265_3, e265, hx265_0, hx265_1, hx265_2, hx265_3, hl265_3, hi265_3⟩ := at_T63 HR0.out a2 p265 q265
   obtain rfl : ad264 = ad265 := (by injection e265)
   replace hx265_0 := cel HB.out hx265_0
   replace hx265_1 := cel HB.out hx265_1
   replace hx265_2 := cel HB.out hx265_2
   replace hx265_3 := cel HB.out hx265_3
   have HR265_3 := Ae_q hi265_3
   have HC265_3 := Ae_q hl265_3
   clear hi265_3 hl265_3
   replace p265 := eq_true p265
   replace q265 := eq_true q265
   have ea_ := oI_q (hx264_3.symm.trans hx265_3)
   injection ea_ with ea_ en_ ec_
   subst ea_
   subst ec_
   clear en_
   have p266 : 0 ≤ (x8_1 : Int) := oD_q (by assumption)
   have q266 : x8_1 < (((rd_T63 l0 a2).f3).length : Int) := oD_q (by assumption)
   obtain ⟨ad266, e266, hx266_0⟩ := aI_q HR265_3.out x8_1 p266 q266
   cases e266
   replace hx266_0 := cel HB.out hx266_0
   replace p266 := eq_true p266
   replace q266 := eq_true q266
   have p267 : 0 ≤ ((rd ((rd_T63 l0 a2).f3) x8_1) : Int) := oD_q (by assumption)
   have q267 : (rd ((rd_T63 l0 a2).f3) x8_1) < (l1.length : Int) := oD_q (by assumption)
   obtain ⟨ad267, e267, hx267_0⟩ := aI_q HR1.out (rd ((rd_T63 l0 a2).f3) x8_1) p267 q267
   cases e267
   replace hx267_0 := cel HB.out hx267_0
   replace p267 := eq_true p267
   replace q267 := eq_true q267
   have p268 : 0 ≤ ((rd ((rd_T63 l0 a2).f3) x8_1) : Int) := oD_q (by assumption)
   have q268 : (rd ((rd_T63 l0 a2).f3) x8_1) < (l0.length : Int) := oD_q (by assumption)
   obtain ⟨ad268, A268_3, c268_3, e268, hx268_0, hx268_1, hx268_2, hx268_3, hl268_3, hi268_3⟩ := at_T63 HR0.out (rd ((rd_T63 l0 a2).f3) x8_1) p268 q268
   obtain rfl : ad264 = ad268 := (by injection e268)
   replace hx268_0 := cel HB.out hx268_0
   replace hx268_1 := cel HB.out hx268_1
   replace hx268_2 := cel HB.out hx268_2
   replace hx268_3 := cel HB.out hx268_3
   have HR268_3 := Ae_q hi268_3
   have HC268_3 := Ae_q hl268_3
   clear hi268_3 hl268_3
   replace p268 := eq_true p268
   replace q268 := eq_true q268
   go_wp2
   repeat (go_quiet (fail); try go_wp2)
   go_roundg k1
   case measure => have := HK1.out; omega
   case rel => exact ⟨(ji11), (wrap64 (x8_1 + 1)), (by first | rfl | (simp; done) | (simp only [← hji11] <;> (first | rfl | simp)) | (simp [*]; done)), m5_q, H', ⟨m74_q⟩, ⟨bel HB.out⟩⟩

def spec_l32On.f (a0_0 : Int) (a0_1 : Int) (a0_2 : Int) (l0_3 : List Int) (a1 : Int) (a2 : Int) : Option (Bool) := if a1 ≤ a2 then (some (decide (a2 < (wrap64 (a1 + a0_0))))) else (some false)
set_option maxHeartbeats 8000000 in
set_option maxRecDepth 100000 in
theorem spec_l32On.calls (a0_0 : Int) (a0_1 : Int) (a0_2 : Int) (A0_3 : Option Addr) (c0_3 : Nat) (l0_3 : List Int) (a1 : Int) (a2 : Int) (r : Bool) (w : World) (hr0_3 : Kd.C kI_q w A0_3 l0_3.length l0_3) (hc0_3 : l0_3.length ≤ c0_3) (h : spec_l32On.f a0_0 a0_1 a0_2 l0_3 a1 a2 = some r) :
    Calls Try.prog 73 #[.agg #[.int .i64 a0_0, .int .i64 a0_1, .int .i64 a0_2, .slice A0_3 l0_3.length c0_3], .int .i64 a1, .int .i64 a2] w fun e w' => e = .returned (.bool r) ∧ Below w.heap.size w w' := by
 have hu63 := Try.underlying63
 have HR0_3 := Ae_q hr0_3
 have HC0_3 := Ae_q hc0_3
 clear hr0_3 hc0_3
 have HB := Ae_q (bR_q w.heap.size w)
 have H : (if a1 ≤ a2 then (some (decide (a2 < (wrap64 (a1 + a0_0))))) else (some false)) = some r := h
 clear h
 by_cases c4 : a1 ≤ a2
 rotate_left
 ·rw [if_neg c4] at H
  have c4b0 : decide (a1 ≤ a2) = false := dF_q c4
  clear c4
  obtain rfl := oI_q H
  go_enter Try.func73, Try.ntmps73
  go_wp2_with (first | ((with_reducible refine gD_q (N := 3) rfl ?_); refine bE_q ?hg (N := 3) ?hd (cs := #[.int .i64 a0_0, .int .i64 a0_1, .int .i64 a0_2, .slice A0_3 l0_3.length c0_3]) (t := 63) ?hr ?_; (case hd => rfl); (case hg => rfl); (case hr => exact m6_q); intro gb269 hg w7 hbox hb; have BK269 := Ae_q (hbox); have GW269 := Ae_q ((by rw [hg]; exact (bZ_q (bel HB.out)) : w.heap.size ≤ gb269)); have GE269 := Ae_q ((by rw [hg]; exact (bZ_q (bel HB.out)) : w.heap.size ≤ gb269)); replace HB := Ae_q (bT_q (bel HB.out) hb); clear hb hbox hg))
  go_ret
  exact ⟨m4_q, m109_q⟩
 rw [if_pos c4] at H
 have c4b0 : decide (a1 ≤ a2) = true := dT_q c4
 clear c4
 obtain rfl := oI_q H
 go_enter Try.func73, Try.ntmps73
 go_wp2_with (first | ((with_reducible refine gD_q (N := 3) rfl ?_); refine bE_q ?hg (N := 3) ?hd (cs := #[.int .i64 a0_0, .int .i64 a0_1, .int .i64 a0_2, .slice A0_3 l0_3.length c0_3]) (t := 63) ?hr ?_; (case hd => rfl); (case hg => rfl); (case hr => exact m6_q); intro gb269 hg w5 hbox hb; have BK269 := Ae_q (hbox); have GW269 := Ae_q ((by rw [hg]; exact (bZ_q (bel HB.out)) : w.heap.size ≤ gb269)); have GE269 := Ae_q ((by rw [hg]; exact (bZ_q (bel HB.out)) : w.heap.size ≤ gb269)); replace HB := Ae_q (bT_q (bel HB.out) hb); clear hb hbox hg; have hcz6_0 : cI w5 gb269 0 a0_0 := cZ BK269 0 rfl; have hcz6_1 : cI w5 gb269 1 a0_1 := cZ BK269 1 rfl; have hcz6_2 : cI w5 gb269 2 a0_2 := cZ BK269 2 rfl; have hcz6_3 : w5.cell? ⟨gb269, 3, none⟩ = some (.slice A0_3 l0_3.length c0_3) := (bC_q BK269.out 3).trans rfl; have hfz6_0 := bF_q BK269.out 0; have hfz6_1 := bF_q BK269.out 1; have hfz6_2 := bF_q BK269.out 2; have hfz6_3 := bF_q BK269.out 3))
 go_ret
 exact ⟨m4_q, m109_q⟩

end Go.Proofs.Ytfnpiacmlahegaa.PRp
