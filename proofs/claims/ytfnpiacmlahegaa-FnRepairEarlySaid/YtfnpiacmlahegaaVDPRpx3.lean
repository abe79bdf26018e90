import Derived.Test.YtfnpiacmlahegaaVDPRpx0
namespace Go.Proofs.Ytfnpiacmlahegaa.PRp
open Go.RowKit Go.Proofs.YtfnpiacmlahegaaW.PrintWords Go.Proofs.YtfnpiacmlahegaaW.PrintLast Go.Proofs.YtfnpiacmlahegaaW.PrintMore
attribute [local go_sem] max2_int min2_int max_two min_two max_three min_three max_four min_four
set_option linter.unusedVariables false
set_option linter.unusedSimpArgs false

def impl_within.f (a0 : Int) (a1 : Int) (a2 : Int) : Option (Bool) := if a0 ≥ a1 then (some (decide (a0 ≤ a2))) else (some false)
set_option maxHeartbeats 8000000 in
set_option maxRecDepth 100000 in
theorem impl_within.calls (a0 : Int) (a1 : Int) (a2 : Int) (r : Bool) (w : World) (h : impl_within.f a0 a1 a2 = some r) :
    Calls Try.prog 63 #[.int .i64 a0, .int .i64 a1, .int .i64 a2] w fun e w' => e = .returned (.bool r) ∧ Drawn0 w w' := by
 have H : (if a0 ≥ a1 then (some (decide (a0 ≤ a2))) else (some false)) = some r := h
 clear h
 by_cases c4 : a0 ≥ a1
 ·rw [if_pos c4] at H
  have c4b0 : decide (a1 ≤ a0) = true := dT_q c4
  clear c4
  obtain rfl := oI_q H
  go_enter Try.func63, Try.ntmps63
  go_wp2
  go_ret
  exact ⟨m7_q, m90_q⟩
 rw [if_neg c4] at H
 have c4b0 : decide (a1 ≤ a0) = false := dF_q c4
 clear c4
 obtain rfl := oI_q H
 go_enter Try.func63, Try.ntmps63
 go_wp2
 go_ret
 exact ⟨m7_q, m90_q⟩

mutual
def impl_StepsValid.l0 : Nat → List (S63) → List (S63) → Int → Int → Option (Bool)
 | 0, _, _, _, _ => none
 | k + 1, x0, x7, x8, x9 => if x9 < x8 then (if 0 ≤ x9 then (if x9 < (x7.length : Int) then ((impl_within.f ((rd_T63 x7 x9).f0) 1 99).bind fun t162 => (if t162 = true then ((impl_within.f ((rd_T63 x7 x9).f1) 0 4).bind fun t163 => (if t163 = true then ((impl_within.f ((rd_T63 x7 x9).f2) 0 4).bind fun t164 => (impl_StepsValid.j1 k x0 x9 x7 x8 x9 (!t164) ((rd_T63 x7 x9).f0) ((rd_T63 x7 x9).f1) ((rd_T63 x7 x9).f2) ((rd_T63 x7 x9).f3))) else (impl_StepsValid.j1 k x0 x9 x7 x8 x9 true ((rd_T63 x7 x9).f0) ((rd_T63 x7 x9).f1) ((rd_T63 x7 x9).f2) ((rd_T63 x7 x9).f3)))) else (impl_StepsValid.j1 k x0 x9 x7 x8 x9 true ((rd_T63 x7 x9).f0) ((rd_T63 x7 x9).f1) ((rd_T63 x7 x9).f2) ((rd_T63 x7 x9).f3)))) else (none)) else (none)) else (some (decide ((x0.length : Int) ≤ 8)))
def impl_StepsValid.j1 : Nat → List (S63) → Int → List (S63) → Int → Int → Bool → Int → Int → Int → List Int → Option (Bool)
 | 0, _, _, _, _, _, _, _, _, _, _ => none
 | k + 1, x0, x3, x7, x8, x9, x29, x162000, x162001, x162002, x162003 => if x29 = true then (some false) else (impl_StepsValid.l1 k x0 x3 x7 x8 x9 x162003 (x162003.length : Int) 0 x162000 x162001 x162002 x162003)
def impl_StepsValid.l1 : Nat → List (S63) → Int → List (S63) → Int → Int → List Int → Int → Int → Int → Int → Int → List Int → Option (Bool)
 | 0, _, _, _, _, _, _, _, _, _, _, _, _ => none
 | k + 1, x0, x3, x7, x8, x9, x31, x32, x33, x162000, x162001, x162002, x162003 => if x33 < x32 then (if 0 ≤ x33 then (if x33 < (x31.length : Int) then ((impl_within.f (rd x31 x33) 0 (wrap64 (x3 - 1))).bind fun t166 => (if t166 = true then (if x33 > 0 then (if 0 ≤ (wrap64 (x33 - 1)) then (if (wrap64 (x33 - 1)) < (x162003.length : Int) then (if (rd x162003 (wrap64 (x33 - 1))) ≥ (rd x31 x33) then (some false) else (impl_StepsValid.l1 k x0 x3 x7 x8 x9 x31 x32 (wrap64 (x33 + 1)) x162000 x162001 x162002 x162003)) else (none)) else (none)) else (impl_StepsValid.l1 k x0 x3 x7 x8 x9 x31 x32 (wrap64 (x33 + 1)) x162000 x162001 x162002 x162003)) else (some false))) else (none)) else (none)) else (impl_StepsValid.l0 k x0 x7 x8 (wrap64 (x9 + 1)))
end
def impl_StepsValid.f (k : Nat) (l0 : List (S63)) : Option (Bool) := impl_StepsValid.l0 k l0 l0 (l0.length : Int) 0
set_option maxHeartbeats 8000000 in
set_option maxRecDepth 100000 in
theorem impl_StepsValid.calls (k : Nat) (A0 : Option Addr) (c0 : Nat) (l0 : List (S63)) (r : Bool) (w : World) (hr0 : Kd.C k63 w A0 l0.length l0) (hc0 : l0.length ≤ c0) (h : impl_StepsValid.f k l0 = some r) :
    Calls Try.prog 48 #[.slice A0 l0.length c0] w fun e w' => e = .returned (.bool r) ∧ Below w.heap.size w w' := by
 have hu63 := Try.underlying63
 have HR0 := Ae_q hr0
 have HC0 := Ae_q hc0
 clear hr0 hc0
 have HB := Ae_q (bR_q w.heap.size w)
 have H : (impl_StepsValid.l0 k l0 l0 (l0.length : Int) 0) = some r := h
 clear h
 have H' := Ae_q H
 clear H
 go_enter Try.func48, Try.ntmps48
 go_wp2
 go_loopg [9] k (fun kq v9 w' => ∃ (x9_1 : Int), v9 = .int .i64 x9_1 ∧ Aside0 (impl_StepsValid.l0 kq l0 l0 (l0.length : Int) x9_1 = some r) ∧ Aside0 (kq ≤ k) ∧ Aside0 (Below w.heap.size w w'))
 case atStart => exact ⟨(0), m7_q, H', ⟨nR_q _⟩, ⟨bel HB.out⟩⟩
 case round =>
  clear H'
  obtain ⟨x9_1, rfl, HA, HK1, HB⟩ := hrel
  cases gk with
  | zero => exact absurd HA.out (by simp [impl_StepsValid.l0])
  | succ k1 =>
   have H := HA.out
   clear HA
   simp only [impl_StepsValid.l0] at H
   by_cases c2 : x9_1 < (l0.length : Int)
   rotate_left
   ·rw [if_neg c2] at H
    have c2b0 : decide (x9_1 < (l0.length : Int)) = false := dF_q c2
    clear c2
    obtain rfl := oI_q H
    go_wp2
    go_ret
    exact ⟨m6_q, bel HB.out⟩
   rw [if_pos c2] at H
   have c2b0 : decide (x9_1 < (l0.length : Int)) = true := dT_q c2
   clear c2
   by_cases c3 : 0 ≤ x9_1
   rotate_left
   ·rw [if_neg c3] at H
    exact absurd H (by simp)
   rw [if_pos c3] at H
   have c3b0 : decide (0 ≤ x9_1) = true := dT_q c3
   clear c3
   by_cases c4 : x9_1 < (l0.length : Int)
   rotate_left
   ·rw [if_neg c4] at H
    exact absurd H (by simp)
   rw [if_pos c4] at H
   have c4b0 : decide (x9_1 < (l0.length : Int)) = true := dT_q c4
   clear c4
   have HC5 := Ae_q H
   clear H
   have p160 : 0 ≤ (x9_1 : Int) := oD_q (by assumption)
   have q160 : x9_1 < (l0.length : Int) := oD_q (by assumption)
   obtain ⟨ad160, A160_3, c160_3, e160, hx160_0, hx160_1, hx160_2, hx160_3, hl160_3, hi160_3⟩ := at_T63 HR0.out x9_1 p160 q160
   cases e160
   replace hx160_0 := cel HB.out hx160_0
   replace hx160_1 := cel HB.out hx160_1
   replace hx160_2 := cel HB.out hx160_2
   replace hx160_3 := cel HB.out hx160_3
   have HR160_3 := Ae_q hi160_3
   have HC160_3 := Ae_q hl160_3
   clear hi160_3 hl160_3
   replace p160 := eq_true p160
   replace q160 := eq_true q160
   go_upto_region 4 with (first | ((with_reducible refine gD_q (N := 4) rfl ?_); refine bE_q ?hg (N := 4) ?hd (cs := #[.int .i64 0, .int .i64 0, .int .i64 0, .slice none 0 0]) (t := 63) ?hr ?_; (case hd => rfl); (case hg => rfl); (case hr => exact m5_q); intro gb161 hg w6 hbox hb; have BK161 := Ae_q (hbox); have GW161 := Ae_q ((by rw [hg]; exact (bZ_q (bel HB.out)) : w.heap.size ≤ gb161)); have GE161 := Ae_q ((by rw [hg]; exact (bZ_q (bel HB.out)) : w.heap.size ≤ gb161)); replace HB := Ae_q (bT_q (bel HB.out) hb); clear hb hbox hg; have hcz7_0 : cI w6 gb161 0 0 := cZ BK161 0 rfl; have hcz7_1 : cI w6 gb161 1 0 := cZ BK161 1 rfl; have hcz7_2 : cI w6 gb161 2 0 := cZ BK161 2 rfl; have hcz7_3 : w6.cell? ⟨gb161, 3, none⟩ = some (.slice none 0 0) := (bC_q BK161.out 3).trans rfl; have hfz7_0 := bF_q BK161.out 0; have hfz7_1 := bF_q BK161.out 1; have hfz7_2 := bF_q BK161.out 2; have hfz7_3 := bF_q BK161.out 3))
   (try simp only [Act.put, sA_q, sZ_q, sS_q])
   go_cut [29] (fun v29 wc => ∃ (kq : Nat) (x29_4 : Bool), v29 = .bool x29_4 ∧ Aside0 (impl_StepsValid.j1 kq l0 x9_1 l0 (l0.length : Int) x9_1 x29_4 ((rd_T63 l0 x9_1).f0) ((rd_T63 l0 x9_1).f1) ((rd_T63 l0 x9_1).f2) ((rd_T63 l0 x9_1).f3) = some r) ∧ Aside0 (kq ≤ k1) ∧ Aside0 (wc.heap[gb161]? = some (.cells #[.int .i64 ((rd_T63 l0 x9_1).f0), .int .i64 ((rd_T63 l0 x9_1).f1), .int .i64 ((rd_T63 l0 x9_1).f2), (.slice A160_3 ((rd_T63 l0 x9_1).f3).length c160_3)] 63 (0, 0))) ∧ Aside0 (Below w.heap.size w wc))
   case first =>
    have H := HC5.out
    clear HC5
    replace H := oB_q.mp H
    obtain ⟨t162, A80, H⟩ := H
    replace H : (if t162 = true then ((impl_within.f ((rd_T63 l0 x9_1).f1) 0 4).bind fun t163 => (if t163 = true then ((impl_within.f ((rd_T63 l0 x9_1).f2) 0 4).bind fun t164 => (impl_StepsValid.j1 k1 l0 x9_1 l0 (l0.length : Int) x9_1 (!t164) ((rd_T63 l0 x9_1).f0) ((rd_T63 l0 x9_1).f1) ((rd_T63 l0 x9_1).f2) ((rd_T63 l0 x9_1).f3))) else (impl_StepsValid.j1 k1 l0 x9_1 l0 (l0.length : Int) x9_1 true ((rd_T63 l0 x9_1).f0) ((rd_T63 l0 x9_1).f1) ((rd_T63 l0 x9_1).f2) ((rd_T63 l0 x9_1).f3)))) else (impl_StepsValid.j1 k1 l0 x9_1 l0 (l0.length : Int) x9_1 true ((rd_T63 l0 x9_1).f0) ((rd_T63 l0 x9_1).f1) ((rd_T63 l0 x9_1).f2) ((rd_T63 l0 x9_1).f3))) = some r := H
    have A8 := Ae_q A80
    clear A80
    by_cases c9 : t162 = true
    rotate_left
    ·replace c9 := fM_q.mpr c9
     subst c9
     have H1 : (impl_StepsValid.j1 k1 l0 x9_1 l0 (l0.length : Int) x9_1 true ((rd_T63 l0 x9_1).f0) ((rd_T63 l0 x9_1).f1) ((rd_T63 l0 x9_1).f2) ((rd_T63 l0 x9_1).f3)) = some r := by rw [if_neg (show ¬ (false = true) by decide)] at H; exact H
     clear H
     have H := H1
     clear H1
     have H' := Ae_q H
     clear H
     have hcz15_0 : cI w6 gb161 0 0 := cZ BK161 0 rfl
     have hcz15_1 : cI w6 gb161 1 0 := cZ BK161 1 rfl
     have hcz15_2 : cI w6 gb161 2 0 := cZ BK161 2 rfl
     have hcz15_3 : w6.cell? ⟨gb161, 3, none⟩ = some (.slice none 0 0) := (bC_q BK161.out 3).trans rfl
     have hfz15_0 := bF_q BK161.out 0
     have hfz15_1 := bF_q BK161.out 1
     have hfz15_2 := bF_q BK161.out 2
     have hfz15_3 := bF_q BK161.out 3
     go_wp2_with (first | ((with_reducible refine gC_q (f := 63) rfl ?_); refine gL_q (some 16) rfl rfl Try.func63 m8_q rfl #[.int .i64 ((rd_T63 l0 x9_1).f0), .int .i64 1, .int .i64 99] rfl m0_q ?_; (with_reducible refine (impl_within.calls ((rd_T63 l0 x9_1).f0) 1 99 false _ A8.out).mono ?_); rintro e w' ⟨rfl, ⟨nd, rfl⟩⟩; refine ⟨_, rfl, ?_⟩))
     go_meet
     case rel => exact ⟨_, (true), m7_q, H', ⟨m110_q⟩, ⟨m16_q⟩, ⟨m54_q⟩⟩
    subst c9
    have H1 : ((impl_within.f ((rd_T63 l0 x9_1).f1) 0 4).bind fun t163 => (if t163 = true then ((impl_within.f ((rd_T63 l0 x9_1).f2) 0 4).bind fun t164 => (impl_StepsValid.j1 k1 l0 x9_1 l0 (l0.length : Int) x9_1 (!t164) ((rd_T63 l0 x9_1).f0) ((rd_T63 l0 x9_1).f1) ((rd_T63 l0 x9_1).f2) ((rd_T63 l0 x9_1).f3))) else (impl_StepsValid.j1 k1 l0 x9_1 l0 (l0.length : Int) x9_1 true ((rd_T63 l0 x9_1).f0) ((rd_T63 l0 x9_1).f1) ((rd_T63 l0 x9_1).f2) ((rd_T63 l0 x9_1).f3)))) = some r := by rw [if_pos rfl] at H; exact H
    clear H
    have H := H1
    clear H1
    replace H := oB_q.mp H
    obtain ⟨t163, A100, H⟩ := H
    replace H : (if t163 = true then ((impl_within.f ((rd_T63 l0 x9_1).f2) 0 4).bind fun t164 => (impl_StepsValid.j1 k1 l0 x9_1 l0 (l0.length : Int) x9_1 (!t164) ((rd_T63 l0 x9_1).f0) ((rd_T63 l0 x9_1).f1) ((rd_T63 l0 x9_1).f2) ((rd_T63 l0 x9_1).f3))) else (impl_StepsValid.j1 k1 l0 x9_1 l0 (l0.length : Int) x9_1 true ((rd_T63 l0 x9_1).f0) ((rd_T63 l0 x9_1).f1) ((rd_T63 l0 x9_1).f2) ((rd_T63 l0 x9_1).f3))) = some r := H
    have A10 := Ae_q A100
    clear A100
    by_cases c11 : t163 = true
    rotate_left
    ·replace c11 := fM_q.mpr c11
     subst c11
     have H1 : (impl_StepsValid.j1 k1 l0 x9_1 l0 (l0.length : Int) x9_1 true ((rd_T63 l0 x9_1).f0) ((rd_T63 l0 x9_1).f1) ((rd_T63 l0 x9_1).f2) ((rd_T63 l0 x9_1).f3)) = some r := by rw [if_neg (show ¬ (false = true) by decide)] at H; exact H
     clear H
     have H := H1
     clear H1
     have H' := Ae_q H
     clear H
     have hcz14_0 : cI w6 gb161 0 0 := cZ BK161 0 rfl
     have hcz14_1 : cI w6 gb161 1 0 := cZ BK161 1 rfl
     have hcz14_2 : cI w6 gb161 2 0 := cZ BK161 2 rfl
     have hcz14_3 : w6.cell? ⟨gb161, 3, none⟩ = some (.slice none 0 0) := (bC_q BK161.out 3).trans rfl
     have hfz14_0 := bF_q BK161.out 0
     have hfz14_1 := bF_q BK161.out 1
     have hfz14_2 := bF_q BK161.out 2
     have hfz14_3 := bF_q BK161.out 3
     go_wp2_with (first | ((with_reducible refine gC_q (f := 63) rfl ?_); refine gL_q (some 16) rfl rfl Try.func63 m8_q rfl #[.int .i64 ((rd_T63 l0 x9_1).f0), .int .i64 1, .int .i64 99] rfl m0_q ?_; (with_reducible refine (impl_within.calls ((rd_T63 l0 x9_1).f0) 1 99 true _ A8.out).mono ?_); rintro e w' ⟨rfl, ⟨nd, rfl⟩⟩; refine ⟨_, rfl, ?_⟩) | (go_at_call 63; (with_reducible refine (impl_within.calls ((rd_T63 l0 x9_1).f1) 0 4 false _ A10.out).mono ?_); rintro e w' ⟨rfl, ⟨nd, rfl⟩⟩))
     go_meet
     case rel => exact ⟨_, (true), m7_q, H', ⟨m110_q⟩, ⟨m16_q⟩, ⟨m54_q⟩⟩
    subst c11
    have H1 : ((impl_within.f ((rd_T63 l0 x9_1).f2) 0 4).bind fun t164 => (impl_StepsValid.j1 k1 l0 x9_1 l0 (l0.length : Int) x9_1 (!t164) ((rd_T63 l0 x9_1).f0) ((rd_T63 l0 x9_1).f1) ((rd_T63 l0 x9_1).f2) ((rd_T63 l0 x9_1).f3))) = some r := by rw [if_pos rfl] at H; exact H
    clear H
    have H := H1
    clear H1
    replace H := oB_q.mp H
    obtain ⟨t164, A120, H⟩ := H
    replace H : (impl_StepsValid.j1 k1 l0 x9_1 l0 (l0.length : Int) x9_1 (!t164) ((rd_T63 l0 x9_1).f0) ((rd_T63 l0 x9_1).f1) ((rd_T63 l0 x9_1).f2) ((rd_T63 l0 x9_1).f3)) = some r := H
    have A12 := Ae_q A120
    clear A120
    have H' := Ae_q H
    clear H
    have hcz13_0 : cI w6 gb161 0 0 := cZ BK161 0 rfl
    have hcz13_1 : cI w6 gb161 1 0 := cZ BK161 1 rfl
    have hcz13_2 : cI w6 gb161 2 0 := cZ BK161 2 rfl
    have hcz13_3 : w6.cell? ⟨gb161, 3, none⟩ = some (.slice none 0 0) := (bC_q BK161.out 3).trans rfl
    have hfz13_0 := bF_q BK161.out 0
    have hfz13_1 := bF_q BK161.out 1
    have hfz13_2 := bF_q BK161.out 2
    have hfz13_3 := bF_q BK161.out 3
    go_wp2_with (first | ((with_reducible refine gC_q (f := 63) rfl ?_); refine gL_q (some 16) rfl rfl Try.func63 m8_q rfl #[.int .i64 ((rd_T63 l0 x9_1).f0), .int .i64 1, .int .i64 99] rfl m0_q ?_; (with_reducible refine (impl_within.calls ((rd_T63 l0 x9_1).f0) 1 99 true _ A8.out).mono ?_); rintro e w' ⟨rfl, ⟨nd, rfl⟩⟩; refine ⟨_, rfl, ?_⟩) | (go_at_call 63; (first | (with_reducible refine (impl_within.calls ((rd_T63 l0 x9_1).f1) 0 4 true _ A10.out).mono ?_) | (with_reducible refine (impl_within.calls ((rd_T63 l0 x9_1).f2) 0 4 t164 _ A12.out).mono ?_)); rintro e w' ⟨rfl, ⟨nd, rfl⟩⟩))
    go_meet
    case rel => exact ⟨_, (!t164), m7_q, H', ⟨m110_q⟩, ⟨m16_q⟩, ⟨m54_q⟩⟩
   case rest =>
    clear HC5
    try clear c1
    try clear p1
    try clear q1
    try clear hx1
    try clear c2
    try clear c2b0
    try clear p2
    try clear c3
    try clear c3b0
    try clear c4
    try clear c4b0
    try clear c6
    try clear c9
    try clear c11
    try clear hcz13_0
    try clear hcz13_1
    try clear hcz13_2
    try clear hcz13_3
    try clear hcz14_0
    try clear hcz14_1
    try clear hcz14_2
    try clear hcz14_3
    try clear hcz15_0
    try clear hcz15_1
    try clear hcz15_2
    try clear hcz15_3
    try clear hcz7_0
    try clear hcz7_1
    try clear hcz7_2
    try clear hcz7_3
    try clear hfz13_0
    try clear hfz13_1
    try clear hfz13_2
    try clear hfz13_3
    try clear hfz14_0
    try clear hfz14_1
    try clear hfz14_2
    try clear hfz14_3
    try clear hfz15_0
    try clear hfz15_1
    try clear hfz15_2
    try clear hfz15_3
    try clear hfz7_0
    try clear hfz7_1
    try clear hfz7_2
    try clear hfz7_3
    try clear hx160_0
    try clear hx160_1
    try clear hx160_2
    try clear hx160_3
    try clear p160
    try clear q160
    obtain ⟨kq, x29_4, rfl, HA, HJ4, BK161, HB⟩ := hcut
    cases kq with
    | zero => exact absurd HA.out (by simp [impl_StepsValid.j1])
    | succ kj4 =>
     have H := HA.out
     clear HA
     simp only [impl_StepsValid.j1] at H
     by_cases c16 : x29_4 = true
     ·subst c16
      have H1 : (some false) = some r := by rw [if_pos rfl] at H; exact H
      clear H
      have H := H1
      clear H1
      obtain rfl := oI_q H
      go_wp2
      go_ret
      exact ⟨m6_q, m54_q⟩
     replace c16 := fM_q.mpr c16
     subst c16
     have H1 : (impl_StepsValid.l1 kj4 l0 x9_1 l0 (l0.length : Int) x9_1 ((rd_T63 l0 x9_1).f3) (((rd_T63 l0 x9_1).f3).length : Int) 0 ((rd_T63 l0 x9_1).f0) ((rd_T63 l0 x9_1).f1) ((rd_T63 l0 x9_1).f2) ((rd_T63 l0 x9_1).f3)) = some r := by rw [if_neg (show ¬ (false = true) by decide)] at H; exact H
     clear H
     have H := H1
     clear H1
     have H' := Ae_q H
     clear H
     have hcz17_0 : cI wc gb161 0 ((rd_T63 l0 x9_1).f0) := cZ BK161 0 rfl
     have hcz17_1 : cI wc gb161 1 ((rd_T63 l0 x9_1).f1) := cZ BK161 1 rfl
     have hcz17_2 : cI wc gb161 2 ((rd_T63 l0 x9_1).f2) := cZ BK161 2 rfl
     have hcz17_3 : wc.cell? ⟨gb161, 3, none⟩ = some (.slice A160_3 ((rd_T63 l0 x9_1).f3).length c160_3) := (bC_q BK161.out 3).trans rfl
     have hfz17_0 := bF_q BK161.out 0
     have hfz17_1 := bF_q BK161.out 1
     have hfz17_2 := bF_q BK161.out 2
     have hfz17_3 := bF_q BK161.out 3
     go_wp2
     go_loopg [33] kj4 (fun kq v33 w' => ∃ (x33_3 : Int), v33 = .int .i64 x33_3 ∧ Aside0 (impl_StepsValid.l1 kq l0 x9_1 l0 (l0.length : Int) x9_1 ((rd_T63 l0 x9_1).f3) (((rd_T63 l0 x9_1).f3).length : Int) x33_3 ((rd_T63 l0 x9_1).f0) ((rd_T63 l0 x9_1).f1) ((rd_T63 l0 x9_1).f2) ((rd_T63 l0 x9_1).f3) = some r) ∧ Aside0 (kq ≤ kj4) ∧ Aside0 (w'.heap[gb161]? = some (.cells #[.int .i64 ((rd_T63 l0 x9_1).f0), .int .i64 ((rd_T63 l0 x9_1).f1), .int .i64 ((rd_T63 l0 x9_1).f2), (.slice A160_3 ((rd_T63 l0 x9_1).f3).length c160_3)] 63 (0, 0))) ∧ Aside0 (Below w.heap.size w w'))
     case atStart => exact ⟨(0), m7_q, H', ⟨nR_q _⟩, ⟨bup BK161.out⟩, ⟨m54_q⟩⟩
     case round =>
      clear H'
      try clear c1
      try clear p1
      try clear q1
      try clear hx1
      try clear c2
      try clear c2b0
      try clear p2
      try clear c3
      try clear c3b0
      try clear c4
      try clear c4b0
      try clear c6
      try clear c9
      try clear c11
      try clear c16
      try clear p16
      try clear q16
      try clear hx16
      try clear hcz13_0
      try clear hcz13_1
      try clear hcz13_2
      try clear hcz13_3
      try clear hcz14_0
      try clear hcz14_1
      try clear hcz14_2
      try clear hcz14_3
      try clear hcz15_0
      try clear hcz15_1
      try clear hcz15_2
      try clear hcz15_3
      try clear hcz17_0
      try clear hcz17_1
      try clear hcz17_2
      try clear hcz17_3
      try clear hcz7_0
      try clear hcz7_1
      try clear hcz7_2
      try clear hcz7_3
      try clear hfz13_0
      try clear hfz13_1
      try clear hfz13_2
      try clear hfz13_3
      try clear hfz14_0
      try clear hfz14_1
      try clear hfz14_2
      try clear hfz14_3
      try clear hfz15_0
      try clear hfz15_1
      try clear hfz15_2
      try clear hfz15_3
      try clear hfz17_0
      try clear hfz17_1
      try clear hfz17_2
      try clear hfz17_3
      try clear hfz7_0
      try clear hfz7_1
      try clear hfz7_2
      try clear hfz7_3
      try clear hx160_0
      try clear hx160_1
      try clear hx160_2
      try clear hx160_3
      try clear p1
      try clear p160
      try clear p2
      try clear q1
      try clear q160
      obtain ⟨x33_3, rfl, HA, HK3, BK161, HB⟩ := hrel
      cases gk with
      | zero => exact absurd HA.out (by simp [impl_StepsValid.l1])
      | succ k3 =>
       have H := HA.out
       clear HA
       simp only [impl_StepsValid.l1] at H
       by_cases c18 : x33_3 < (((rd_T63 l0 x9_1).f3).length : Int)
       rotate_left
       ·rw [if_neg c18] at H
        have c18b0 : decide (x33_3 < (((rd_T63 l0 x9_1).f3).length : Int)) = false := dF_q c18
        clear c18
        have H' := Ae_q H
        clear H
        go_wp2
        go_roundg k3
        case measure => have := HK1.out; have := HJ4.out; have := HK3.out; omega
        case rel => exact ⟨(wrap64 (x9_1 + 1)), m7_q, H', ⟨m159_q⟩, ⟨m54_q⟩⟩
       rw [if_pos c18] at H
       have c18b0 : decide (x33_3 < (((rd_T63 l0 x9_1).f3).length : Int)) = true := dT_q c18
       clear c18
       by_cases c19 : 0 ≤ x33_3
       rotate_left
       ·rw [if_neg c19] at H
        exact absurd H (by simp)
       rw [if_pos c19] at H
       have c19b0 : decide (0 ≤ x33_3) = true := dT_q c19
       clear c19
       by_cases c20 : x33_3 < (((rd_T63 l0 x9_1).f3).length : Int)
       rotate_left
       ·rw [if_neg c20] at H
        exact absurd H (by simp)
       rw [if_pos c20] at H
       have c20b0 : decide (x33_3 < (((rd_T63 l0 x9_1).f3).length : Int)) = true := dT_q c20
       clear c20
       replace H := oB_q.mp H
       obtain ⟨t166, A210, H⟩ := H
       replace H : (if t166 = true then (if x33_3 > 0 then (if 0 ≤ (wrap64 (x33_3 - 1)) then (if (wrap64 (x33_3 - 1)) < (((rd_T63 l0 x9_1).f3).length : Int) then (if (rd ((rd_T63 l0 x9_1).f3) (wrap64 (x33_3 - 1))) ≥ (rd ((rd_T63 l0 x9_1).f3) x33_3) then (some false) else (impl_StepsValid.l1 k3 l0 x9_1 l0 (l0.length : Int) x9_1 ((rd_T63 l0 x9_1).f3) (((rd_T63 l0 x9_1).f3).length : Int) (wrap64 (x33_3 + 1)) ((rd_T63 l0 x9_1).f0) ((rd_T63 l0 x9_1).f1) ((rd_T63 l0 x9_1).f2) ((rd_T63 l0 x9_1).f3))) else (none)) else (none)) else (impl_StepsValid.l1 k3 l0 x9_1 l0 (l0.length : Int) x9_1 ((rd_T63 l0 x9_1).f3) (((rd_T63 l0 x9_1).f3).length : Int) (wrap64 (x33_3 + 1)) ((rd_T63 l0 x9_1).f0) ((rd_T63 l0 x9_1).f1) ((rd_T63 l0 x9_1).f2) ((rd_T63 l0 x9_1).f3))) else (some false)) = some r := H
       have A21 := Ae_q A210
       clear A210
       by_cases c22 : t166 = true
       rotate_left
       ·replace c22 := fM_q.mpr c22
        subst c22
        have H1 : (some false) = some r := by rw [if_neg (show ¬ (false = true) by decide)] at H; exact H
        clear H
        have H := H1
        clear H1
        obtain rfl := oI_q H
        have p165 : 0 ≤ (x33_3 : Int) := oD_q (by assumption)
        have q165 : x33_3 < (((rd_T63 l0 x9_1).f3).length : Int) := oD_q (by assumption)
        obtain ⟨ad165, e165, hx165_0⟩ := aI_q HR160_3.out x33_3 p165 q165
        cases e165
        replace hx165_0 := cel HB.out hx165_0
        replace p165 := eq_true p165
        replace q165 := eq_true q165
        go_wp2_with (first | ((with_reducible refine gC_q (f := 63) rfl ?_); refine gL_q (some 41) rfl rfl Try.func63 m8_q rfl #[.int .i64 (rd ((rd_T63 l0 x9_1).f3) x33_3), .int .i64 0, .int .i64 (wrap64 (x9_1 - 1))] rfl m0_q ?_; (with_reducible refine (impl_within.calls (rd ((rd_T63 l0 x9_1).f3) x33_3) 0 (wrap64 (x9_1 - 1)) false _ A21.out).mono ?_); rintro e w' ⟨rfl, ⟨nd, rfl⟩⟩; refine ⟨_, rfl, ?_⟩))
        go_ret
        exact ⟨m6_q, m54_q⟩
       subst c22
       have H1 : (if x33_3 > 0 then (if 0 ≤ (wrap64 (x33_3 - 1)) then (if (wrap64 (x33_3 - 1)) < (((rd_T63 l0 x9_1).f3).length : Int) then (if (rd ((rd_T63 l0 x9_1).f3) (wrap64 (x33_3 - 1))) ≥ (rd ((rd_T63 l0 x9_1).f3) x33_3) then (some false) else (impl_StepsValid.l1 k3 l0 x9_1 l0 (l0.length : Int) x9_1 ((rd_T63 l0 x9_1).f3) (((rd_T63 l0 x9_1).f3).length : Int) (wrap64 (x33_3 + 1)) ((rd_T63 l0 x9_1).f0) ((rd_T63 l0 x9_1).f1) ((rd_T63 l0 x9_1).f2) ((rd_T63 l0 x9_1).f3))) else (none)) else (none)) else (impl_StepsValid.l1 k3 l0 x9_1 l0 (l0.length : Int) x9_1 ((rd_T63 l0 x9_1).f3) (((rd_T63 l0 x9_1).f3).length : Int) (wrap64 (x33_3 + 1)) ((rd_T63 l0 x9_1).f0) ((rd_T63 l0 x9_1).f1) ((rd_T63 l0 x9_1).f2) ((rd_T63 l0 x9_1).f3))) = some r := by rw [if_pos rfl] at H; exact H
       clear H
       have H := H1
       clear H1
       by_cases c23 : x33_3 > 0
       rotate_left
       ·rw [if_neg c23] at H
        have c23b0 : decide (0 < x33_3) = false := dF_q c23
        clear c23
        have H' := Ae_q H
        clear H
        have p165 : 0 ≤ (x33_3 : Int) := oD_q (by assumption)
        have q165 : x33_3 < (((rd_T63 l0 x9_1).f3).length : Int) := oD_q (by assumption)
        obtain ⟨ad165, e165, hx165_0⟩ := aI_q HR160_3.out x33_3 p165 q165
        cases e165
        replace hx165_0 := cel HB.out hx165_0
        replace p165 := eq_true p165
        replace q165 := eq_true q165
        go_wp2_with (first | ((with_reducible refine gC_q (f := 63) rfl ?_); refine gL_q (some 41) rfl rfl Try.func63 m8_q rfl #[.int .i64 (rd ((rd_T63 l0 x9_1).f3) x33_3), .int .i64 0, .int .i64 (wrap64 (x9_1 - 1))] rfl m0_q ?_; (with_reducible refine (impl_within.calls (rd ((rd_T63 l0 x9_1).f3) x33_3) 0 (wrap64 (x9_1 - 1)) true _ A21.out).mono ?_); rintro e w' ⟨rfl, ⟨nd, rfl⟩⟩; refine ⟨_, rfl, ?_⟩))
        go_roundg k3
        case measure => have := HK1.out; have := HJ4.out; have := HK3.out; omega
        case rel => exact ⟨(wrap64 (x33_3 + 1)), m7_q, H', ⟨m159_q⟩, ⟨bup BK161.out⟩, ⟨m54_q⟩⟩
       rw [if_pos c23] at H
       have c23b0 : decide (0 < x33_3) = true := dT_q c23
       clear c23
       obtain ⟨ji24, hji24⟩ : ∃ j_ : Int, (wrap64 (x33_3 - 1)) = j_ := ⟨_, rfl⟩
       replace H : (if 0 ≤ (ji24) then (if (ji24) < (((rd_T63 l0 x9_1).f3).length : Int) then (if (rd ((rd_T63 l0 x9_1).f3) (ji24)) ≥ (rd ((rd_T63 l0 x9_1).f3) x33_3) then (some false) else (impl_StepsValid.l1 k3 l0 x9_1 l0 (l0.length : Int) x9_1 ((rd_T63 l0 x9_1).f3) (((rd_T63 l0 x9_1).f3).length : Int) (wrap64 (x33_3 + 1)) ((rd_T63 l0 x9_1).f0) ((rd_T63 l0 x9_1).f1) ((rd_T63 l0 x9_1).f2) ((rd_T63 l0 x9_1).f3))) else (none)) else (none)) = some r := by first | (rw [hji24] at H; exact H) | (simp only [hji24] at H ⊢; exact H)
       (try rw [hji24] at A21)
       have hji24w : (IntKind.i64.wrap (x33_3 - 1)) = ji24 := (i64_w _).trans hji24
       by_cases c25 : 0 ≤ (ji24)
       rotate_left
       ·rw [if_neg c25] at H
        exact absurd H (by simp)
       rw [if_pos c25] at H
       have c25b0 : decide (0 ≤ (ji24)) = true := dT_q c25
       clear c25
       by_cases c26 : (ji24) < (((rd_T63 l0 x9_1).f3).length : Int)
       rotate_left
       ·rw [if_neg c26] at H
        exact absurd H (by simp)
       rw [if_pos c26] at H
       have c26b0 : decide ((ji24) < (((rd_T63 l0 x9_1).f3).length : Int)) = true := dT_q c26
       clear c26
       by_cases c27 : (rd ((rd_T63 l0 x9_1).f3) (ji24)) ≥ (rd ((rd_T63 l0 x9_1).f3) x33_3)
       ·rw [if_pos c27] at H
        have c27b0 : decide ((rd ((rd_T63 l0 x9_1).f3) x33_3) ≤ (rd ((rd_T63 l0 x9_1).f3) (ji24))) = true := dT_q c27
        clear c27
        obtain rfl := oI_q H
        have p165 : 0 ≤ (x33_3 : Int) := oD_q (by assumption)
        have q165 : x33_3 < (((rd_T63 l0 x9_1).f3).length : Int) := oD_q (by assumption)
        obtain ⟨ad165, e165, hx165_0⟩ := aI_q HR160_3.out x33_3 p165 q165
        cases e165
        replace hx165_0 := cel HB.out hx165_0
        replace p165 := eq_true p165
        replace q165 := eq_true q165
        go_wp2_with (first | ((with_reducible refine gC_q (f := 63) rfl ?_); refine gL_q (some 41) rfl rfl Try.func63 m8_q rfl #[.int .i64 (rd ((rd_T63 l0 x9_1).f3) x33_3), .int .i64 0, .int .i64 (wrap64 (x9_1 - 1))] rfl m0_q ?_; (with_reducible refine (impl_within.calls (rd ((rd_T63 l0 x9_1).f3) x33_3) 0 (wrap64 (x9_1 - 1)) true _ A21.out).mono ?_); rintro e w' ⟨rfl, ⟨nd, rfl⟩⟩; refine ⟨_, rfl, ?_⟩; have hcz28_0 : cI wr gb161 0 ((rd_T63 l0 x9_1).f0) := cZ BK161 0 rfl; have hcz28_1 : cI wr gb161 1 ((rd_T63 l0 x9_1).f1) := cZ BK161 1 rfl; have hcz28_2 : cI wr gb161 2 ((rd_T63 l0 x9_1).f2) := cZ BK161 2 rfl; have hcz28_3 : wr.cell? ⟨gb161, 3, none⟩ = some (.slice (some ad165) ((rd_T63 l0 x9_1).f3).length c160_3) := (bC_q BK161.out 3).trans rfl; have hfz28_0 := bF_q BK161.out 0; have hfz28_1 := bF_q BK161.out 1; have hfz28_2 := bF_q BK161.out 2; have hfz28_3 := bF_q BK161.out 3; have p167 : 0 ≤ ((ji24) : Int) := oD_q (by assumption); have q167 : (ji24) < (((rd_T63 l0 x9_1).f3).length : Int) := oD_q (by assumption); obtain ⟨ad167, e167, hx167_0⟩ := aI_q HR160_3.out (ji24) p167 q167; obtain rfl : ad165 = ad167 := (by injection e167); replace hx167_0 := cel HB.out hx167_0; replace p167 := eq_true p167; replace q167 := eq_true q167))
        go_ret
        exact ⟨by first | rfl | (simp [eN_q, eS_q] <;> rfl) | (simp only [← hji24]; first | rfl | (simp [eN_q, eS_q] <;> rfl)) | (simp [*, eN_q, eS_q] <;> rfl), m54_q⟩
       rw [if_neg c27] at H
       have c27b0 : decide ((rd ((rd_T63 l0 x9_1).f3) x33_3) ≤ (rd ((rd_T63 l0 x9_1).f3) (ji24))) = false := dF_q c27
       clear c27
       have H' := Ae_q H
       clear H
       have p165 : 0 ≤ (x33_3 : Int) := oD_q (by assumption)
       have q165 : x33_3 < (((rd_T63 l0 x9_1).f3).length : Int) := oD_q (by assumption)
       obtain ⟨ad165, e165, hx165_0⟩ := aI_q HR160_3.out x33_3 p165 q165
       cases e165
       replace hx165_0 := cel HB.out hx165_0
       replace p165 := eq_true p165
       replace q165 := eq_true q165
       go_wp2_with (first | ((with_reducible refine gC_q (f := 63) rfl ?_); refine gL_q (some 41) rfl rfl Try.func63 m8_q rfl #[.int .i64 (rd ((rd_T63 l0 x9_1).f3) x33_3), .int .i64 0, .int .i64 (wrap64 (x9_1 - 1))] rfl m0_q ?_; (with_reducible refine (impl_within.calls (rd ((rd_T63 l0 x9_1).f3) x33_3) 0 (wrap64 (x9_1 - 1)) true _ A21.out).mono ?_); rintro e w' ⟨rfl, ⟨nd, rfl⟩⟩; refine ⟨_, rfl, ?_⟩; have hcz29_0 : cI wr gb161 0 ((rd_T63 l0 x9_1).f0) := cZ BK161 0 rfl; have hcz29_1 : cI wr gb161 1 ((rd_T63 l0 x9_1).f1) := cZ BK161 1 rfl; have hcz29_2 : cI wr gb161 2 ((rd_T63 l0 x9_1).f2) := cZ BK161 2 rfl; have hcz29_3 : wr.cell? ⟨gb161, 3, none⟩ = some (.slice (some ad165) ((rd_T63 l0 x9_1).f3).length c160_3) := (bC_q BK161.out 3).trans rfl; have hfz29_0 := bF_q BK161.out 0; have hfz29_1 := bF_q BK161.out 1; have hfz29_2 := bF_q BK161.out 2; have hfz29_3 := bF_q BK161.out 3; have p167 : 0 ≤ ((ji24) : Int) := oD_q (by assumption); have q167 : (ji24) < (((rd_T63 l0 x9_1).f3).length : Int) := oD_q (by assumption); obtain ⟨ad167, e167, hx167_0⟩ := aI_q HR160_3.out (ji24) p167 q167; obtain rfl : ad165 = ad167 := (by injection e167); replace hx167_0 := cel HB.out hx167_0; replace p167 := eq_true p167; replace q167 := eq_true q167))
       go_roundg k3
       case measure => have := HK1.out; have := HJ4.out; have := HK3.out; omega
       case rel => exact ⟨(wrap64 (x33_3 + 1)), m7_q, H', ⟨m159_q⟩, ⟨bup BK161.out⟩, ⟨m54_q⟩⟩

-- NOT PRINTED: function 72 (slices_IndexFunc_int_int)

-- NOT PRINTED: function 60 (slices_ContainsFunc_int_int)

end Go.Proofs.Ytfnpiacmlahegaa.PRp
