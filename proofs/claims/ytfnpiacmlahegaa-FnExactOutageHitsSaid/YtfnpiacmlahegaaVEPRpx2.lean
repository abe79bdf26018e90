import Derived.Test.YtfnpiacmlahegaaVEPRpx0
import Derived.Test.YtfnpiacmlahegaaVEPRpx1
namespace Go.Proofs.Ytfnpiacmlahegaa.PRp
open Go.RowKit Go.Proofs.YtfnpiacmlahegaaW.PrintWords Go.Proofs.YtfnpiacmlahegaaW.PrintLast Go.Proofs.YtfnpiacmlahegaaW.PrintMore
attribute [local go_sem] max2_int min2_int max_two min_two max_three min_three max_four min_four
set_option linter.unusedVariables false
set_option linter.unusedSimpArgs false

def spec_l32Starts.l0 : Nat → List (S63) → List Int → Int → Option (Bool)
 | 0, _, _, _ => none
 | k + 1, x0, x1, x5 => if x5 < (x1.length : Int) then (if 0 ≤ x5 then ((spec_l6In.f (rd x1 x5) 0 999).bind fun t115 => (if t115 = true then (spec_l32Starts.l0 k x0 x1 (wrap64 (x5 + 1))) else (some false))) else (none)) else ((spec_StepsValid.f k x0).bind fun t116 => (if t116 = true then (some ((x1.length : Int) == (x0.length : Int))) else (some false)))
def spec_l32Starts.f (k : Nat) (l0 : List (S63)) (l1 : List Int) : Option (Bool) := spec_l32Starts.l0 k l0 l1 0
set_option maxHeartbeats 8000000 in
set_option maxRecDepth 100000 in
theorem spec_l32Starts.calls (k : Nat) (A0 : Option Addr) (c0 : Nat) (l0 : List (S63)) (A1 : Option Addr) (c1 : Nat) (l1 : List Int) (r : Bool) (w : World) (hr0 : Kd.C k63 w A0 l0.length l0) (hc0 : l0.length ≤ c0) (hr1 : Kd.C kI_q w A1 l1.length l1) (hc1 : l1.length ≤ c1) (h : spec_l32Starts.f k l0 l1 = some r) :
    Calls Try.prog 34 #[.slice A0 l0.length c0, .slice A1 l1.length c1] w fun e w' => e = .returned (.bool r) ∧ Below w.heap.size w w' := by
 have HR0 := Ae_q hr0
 have HC0 := Ae_q hc0
 clear hr0 hc0
 have HR1 := Ae_q hr1
 have HC1 := Ae_q hc1
 clear hr1 hc1
 have HB := Ae_q (bR_q w.heap.size w)
 have H : (spec_l32Starts.l0 k l0 l1 0) = some r := h
 clear h
 have H' := Ae_q H
 clear H
 go_enter Try.func34, Try.ntmps34
 go_wp2
 go_loopg [5] k (fun kq v5 w' => ∃ (x5_1 : Int), v5 = .int .i64 x5_1 ∧ Aside0 (spec_l32Starts.l0 kq l0 l1 x5_1 = some r) ∧ Aside0 (kq ≤ k) ∧ Aside0 (Below w.heap.size w w'))
 case atStart => exact ⟨(0), m4_q, H', ⟨nR_q _⟩, ⟨bel HB.out⟩⟩
 case round =>
  clear H'
  try clear c1
  try clear p2
  obtain ⟨x5_1, rfl, HA, HK1, HB⟩ := hrel
  cases gk with
  | zero => exact absurd HA.out (by simp [spec_l32Starts.l0])
  | succ k1 =>
   have H := HA.out
   clear HA
   simp only [spec_l32Starts.l0] at H
   by_cases c3 : x5_1 < (l1.length : Int)
   rotate_left
   ·rw [if_neg c3] at H
    have c3b0 : decide (x5_1 < (l1.length : Int)) = false := dF_q c3
    clear c3
    replace H := oB_q.mp H
    obtain ⟨t116, A70, H⟩ := H
    replace H : (if t116 = true then (some ((l1.length : Int) == (l0.length : Int))) else (some false)) = some r := H
    have A7 := Ae_q A70
    clear A70
    by_cases c8 : t116 = true
    ·subst c8
     have H1 : (some ((l1.length : Int) == (l0.length : Int))) = some r := by rw [if_pos rfl] at H; exact H
     clear H
     have H := H1
     clear H1
     obtain rfl := oI_q H
     go_wp2_with (first | ((with_reducible refine gC_q (f := 44) rfl ?_); refine gL_q (some 19) rfl rfl Try.func44 m8_q rfl #[.slice A0 l0.length c0] rfl m1_q ?_; (with_reducible refine (spec_StepsValid.calls k1 _ _ l0 true _ ?side1 ?side2 A7.out).mono ?_); (case side1 => exact m25_q); (case side2 => exact m39_q); rintro e w9 ⟨rfl, hb⟩; refine ⟨_, rfl, ?_⟩; replace HB := Ae_q (bT_q (bel HB.out) hb); (try clear hb); (try clear hb2); (try clear hk); (try clear hi)))
     go_ret
     exact ⟨m2_q, bel HB.out⟩
    replace c8 := fM_q.mpr c8
    subst c8
    have H1 : (some false) = some r := by rw [if_neg (show ¬ (false = true) by decide)] at H; exact H
    clear H
    have H := H1
    clear H1
    obtain rfl := oI_q H
    go_wp2_with (first | ((with_reducible refine gC_q (f := 44) rfl ?_); refine gL_q (some 19) rfl rfl Try.func44 m8_q rfl #[.slice A0 l0.length c0] rfl m1_q ?_; (with_reducible refine (spec_StepsValid.calls k1 _ _ l0 false _ ?side1 ?side2 A7.out).mono ?_); (case side1 => exact m25_q); (case side2 => exact m39_q); rintro e w' ⟨rfl, hb⟩; refine ⟨_, rfl, ?_⟩; replace HB := Ae_q (bT_q (bel HB.out) hb); (try clear hb); (try clear hb2); (try clear hk); (try clear hi)))
    go_ret
    exact ⟨m2_q, bel HB.out⟩
   rw [if_pos c3] at H
   have c3b0 : decide (x5_1 < (l1.length : Int)) = true := dT_q c3
   clear c3
   by_cases c4 : 0 ≤ x5_1
   rotate_left
   ·rw [if_neg c4] at H
    exact absurd H (by simp)
   rw [if_pos c4] at H
   have c4b0 : decide (0 ≤ x5_1) = true := dT_q c4
   clear c4
   replace H := oB_q.mp H
   obtain ⟨t115, A50, H⟩ := H
   replace H : (if t115 = true then (spec_l32Starts.l0 k1 l0 l1 (wrap64 (x5_1 + 1))) else (some false)) = some r := H
   have A5 := Ae_q A50
   clear A50
   by_cases c6 : t115 = true
   ·subst c6
    have H1 : (spec_l32Starts.l0 k1 l0 l1 (wrap64 (x5_1 + 1))) = some r := by rw [if_pos rfl] at H; exact H
    clear H
    have H := H1
    clear H1
    have H' := Ae_q H
    clear H
    have p114 : 0 ≤ (x5_1 : Int) := oD_q (by assumption)
    have q114 : x5_1 < (l1.length : Int) := oD_q (by assumption)
    obtain ⟨ad114, e114, hx114_0⟩ := aI_q HR1.out x5_1 p114 q114
    cases e114
    replace hx114_0 := cel HB.out hx114_0
    replace p114 := eq_true p114
    replace q114 := eq_true q114
    go_wp2_with (first | ((with_reducible refine gC_q (f := 59) rfl ?_); refine gL_q (some 16) rfl rfl Try.func59 m8_q rfl #[.int .i64 (rd l1 x5_1), .int .i64 0, .int .i64 999] rfl m1_q ?_; (with_reducible refine (spec_l6In.calls (rd l1 x5_1) 0 999 true _ A5.out).mono ?_); rintro e w' ⟨rfl, ⟨nd, rfl⟩⟩; refine ⟨_, rfl, ?_⟩))
    go_roundg k1
    case measure => have := HK1.out; omega
    case rel => exact ⟨(wrap64 (x5_1 + 1)), m4_q, H', ⟨m53_q⟩, ⟨bel HB.out⟩⟩
   replace c6 := fM_q.mpr c6
   subst c6
   have H1 : (some false) = some r := by rw [if_neg (show ¬ (false = true) by decide)] at H; exact H
   clear H
   have H := H1
   clear H1
   obtain rfl := oI_q H
   have p114 : 0 ≤ (x5_1 : Int) := oD_q (by assumption)
   have q114 : x5_1 < (l1.length : Int) := oD_q (by assumption)
   obtain ⟨ad114, e114, hx114_0⟩ := aI_q HR1.out x5_1 p114 q114
   cases e114
   replace hx114_0 := cel HB.out hx114_0
   replace p114 := eq_true p114
   replace q114 := eq_true q114
   go_wp2_with (first | ((with_reducible refine gC_q (f := 59) rfl ?_); refine gL_q (some 16) rfl rfl Try.func59 m8_q rfl #[.int .i64 (rd l1 x5_1), .int .i64 0, .int .i64 999] rfl m1_q ?_; (with_reducible refine (spec_l6In.calls (rd l1 x5_1) 0 999 false _ A5.out).mono ?_); rintro e w' ⟨rfl, ⟨nd, rfl⟩⟩; refine ⟨_, rfl, ?_⟩))
   go_ret
   exact ⟨m2_q, bel HB.out⟩

def spec_l33Outage.f (a0_0 : Int) (a0_1 : Int) (a0_2 : Int) : Option (Bool) := (spec_l6In.f a0_0 1 4).bind fun t118 => (if t118 = true then ((spec_l6In.f a0_1 0 999).bind fun t119 => (if t119 = true then ((spec_l6In.f a0_2 a0_1 999).bind fun t120 => (some t120)) else (some false))) else (some false))
set_option maxHeartbeats 8000000 in
set_option maxRecDepth 100000 in
theorem spec_l33Outage.calls (a0_0 : Int) (a0_1 : Int) (a0_2 : Int) (r : Bool) (w : World) (h : spec_l33Outage.f a0_0 a0_1 a0_2 = some r) :
    Calls Try.prog 35 #[.agg #[.int .i64 a0_0, .int .i64 a0_1, .int .i64 a0_2]] w fun e w' => e = .returned (.bool r) ∧ Below w.heap.size w w' := by
 have hu31 := Try.underlying31
 have HB := Ae_q (bR_q w.heap.size w)
 have H : ((spec_l6In.f a0_0 1 4).bind fun t118 => (if t118 = true then ((spec_l6In.f a0_1 0 999).bind fun t119 => (if t119 = true then ((spec_l6In.f a0_2 a0_1 999).bind fun t120 => (some t120)) else (some false))) else (some false))) = some r := h
 clear h
 replace H := oB_q.mp H
 obtain ⟨t118, A20, H⟩ := H
 replace H : (if t118 = true then ((spec_l6In.f a0_1 0 999).bind fun t119 => (if t119 = true then ((spec_l6In.f a0_2 a0_1 999).bind fun t120 => (some t120)) else (some false))) else (some false)) = some r := H
 have A2 := Ae_q A20
 clear A20
 by_cases c3 : t118 = true
 rotate_left
 ·replace c3 := fM_q.mpr c3
  subst c3
  have H1 : (some false) = some r := by rw [if_neg (show ¬ (false = true) by decide)] at H; exact H
  clear H
  have H := H1
  clear H1
  obtain rfl := oI_q H
  go_enter Try.func35, Try.ntmps35
  go_wp2_with (first | ((with_reducible refine gD_q (N := 1) rfl ?_); refine bE_q ?hg (N := 1) ?hd (cs := #[.int .i64 a0_0, .int .i64 a0_1, .int .i64 a0_2]) (t := 31) ?hr ?_; (case hd => rfl); (case hg => rfl); (case hr => exact m9_q); intro gb117 hg w11 hbox hb; have BK117 := Ae_q (hbox); have GW117 := Ae_q ((by rw [hg]; exact (bZ_q (bel HB.out)) : w.heap.size ≤ gb117)); have GE117 := Ae_q ((by rw [hg]; exact (bZ_q (bel HB.out)) : w.heap.size ≤ gb117)); replace HB := Ae_q (bT_q (bel HB.out) hb); clear hb hbox hg; have hcz12_0 : cI w11 gb117 0 a0_0 := cZ BK117 0 rfl; have hcz12_1 : cI w11 gb117 1 a0_1 := cZ BK117 1 rfl; have hcz12_2 : cI w11 gb117 2 a0_2 := cZ BK117 2 rfl; have hfz12_0 := bF_q BK117.out 0; have hfz12_1 := bF_q BK117.out 1; have hfz12_2 := bF_q BK117.out 2) | ((with_reducible refine gC_q (f := 59) rfl ?_); refine gL_q (some 5) rfl rfl Try.func59 m8_q rfl #[.int .i64 a0_0, .int .i64 1, .int .i64 4] rfl m1_q ?_; (with_reducible refine (spec_l6In.calls a0_0 1 4 false _ A2.out).mono ?_); rintro e w' ⟨rfl, ⟨nd, rfl⟩⟩; refine ⟨_, rfl, ?_⟩))
  go_ret
  exact ⟨m2_q, m40_q⟩
 subst c3
 have H1 : ((spec_l6In.f a0_1 0 999).bind fun t119 => (if t119 = true then ((spec_l6In.f a0_2 a0_1 999).bind fun t120 => (some t120)) else (some false))) = some r := by rw [if_pos rfl] at H; exact H
 clear H
 have H := H1
 clear H1
 replace H := oB_q.mp H
 obtain ⟨t119, A40, H⟩ := H
 replace H : (if t119 = true then ((spec_l6In.f a0_2 a0_1 999).bind fun t120 => (some t120)) else (some false)) = some r := H
 have A4 := Ae_q A40
 clear A40
 by_cases c5 : t119 = true
 rotate_left
 ·replace c5 := fM_q.mpr c5
  subst c5
  have H1 : (some false) = some r := by rw [if_neg (show ¬ (false = true) by decide)] at H; exact H
  clear H
  have H := H1
  clear H1
  obtain rfl := oI_q H
  go_enter Try.func35, Try.ntmps35
  go_wp2_with (first | ((with_reducible refine gD_q (N := 1) rfl ?_); refine bE_q ?hg (N := 1) ?hd (cs := #[.int .i64 a0_0, .int .i64 a0_1, .int .i64 a0_2]) (t := 31) ?hr ?_; (case hd => rfl); (case hg => rfl); (case hr => exact m9_q); intro gb117 hg w9 hbox hb; have BK117 := Ae_q (hbox); have GW117 := Ae_q ((by rw [hg]; exact (bZ_q (bel HB.out)) : w.heap.size ≤ gb117)); have GE117 := Ae_q ((by rw [hg]; exact (bZ_q (bel HB.out)) : w.heap.size ≤ gb117)); replace HB := Ae_q (bT_q (bel HB.out) hb); clear hb hbox hg; have hcz10_0 : cI w9 gb117 0 a0_0 := cZ BK117 0 rfl; have hcz10_1 : cI w9 gb117 1 a0_1 := cZ BK117 1 rfl; have hcz10_2 : cI w9 gb117 2 a0_2 := cZ BK117 2 rfl; have hfz10_0 := bF_q BK117.out 0; have hfz10_1 := bF_q BK117.out 1; have hfz10_2 := bF_q BK117.out 2) | ((with_reducible refine gC_q (f := 59) rfl ?_); refine gL_q (some 5) rfl rfl Try.func59 m8_q rfl #[.int .i64 a0_0, .int .i64 1, .int .i64 4] rfl m1_q ?_; (with_reducible refine (spec_l6In.calls a0_0 1 4 true _ A2.out).mono ?_); rintro e w' ⟨rfl, ⟨nd, rfl⟩⟩; refine ⟨_, rfl, ?_⟩) | (go_at_call 59; (with_reducible refine (spec_l6In.calls a0_1 0 999 false _ A4.out).mono ?_); rintro e w' ⟨rfl, ⟨nd, rfl⟩⟩))
  go_ret
  exact ⟨m2_q, m40_q⟩
 subst c5
 have H1 : ((spec_l6In.f a0_2 a0_1 999).bind fun t120 => (some t120)) = some r := by rw [if_pos rfl] at H; exact H
 clear H
 have H := H1
 clear H1
 replace H := oB_q.mp H
 obtain ⟨t120, A60, H⟩ := H
 replace H : (some t120) = some r := H
 have A6 := Ae_q A60
 clear A60
 obtain rfl := oI_q H
 go_enter Try.func35, Try.ntmps35
 go_wp2_with (first | ((with_reducible refine gD_q (N := 1) rfl ?_); refine bE_q ?hg (N := 1) ?hd (cs := #[.int .i64 a0_0, .int .i64 a0_1, .int .i64 a0_2]) (t := 31) ?hr ?_; (case hd => rfl); (case hg => rfl); (case hr => exact m9_q); intro gb117 hg w7 hbox hb; have BK117 := Ae_q (hbox); have GW117 := Ae_q ((by rw [hg]; exact (bZ_q (bel HB.out)) : w.heap.size ≤ gb117)); have GE117 := Ae_q ((by rw [hg]; exact (bZ_q (bel HB.out)) : w.heap.size ≤ gb117)); replace HB := Ae_q (bT_q (bel HB.out) hb); clear hb hbox hg; have hcz8_0 : cI w7 gb117 0 a0_0 := cZ BK117 0 rfl; have hcz8_1 : cI w7 gb117 1 a0_1 := cZ BK117 1 rfl; have hcz8_2 : cI w7 gb117 2 a0_2 := cZ BK117 2 rfl; have hfz8_0 := bF_q BK117.out 0; have hfz8_1 := bF_q BK117.out 1; have hfz8_2 := bF_q BK117.out 2) | ((with_reducible refine gC_q (f := 59) rfl ?_); refine gL_q (some 5) rfl rfl Try.func59 m8_q rfl #[.int .i64 a0_0, .int .i64 1, .int .i64 4] rfl m1_q ?_; (with_reducible refine (spec_l6In.calls a0_0 1 4 true _ A2.out).mono ?_); rintro e w' ⟨rfl, ⟨nd, rfl⟩⟩; refine ⟨_, rfl, ?_⟩) | (go_at_call 59; (first | (with_reducible refine (spec_l6In.calls a0_1 0 999 true _ A4.out).mono ?_) | (with_reducible refine (spec_l6In.calls a0_2 a0_1 999 t120 _ A6.out).mono ?_)); rintro e w' ⟨rfl, ⟨nd, rfl⟩⟩))
 go_ret
 exact ⟨m2_q, m40_q⟩

def spec_l33Hit.f (a0_0 : Int) (a0_1 : Int) (a0_2 : Int) (l0_3 : List Int) (a1 : Int) (a2_0 : Int) (a2_1 : Int) (a2_2 : Int) : Option (Bool) := if a0_2 = a2_0 then (if a1 < a2_2 then (some (decide (a2_1 < (wrap64 (a1 + a0_0))))) else (some false)) else (some false)
set_option maxHeartbeats 8000000 in
set_option maxRecDepth 100000 in
theorem spec_l33Hit.calls (a0_0 : Int) (a0_1 : Int) (a0_2 : Int) (A0_3 : Option Addr) (c0_3 : Nat) (l0_3 : List Int) (a1 : Int) (a2_0 : Int) (a2_1 : Int) (a2_2 : Int) (r : Bool) (w : World) (hr0_3 : Kd.C kI_q w A0_3 l0_3.length l0_3) (hc0_3 : l0_3.length ≤ c0_3) (h : spec_l33Hit.f a0_0 a0_1 a0_2 l0_3 a1 a2_0 a2_1 a2_2 = some r) :
    Calls Try.prog 36 #[.agg #[.int .i64 a0_0, .int .i64 a0_1, .int .i64 a0_2, .slice A0_3 l0_3.length c0_3], .int .i64 a1, .agg #[.int .i64 a2_0, .int .i64 a2_1, .int .i64 a2_2]] w fun e w' => e = .returned (.bool r) ∧ Below w.heap.size w w' := by
 have hu63 := Try.underlying63
 have hu31 := Try.underlying31
 have HR0_3 := Ae_q hr0_3
 have HC0_3 := Ae_q hc0_3
 clear hr0_3 hc0_3
 have HB := Ae_q (bR_q w.heap.size w)
 have H : (if a0_2 = a2_0 then (if a1 < a2_2 then (some (decide (a2_1 < (wrap64 (a1 + a0_0))))) else (some false)) else (some false)) = some r := h
 clear h
 by_cases c4 : a0_2 = a2_0
 rotate_left
 ·rw [if_neg c4] at H
  have c4b0 : (a0_2 == a2_0) = false := fN_q.mpr c4
  have c4b1 : (a0_2 != a2_0) = true := nI_q.mpr c4
  obtain rfl := oI_q H
  go_enter Try.func36, Try.ntmps36
  go_wp2_with (first | ((with_reducible refine gD_q (N := 3) rfl ?_); refine bE_q ?hg (N := 3) ?hd (cs := #[.int .i64 a0_0, .int .i64 a0_1, .int .i64 a0_2, .slice A0_3 l0_3.length c0_3]) (t := 63) ?hr ?_; (case hd => rfl); (case hg => rfl); (case hr => exact m9_q); intro gb121 hg w' hbox hb; have BK121 := Ae_q (hbox); have GW121 := Ae_q ((by rw [hg]; exact (bZ_q (bel HB.out)) : w.heap.size ≤ gb121)); have GE121 := Ae_q ((by rw [hg]; exact (bZ_q (bel HB.out)) : w.heap.size ≤ gb121)); replace HB := Ae_q (bT_q (bel HB.out) hb); clear hb hbox hg) | ((with_reducible refine gD_q (N := 5) rfl ?_); refine bE_q ?hg (N := 5) ?hd (cs := #[.int .i64 a2_0, .int .i64 a2_1, .int .i64 a2_2]) (t := 31) ?hr ?_; (case hd => rfl); (case hg => rfl); (case hr => exact m9_q); intro gb122 hg w17 hbox hb; have BK122 := Ae_q (hbox); have GW122 := Ae_q ((by rw [hg]; exact (bZ_q m21_q) : w.heap.size ≤ gb122)); have GE122 := Ae_q ((by rw [hg]; exact (bZ_q m21_q) : w.heap.size ≤ gb122)); replace HB := Ae_q (bT_q m21_q hb); have NB121_122 := Ae_q ((by rw [hg]; exact nL_q (blk_lt (g := gb121) (o := .cells #[.int .i64 a0_0, .int .i64 a0_1, .int .i64 a0_2, .slice A0_3 l0_3.length c0_3] 63 (0, 0)) (bup BK121.out)) : gb121 ≠ gb122)); have NB122_121 := Ae_q ((by rw [hg]; exact nG_q (blk_lt (g := gb121) (o := .cells #[.int .i64 a0_0, .int .i64 a0_1, .int .i64 a0_2, .slice A0_3 l0_3.length c0_3] 63 (0, 0)) (bup BK121.out)) : gb122 ≠ gb121)); replace BK121 := Ae_q (bB_q (g := gb121) (o := .cells #[.int .i64 a0_0, .int .i64 a0_1, .int .i64 a0_2, .slice A0_3 l0_3.length c0_3] 63 (0, 0)) (bup BK121.out) hb); clear hb hbox hg; have hnb18 := NB121_122.out; have hnc18 := NB122_121.out; have hcz19_0 : cI w17 gb121 0 a0_0 := cZ BK121 0 rfl; have hcz19_1 : cI w17 gb121 1 a0_1 := cZ BK121 1 rfl; have hcz19_2 : cI w17 gb121 2 a0_2 := cZ BK121 2 rfl; have hcz19_3 : w17.cell? ⟨gb121, 3, none⟩ = some (.slice A0_3 l0_3.length c0_3) := (bC_q BK121.out 3).trans rfl; have hfz19_0 := bF_q BK121.out 0; have hfz19_1 := bF_q BK121.out 1; have hfz19_2 := bF_q BK121.out 2; have hfz19_3 := bF_q BK121.out 3; have hcz20_0 : cI w17 gb122 0 a2_0 := cZ BK122 0 rfl; have hcz20_1 : cI w17 gb122 1 a2_1 := cZ BK122 1 rfl; have hcz20_2 : cI w17 gb122 2 a2_2 := cZ BK122 2 rfl; have hfz20_0 := bF_q BK122.out 0; have hfz20_1 := bF_q BK122.out 1; have hfz20_2 := bF_q BK122.out 2))
  go_ret
  exact ⟨m2_q, m33_q⟩
 rw [if_pos c4] at H
 have c4b0 : (a0_2 == a2_0) = true := beq_iff_eq.mpr c4
 have c4b1 : (a0_2 != a2_0) = false := nE_q.mpr c4
 clear c4
 by_cases c5 : a1 < a2_2
 ·rw [if_pos c5] at H
  have c5b0 : decide (a1 < a2_2) = true := dT_q c5
  clear c5
  obtain rfl := oI_q H
  go_enter Try.func36, Try.ntmps36
  go_wp2_with (first | ((with_reducible refine gD_q (N := 3) rfl ?_); refine bE_q ?hg (N := 3) ?hd (cs := #[.int .i64 a0_0, .int .i64 a0_1, .int .i64 a0_2, .slice A0_3 l0_3.length c0_3]) (t := 63) ?hr ?_; (case hd => rfl); (case hg => rfl); (case hr => exact m9_q); intro gb121 hg w' hbox hb; have BK121 := Ae_q (hbox); have GW121 := Ae_q ((by rw [hg]; exact (bZ_q (bel HB.out)) : w.heap.size ≤ gb121)); have GE121 := Ae_q ((by rw [hg]; exact (bZ_q (bel HB.out)) : w.heap.size ≤ gb121)); replace HB := Ae_q (bT_q (bel HB.out) hb); clear hb hbox hg) | ((with_reducible refine gD_q (N := 5) rfl ?_); refine bE_q ?hg (N := 5) ?hd (cs := #[.int .i64 a2_0, .int .i64 a2_1, .int .i64 a2_2]) (t := 31) ?hr ?_; (case hd => rfl); (case hg => rfl); (case hr => exact m9_q); intro gb122 hg w7 hbox hb; have BK122 := Ae_q (hbox); have GW122 := Ae_q ((by rw [hg]; exact (bZ_q m21_q) : w.heap.size ≤ gb122)); have GE122 := Ae_q ((by rw [hg]; exact (bZ_q m21_q) : w.heap.size ≤ gb122)); replace HB := Ae_q (bT_q m21_q hb); have NB121_122 := Ae_q ((by rw [hg]; exact nL_q (blk_lt (g := gb121) (o := .cells #[.int .i64 a0_0, .int .i64 a0_1, .int .i64 a0_2, .slice A0_3 l0_3.length c0_3] 63 (0, 0)) (bup BK121.out)) : gb121 ≠ gb122)); have NB122_121 := Ae_q ((by rw [hg]; exact nG_q (blk_lt (g := gb121) (o := .cells #[.int .i64 a0_0, .int .i64 a0_1, .int .i64 a0_2, .slice A0_3 l0_3.length c0_3] 63 (0, 0)) (bup BK121.out)) : gb122 ≠ gb121)); replace BK121 := Ae_q (bB_q (g := gb121) (o := .cells #[.int .i64 a0_0, .int .i64 a0_1, .int .i64 a0_2, .slice A0_3 l0_3.length c0_3] 63 (0, 0)) (bup BK121.out) hb); clear hb hbox hg; have hnb8 := NB121_122.out; have hnc8 := NB122_121.out; have hcz9_0 : cI w7 gb121 0 a0_0 := cZ BK121 0 rfl; have hcz9_1 : cI w7 gb121 1 a0_1 := cZ BK121 1 rfl; have hcz9_2 : cI w7 gb121 2 a0_2 := cZ BK121 2 rfl; have hcz9_3 : w7.cell? ⟨gb121, 3, none⟩ = some (.slice A0_3 l0_3.length c0_3) := (bC_q BK121.out 3).trans rfl; have hfz9_0 := bF_q BK121.out 0; have hfz9_1 := bF_q BK121.out 1; have hfz9_2 := bF_q BK121.out 2; have hfz9_3 := bF_q BK121.out 3; have hcz10_0 : cI w7 gb122 0 a2_0 := cZ BK122 0 rfl; have hcz10_1 : cI w7 gb122 1 a2_1 := cZ BK122 1 rfl; have hcz10_2 : cI w7 gb122 2 a2_2 := cZ BK122 2 rfl; have hfz10_0 := bF_q BK122.out 0; have hfz10_1 := bF_q BK122.out 1; have hfz10_2 := bF_q BK122.out 2))
  go_ret
  exact ⟨m2_q, m33_q⟩
 rw [if_neg c5] at H
 have c5b0 : decide (a1 < a2_2) = false := dF_q c5
 clear c5
 obtain rfl := oI_q H
 go_enter Try.func36, Try.ntmps36
 go_wp2_with (first | ((with_reducible refine gD_q (N := 3) rfl ?_); refine bE_q ?hg (N := 3) ?hd (cs := #[.int .i64 a0_0, .int .i64 a0_1, .int .i64 a0_2, .slice A0_3 l0_3.length c0_3]) (t := 63) ?hr ?_; (case hd => rfl); (case hg => rfl); (case hr => exact m9_q); intro gb121 hg w11 hbox hb; have BK121 := Ae_q (hbox); have GW121 := Ae_q ((by rw [hg]; exact (bZ_q (bel HB.out)) : w.heap.size ≤ gb121)); have GE121 := Ae_q ((by rw [hg]; exact (bZ_q (bel HB.out)) : w.heap.size ≤ gb121)); replace HB := Ae_q (bT_q (bel HB.out) hb); clear hb hbox hg) | ((with_reducible refine gD_q (N := 5) rfl ?_); refine bE_q ?hg (N := 5) ?hd (cs := #[.int .i64 a2_0, .int .i64 a2_1, .int .i64 a2_2]) (t := 31) ?hr ?_; (case hd => rfl); (case hg => rfl); (case hr => exact m9_q); intro gb122 hg w12 hbox hb; have BK122 := Ae_q (hbox); have GW122 := Ae_q ((by rw [hg]; exact (bZ_q m21_q) : w.heap.size ≤ gb122)); have GE122 := Ae_q ((by rw [hg]; exact (bZ_q m21_q) : w.heap.size ≤ gb122)); replace HB := Ae_q (bT_q m21_q hb); have NB121_122 := Ae_q ((by rw [hg]; exact nL_q (blk_lt (g := gb121) (o := .cells #[.int .i64 a0_0, .int .i64 a0_1, .int .i64 a0_2, .slice A0_3 l0_3.length c0_3] 63 (0, 0)) (bup BK121.out)) : gb121 ≠ gb122)); have NB122_121 := Ae_q ((by rw [hg]; exact nG_q (blk_lt (g := gb121) (o := .cells #[.int .i64 a0_0, .int .i64 a0_1, .int .i64 a0_2, .slice A0_3 l0_3.length c0_3] 63 (0, 0)) (bup BK121.out)) : gb122 ≠ gb121)); replace BK121 := Ae_q (bB_q (g := gb121) (o := .cells #[.int .i64 a0_0, .int .i64 a0_1, .int .i64 a0_2, .slice A0_3 l0_3.length c0_3] 63 (0, 0)) (bup BK121.out) hb); clear hb hbox hg; have hnb13 := NB121_122.out; have hnc13 := NB122_121.out; have hcz14_0 : cI w12 gb121 0 a0_0 := cZ BK121 0 rfl; have hcz14_1 : cI w12 gb121 1 a0_1 := cZ BK121 1 rfl; have hcz14_2 : cI w12 gb121 2 a0_2 := cZ BK121 2 rfl; have hcz14_3 : w12.cell? ⟨gb121, 3, none⟩ = some (.slice A0_3 l0_3.length c0_3) := (bC_q BK121.out 3).trans rfl; have hfz14_0 := bF_q BK121.out 0; have hfz14_1 := bF_q BK121.out 1; have hfz14_2 := bF_q BK121.out 2; have hfz14_3 := bF_q BK121.out 3; have hcz15_0 : cI w12 gb122 0 a2_0 := cZ BK122 0 rfl; have hcz15_1 : cI w12 gb122 1 a2_1 := cZ BK122 1 rfl; have hcz15_2 : cI w12 gb122 2 a2_2 := cZ BK122 2 rfl; have hfz15_0 := bF_q BK122.out 0; have hfz15_1 := bF_q BK122.out 1; have hfz15_2 := bF_q BK122.out 2))
 go_ret
 exact ⟨m2_q, m33_q⟩

mutual
def spec_OutageHits.l0 : Nat → List (S63) → List Int → List Int → Int → Int → Int → Int → Option (List Int)
 | 0, _, _, _, _, _, _, _ => none
 | k + 1, x0, x1, x7, x8, x124000, x124001, x124002 => if x8 < (x0.length : Int) then ((spec_l32Starts.f k x0 x1).bind fun t127 => (if t127 = true then ((spec_l33Outage.f x124000 x124001 x124002).bind fun t128 => (spec_OutageHits.j1 k x0 x1 x7 x8 t128 x124000 x124001 x124002)) else (spec_OutageHits.j1 k x0 x1 x7 x8 false x124000 x124001 x124002))) else (spec_OutageHits.j1 k x0 x1 x7 x8 false x124000 x124001 x124002)
def spec_OutageHits.j1 : Nat → List (S63) → List Int → List Int → Int → Bool → Int → Int → Int → Option (List Int)
 | 0, _, _, _, _, _, _, _, _ => none
 | k + 1, x0, x1, x7, x8, x22, x124000, x124001, x124002 => if x22 = true then (if 0 ≤ x8 then (if x8 < (x0.length : Int) then (if x8 < (x1.length : Int) then ((spec_l33Hit.f ((rd_T63 x0 x8).f0) ((rd_T63 x0 x8).f1) ((rd_T63 x0 x8).f2) ((rd_T63 x0 x8).f3) (rd x1 x8) x124000 x124001 x124002).bind fun t131 => (if t131 = true then (if x7.length < 17592186044416 then (spec_OutageHits.l0 k x0 x1 (x7 ++ [x8]) (wrap64 (x8 + 1)) x124000 x124001 x124002) else (none)) else (spec_OutageHits.l0 k x0 x1 x7 (wrap64 (x8 + 1)) x124000 x124001 x124002))) else (none)) else (none)) else (none)) else (some x7)
end
def spec_OutageHits.f (k : Nat) (l0 : List (S63)) (l1 : List Int) (a2_0 : Int) (a2_1 : Int) (a2_2 : Int) : Option (List Int) := spec_OutageHits.l0 k l0 l1 (([] : List Int)) 0 a2_0 a2_1 a2_2
def spec_OutageHits.T5 : Bool × List (List Nat × List Nat) := (true, [([], []), ([], []), ([0, 1], [0, 1]), ([2], [2]), ([], []), ([], []), ([4, 5], [4, 5]), ([6], [6]), ([], []), ([3, 7, 8], [3, 7, 8])])
def spec_OutageHits.B5 : List Nat := [0, 0, 3, 7, 0, 0, 48, 112, 0, 511]
theorem spec_OutageHits.tab5 : rtab .any (opsOf Try.f11 5) = spec_OutageHits.T5 := by kernel_rfl
theorem spec_OutageHits.bits5 : waitsOk spec_OutageHits.T5.2 spec_OutageHits.B5 = true := by kernel_rfl
set_option maxHeartbeats 8000000 in
set_option maxRecDepth 100000 in
theorem spec_OutageHits.calls (k : Nat) (A0 : Option Addr) (c0 : Nat) (l0 : List (S63)) (A1 : Option Addr) (c1 : Nat) (l1 : List Int) (a2_0 : Int) (a2_1 : Int) (a2_2 : Int) (r : List Int) (w : World) (hr0 : Kd.C k63 w A0 l0.length l0) (hc0 : l0.length ≤ c0) (hr1 : Kd.C kI_q w A1 l1.length l1) (hc1 : l1.length ≤ c1) (h : spec_OutageHits.f k l0 l1 a2_0 a2_1 a2_2 = some r) :
    Calls Try.prog 11 #[.slice A0 l0.length c0, .slice A1 l1.length c1, .agg #[.int .i64 a2_0, .int .i64 a2_1, .int .i64 a2_2]] w fun e w' => ∃ v0_ : Value, e = .returned (v0_) ∧ Kd.R kI_q 3 w' w.heap.size (fun _ => True) v0_ r ∧ Below w.heap.size w w' := by
 have hu31 := Try.underlying31
 have hu63 := Try.underlying63
 have HR0 := Ae_q hr0
 have HC0 := Ae_q hc0
 clear hr0 hc0
 have HR1 := Ae_q hr1
 have HC1 := Ae_q hc1
 clear hr1 hc1
 have HB := Ae_q (bR_q w.heap.size w)
 have H : (spec_OutageHits.l0 k l0 l1 (([] : List Int)) 0 a2_0 a2_1 a2_2) = some r := h
 clear h
 obtain ⟨y124, hy124⟩ : ∃ y_ : List Int, y_ = (([] : List Int)) := ⟨_, rfl⟩
 replace H : (spec_OutageHits.l0 k l0 l1 y124 0 a2_0 a2_1 a2_2) = some r := by first | (rw [hy124]; with_reducible exact H) | (have H2_ := (oS_q _ _).symm.trans H; rw [hy124]; with_reducible exact H2_) | (have H2_ := (oS_q _ _).symm.trans H; with_reducible exact H2_) | with_reducible exact H | (rw [hy124]; exact H) | exact H
 have Ny124 := Ae_q hy124
 clear hy124
 have H' := Ae_q H
 clear H
 go_enter Try.func11, Try.ntmps11
 go_wp2_with (first | ((with_reducible refine gD_q (N := 5) rfl ?_); refine bE_q ?hg (N := 5) ?hd (cs := #[.int .i64 a2_0, .int .i64 a2_1, .int .i64 a2_2]) (t := 31) ?hr ?_; (case hd => rfl); (case hg => rfl); (case hr => exact m9_q); intro gb123 hg w' hbox hb; have BK123 := Ae_q (hbox); have GW123 := Ae_q ((by rw [hg]; exact (bZ_q (bel HB.out)) : w.heap.size ≤ gb123)); have GE123 := Ae_q ((by rw [hg]; exact (bZ_q (bel HB.out)) : w.heap.size ≤ gb123)); replace HB := Ae_q (bT_q (bel HB.out) hb); clear hb hbox hg) | ((with_reducible refine gD_q (N := 9) rfl ?_); refine Kd.R_lit kI_q _ 3 ?hg (N := 9) ?hd (xs := ([] : List Int)) (inner := []) (ok := fun _ => True) (okp := fun _ => True) ?hr ?hp (fun _ hk => hk) trivial (bR_q _ _) (nR_q _) (by simp) ?_; (case hd => rfl); (case hg => rfl); (case hr => exact m9_q); (case hp => exact (Reps.none _ _)); intro v125 w5 ho6 hb hg_ hnew_; clear hg_ hnew_; (first | rw [← Ny124.out] at ho6 | (simp only [Int.reduceToNat] at ho6; rw [← Ny124.out] at ho6)); have HO126 := Ae_q (rL_q ho6 (bZ_q m11_q)); replace BK123 := Ae_q (bB_q (g := gb123) (o := .cells #[.int .i64 a2_0, .int .i64 a2_1, .int .i64 a2_2] 31 (0, 0)) (bup BK123.out) hb); replace HB := Ae_q (bT_q m11_q hb); clear hb ho6))
 go_loopg [7, 8] k (fun kq v7 v8 w' => ∃ (x7_1 : List Int) (x8_1 : Int), v8 = .int .i64 x8_1 ∧ Aside0 (spec_OutageHits.l0 kq l0 l1 x7_1 x8_1 a2_0 a2_1 a2_2 = some r) ∧ Aside0 (kq ≤ k) ∧ Aside0 (Kd.R kI_q 3 w' w.heap.size (fun _ => True) v7 x7_1) ∧ Aside0 (w'.heap[gb123]? = some (.cells #[.int .i64 a2_0, .int .i64 a2_1, .int .i64 a2_2] 31 (0, 0))) ∧ Aside0 (Below w.heap.size w w'))
 case atStart => exact ⟨(y124), (0), m4_q, H', ⟨nR_q _⟩, ⟨rup HO126.out⟩, ⟨bup BK123.out⟩, ⟨m11_q⟩⟩
 case round =>
  clear H'
  try clear c1
  try clear p2
  obtain ⟨x7_1, x8_1, rfl, HA, HK1, HO_7, BK123, HB⟩ := hrel
  cases gk with
  | zero => exact absurd HA.out (by simp [spec_OutageHits.l0])
  | succ k1 =>
   have H := HA.out
   clear HA
   simp only [spec_OutageHits.l0] at H
   have HC7 := Ae_q H
   clear H
   go_upto_region 3 with (fail)
   go_cut [22] (fun v22 wc => ∃ (kq : Nat) (x22_6 : Bool), v22 = .bool x22_6 ∧ Aside0 (spec_OutageHits.j1 kq l0 l1 x7_1 x8_1 x22_6 a2_0 a2_1 a2_2 = some r) ∧ Aside0 (kq ≤ k1) ∧ Aside0 (Kd.R kI_q 3 wc w.heap.size (fun _ => True) u7 x7_1) ∧ Aside0 (wc.heap[gb123]? = some (.cells #[.int .i64 a2_0, .int .i64 a2_1, .int .i64 a2_2] 31 (0, 0))) ∧ Aside0 (Below w.heap.size w wc))
   case first =>
    have H := HC7.out
    clear HC7
    by_cases c8 : x8_1 < (l0.length : Int)
    rotate_left
    ·rw [if_neg c8] at H
     have c8b0 : decide (x8_1 < (l0.length : Int)) = false := dF_q c8
     clear c8
     (first | rw [c8b0] | (simp only [i64_w, i32_w]; rw [c8b0]) | skip)
     have H' := Ae_q H
     clear H
     go_wp2
     go_meet
     case rel => exact ⟨_, (false), m4_q, H', ⟨m37_q⟩, ⟨rup HO_7.out⟩, ⟨bup BK123.out⟩, ⟨m11_q⟩⟩
    rw [if_pos c8] at H
    have c8b0 : decide (x8_1 < (l0.length : Int)) = true := dT_q c8
    clear c8
    (first | rw [c8b0] | (simp only [i64_w, i32_w]; rw [c8b0]) | skip)
    replace H := oB_q.mp H
    obtain ⟨t127, A90, H⟩ := H
    replace H : (if t127 = true then ((spec_l33Outage.f a2_0 a2_1 a2_2).bind fun t128 => (spec_OutageHits.j1 k1 l0 l1 x7_1 x8_1 t128 a2_0 a2_1 a2_2)) else (spec_OutageHits.j1 k1 l0 l1 x7_1 x8_1 false a2_0 a2_1 a2_2)) = some r := H
    have A9 := Ae_q A90
    clear A90
    by_cases c10 : t127 = true
    rotate_left
    ·replace c10 := fM_q.mpr c10
     subst c10
     have H1 : (spec_OutageHits.j1 k1 l0 l1 x7_1 x8_1 false a2_0 a2_1 a2_2) = some r := by rw [if_neg (show ¬ (false = true) by decide)] at H; exact H
     clear H
     have H := H1
     clear H1
     have H' := Ae_q H
     clear H
     go_wp2_with (first | (go_at_call 34; (with_reducible refine (spec_l32Starts.calls k1 _ _ l0 _ _ l1 false _ ?side1 ?side2 ?side3 ?side4 A9.out).mono ?_); (case side1 => exact m25_q); (case side2 => exact m39_q); (case side3 => exact m30_q); (case side4 => exact m46_q); rintro e w' ⟨rfl, hb⟩; replace HO_7 := Ae_q (rO_q (rup HO_7.out) hb); replace BK123 := Ae_q (bB_q (g := gb123) (o := .cells #[.int .i64 a2_0, .int .i64 a2_1, .int .i64 a2_2] 31 (0, 0)) (bup BK123.out) hb); replace HB := Ae_q (bT_q m11_q hb); (try clear hb); (try clear hb2); (try clear hk); (try clear hi)))
     go_meet
     case rel => exact ⟨_, (false), m4_q, H', ⟨m37_q⟩, ⟨rup HO_7.out⟩, ⟨bup BK123.out⟩, ⟨m11_q⟩⟩
    subst c10
    have H1 : ((spec_l33Outage.f a2_0 a2_1 a2_2).bind fun t128 => (spec_OutageHits.j1 k1 l0 l1 x7_1 x8_1 t128 a2_0 a2_1 a2_2)) = some r := by rw [if_pos rfl] at H; exact H
    clear H
    have H := H1
    clear H1
    replace H := oB_q.mp H
    obtain ⟨t128, A110, H⟩ := H
    replace H : (spec_OutageHits.j1 k1 l0 l1 x7_1 x8_1 t128 a2_0 a2_1 a2_2) = some r := H
    have A11 := Ae_q A110
    clear A110
    have H' := Ae_q H
    clear H
    go_wp2_with (first | (go_at_call 34; (with_reducible refine (spec_l32Starts.calls k1 _ _ l0 _ _ l1 true _ ?side1 ?side2 ?side3 ?side4 A9.out).mono ?_); (case side1 => exact m25_q); (case side2 => exact m39_q); (case side3 => exact m30_q); (case side4 => exact m46_q); rintro e w12 ⟨rfl, hb⟩; replace HO_7 := Ae_q (rO_q (rup HO_7.out) hb); replace BK123 := Ae_q (bB_q (g := gb123) (o := .cells #[.int .i64 a2_0, .int .i64 a2_1, .int .i64 a2_2] 31 (0, 0)) (bup BK123.out) hb); replace HB := Ae_q (bT_q m11_q hb); (try clear hb); (try clear hb2); (try clear hk); (try clear hi); have hcz13_0 : cI w12 gb123 0 a2_0 := cZ BK123 0 rfl; have hcz13_1 : cI w12 gb123 1 a2_1 := cZ BK123 1 rfl; have hcz13_2 : cI w12 gb123 2 a2_2 := cZ BK123 2 rfl; have hfz13_0 := bF_q BK123.out 0; have hfz13_1 := bF_q BK123.out 1; have hfz13_2 := bF_q BK123.out 2) | (go_at_call 35; (with_reducible refine (spec_l33Outage.calls a2_0 a2_1 a2_2 t128 _ A11.out).mono ?_); rintro e w' ⟨rfl, hb⟩; replace HO_7 := Ae_q (rO_q (rup HO_7.out) hb); replace BK123 := Ae_q (bB_q (g := gb123) (o := .cells #[.int .i64 a2_0, .int .i64 a2_1, .int .i64 a2_2] 31 (0, 0)) (bup BK123.out) hb); replace HB := Ae_q (bT_q m11_q hb); (try clear hb); (try clear hb2); (try clear hk); (try clear hi)))
    go_meet
    case rel => exact ⟨_, (t128), m4_q, H', ⟨m37_q⟩, ⟨rup HO_7.out⟩, ⟨bup BK123.out⟩, ⟨m11_q⟩⟩
   case rest =>
    clear HC7
    try clear c1
    try clear p2
    try clear c8
    try clear c8b0
    try clear c10
    try clear c11
    try clear hcz13_0
    try clear hcz13_1
    try clear hcz13_2
    try clear hfz13_0
    try clear hfz13_1
    try clear hfz13_2
    try clear p2
    obtain ⟨kq, x22_6, rfl, HA, HJ6, HO_7, BK123, HB⟩ := hcut
    cases kq with
    | zero => exact absurd HA.out (by simp [spec_OutageHits.j1])
    | succ kj6 =>
     have H := HA.out
     clear HA
     simp only [spec_OutageHits.j1] at H
     by_cases c16 : x22_6 = true
     rotate_left
     ·replace c16 := fM_q.mpr c16
      subst c16
      have H1 : (some x7_1) = some r := by rw [if_neg (show ¬ (false = true) by decide)] at H; exact H
      clear H
      have H := H1
      clear H1
      obtain rfl := oI_q H
      go_wp2
      go_ret
      exact ⟨_, m2_q, rup HO_7.out, m11_q⟩
     subst c16
     have H1 : (if 0 ≤ x8_1 then (if x8_1 < (l0.length : Int) then (if x8_1 < (l1.length : Int) then ((spec_l33Hit.f ((rd_T63 l0 x8_1).f0) ((rd_T63 l0 x8_1).f1) ((rd_T63 l0 x8_1).f2) ((rd_T63 l0 x8_1).f3) (rd l1 x8_1) a2_0 a2_1 a2_2).bind fun t131 => (if t131 = true then (if x7_1.length < 17592186044416 then (spec_OutageHits.l0 kj6 l0 l1 (x7_1 ++ [x8_1]) (wrap64 (x8_1 + 1)) a2_0 a2_1 a2_2) else (none)) else (spec_OutageHits.l0 kj6 l0 l1 x7_1 (wrap64 (x8_1 + 1)) a2_0 a2_1 a2_2))) else (none)) else (none)) else (none)) = some r := by rw [if_pos rfl] at H; exact H
     clear H
     have H := H1
     clear H1
     by_cases c17 : 0 ≤ x8_1
     rotate_left
     ·rw [if_neg c17] at H
      exact absurd H (by simp)
     rw [if_pos c17] at H
     have c17b0 : decide (0 ≤ x8_1) = true := dT_q c17
     clear c17
     by_cases c18 : x8_1 < (l0.length : Int)
     rotate_left
     ·rw [if_neg c18] at H
      exact absurd H (by simp)
     rw [if_pos c18] at H
     have c18b0 : decide (x8_1 < (l0.length : Int)) = true := dT_q c18
     clear c18
     by_cases c19 : x8_1 < (l1.length : Int)
     rotate_left
     ·rw [if_neg c19] at H
      exact absurd H (by simp)
     rw [if_pos c19] at H
     have c19b0 : decide (x8_1 < (l1.length : Int)) = true := dT_q c19
     clear c19
     replace H := oB_q.mp H
     obtain ⟨t131, A200, H⟩ := H
     replace H : (if t131 = true then (if x7_1.length < 17592186044416 then (spec_OutageHits.l0 kj6 l0 l1 (x7_1 ++ [x8_1]) (wrap64 (x8_1 + 1)) a2_0 a2_1 a2_2) else (none)) else (spec_OutageHits.l0 kj6 l0 l1 x7_1 (wrap64 (x8_1 + 1)) a2_0 a2_1 a2_2)) = some r := H
     have A20 := Ae_q A200
     clear A200
     by_cases c21 : t131 = true
     rotate_left
     ·replace c21 := fM_q.mpr c21
      subst c21
      have H1 : (spec_OutageHits.l0 kj6 l0 l1 x7_1 (wrap64 (x8_1 + 1)) a2_0 a2_1 a2_2) = some r := by rw [if_neg (show ¬ (false = true) by decide)] at H; exact H
      clear H
      have H := H1
      clear H1
      have H' := Ae_q H
      clear H
      try go_wp2
      replace HO_7 := Ae_q (rD_q HO_7.out)
      replace BK123 := Ae_q (bW_q BK123.out)
      replace HB := Ae_q (bD_q HB.out)
      have p129 : 0 ≤ (x8_1 : Int) := oD_q (by assumption)
      have q129 : x8_1 < (l0.length : Int) := oD_q (by assumption)
      obtain ⟨ad129, A129_3, c129_3, e129, hx129_0, hx129_1, hx129_2, hx129_3, hl129_3, hi129_3⟩ := at_T63 HR0.out x8_1 p129 q129
      have hw129_3 := hx129_3
      have hw129_2 := hx129_2
      have hw129_1 := hx129_1
      have hw129_0 := hx129_0
      cases e129
      replace hx129_0 := cel HB.out hx129_0
      replace hx129_1 := cel HB.out hx129_1
      replace hx129_2 := cel HB.out hx129_2
      replace hx129_3 := cel HB.out hx129_3
      have HR129_3 := Ae_q hi129_3
      have HC129_3 := Ae_q hl129_3
      clear hi129_3 hl129_3
      replace p129 := eq_true p129
      replace q129 := eq_true q129
      have p130 : 0 ≤ (x8_1 : Int) := oD_q (by assumption)
      have q130 : x8_1 < (l1.length : Int) := oD_q (by assumption)
      obtain ⟨ad130, e130, hx130_0⟩ := aI_q HR1.out x8_1 p130 q130
      have hw130_0 := hx130_0
      cases e130
      replace hx130_0 := cel HB.out hx130_0
      replace p130 := eq_true p130
      replace q130 := eq_true q130
      refine start_ (n := 10) (S := fun w' => w'.cell? ⟨gb123, 0, none⟩ = some (.int .i64 a2_0) ∧ w'.cell? ⟨gb123, 1, none⟩ = some (.int .i64 a2_1) ∧ w'.cell? ⟨gb123, 2, none⟩ = some (.int .i64 a2_2) ∧ w'.cell? (ad129.add ((x8_1).toNat * 4)) = some (.int .i64 ((rd_T63 l0 x8_1).f0)) ∧ w'.cell? ⟨(ad129.add ((x8_1).toNat * 4)).block, (ad129.add ((x8_1).toNat * 4)).off + 1, none⟩ = some (.int .i64 ((rd_T63 l0 x8_1).f1)) ∧ w'.cell? ⟨(ad129.add ((x8_1).toNat * 4)).block, (ad129.add ((x8_1).toNat * 4)).off + 2, none⟩ = some (.int .i64 ((rd_T63 l0 x8_1).f2)) ∧ w'.cell? ⟨(ad129.add ((x8_1).toNat * 4)).block, (ad129.add ((x8_1).toNat * 4)).off + 3, none⟩ = some (.slice A129_3 ((rd_T63 l0 x8_1).f3).length c129_3) ∧ w'.cell? (ad130.add (x8_1).toNat) = some (.int .i64 (rd l1 x8_1))) (ds := []) #[false, false, false, false, false, false, false, false, false, false] m8_q rfl rfl ⟨(bC_q BK123.out 0).trans rfl, (bC_q BK123.out 1).trans rfl, (bC_q BK123.out 2).trans rfl, (cel HB.out hw129_0), (cel HB.out hw129_1), (cel HB.out hw129_2), (cel HB.out hw129_3), (cel HB.out hw130_0)⟩ (fun hHeld => ?_); refine with_tabW spec_OutageHits.tab5 spec_OutageHits.bits5 (fun HT_ HW_ => ?_)
      generalize wc.drew = w26 at HO_7 BK123 HB HR129_3 hx129_0 hx129_1 hx129_2 hx129_3 hx130_0 hHeld ⊢
      refine pJ HT_ 0 25 rfl rfl ?_
      refine pJ HT_ 1 26 rfl rfl ?_
      refine pJ HT_ 2 27 rfl rfl ?_
      refine pJ HT_ 4 29 rfl rfl ?_
      refine pJ HT_ 5 30 rfl rfl ?_
      refine pJ HT_ 6 31 rfl rfl ?_
      refine take_ (i := 3) (N := some 28) (v := ?_) (a' := ?_) #[true, true, true, true, true, true, true, false, false, false] rfl rfl (take_ofW HT_.out HW_.out m8_q) (fun _ _ _ h => h) (Or.inl ⟨by rfl, ?_⟩) hHeld ?_ ?_
      rotate_left
      ·rintro w' ⟨s0, s1, s2, s3, s4, s5, s6, s7⟩
       go_simp
       with_reducible rfl
      rotate_left
      ·simp only [pS_q]
       rfl
      refine take_ (i := 7) (N := some 32) (v := ?_) (a' := ?_) #[true, true, true, true, true, true, true, true, false, false] rfl rfl (take_ofW HT_.out HW_.out m8_q) (fun _ _ _ h => h) (Or.inl ⟨by rfl, ?_⟩) hHeld ?_ ?_
      rotate_left
      ·rintro w' ⟨s0, s1, s2, s3, s4, s5, s6, s7⟩
       go_simp
       with_reducible rfl
      rotate_left
      ·simp only [pS_q]
       rfl
      refine take_ (i := 8) (N := some 33) (v := ?_) (a' := ?_) #[true, true, true, true, true, true, true, true, true, false] rfl rfl (take_ofW HT_.out HW_.out m8_q) (fun _ _ _ h => h) (Or.inl ⟨by rfl, ?_⟩) hHeld ?_ ?_
      rotate_left
      ·rintro w' ⟨s0, s1, s2, s3, s4, s5, s6, s7⟩
       go_simp
       with_reducible rfl
      rotate_left
      ·simp only [pS_q]
       rfl
      refine one_ (i := 9) (N := some 34) #[true, true, true, true, true, true, true, true, true, true] rfl rfl (one_of HT_.out m8_q) (by decide) (fun K hK => ?_)
      refine goes_ Try.func36 m8_q rfl #[.agg #[.int .i64 ((rd_T63 l0 x8_1).f0), .int .i64 ((rd_T63 l0 x8_1).f1), .int .i64 ((rd_T63 l0 x8_1).f2), .slice A129_3 ((rd_T63 l0 x8_1).f3).length c129_3], .int .i64 (rd l1 x8_1), .agg #[.int .i64 a2_0, .int .i64 a2_1, .int .i64 a2_2]] (by rfl) rfl rfl m1_q ?_
      with_reducible refine (spec_l33Hit.calls ((rd_T63 l0 x8_1).f0) ((rd_T63 l0 x8_1).f1) ((rd_T63 l0 x8_1).f2) _ _ ((rd_T63 l0 x8_1).f3) (rd l1 x8_1) a2_0 a2_1 a2_2 false _ ?side1 ?side2 A20.out).mono ?_
      (case side1 => exact cup (cB_q HR129_3.out HB.out))
      (case side2 => exact HC129_3.out)
      rintro e w' ⟨rfl, hb⟩
      refine ⟨_, rfl, ?_⟩
      replace HO_7 := Ae_q (rO_q (rup HO_7.out) hb)
      replace BK123 := Ae_q (bB_q (g := gb123) (o := .cells #[.int .i64 a2_0, .int .i64 a2_1, .int .i64 a2_2] 31 (0, 0)) (bup BK123.out) hb)
      replace HB := Ae_q (bT_q m11_q hb)
      (try clear hb)
      (try clear hb2)
      (try clear hk)
      (try clear hi)
      refine hK.out _ _ ⟨(bC_q BK123.out 0).trans rfl, (bC_q BK123.out 1).trans rfl, (bC_q BK123.out 2).trans rfl, (cel HB.out hw129_0), (cel HB.out hw129_1), (cel HB.out hw129_2), (cel HB.out hw129_3), (cel HB.out hw130_0)⟩ (fun hHeld => ?_)
      clear hK K
      refine nJ_q ?_
      refine done_ (done_of HT_.out m8_q) ?_
      try go_wp2
      go_roundg kj6
      case measure => have := HK1.out; have := HJ6.out; omega
      case rel => exact ⟨(x7_1), (wrap64 (x8_1 + 1)), m4_q, H', ⟨by have := HK1.out; have := HJ6.out; omega⟩, ⟨rup HO_7.out⟩, ⟨bup BK123.out⟩, ⟨m11_q⟩⟩
     subst c21
     have H1 : (if x7_1.length < 17592186044416 then (spec_OutageHits.l0 kj6 l0 l1 (x7_1 ++ [x8_1]) (wrap64 (x8_1 + 1)) a2_0 a2_1 a2_2) else (none)) = some r := by rw [if_pos rfl] at H; exact H
     clear H
     have H := H1
     clear H1
     by_cases c22 : x7_1.length < 17592186044416
     rotate_left
     ·rw [if_neg c22] at H
      exact absurd H (by simp)
     rw [if_pos c22] at H
     have LMc22 := Ae_q c22
     clear c22
     obtain ⟨y132, hy132⟩ : ∃ y_ : List Int, y_ = (x7_1 ++ [x8_1]) := ⟨_, rfl⟩
     replace H : (spec_OutageHits.l0 kj6 l0 l1 y132 (wrap64 (x8_1 + 1)) a2_0 a2_1 a2_2) = some r := by first | (rw [hy132]; with_reducible exact H) | (have H2_ := (oS_q _ _).symm.trans H; rw [hy132]; with_reducible exact H2_) | (have H2_ := (oS_q _ _).symm.trans H; with_reducible exact H2_) | with_reducible exact H | (rw [hy132]; exact H) | exact H
     have Ny132 := Ae_q hy132
     clear hy132
     have H' := Ae_q H
     clear H
     try go_wp2
     replace HO_7 := Ae_q (rD_q HO_7.out)
     replace BK123 := Ae_q (bW_q BK123.out)
     replace HB := Ae_q (bD_q HB.out)
     have p129 : 0 ≤ (x8_1 : Int) := oD_q (by assumption)
     have q129 : x8_1 < (l0.length : Int) := oD_q (by assumption)
     obtain ⟨ad129, A129_3, c129_3, e129, hx129_0, hx129_1, hx129_2, hx129_3, hl129_3, hi129_3⟩ := at_T63 HR0.out x8_1 p129 q129
     have hw129_3 := hx129_3
     have hw129_2 := hx129_2
     have hw129_1 := hx129_1
     have hw129_0 := hx129_0
     cases e129
     replace hx129_0 := cel HB.out hx129_0
     replace hx129_1 := cel HB.out hx129_1
     replace hx129_2 := cel HB.out hx129_2
     replace hx129_3 := cel HB.out hx129_3
     have HR129_3 := Ae_q hi129_3
     have HC129_3 := Ae_q hl129_3
     clear hi129_3 hl129_3
     replace p129 := eq_true p129
     replace q129 := eq_true q129
     have p130 : 0 ≤ (x8_1 : Int) := oD_q (by assumption)
     have q130 : x8_1 < (l1.length : Int) := oD_q (by assumption)
     obtain ⟨ad130, e130, hx130_0⟩ := aI_q HR1.out x8_1 p130 q130
     have hw130_0 := hx130_0
     cases e130
     replace hx130_0 := cel HB.out hx130_0
     replace p130 := eq_true p130
     replace q130 := eq_true q130
     refine start_ (n := 10) (S := fun w' => w'.cell? ⟨gb123, 0, none⟩ = some (.int .i64 a2_0) ∧ w'.cell? ⟨gb123, 1, none⟩ = some (.int .i64 a2_1) ∧ w'.cell? ⟨gb123, 2, none⟩ = some (.int .i64 a2_2) ∧ w'.cell? (ad129.add ((x8_1).toNat * 4)) = some (.int .i64 ((rd_T63 l0 x8_1).f0)) ∧ w'.cell? ⟨(ad129.add ((x8_1).toNat * 4)).block, (ad129.add ((x8_1).toNat * 4)).off + 1, none⟩ = some (.int .i64 ((rd_T63 l0 x8_1).f1)) ∧ w'.cell? ⟨(ad129.add ((x8_1).toNat * 4)).block, (ad129.add ((x8_1).toNat * 4)).off + 2, none⟩ = some (.int .i64 ((rd_T63 l0 x8_1).f2)) ∧ w'.cell? ⟨(ad129.add ((x8_1).toNat * 4)).block, (ad129.add ((x8_1).toNat * 4)).off + 3, none⟩ = some (.slice A129_3 ((rd_T63 l0 x8_1).f3).length c129_3) ∧ w'.cell? (ad130.add (x8_1).toNat) = some (.int .i64 (rd l1 x8_1))) (ds := []) #[false, false, false, false, false, false, false, false, false, false] m8_q rfl rfl ⟨(bC_q BK123.out 0).trans rfl, (bC_q BK123.out 1).trans rfl, (bC_q BK123.out 2).trans rfl, (cel HB.out hw129_0), (cel HB.out hw129_1), (cel HB.out hw129_2), (cel HB.out hw129_3), (cel HB.out hw130_0)⟩ (fun hHeld => ?_); refine with_tabW spec_OutageHits.tab5 spec_OutageHits.bits5 (fun HT_ HW_ => ?_)
     generalize wc.drew = w23 at HO_7 BK123 HB HR129_3 hx129_0 hx129_1 hx129_2 hx129_3 hx130_0 hHeld ⊢
     refine pJ HT_ 0 25 rfl rfl ?_
     refine pJ HT_ 1 26 rfl rfl ?_
     refine pJ HT_ 2 27 rfl rfl ?_
     refine pJ HT_ 4 29 rfl rfl ?_
     refine pJ HT_ 5 30 rfl rfl ?_
     refine pJ HT_ 6 31 rfl rfl ?_
     refine take_ (i := 3) (N := some 28) (v := ?_) (a' := ?_) #[true, true, true, true, true, true, true, false, false, false] rfl rfl (take_ofW HT_.out HW_.out m8_q) (fun _ _ _ h => h) (Or.inl ⟨by rfl, ?_⟩) hHeld ?_ ?_
     rotate_left
     ·rintro w' ⟨s0, s1, s2, s3, s4, s5, s6, s7⟩
      go_simp
      with_reducible rfl
     rotate_left
     ·simp only [pS_q]
      rfl
     refine take_ (i := 7) (N := some 32) (v := ?_) (a' := ?_) #[true, true, true, true, true, true, true, true, false, false] rfl rfl (take_ofW HT_.out HW_.out m8_q) (fun _ _ _ h => h) (Or.inl ⟨by rfl, ?_⟩) hHeld ?_ ?_
     rotate_left
     ·rintro w' ⟨s0, s1, s2, s3, s4, s5, s6, s7⟩
      go_simp
      with_reducible rfl
     rotate_left
     ·simp only [pS_q]
      rfl
     refine take_ (i := 8) (N := some 33) (v := ?_) (a' := ?_) #[true, true, true, true, true, true, true, true, true, false] rfl rfl (take_ofW HT_.out HW_.out m8_q) (fun _ _ _ h => h) (Or.inl ⟨by rfl, ?_⟩) hHeld ?_ ?_
     rotate_left
     ·rintro w' ⟨s0, s1, s2, s3, s4, s5, s6, s7⟩
      go_simp
      with_reducible rfl
     rotate_left
     ·simp only [pS_q]
      rfl
     refine one_ (i := 9) (N := some 34) #[true, true, true, true, true, true, true, true, true, true] rfl rfl (one_of HT_.out m8_q) (by decide) (fun K hK => ?_)
     refine goes_ Try.func36 m8_q rfl #[.agg #[.int .i64 ((rd_T63 l0 x8_1).f0), .int .i64 ((rd_T63 l0 x8_1).f1), .int .i64 ((rd_T63 l0 x8_1).f2), .slice A129_3 ((rd_T63 l0 x8_1).f3).length c129_3], .int .i64 (rd l1 x8_1), .agg #[.int .i64 a2_0, .int .i64 a2_1, .int .i64 a2_2]] (by rfl) rfl rfl m1_q ?_
     with_reducible refine (spec_l33Hit.calls ((rd_T63 l0 x8_1).f0) ((rd_T63 l0 x8_1).f1) ((rd_T63 l0 x8_1).f2) _ _ ((rd_T63 l0 x8_1).f3) (rd l1 x8_1) a2_0 a2_1 a2_2 true _ ?side1 ?side2 A20.out).mono ?_
     (case side1 => exact cup (cB_q HR129_3.out HB.out))
     (case side2 => exact HC129_3.out)
     rintro e w' ⟨rfl, hb⟩
     refine ⟨_, rfl, ?_⟩
     replace HO_7 := Ae_q (rO_q (rup HO_7.out) hb)
     replace BK123 := Ae_q (bB_q (g := gb123) (o := .cells #[.int .i64 a2_0, .int .i64 a2_1, .int .i64 a2_2] 31 (0, 0)) (bup BK123.out) hb)
     replace HB := Ae_q (bT_q m11_q hb)
     (try clear hb)
     (try clear hb2)
     (try clear hk)
     (try clear hi)
     refine hK.out _ _ ⟨(bC_q BK123.out 0).trans rfl, (bC_q BK123.out 1).trans rfl, (bC_q BK123.out 2).trans rfl, (cel HB.out hw129_0), (cel HB.out hw129_1), (cel HB.out hw129_2), (cel HB.out hw129_3), (cel HB.out hw130_0)⟩ (fun hHeld => ?_)
     clear hK K
     refine nJ_q ?_
     refine done_ (done_of HT_.out m8_q) ?_
     try go_wp2_with (first | ((with_reducible refine gate_builtin (b := .append) (xs := #[.tmp 35, .tmp 37]) rfl ?_); at_builtin; refine Kd.R_append kI_q (w0 := w) w.heap.size rfl (.tmp 35) (.tmp 37) 23 3 (.int .i64 0) 8 rfl Try.underlying23 info3 rfl (by decide) (by omega) u7 x7_1 x8_1 [.int .i64 x8_1] (fun _ => True) (fun _ => False) rfl rfl ?aP (fun _ hk => hk.elim) ?aF ?aO ?aB ?aS ?aL ?_; (case aP => exact rfl); (case aB => exact m11_q); (case aF => exact (fun _ _ => trivial)); (case aO => exact (rup HO_7.out)); (case aS => exact (bZ_q m11_q)); (case aL => have := LMc22.out; omega); intro v133 w25 ho hb hg hat; rw [← Ny132.out] at ho; replace BK123 := Ae_q (bG_q (g := gb123) (o := .cells #[.int .i64 a2_0, .int .i64 a2_1, .int .i64 a2_2] 31 (0, 0)) (bup BK123.out) hg (Kd.R_ne HO_7.out BK123.out (by decide))); replace HB := Ae_q (hb); have HO134 := Ae_q (ho); clear HO_7; clear ho hb hg hat))
     go_roundg kj6
     case measure => have := HK1.out; have := HJ6.out; omega
     case rel => exact ⟨(y132), (wrap64 (x8_1 + 1)), m4_q, H', ⟨by have := HK1.out; have := HJ6.out; omega⟩, ⟨rup HO134.out⟩, ⟨bup BK123.out⟩, ⟨m11_q⟩⟩

end Go.Proofs.Ytfnpiacmlahegaa.PRp
