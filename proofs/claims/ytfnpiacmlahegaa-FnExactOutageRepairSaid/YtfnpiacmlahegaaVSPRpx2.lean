import Derived.Test.YtfnpiacmlahegaaVSPRpx0
import Derived.Test.YtfnpiacmlahegaaVSPRpx1
namespace Go.Proofs.Ytfnpiacmlahegaa.PRp
open Go.RowKit Go.Proofs.YtfnpiacmlahegaaW.PrintWords Go.Proofs.YtfnpiacmlahegaaW.PrintLast Go.Proofs.YtfnpiacmlahegaaW.PrintMore
attribute [local go_sem] max2_int min2_int max_two min_two max_three min_three max_four min_four
set_option linter.unusedVariables false
set_option linter.unusedSimpArgs false

def spec_l32Starts.l0 : Nat → List (S63) → List Int → Int → Option (Bool)
 | 0, _, _, _ => none
 | k + 1, x0, x1, x5 => if x5 < (x1.length : Int) then (if 0 ≤ x5 then ((spec_l6In.f (rd x1 x5) 0 999).bind fun t115 => (if t115 = true then (spec_l32Starts.l0 k x0 x1 (wrap64 (x5 + 1))) else (some false))) else (none)) else ((spec_StepsValid.f k x0).bind fun t116 => (if t116 = true then (some ((x1.length : Int) == (x0.length : Int))) else (some false)))
def spec_l32Starts.f (k : Nat) (l0 : List (S63)) (l1 : List Int) : Option (Bool) := spec_l32Starts.l0 k l0 l1 0
set_option maxHeartbeats 8000000 in
set_option maxRecDepth 100000 in
theorem spec_l32Starts.calls (k : Nat) (A0 : Option Addr) (c0 : Nat) (l0 : List (S63)) (A1 : Option Addr) (c1 : Nat) (l1 : List Int) (r : Bool) (w : World) (hr0 : Kd.C k63 w A0 l0.length l0) (hc0 : l0.length ≤ c0) (hr1 : Kd.C kI_q w A1 l1.length l1) (hc1 : l1.length ≤ c1) (h : spec_l32Starts.f k l0 l1 = some r) :
    Calls Try.prog 34 #[.slice A0 l0.length c0, .slice A1 l1.length c1] w fun e w' => e = .returned (.bool r) ∧ Below w.heap.size w w' := by
 have HR0 := Ae_q hr0
 have HC0 := Ae_q hc0
 clear hr0 hc0
 have HR1 := Ae_q hr1
 have HC1 := Ae_q hc1
 clear hr1 hc1
 have HB := Ae_q (bR_q w.heap.size w)
 have H : (spec_l32Starts.l0 k l0 l1 0) = some r := h
 clear h
 have H' := Ae_q H
 clear H
 go_enter Try.func34, Try.ntmps34
 go_wp2
 go_loopg [5] k (fun kq v5 w' => ∃ (x5_1 : Int), v5 = .int .i64 x5_1 ∧ Aside0 (spec_l32Starts.l0 kq l0 l1 x5_1 = some r) ∧ Aside0 (kq ≤ k) ∧ Aside0 (Below w.heap.size w w'))
 case atStart => exact ⟨(0), m5_q, H', ⟨nR_q _⟩, ⟨bel HB.out⟩⟩
 case round =>
  clear H'
  try clear c1
  try clear p2
  obtain ⟨x5_1, rfl, HA, HK1, HB⟩ := hrel
  cases gk with
  | zero => exact absurd HA.out (by simp [spec_l32Starts.l0])
  | succ k1 =>
   have H := HA.out
   clear HA
   simp only [spec_l32Starts.l0] at H
   by_cases c3 : x5_1 < (l1.length : Int)
   rotate_left
   ·rw [if_neg c3] at H
    have c3b0 : decide (x5_1 < (l1.length : Int)) = false := dF_q c3
    clear c3
    replace H := oB_q.mp H
    obtain ⟨t116, A70, H⟩ := H
    replace H : (if t116 = true then (some ((l1.length : Int) == (l0.length : Int))) else (some false)) = some r := H
    have A7 := Ae_q A70
    clear A70
    by_cases c8 : t116 = true
    ·subst c8
     have H1 : (some ((l1.length : Int) == (l0.length : Int))) = some r := by rw [if_pos rfl] at H; exact H
     clear H
     have H := H1
     clear H1
     obtain rfl := oI_q H
     go_wp2_with (first | ((with_reducible refine gC_q (f := 44) rfl ?_); refine gL_q (some 19) rfl rfl Try.func44 m7_q rfl #[.slice A0 l0.length c0] rfl m1_q ?_; (with_reducible refine (spec_StepsValid.calls k1 _ _ l0 true _ ?side1 ?side2 A7.out).mono ?_); (case side1 => exact m20_q); (case side2 => exact m57_q); rintro e w9 ⟨rfl, hb⟩; refine ⟨_, rfl, ?_⟩; replace HB := Ae_q (bT_q (bel HB.out) hb); (try clear hb); (try clear hb2); (try clear hk); (try clear hi)))
     go_ret
     exact ⟨m4_q, bel HB.out⟩
    replace c8 := fM_q.mpr c8
    subst c8
    have H1 : (some false) = some r := by rw [if_neg (show ¬ (false = true) by decide)] at H; exact H
    clear H
    have H := H1
    clear H1
    obtain rfl := oI_q H
    go_wp2_with (first | ((with_reducible refine gC_q (f := 44) rfl ?_); refine gL_q (some 19) rfl rfl Try.func44 m7_q rfl #[.slice A0 l0.length c0] rfl m1_q ?_; (with_reducible refine (spec_StepsValid.calls k1 _ _ l0 false _ ?side1 ?side2 A7.out).mono ?_); (case side1 => exact m20_q); (case side2 => exact m57_q); rintro e w' ⟨rfl, hb⟩; refine ⟨_, rfl, ?_⟩; replace HB := Ae_q (bT_q (bel HB.out) hb); (try clear hb); (try clear hb2); (try clear hk); (try clear hi)))
    go_ret
    exact ⟨m4_q, bel HB.out⟩
   rw [if_pos c3] at H
   have c3b0 : decide (x5_1 < (l1.length : Int)) = true := dT_q c3
   clear c3
   by_cases c4 : 0 ≤ x5_1
   rotate_left
   ·rw [if_neg c4] at H
    exact absurd H (by simp)
   rw [if_pos c4] at H
   have c4b0 : decide (0 ≤ x5_1) = true := dT_q c4
   clear c4
   replace H := oB_q.mp H
   obtain ⟨t115, A50, H⟩ := H
   replace H : (if t115 = true then (spec_l32Starts.l0 k1 l0 l1 (wrap64 (x5_1 + 1))) else (some false)) = some r := H
   have A5 := Ae_q A50
   clear A50
   by_cases c6 : t115 = true
   ·subst c6
    have H1 : (spec_l32Starts.l0 k1 l0 l1 (wrap64 (x5_1 + 1))) = some r := by rw [if_pos rfl] at H; exact H
    clear H
    have H := H1
    clear H1
    have H' := Ae_q H
    clear H
    have p114 : 0 ≤ (x5_1 : Int) := oD_q (by assumption)
    have q114 : x5_1 < (l1.length : Int) := oD_q (by assumption)
    obtain ⟨ad114, e114, hx114_0⟩ := aI_q HR1.out x5_1 p114 q114
    cases e114
    replace hx114_0 := cel HB.out hx114_0
    replace p114 := eq_true p114
    replace q114 := eq_true q114
    go_wp2_with (first | ((with_reducible refine gC_q (f := 59) rfl ?_); refine gL_q (some 16) rfl rfl Try.func59 m7_q rfl #[.int .i64 (rd l1 x5_1), .int .i64 0, .int .i64 999] rfl m1_q ?_; (with_reducible refine (spec_l6In.calls (rd l1 x5_1) 0 999 true _ A5.out).mono ?_); rintro e w' ⟨rfl, ⟨nd, rfl⟩⟩; refine ⟨_, rfl, ?_⟩))
    go_roundg k1
    case measure => have := HK1.out; omega
    case rel => exact ⟨(wrap64 (x5_1 + 1)), m5_q, H', ⟨m74_q⟩, ⟨bel HB.out⟩⟩
   replace c6 := fM_q.mpr c6
   subst c6
   have H1 : (some false) = some r := by rw [if_neg (show ¬ (false = true) by decide)] at H; exact H
   clear H
   have H := H1
   clear H1
   obtain rfl := oI_q H
   have p114 : 0 ≤ (x5_1 : Int) := oD_q (by assumption)
   have q114 : x5_1 < (l1.length : Int) := oD_q (by assumption)
   obtain ⟨ad114, e114, hx114_0⟩ := aI_q HR1.out x5_1 p114 q114
   cases e114
   replace hx114_0 := cel HB.out hx114_0
   replace p114 := eq_true p114
   replace q114 := eq_true q114
   go_wp2_with (first | ((with_reducible refine gC_q (f := 59) rfl ?_); refine gL_q (some 16) rfl rfl Try.func59 m7_q rfl #[.int .i64 (rd l1 x5_1), .int .i64 0, .int .i64 999] rfl m1_q ?_; (with_reducible refine (spec_l6In.calls (rd l1 x5_1) 0 999 false _ A5.out).mono ?_); rintro e w' ⟨rfl, ⟨nd, rfl⟩⟩; refine ⟨_, rfl, ?_⟩))
   go_ret
   exact ⟨m4_q, bel HB.out⟩

def spec_l33Outage.f (a0_0 : Int) (a0_1 : Int) (a0_2 : Int) : Option (Bool) := (spec_l6In.f a0_0 1 4).bind fun t118 => (if t118 = true then ((spec_l6In.f a0_1 0 999).bind fun t119 => (if t119 = true then ((spec_l6In.f a0_2 a0_1 999).bind fun t120 => (some t120)) else (some false))) else (some false))
set_option maxHeartbeats 8000000 in
set_option maxRecDepth 100000 in
theorem spec_l33Outage.calls (a0_0 : Int) (a0_1 : Int) (a0_2 : Int) (r : Bool) (w : World) (h : spec_l33Outage.f a0_0 a0_1 a0_2 = some r) :
    Calls Try.prog 35 #[.agg #[.int .i64 a0_0, .int .i64 a0_1, .int .i64 a0_2]] w fun e w' => e = .returned (.bool r) ∧ Below w.heap.size w w' := by
 have hu31 := Try.underlying31
 have HB := Ae_q (bR_q w.heap.size w)
 have H : ((spec_l6In.f a0_0 1 4).bind fun t118 => (if t118 = true then ((spec_l6In.f a0_1 0 999).bind fun t119 => (if t119 = true then ((spec_l6In.f a0_2 a0_1 999).bind fun t120 => (some t120)) else (some false))) else (some false))) = some r := h
 clear h
 replace H := oB_q.mp H
 obtain ⟨t118, A20, H⟩ := H
 replace H : (if t118 = true then ((spec_l6In.f a0_1 0 999).bind fun t119 => (if t119 = true then ((spec_l6In.f a0_2 a0_1 999).bind fun t120 => (some t120)) else (some false))) else (some false)) = some r := H
 have A2 := Ae_q A20
 clear A20
 by_cases c3 : t118 = true
 rotate_left
 ·replace c3 := fM_q.mpr c3
  subst c3
  have H1 : (some false) = some r := by rw [if_neg (show ¬ (false = true) by decide)] at H; exact H
  clear H
  have H := H1
  clear H1
  obtain rfl := oI_q H
  go_enter Try.func35, Try.ntmps35
  go_wp2_with (first | ((with_reducible refine gD_q (N := 1) rfl ?_); refine bE_q ?hg (N := 1) ?hd (cs := #[.int .i64 a0_0, .int .i64 a0_1, .int .i64 a0_2]) (t := 31) ?hr ?_; (case hd => rfl); (case hg => rfl); (case hr => exact m6_q); intro gb117 hg w11 hbox hb; have BK117 := Ae_q (hbox); have GW117 := Ae_q ((by rw [hg]; exact (bZ_q (bel HB.out)) : w.heap.size ≤ gb117)); have GE117 := Ae_q ((by rw [hg]; exact (bZ_q (bel HB.out)) : w.heap.size ≤ gb117)); replace HB := Ae_q (bT_q (bel HB.out) hb); clear hb hbox hg; have hcz12_0 : cI w11 gb117 0 a0_0 := cZ BK117 0 rfl; have hcz12_1 : cI w11 gb117 1 a0_1 := cZ BK117 1 rfl; have hcz12_2 : cI w11 gb117 2 a0_2 := cZ BK117 2 rfl; have hfz12_0 := bF_q BK117.out 0; have hfz12_1 := bF_q BK117.out 1; have hfz12_2 := bF_q BK117.out 2) | ((with_reducible refine gC_q (f := 59) rfl ?_); refine gL_q (some 5) rfl rfl Try.func59 m7_q rfl #[.int .i64 a0_0, .int .i64 1, .int .i64 4] rfl m1_q ?_; (with_reducible refine (spec_l6In.calls a0_0 1 4 false _ A2.out).mono ?_); rintro e w' ⟨rfl, ⟨nd, rfl⟩⟩; refine ⟨_, rfl, ?_⟩))
  go_ret
  exact ⟨m4_q, m87_q⟩
 subst c3
 have H1 : ((spec_l6In.f a0_1 0 999).bind fun t119 => (if t119 = true then ((spec_l6In.f a0_2 a0_1 999).bind fun t120 => (some t120)) else (some false))) = some r := by rw [if_pos rfl] at H; exact H
 clear H
 have H := H1
 clear H1
 replace H := oB_q.mp H
 obtain ⟨t119, A40, H⟩ := H
 replace H : (if t119 = true then ((spec_l6In.f a0_2 a0_1 999).bind fun t120 => (some t120)) else (some false)) = some r := H
 have A4 := Ae_q A40
 clear A40
 by_cases c5 : t119 = true
 rotate_left
 ·replace c5 := fM_q.mpr c5
  subst c5
  have H1 : (some false) = some r := by rw [if_neg (show ¬ (false = true) by decide)] at H; exact H
  clear H
  have H := H1
  clear H1
  obtain rfl := oI_q H
  go_enter Try.func35, Try.ntmps35
  go_wp2_with (first | ((with_reducible refine gD_q (N := 1) rfl ?_); refine bE_q ?hg (N := 1) ?hd (cs := #[.int .i64 a0_0, .int .i64 a0_1, .int .i64 a0_2]) (t := 31) ?hr ?_; (case hd => rfl); (case hg => rfl); (case hr => exact m6_q); intro gb117 hg w9 hbox hb; have BK117 := Ae_q (hbox); have GW117 := Ae_q ((by rw [hg]; exact (bZ_q (bel HB.out)) : w.heap.size ≤ gb117)); have GE117 := Ae_q ((by rw [hg]; exact (bZ_q (bel HB.out)) : w.heap.size ≤ gb117)); replace HB := Ae_q (bT_q (bel HB.out) hb); clear hb hbox hg; have hcz10_0 : cI w9 gb117 0 a0_0 := cZ BK117 0 rfl; have hcz10_1 : cI w9 gb117 1 a0_1 := cZ BK117 1 rfl; have hcz10_2 : cI w9 gb117 2 a0_2 := cZ BK117 2 rfl; have hfz10_0 := bF_q BK117.out 0; have hfz10_1 := bF_q BK117.out 1; have hfz10_2 := bF_q BK117.out 2) | ((with_reducible refine gC_q (f := 59) rfl ?_); refine gL_q (some 5) rfl rfl Try.func59 m7_q rfl #[.int .i64 a0_0, .int .i64 1, .int .i64 4] rfl m1_q ?_; (with_reducible refine (spec_l6In.calls a0_0 1 4 true _ A2.out).mono ?_); rintro e w' ⟨rfl, ⟨nd, rfl⟩⟩; refine ⟨_, rfl, ?_⟩) | (go_at_call 59; (with_reducible refine (spec_l6In.calls a0_1 0 999 false _ A4.out).mono ?_); rintro e w' ⟨rfl, ⟨nd, rfl⟩⟩))
  go_ret
  exact ⟨m4_q, m87_q⟩
 subst c5
 have H1 : ((spec_l6In.f a0_2 a0_1 999).bind fun t120 => (some t120)) = some r := by rw [if_pos rfl] at H; exact H
 clear H
 have H := H1
 clear H1
 replace H := oB_q.mp H
 obtain ⟨t120, A60, H⟩ := H
 replace H : (some t120) = some r := H
 have A6 := Ae_q A60
 clear A60
 obtain rfl := oI_q H
 go_enter Try.func35, Try.ntmps35
 go_wp2_with (first | ((with_reducible refine gD_q (N := 1) rfl ?_); refine bE_q ?hg (N := 1) ?hd (cs := #[.int .i64 a0_0, .int .i64 a0_1, .int .i64 a0_2]) (t := 31) ?hr ?_; (case hd => rfl); (case hg => rfl); (case hr => exact m6_q); intro gb117 hg w7 hbox hb; have BK117 := Ae_q (hbox); have GW117 := Ae_q ((by rw [hg]; exact (bZ_q (bel HB.out)) : w.heap.size ≤ gb117)); have GE117 := Ae_q ((by rw [hg]; exact (bZ_q (bel HB.out)) : w.heap.size ≤ gb117)); replace HB := Ae_q (bT_q (bel HB.out) hb); clear hb hbox hg; have hcz8_0 : cI w7 gb117 0 a0_0 := cZ BK117 0 rfl; have hcz8_1 : cI w7 gb117 1 a0_1 := cZ BK117 1 rfl; have hcz8_2 : cI w7 gb117 2 a0_2 := cZ BK117 2 rfl; have hfz8_0 := bF_q BK117.out 0; have hfz8_1 := bF_q BK117.out 1; have hfz8_2 := bF_q BK117.out 2) | ((with_reducible refine gC_q (f := 59) rfl ?_); refine gL_q (some 5) rfl rfl Try.func59 m7_q rfl #[.int .i64 a0_0, .int .i64 1, .int .i64 4] rfl m1_q ?_; (with_reducible refine (spec_l6In.calls a0_0 1 4 true _ A2.out).mono ?_); rintro e w' ⟨rfl, ⟨nd, rfl⟩⟩; refine ⟨_, rfl, ?_⟩) | (go_at_call 59; (first | (with_reducible refine (spec_l6In.calls a0_1 0 999 true _ A4.out).mono ?_) | (with_reducible refine (spec_l6In.calls a0_2 a0_1 999 t120 _ A6.out).mono ?_)); rintro e w' ⟨rfl, ⟨nd, rfl⟩⟩))
 go_ret
 exact ⟨m4_q, m87_q⟩

def spec_l33Hit.f (a0_0 : Int) (a0_1 : Int) (a0_2 : Int) (l0_3 : List Int) (a1 : Int) (a2_0 : Int) (a2_1 : Int) (a2_2 : Int) : Option (Bool) := if a0_2 = a2_0 then (if a1 < a2_2 then (some (decide (a2_1 < (wrap64 (a1 + a0_0))))) else (some false)) else (some false)
set_option maxHeartbeats 8000000 in
set_option maxRecDepth 100000 in
theorem spec_l33Hit.calls (a0_0 : Int) (a0_1 : Int) (a0_2 : Int) (A0_3 : Option Addr) (c0_3 : Nat) (l0_3 : List Int) (a1 : Int) (a2_0 : Int) (a2_1 : Int) (a2_2 : Int) (r : Bool) (w : World) (hr0_3 : Kd.C kI_q w A0_3 l0_3.length l0_3) (hc0_3 : l0_3.length ≤ c0_3) (h : spec_l33Hit.f a0_0 a0_1 a0_2 l0_3 a1 a2_0 a2_1 a2_2 = some r) :
    Calls Try.prog 36 #[.agg #[.int .i64 a0_0, .int .i64 a0_1, .int .i64 a0_2, .slice A0_3 l0_3.length c0_3], .int .i64 a1, .agg #[.int .i64 a2_0, .int .i64 a2_1, .int .i64 a2_2]] w fun e w' => e = .returned (.bool r) ∧ Below w.heap.size w w' := by
 have hu63 := Try.underlying63
 have hu31 := Try.underlying31
 have HR0_3 := Ae_q hr0_3
 have HC0_3 := Ae_q hc0_3
 clear hr0_3 hc0_3
 have HB := Ae_q (bR_q w.heap.size w)
 have H : (if a0_2 = a2_0 then (if a1 < a2_2 then (some (decide (a2_1 < (wrap64 (a1 + a0_0))))) else (some false)) else (some false)) = some r := h
 clear h
 by_cases c4 : a0_2 = a2_0
 rotate_left
 ·rw [if_neg c4] at H
  have c4b0 : (a0_2 == a2_0) = false := fN_q.mpr c4
  have c4b1 : (a0_2 != a2_0) = true := nI_q.mpr c4
  obtain rfl := oI_q H
  go_enter Try.func36, Try.ntmps36
  go_wp2_with (first | ((with_reducible refine gD_q (N := 3) rfl ?_); refine bE_q ?hg (N := 3) ?hd (cs := #[.int .i64 a0_0, .int .i64 a0_1, .int .i64 a0_2, .slice A0_3 l0_3.length c0_3]) (t := 63) ?hr ?_; (case hd => rfl); (case hg => rfl); (case hr => exact m6_q); intro gb121 hg w' hbox hb; have BK121 := Ae_q (hbox); have GW121 := Ae_q ((by rw [hg]; exact (bZ_q (bel HB.out)) : w.heap.size ≤ gb121)); have GE121 := Ae_q ((by rw [hg]; exact (bZ_q (bel HB.out)) : w.heap.size ≤ gb121)); replace HB := Ae_q (bT_q (bel HB.out) hb); clear hb hbox hg) | ((with_reducible refine gD_q (N := 5) rfl ?_); refine bE_q ?hg (N := 5) ?hd (cs := #[.int .i64 a2_0, .int .i64 a2_1, .int .i64 a2_2]) (t := 31) ?hr ?_; (case hd => rfl); (case hg => rfl); (case hr => exact m6_q); intro gb122 hg w17 hbox hb; have BK122 := Ae_q (hbox); have GW122 := Ae_q ((by rw [hg]; exact (bZ_q m35_q) : w.heap.size ≤ gb122)); have GE122 := Ae_q ((by rw [hg]; exact (bZ_q m35_q) : w.heap.size ≤ gb122)); replace HB := Ae_q (bT_q m35_q hb); have NB121_122 := Ae_q ((by rw [hg]; exact nL_q (blk_lt (g := gb121) (o := .cells #[.int .i64 a0_0, .int .i64 a0_1, .int .i64 a0_2, .slice A0_3 l0_3.length c0_3] 63 (0, 0)) (bup BK121.out)) : gb121 ≠ gb122)); have NB122_121 := Ae_q ((by rw [hg]; exact nG_q (blk_lt (g := gb121) (o := .cells #[.int .i64 a0_0, .int .i64 a0_1, .int .i64 a0_2, .slice A0_3 l0_3.length c0_3] 63 (0, 0)) (bup BK121.out)) : gb122 ≠ gb121)); replace BK121 := Ae_q (bB_q (g := gb121) (o := .cells #[.int .i64 a0_0, .int .i64 a0_1, .int .i64 a0_2, .slice A0_3 l0_3.length c0_3] 63 (0, 0)) (bup BK121.out) hb); clear hb hbox hg; have hnb18 := NB121_122.out; have hnc18 := NB122_121.out; have hcz19_0 : cI w17 gb121 0 a0_0 := cZ BK121 0 rfl; have hcz19_1 : cI w17 gb121 1 a0_1 := cZ BK121 1 rfl; have hcz19_2 : cI w17 gb121 2 a0_2 := cZ BK121 2 rfl; have hcz19_3 : w17.cell? ⟨gb121, 3, none⟩ = some (.slice A0_3 l0_3.length c0_3) := (bC_q BK121.out 3).trans rfl; have hfz19_0 := bF_q BK121.out 0; have hfz19_1 := bF_q BK121.out 1; have hfz19_2 := bF_q BK121.out 2; have hfz19_3 := bF_q BK121.out 3; have hcz20_0 : cI w17 gb122 0 a2_0 := cZ BK122 0 rfl; have hcz20_1 : cI w17 gb122 1 a2_1 := cZ BK122 1 rfl; have hcz20_2 : cI w17 gb122 2 a2_2 := cZ BK122 2 rfl; have hfz20_0 := bF_q BK122.out 0; have hfz20_1 := bF_q BK122.out 1; have hfz20_2 := bF_q BK122.out 2))
  go_ret
  exact ⟨m4_q, m71_q⟩
 rw [if_pos c4] at H
 have c4b0 : (a0_2 == a2_0) = true := beq_iff_eq.mpr c4
 have c4b1 : (a0_2 != a2_0) = false := nE_q.mpr c4
 clear c4
 by_cases c5 : a1 < a2_2
 ·rw [if_pos c5] at H
  have c5b0 : decide (a1 < a2_2) = true := dT_q c5
  clear c5
  obtain rfl := oI_q H
  go_enter Try.func36, Try.ntmps36
  go_wp2_with (first | ((with_reducible refine gD_q (N := 3) rfl ?_); refine bE_q ?hg (N := 3) ?hd (cs := #[.int .i64 a0_0, .int .i64 a0_1, .int .i64 a0_2, .slice A0_3 l0_3.length c0_3]) (t := 63) ?hr ?_; (case hd => rfl); (case hg => rfl); (case hr => exact m6_q); intro gb121 hg w' hbox hb; have BK121 := Ae_q (hbox); have GW121 := Ae_q ((by rw [hg]; exact (bZ_q (bel HB.out)) : w.heap.size ≤ gb121)); have GE121 := Ae_q ((by rw [hg]; exact (bZ_q (bel HB.out)) : w.heap.size ≤ gb121)); replace HB := Ae_q (bT_q (bel HB.out) hb); clear hb hbox hg) | ((with_reducible refine gD_q (N := 5) rfl ?_); refine bE_q ?hg (N := 5) ?hd (cs := #[.int .i64 a2_0, .int .i64 a2_1, .int .i64 a2_2]) (t := 31) ?hr ?_; (case hd => rfl); (case hg => rfl); (case hr => exact m6_q); intro gb122 hg w7 hbox hb; have BK122 := Ae_q (hbox); have GW122 := Ae_q ((by rw [hg]; exact (bZ_q m35_q) : w.heap.size ≤ gb122)); have GE122 := Ae_q ((by rw [hg]; exact (bZ_q m35_q) : w.heap.size ≤ gb122)); replace HB := Ae_q (bT_q m35_q hb); have NB121_122 := Ae_q ((by rw [hg]; exact nL_q (blk_lt (g := gb121) (o := .cells #[.int .i64 a0_0, .int .i64 a0_1, .int .i64 a0_2, .slice A0_3 l0_3.length c0_3] 63 (0, 0)) (bup BK121.out)) : gb121 ≠ gb122)); have NB122_121 := Ae_q ((by rw [hg]; exact nG_q (blk_lt (g := gb121) (o := .cells #[.int .i64 a0_0, .int .i64 a0_1, .int .i64 a0_2, .slice A0_3 l0_3.length c0_3] 63 (0, 0)) (bup BK121.out)) : gb122 ≠ gb121)); replace BK121 := Ae_q (bB_q (g := gb121) (o := .cells #[.int .i64 a0_0, .int .i64 a0_1, .int .i64 a0_2, .slice A0_3 l0_3.length c0_3] 63 (0, 0)) (bup BK121.out) hb); clear hb hbox hg; have hnb8 := NB121_122.out; have hnc8 := NB122_121.out; have hcz9_0 : cI w7 gb121 0 a0_0 := cZ BK121 0 rfl; have hcz9_1 : cI w7 gb121 1 a0_1 := cZ BK121 1 rfl; have hcz9_2 : cI w7 gb121 2 a0_2 := cZ BK121 2 rfl; have hcz9_3 : w7.cell? ⟨gb121, 3, none⟩ = some (.slice A0_3 l0_3.length c0_3) := (bC_q BK121.out 3).trans rfl; have hfz9_0 := bF_q BK121.out 0; have hfz9_1 := bF_q BK121.out 1; have hfz9_2 := bF_q BK121.out 2; have hfz9_3 := bF_q BK121.out 3; have hcz10_0 : cI w7 gb122 0 a2_0 := cZ BK122 0 rfl; have hcz10_1 : cI w7 gb122 1 a2_1 := cZ BK122 1 rfl; have hcz10_2 : cI w7 gb122 2 a2_2 := cZ BK122 2 rfl; have hfz10_0 := bF_q BK122.out 0; have hfz10_1 := bF_q BK122.out 1; have hfz10_2 := bF_q BK122.out 2))
  go_ret
  exact ⟨m4_q, m71_q⟩
 rw [if_neg c5] at H
 have c5b0 : decide (a1 < a2_2) = false := dF_q c5
 clear c5
 obtain rfl := oI_q H
 go_enter Try.func36, Try.ntmps36
 go_wp2_with (first | ((with_reducible refine gD_q (N := 3) rfl ?_); refine bE_q ?hg (N := 3) ?hd (cs := #[.int .i64 a0_0, .int .i64 a0_1, .int .i64 a0_2, .slice A0_3 l0_3.length c0_3]) (t := 63) ?hr ?_; (case hd => rfl); (case hg => rfl); (case hr => exact m6_q); intro gb121 hg w11 hbox hb; have BK121 := Ae_q (hbox); have GW121 := Ae_q ((by rw [hg]; exact (bZ_q (bel HB.out)) : w.heap.size ≤ gb121)); have GE121 := Ae_q ((by rw [hg]; exact (bZ_q (bel HB.out)) : w.heap.size ≤ gb121)); replace HB := Ae_q (bT_q (bel HB.out) hb); clear hb hbox hg) | ((with_reducible refine gD_q (N := 5) rfl ?_); refine bE_q ?hg (N := 5) ?hd (cs := #[.int .i64 a2_0, .int .i64 a2_1, .int .i64 a2_2]) (t := 31) ?hr ?_; (case hd => rfl); (case hg => rfl); (case hr => exact m6_q); intro gb122 hg w12 hbox hb; have BK122 := Ae_q (hbox); have GW122 := Ae_q ((by rw [hg]; exact (bZ_q m35_q) : w.heap.size ≤ gb122)); have GE122 := Ae_q ((by rw [hg]; exact (bZ_q m35_q) : w.heap.size ≤ gb122)); replace HB := Ae_q (bT_q m35_q hb); have NB121_122 := Ae_q ((by rw [hg]; exact nL_q (blk_lt (g := gb121) (o := .cells #[.int .i64 a0_0, .int .i64 a0_1, .int .i64 a0_2, .slice A0_3 l0_3.length c0_3] 63 (0, 0)) (bup BK121.out)) : gb121 ≠ gb122)); have NB122_121 := Ae_q ((by rw [hg]; exact nG_q (blk_lt (g := gb121) (o := .cells #[.int .i64 a0_0, .int .i64 a0_1, .int .i64 a0_2, .slice A0_3 l0_3.length c0_3] 63 (0, 0)) (bup BK121.out)) : gb122 ≠ gb121)); replace BK121 := Ae_q (bB_q (g := gb121) (o := .cells #[.int .i64 a0_0, .int .i64 a0_1, .int .i64 a0_2, .slice A0_3 l0_3.length c0_3] 63 (0, 0)) (bup BK121.out) hb); clear hb hbox hg; have hnb13 := NB121_122.out; have hnc13 := NB122_121.out; have hcz14_0 : cI w12 gb121 0 a0_0 := cZ BK121 0 rfl; have hcz14_1 : cI w12 gb121 1 a0_1 := cZ BK121 1 rfl; have hcz14_2 : cI w12 gb121 2 a0_2 := cZ BK121 2 rfl; have hcz14_3 : w12.cell? ⟨gb121, 3, none⟩ = some (.slice A0_3 l0_3.length c0_3) := (bC_q BK121.out 3).trans rfl; have hfz14_0 := bF_q BK121.out 0; have hfz14_1 := bF_q BK121.out 1; have hfz14_2 := bF_q BK121.out 2; have hfz14_3 := bF_q BK121.out 3; have hcz15_0 : cI w12 gb122 0 a2_0 := cZ BK122 0 rfl; have hcz15_1 : cI w12 gb122 1 a2_1 := cZ BK122 1 rfl; have hcz15_2 : cI w12 gb122 2 a2_2 := cZ BK122 2 rfl; have hfz15_0 := bF_q BK122.out 0; have hfz15_1 := bF_q BK122.out 1; have hfz15_2 := bF_q BK122.out 2))
 go_ret
 exact ⟨m4_q, m71_q⟩

end Go.Proofs.Ytfnpiacmlahegaa.PRp
