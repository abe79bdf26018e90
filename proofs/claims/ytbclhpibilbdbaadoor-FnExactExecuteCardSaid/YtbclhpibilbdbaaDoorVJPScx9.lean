import Derived.Test.YtbclhpibilbdbaaDoorVJPScx0
namespace Go.Proofs.YtbclhpibilbdbaaDoor.PSc
open Go.RowKit Go.Proofs.YtbclhpibilbdbaaDoorW.PrintWords Go.Proofs.YtbclhpibilbdbaaDoorW.PrintLast Go.Proofs.YtbclhpibilbdbaaDoorW.PrintMore
attribute [local go_sem] max2_int min2_int max_two min_two max_three min_three max_four min_four
set_option linter.unusedVariables false
set_option linter.unusedSimpArgs false

def impl_within.f (a0 : Int) (a1 : Int) (a2 : Int) : Option (Bool) := if a0 ≥ a1 then (some (decide (a0 ≤ a2))) else (some false)
set_option maxHeartbeats 8000000 in
set_option maxRecDepth 100000 in
theorem impl_within.calls (a0 : Int) (a1 : Int) (a2 : Int) (r : Bool) (w : World) (h : impl_within.f a0 a1 a2 = some r) :
    Calls Tryd.prog 51 #[.int .i64 a0, .int .i64 a1, .int .i64 a2] w fun e w' => e = .returned (.bool r) ∧ Drawn0 w w' := by
 have H : (if a0 ≥ a1 then (some (decide (a0 ≤ a2))) else (some false)) = some r := h
 clear h
 by_cases c4 : a0 ≥ a1
 ·rw [if_pos c4] at H
  have c4b0 : decide (a1 ≤ a0) = true := dT_q c4
  clear c4
  obtain rfl := oI_q H
  go_enter Tryd.func51, Tryd.ntmps51
  go_wp2
  go_ret
  exact ⟨m2_q, m18_q⟩
 rw [if_neg c4] at H
 have c4b0 : decide (a1 ≤ a0) = false := dF_q c4
 clear c4
 obtain rfl := oI_q H
 go_enter Tryd.func51, Tryd.ntmps51
 go_wp2
 go_ret
 exact ⟨m2_q, m18_q⟩

def impl_isId.f (a0 : Int) : Option (Bool) := (impl_within.f a0 1 20).bind fun t142 => (some t142)
set_option maxHeartbeats 8000000 in
set_option maxRecDepth 100000 in
theorem impl_isId.calls (a0 : Int) (r : Bool) (w : World) (h : impl_isId.f a0 = some r) :
    Calls Tryd.prog 63 #[.int .i64 a0] w fun e w' => e = .returned (.bool r) ∧ Drawn0 w w' := by
 have H : ((impl_within.f a0 1 20).bind fun t142 => (some t142)) = some r := h
 clear h
 replace H := oB_q.mp H
 obtain ⟨t142, A20, H⟩ := H
 replace H : (some t142) = some r := H
 have A2 := Ae_q A20
 clear A20
 obtain rfl := oI_q H
 go_enter Tryd.func63, Tryd.ntmps63
 go_wp2_with (first | ((with_reducible refine gC_q (f := 51) rfl ?_); refine gL_q (some 4) rfl rfl Tryd.func51 m6_q rfl #[.int .i64 a0, .int .i64 1, .int .i64 20] rfl m0_q ?_; (with_reducible refine (impl_within.calls a0 1 20 t142 _ A2.out).mono ?_); rintro e w' ⟨rfl, ⟨nd, rfl⟩⟩; refine ⟨_, rfl, ?_⟩))
 go_ret
 exact ⟨m2_q, m18_q⟩

def impl_lotValid.f (a0_0 : Int) (a0_1 : Int) (a0_2 : Int) : Option (Bool) := (impl_isId.f a0_0).bind fun t144 => (if t144 = true then ((impl_within.f a0_1 0 99).bind fun t145 => (if t145 = true then ((impl_within.f a0_2 1 9999).bind fun t146 => (some t146)) else (some false))) else (some false))
set_option maxHeartbeats 8000000 in
set_option maxRecDepth 100000 in
theorem impl_lotValid.calls (a0_0 : Int) (a0_1 : Int) (a0_2 : Int) (r : Bool) (w : World) (h : impl_lotValid.f a0_0 a0_1 a0_2 = some r) :
    Calls Tryd.prog 46 #[.agg #[.int .i64 a0_0, .int .i64 a0_1, .int .i64 a0_2]] w fun e w' => e = .returned (.bool r) ∧ Below w.heap.size w w' := by
 have hu49 := Tryd.underlying49
 have HB := Ae_q (bR_q w.heap.size w)
 have H : ((impl_isId.f a0_0).bind fun t144 => (if t144 = true then ((impl_within.f a0_1 0 99).bind fun t145 => (if t145 = true then ((impl_within.f a0_2 1 9999).bind fun t146 => (some t146)) else (some false))) else (some false))) = some r := h
 clear h
 replace H := oB_q.mp H
 obtain ⟨t144, A20, H⟩ := H
 replace H : (if t144 = true then ((impl_within.f a0_1 0 99).bind fun t145 => (if t145 = true then ((impl_within.f a0_2 1 9999).bind fun t146 => (some t146)) else (some false))) else (some false)) = some r := H
 have A2 := Ae_q A20
 clear A20
 by_cases c3 : t144 = true
 rotate_left
 ·replace c3 := fM_q.mpr c3
  subst c3
  have H1 : (some false) = some r := by rw [if_neg (show ¬ (false = true) by decide)] at H; exact H
  clear H
  have H := H1
  clear H1
  obtain rfl := oI_q H
  go_enter Tryd.func46, Tryd.ntmps46
  go_wp2_with (first | ((with_reducible refine gD_q (N := 1) rfl ?_); refine bE_q ?hg (N := 1) ?hd (cs := #[.int .i64 a0_0, .int .i64 a0_1, .int .i64 a0_2]) (t := 49) ?hr ?_; (case hd => rfl); (case hg => rfl); (case hr => exact m10_q); intro gb143 hg w11 hbox hb; have BK143 := Ae_q (hbox); have GW143 := Ae_q ((by rw [hg]; exact (bZ_q (bel HB.out)) : w.heap.size ≤ gb143)); have GE143 := Ae_q ((by rw [hg]; exact (bZ_q (bel HB.out)) : w.heap.size ≤ gb143)); replace HB := Ae_q (bT_q (bel HB.out) hb); clear hb hbox hg; have hcz12_0 : cI w11 gb143 0 a0_0 := cZ BK143 0 rfl; have hcz12_1 : cI w11 gb143 1 a0_1 := cZ BK143 1 rfl; have hcz12_2 : cI w11 gb143 2 a0_2 := cZ BK143 2 rfl; have hfz12_0 := bF_q BK143.out 0; have hfz12_1 := bF_q BK143.out 1; have hfz12_2 := bF_q BK143.out 2) | ((with_reducible refine gC_q (f := 63) rfl ?_); refine gL_q (some 5) rfl rfl Tryd.func63 m6_q rfl #[.int .i64 a0_0] rfl m0_q ?_; (with_reducible refine (impl_isId.calls a0_0 false _ A2.out).mono ?_); rintro e w' ⟨rfl, ⟨nd, rfl⟩⟩; refine ⟨_, rfl, ?_⟩))
  go_ret
  exact ⟨m3_q, m51_q⟩
 subst c3
 have H1 : ((impl_within.f a0_1 0 99).bind fun t145 => (if t145 = true then ((impl_within.f a0_2 1 9999).bind fun t146 => (some t146)) else (some false))) = some r := by rw [if_pos rfl] at H; exact H
 clear H
 have H := H1
 clear H1
 replace H := oB_q.mp H
 obtain ⟨t145, A40, H⟩ := H
 replace H : (if t145 = true then ((impl_within.f a0_2 1 9999).bind fun t146 => (some t146)) else (some false)) = some r := H
 have A4 := Ae_q A40
 clear A40
 by_cases c5 : t145 = true
 rotate_left
 ·replace c5 := fM_q.mpr c5
  subst c5
  have H1 : (some false) = some r := by rw [if_neg (show ¬ (false = true) by decide)] at H; exact H
  clear H
  have H := H1
  clear H1
  obtain rfl := oI_q H
  go_enter Tryd.func46, Tryd.ntmps46
  go_wp2_with (first | ((with_reducible refine gD_q (N := 1) rfl ?_); refine bE_q ?hg (N := 1) ?hd (cs := #[.int .i64 a0_0, .int .i64 a0_1, .int .i64 a0_2]) (t := 49) ?hr ?_; (case hd => rfl); (case hg => rfl); (case hr => exact m10_q); intro gb143 hg w9 hbox hb; have BK143 := Ae_q (hbox); have GW143 := Ae_q ((by rw [hg]; exact (bZ_q (bel HB.out)) : w.heap.size ≤ gb143)); have GE143 := Ae_q ((by rw [hg]; exact (bZ_q (bel HB.out)) : w.heap.size ≤ gb143)); replace HB := Ae_q (bT_q (bel HB.out) hb); clear hb hbox hg; have hcz10_0 : cI w9 gb143 0 a0_0 := cZ BK143 0 rfl; have hcz10_1 : cI w9 gb143 1 a0_1 := cZ BK143 1 rfl; have hcz10_2 : cI w9 gb143 2 a0_2 := cZ BK143 2 rfl; have hfz10_0 := bF_q BK143.out 0; have hfz10_1 := bF_q BK143.out 1; have hfz10_2 := bF_q BK143.out 2) | ((with_reducible refine gC_q (f := 63) rfl ?_); refine gL_q (some 5) rfl rfl Tryd.func63 m6_q rfl #[.int .i64 a0_0] rfl m0_q ?_; (with_reducible refine (impl_isId.calls a0_0 true _ A2.out).mono ?_); rintro e w' ⟨rfl, ⟨nd, rfl⟩⟩; refine ⟨_, rfl, ?_⟩) | (go_at_call 51; (with_reducible refine (impl_within.calls a0_1 0 99 false _ A4.out).mono ?_); rintro e w' ⟨rfl, ⟨nd, rfl⟩⟩))
  go_ret
  exact ⟨m3_q, m51_q⟩
 subst c5
 have H1 : ((impl_within.f a0_2 1 9999).bind fun t146 => (some t146)) = some r := by rw [if_pos rfl] at H; exact H
 clear H
 have H := H1
 clear H1
 replace H := oB_q.mp H
 obtain ⟨t146, A60, H⟩ := H
 replace H : (some t146) = some r := H
 have A6 := Ae_q A60
 clear A60
 obtain rfl := oI_q H
 go_enter Tryd.func46, Tryd.ntmps46
 go_wp2_with (first | ((with_reducible refine gD_q (N := 1) rfl ?_); refine bE_q ?hg (N := 1) ?hd (cs := #[.int .i64 a0_0, .int .i64 a0_1, .int .i64 a0_2]) (t := 49) ?hr ?_; (case hd => rfl); (case hg => rfl); (case hr => exact m10_q); intro gb143 hg w7 hbox hb; have BK143 := Ae_q (hbox); have GW143 := Ae_q ((by rw [hg]; exact (bZ_q (bel HB.out)) : w.heap.size ≤ gb143)); have GE143 := Ae_q ((by rw [hg]; exact (bZ_q (bel HB.out)) : w.heap.size ≤ gb143)); replace HB := Ae_q (bT_q (bel HB.out) hb); clear hb hbox hg; have hcz8_0 : cI w7 gb143 0 a0_0 := cZ BK143 0 rfl; have hcz8_1 : cI w7 gb143 1 a0_1 := cZ BK143 1 rfl; have hcz8_2 : cI w7 gb143 2 a0_2 := cZ BK143 2 rfl; have hfz8_0 := bF_q BK143.out 0; have hfz8_1 := bF_q BK143.out 1; have hfz8_2 := bF_q BK143.out 2) | ((with_reducible refine gC_q (f := 63) rfl ?_); refine gL_q (some 5) rfl rfl Tryd.func63 m6_q rfl #[.int .i64 a0_0] rfl m0_q ?_; (with_reducible refine (impl_isId.calls a0_0 true _ A2.out).mono ?_); rintro e w' ⟨rfl, ⟨nd, rfl⟩⟩; refine ⟨_, rfl, ?_⟩) | (go_at_call 51; (first | (with_reducible refine (impl_within.calls a0_1 0 99 true _ A4.out).mono ?_) | (with_reducible refine (impl_within.calls a0_2 1 9999 t146 _ A6.out).mono ?_)); rintro e w' ⟨rfl, ⟨nd, rfl⟩⟩))
 go_ret
 exact ⟨m3_q, m51_q⟩

def cmp_Or_int.l0 : Nat → Int → List Int → Int → Int → Option (Int)
 | 0, _, _, _, _ => none
 | k + 1, x3, x6, x7, x8 => if x8 < x7 then (if 0 ≤ x8 then (if x8 < (x6.length : Int) then (if (rd x6 x8) = x3 then (cmp_Or_int.l0 k x3 x6 x7 (wrap64 (x8 + 1))) else (some (rd x6 x8))) else (none)) else (none)) else (some x3)
def cmp_Or_int.f (k : Nat) (l0 : List Int) : Option (Int) := cmp_Or_int.l0 k 0 l0 (l0.length : Int) 0
set_option maxHeartbeats 8000000 in
set_option maxRecDepth 100000 in
theorem cmp_Or_int.calls (k : Nat) (A0 : Option Addr) (c0 : Nat) (l0 : List Int) (r : Int) (w : World) (hr0 : Kd.C (Kd.int .i64) w A0 l0.length l0) (hc0 : l0.length ≤ c0) (h : cmp_Or_int.f k l0 = some r) :
    Calls Tryd.prog 64 #[.slice A0 l0.length c0] w fun e w' => e = .returned (.int .i64 r) ∧ Drawn0 w w' := by
 have HR0 := Ae_q hr0
 have HC0 := Ae_q hc0
 clear hr0 hc0
 have H : (cmp_Or_int.l0 k 0 l0 (l0.length : Int) 0) = some r := h
 clear h
 have H' := Ae_q H
 clear H
 go_enter Tryd.func64, Tryd.ntmps64
 go_wp2
 go_loopg [8] k (fun kq v8 w' => ∃ (x8_1 : Int), v8 = .int .i64 x8_1 ∧ Aside0 (cmp_Or_int.l0 kq 0 l0 (l0.length : Int) x8_1 = some r) ∧ Aside0 (kq ≤ k) ∧ Drawn0 w w')
 case atStart => exact ⟨(0), m2_q, H', ⟨nR_q _⟩, m18_q⟩
 case round =>
  clear H'
  obtain ⟨x8_1, rfl, HA, HK1, ⟨m1, rfl⟩⟩ := hrel
  cases gk with
  | zero => exact absurd HA.out (by simp [cmp_Or_int.l0])
  | succ k1 =>
   have H := HA.out
   clear HA
   simp only [cmp_Or_int.l0] at H
   by_cases c2 : x8_1 < (l0.length : Int)
   rotate_left
   ·rw [if_neg c2] at H
    have c2b0 : decide (x8_1 < (l0.length : Int)) = false := dF_q c2
    clear c2
    obtain rfl := oI_q H
    go_wp2
    go_ret
    exact ⟨m2_q, m18_q⟩
   rw [if_pos c2] at H
   have c2b0 : decide (x8_1 < (l0.length : Int)) = true := dT_q c2
   clear c2
   by_cases c3 : 0 ≤ x8_1
   rotate_left
   ·rw [if_neg c3] at H
    exact absurd H (by simp)
   rw [if_pos c3] at H
   have c3b0 : decide (0 ≤ x8_1) = true := dT_q c3
   clear c3
   by_cases c4 : x8_1 < (l0.length : Int)
   rotate_left
   ·rw [if_neg c4] at H
    exact absurd H (by simp)
   rw [if_pos c4] at H
   have c4b0 : decide (x8_1 < (l0.length : Int)) = true := dT_q c4
   clear c4
   by_cases c5 : (rd l0 x8_1) = 0
   rotate_left
   ·rw [if_neg c5] at H
    have c5b0 : ((rd l0 x8_1) == 0) = false := fN_q.mpr c5
    have c5b1 : ((rd l0 x8_1) != 0) = true := nI_q.mpr c5
    obtain rfl := oI_q H
    have p147 : 0 ≤ (x8_1 : Int) := oD_q (by assumption)
    have q147 : x8_1 < (l0.length : Int) := oD_q (by assumption)
    obtain ⟨ad147, e147, hx147_0⟩ := aI_q HR0.out x8_1 p147 q147
    cases e147
    replace p147 := eq_true p147
    replace q147 := eq_true q147
    go_wp2
    go_ret
    exact ⟨m2_q, m18_q⟩
   rw [if_pos c5] at H
   have c5b0 : ((rd l0 x8_1) == 0) = true := beq_iff_eq.mpr c5
   have c5b1 : ((rd l0 x8_1) != 0) = false := nE_q.mpr c5
   clear c5
   have H' := Ae_q H
   clear H
   have p147 : 0 ≤ (x8_1 : Int) := oD_q (by assumption)
   have q147 : x8_1 < (l0.length : Int) := oD_q (by assumption)
   obtain ⟨ad147, e147, hx147_0⟩ := aI_q HR0.out x8_1 p147 q147
   cases e147
   replace p147 := eq_true p147
   replace q147 := eq_true q147
   go_wp2
   go_roundg k1
   case measure => have := HK1.out; omega
   case rel => exact ⟨(wrap64 (x8_1 + 1)), m2_q, H', ⟨m38_q⟩, m18_q⟩

def cmp_isNaN_int.f (a0 : Int) : Option (Bool) := some (a0 != a0)
set_option maxHeartbeats 8000000 in
set_option maxRecDepth 100000 in
theorem cmp_isNaN_int.calls (a0 : Int) (r : Bool) (w : World) (h : cmp_isNaN_int.f a0 = some r) :
    Calls Tryd.prog 80 #[.int .i64 a0] w fun e w' => e = .returned (.bool r) ∧ Drawn0 w w' := by
 have H : (some (a0 != a0)) = some r := h
 clear h
 obtain rfl := oI_q H
 go_enter Tryd.func80, Tryd.ntmps80
 go_wp2
 go_ret
 exact ⟨m2_q, m18_q⟩

def cmp_Compare_int.f (a0 : Int) (a1 : Int) : Option (Int) := (cmp_isNaN_int.f a0).bind fun t148 => ((cmp_isNaN_int.f a1).bind fun t149 => (if t148 = true then (if t149 = true then (some 0) else (some (-1))) else (if t149 = true then (some 1) else (if a0 < a1 then (some (-1)) else (if a0 > a1 then (some 1) else (some 0))))))
set_option maxHeartbeats 8000000 in
set_option maxRecDepth 100000 in
theorem cmp_Compare_int.calls (a0 : Int) (a1 : Int) (r : Int) (w : World) (h : cmp_Compare_int.f a0 a1 = some r) :
    Calls Tryd.prog 65 #[.int .i64 a0, .int .i64 a1] w fun e w' => e = .returned (.int .i64 r) ∧ Drawn0 w w' := by
 have H : ((cmp_isNaN_int.f a0).bind fun t148 => ((cmp_isNaN_int.f a1).bind fun t149 => (if t148 = true then (if t149 = true then (some 0) else (some (-1))) else (if t149 = true then (some 1) else (if a0 < a1 then (some (-1)) else (if a0 > a1 then (some 1) else (some 0))))))) = some r := h
 clear h
 replace H := oB_q.mp H
 obtain ⟨t148, A30, H⟩ := H
 replace H : ((cmp_isNaN_int.f a1).bind fun t149 => (if t148 = true then (if t149 = true then (some 0) else (some (-1))) else (if t149 = true then (some 1) else (if a0 < a1 then (some (-1)) else (if a0 > a1 then (some 1) else (some 0)))))) = some r := H
 have A3 := Ae_q A30
 clear A30
 replace H := oB_q.mp H
 obtain ⟨t149, A40, H⟩ := H
 replace H : (if t148 = true then (if t149 = true then (some 0) else (some (-1))) else (if t149 = true then (some 1) else (if a0 < a1 then (some (-1)) else (if a0 > a1 then (some 1) else (some 0))))) = some r := H
 have A4 := Ae_q A40
 clear A40
 by_cases c5 : t148 = true
 ·subst c5
  have H1 : (if t149 = true then (some 0) else (some (-1))) = some r := by rw [if_pos rfl] at H; exact H
  clear H
  have H := H1
  clear H1
  by_cases c6 : t149 = true
  ·subst c6
   have H1 : (some 0) = some r := by rw [if_pos rfl] at H; exact H
   clear H
   have H := H1
   clear H1
   obtain rfl := oI_q H
   go_enter Tryd.func65, Tryd.ntmps65
   go_wp2_with (first | ((with_reducible refine gC_q (f := 80) rfl ?_); (first | (refine gL_q (some 8) rfl rfl Tryd.func80 m6_q rfl #[.int .i64 a0] rfl m0_q ?_; (with_reducible refine (cmp_isNaN_int.calls a0 true _ A3.out).mono ?_)) | (refine gL_q (some 10) rfl rfl Tryd.func80 m6_q rfl #[.int .i64 a1] rfl m0_q ?_; (with_reducible refine (cmp_isNaN_int.calls a1 true _ A4.out).mono ?_))); rintro e w' ⟨rfl, ⟨nd, rfl⟩⟩; refine ⟨_, rfl, ?_⟩))
   go_ret
   exact ⟨m2_q, m18_q⟩
  replace c6 := fM_q.mpr c6
  subst c6
  have H1 : (some (-1)) = some r := by rw [if_neg (show ¬ (false = true) by decide)] at H; exact H
  clear H
  have H := H1
  clear H1
  obtain rfl := oI_q H
  go_enter Tryd.func65, Tryd.ntmps65
  go_wp2_with (first | ((with_reducible refine gC_q (f := 80) rfl ?_); (first | (refine gL_q (some 8) rfl rfl Tryd.func80 m6_q rfl #[.int .i64 a0] rfl m0_q ?_; (with_reducible refine (cmp_isNaN_int.calls a0 true _ A3.out).mono ?_)) | (refine gL_q (some 10) rfl rfl Tryd.func80 m6_q rfl #[.int .i64 a1] rfl m0_q ?_; (with_reducible refine (cmp_isNaN_int.calls a1 false _ A4.out).mono ?_))); rintro e w' ⟨rfl, ⟨nd, rfl⟩⟩; refine ⟨_, rfl, ?_⟩))
  go_ret
  exact ⟨m2_q, m18_q⟩
 replace c5 := fM_q.mpr c5
 subst c5
 have H1 : (if t149 = true then (some 1) else (if a0 < a1 then (some (-1)) else (if a0 > a1 then (some 1) else (some 0)))) = some r := by rw [if_neg (show ¬ (false = true) by decide)] at H; exact H
 clear H
 have H := H1
 clear H1
 by_cases c7 : t149 = true
 ·subst c7
  have H1 : (some 1) = some r := by rw [if_pos rfl] at H; exact H
  clear H
  have H := H1
  clear H1
  obtain rfl := oI_q H
  go_enter Tryd.func65, Tryd.ntmps65
  go_wp2_with (first | ((with_reducible refine gC_q (f := 80) rfl ?_); (first | (refine gL_q (some 8) rfl rfl Tryd.func80 m6_q rfl #[.int .i64 a0] rfl m0_q ?_; (with_reducible refine (cmp_isNaN_int.calls a0 false _ A3.out).mono ?_)) | (refine gL_q (some 10) rfl rfl Tryd.func80 m6_q rfl #[.int .i64 a1] rfl m0_q ?_; (with_reducible refine (cmp_isNaN_int.calls a1 true _ A4.out).mono ?_))); rintro e w' ⟨rfl, ⟨nd, rfl⟩⟩; refine ⟨_, rfl, ?_⟩))
  go_ret
  exact ⟨m2_q, m18_q⟩
 replace c7 := fM_q.mpr c7
 subst c7
 have H1 : (if a0 < a1 then (some (-1)) else (if a0 > a1 then (some 1) else (some 0))) = some r := by rw [if_neg (show ¬ (false = true) by decide)] at H; exact H
 clear H
 have H := H1
 clear H1
 by_cases c8 : a0 < a1
 ·rw [if_pos c8] at H
  have c8b0 : decide (a0 < a1) = true := dT_q c8
  clear c8
  obtain rfl := oI_q H
  go_enter Tryd.func65, Tryd.ntmps65
  go_wp2_with (first | ((with_reducible refine gC_q (f := 80) rfl ?_); (first | (refine gL_q (some 8) rfl rfl Tryd.func80 m6_q rfl #[.int .i64 a0] rfl m0_q ?_; (with_reducible refine (cmp_isNaN_int.calls a0 false _ A3.out).mono ?_)) | (refine gL_q (some 10) rfl rfl Tryd.func80 m6_q rfl #[.int .i64 a1] rfl m0_q ?_; (with_reducible refine (cmp_isNaN_int.calls a1 false _ A4.out).mono ?_))); rintro e w' ⟨rfl, ⟨nd, rfl⟩⟩; refine ⟨_, rfl, ?_⟩))
  go_ret
  exact ⟨m2_q, m18_q⟩
 rw [if_neg c8] at H
 have c8b0 : decide (a0 < a1) = false := dF_q c8
 clear c8
 by_cases c9 : a0 > a1
 ·rw [if_pos c9] at H
  have c9b0 : decide (a1 < a0) = true := dT_q c9
  clear c9
  obtain rfl := oI_q H
  go_enter Tryd.func65, Tryd.ntmps65
  go_wp2_with (first | ((with_reducible refine gC_q (f := 80) rfl ?_); (first | (refine gL_q (some 8) rfl rfl Tryd.func80 m6_q rfl #[.int .i64 a0] rfl m0_q ?_; (with_reducible refine (cmp_isNaN_int.calls a0 false _ A3.out).mono ?_)) | (refine gL_q (some 10) rfl rfl Tryd.func80 m6_q rfl #[.int .i64 a1] rfl m0_q ?_; (with_reducible refine (cmp_isNaN_int.calls a1 false _ A4.out).mono ?_))); rintro e w' ⟨rfl, ⟨nd, rfl⟩⟩; refine ⟨_, rfl, ?_⟩))
  go_ret
  exact ⟨m2_q, m18_q⟩
 rw [if_neg c9] at H
 have c9b0 : decide (a1 < a0) = false := dF_q c9
 clear c9
 obtain rfl := oI_q H
 go_enter Tryd.func65, Tryd.ntmps65
 go_wp2_with (first | ((with_reducible refine gC_q (f := 80) rfl ?_); (first | (refine gL_q (some 8) rfl rfl Tryd.func80 m6_q rfl #[.int .i64 a0] rfl m0_q ?_; (with_reducible refine (cmp_isNaN_int.calls a0 false _ A3.out).mono ?_)) | (refine gL_q (some 10) rfl rfl Tryd.func80 m6_q rfl #[.int .i64 a1] rfl m0_q ?_; (with_reducible refine (cmp_isNaN_int.calls a1 false _ A4.out).mono ?_))); rintro e w' ⟨rfl, ⟨nd, rfl⟩⟩; refine ⟨_, rfl, ?_⟩))
 go_ret
 exact ⟨m2_q, m18_q⟩

def impl_compareLots.f (k : Nat) (a0_0 : Int) (a0_1 : Int) (a0_2 : Int) (a1_0 : Int) (a1_1 : Int) (a1_2 : Int) : Option (Int) := (cmp_Compare_int.f a0_0 a1_0).bind fun t152 => ((cmp_Compare_int.f a0_1 a1_1).bind fun t153 => ((cmp_Or_int.f k (([t152, t153] : List Int))).bind fun t157 => (some t157)))
def impl_compareLots.T1 : Bool × List (List Nat × List Nat) := (true, [([], []), ([0], [0]), ([], []), ([2], [2]), ([1, 3], [1, 3]), ([], []), ([5], [5]), ([], []), ([7], [7]), ([6, 8, 4], [6, 8]), ([4, 9], [4, 9]), ([10, 9], [10]), ([11, 11, 0, 1, 2, 3, 4, 5, 6, 7, 8, 9, 10, 11], [11])])
def impl_compareLots.B1 : List Nat := [0, 1, 0, 4, 15, 0, 32, 0, 128, 511, 1023, 2047, 4095]
theorem impl_compareLots.tab1 : rtab .any (opsOf Tryd.f49 1) = impl_compareLots.T1 := by kernel_rfl
theorem impl_compareLots.bits1 : waitsOk impl_compareLots.T1.2 impl_compareLots.B1 = true := by kernel_rfl
set_option maxHeartbeats 8000000 in
set_option maxRecDepth 100000 in
theorem impl_compareLots.calls (k : Nat) (a0_0 : Int) (a0_1 : Int) (a0_2 : Int) (a1_0 : Int) (a1_1 : Int) (a1_2 : Int) (r : Int) (w : World) (h : impl_compareLots.f k a0_0 a0_1 a0_2 a1_0 a1_1 a1_2 = some r) :
    Calls Tryd.prog 49 #[.agg #[.int .i64 a0_0, .int .i64 a0_1, .int .i64 a0_2], .agg #[.int .i64 a1_0, .int .i64 a1_1, .int .i64 a1_2]] w fun e w' => e = .returned (.int .i64 r) ∧ Below w.heap.size w w' := by
 have hu49 := Tryd.underlying49
 have HB := Ae_q (bR_q w.heap.size w)
 have H : ((cmp_Compare_int.f a0_0 a1_0).bind fun t152 => ((cmp_Compare_int.f a0_1 a1_1).bind fun t153 => ((cmp_Or_int.f k (([t152, t153] : List Int))).bind fun t157 => (some t157)))) = some r := h
 clear h
 replace H := oB_q.mp H
 obtain ⟨t152, A30, H⟩ := H
 replace H : ((cmp_Compare_int.f a0_1 a1_1).bind fun t153 => ((cmp_Or_int.f k (([t152, t153] : List Int))).bind fun t157 => (some t157))) = some r := H
 have A3 := Ae_q A30
 clear A30
 replace H := oB_q.mp H
 obtain ⟨t153, A40, H⟩ := H
 replace H : ((cmp_Or_int.f k (([t152, t153] : List Int))).bind fun t157 => (some t157)) = some r := H
 have A4 := Ae_q A40
 clear A40
 obtain ⟨y154, hy154⟩ : ∃ y_ : List Int, y_ = (([t152, t153] : List Int)) := ⟨_, rfl⟩
 replace H : ((cmp_Or_int.f k y154).bind fun t157 => (some t157)) = some r := by first | (rw [hy154]; with_reducible exact H) | (have H2_ := (oS_q _ _).symm.trans H; rw [hy154]; with_reducible exact H2_) | (have H2_ := (oS_q _ _).symm.trans H; with_reducible exact H2_) | with_reducible exact H | (rw [hy154]; exact H) | exact H
 have Ny154 := Ae_q hy154
 clear hy154
 replace H := oB_q.mp H
 obtain ⟨t157, A50, H⟩ := H
 replace H : (some t157) = some r := H
 have A5 := Ae_q A50
 clear A50
 obtain rfl := oI_q H
 go_enter Tryd.func49, Tryd.ntmps49
 try go_wp2_with (first | ((first | ((with_reducible refine gD_q (N := 2) rfl ?_); refine bE_q ?hg (N := 2) ?hd (cs := #[.int .i64 a0_0, .int .i64 a0_1, .int .i64 a0_2]) (t := 49) ?hr ?_; (case hd => rfl); (case hg => rfl); (case hr => exact m10_q); intro gb150 hg w' hbox hb; have BK150 := Ae_q (hbox); have GW150 := Ae_q ((by rw [hg]; exact (bZ_q (bel HB.out)) : w.heap.size ≤ gb150)); have GE150 := Ae_q ((by rw [hg]; exact (bZ_q (bel HB.out)) : w.heap.size ≤ gb150)); replace HB := Ae_q (bT_q (bel HB.out) hb)) | ((with_reducible refine gD_q (N := 3) rfl ?_); refine bE_q ?hg (N := 3) ?hd (cs := #[.int .i64 a1_0, .int .i64 a1_1, .int .i64 a1_2]) (t := 49) ?hr ?_; (case hd => rfl); (case hg => rfl); (case hr => exact m10_q); intro gb151 hg w7 hbox hb; have BK151 := Ae_q (hbox); have GW151 := Ae_q ((by rw [hg]; exact (bZ_q m52_q) : w.heap.size ≤ gb151)); have GE151 := Ae_q ((by rw [hg]; exact (bZ_q m52_q) : w.heap.size ≤ gb151)); replace HB := Ae_q (bT_q m52_q hb); have NB150_151 := Ae_q ((by rw [hg]; exact nL_q (blk_lt (g := gb150) (o := .cells #[.int .i64 a0_0, .int .i64 a0_1, .int .i64 a0_2] 49 (0, 0)) (bup BK150.out)) : gb150 ≠ gb151)); have NB151_150 := Ae_q ((by rw [hg]; exact nG_q (blk_lt (g := gb150) (o := .cells #[.int .i64 a0_0, .int .i64 a0_1, .int .i64 a0_2] 49 (0, 0)) (bup BK150.out)) : gb151 ≠ gb150)); replace BK150 := Ae_q (bB_q (g := gb150) (o := .cells #[.int .i64 a0_0, .int .i64 a0_1, .int .i64 a0_2] 49 (0, 0)) (bup BK150.out) hb))); clear hb hbox hg))
 replace BK150 := Ae_q (bW_q BK150.out)
 replace BK151 := Ae_q (bW_q BK151.out)
 replace HB := Ae_q (bD_q HB.out)
 refine start_ (n := 13) (S := fun w' => w'.cell? ⟨gb150, 0, none⟩ = some (.int .i64 a0_0) ∧ w'.cell? ⟨gb150, 1, none⟩ = some (.int .i64 a0_1) ∧ w'.cell? ⟨gb150, 2, none⟩ = some (.int .i64 a0_2) ∧ w'.cell? ⟨gb151, 0, none⟩ = some (.int .i64 a1_0) ∧ w'.cell? ⟨gb151, 1, none⟩ = some (.int .i64 a1_1) ∧ w'.cell? ⟨gb151, 2, none⟩ = some (.int .i64 a1_2)) (ds := []) #[false, false, false, false, false, false, false, false, false, false, false, false, false] m6_q rfl rfl ⟨(bC_q BK150.out 0).trans rfl, (bC_q BK150.out 1).trans rfl, (bC_q BK150.out 2).trans rfl, (bC_q BK151.out 0).trans rfl, (bC_q BK151.out 1).trans rfl, (bC_q BK151.out 2).trans rfl⟩ (fun hHeld => ?_); refine with_tabW impl_compareLots.tab1 impl_compareLots.bits1 (fun HT_ HW_ => ?_)
 generalize w7.drew = w8 at BK150 BK151 HB hHeld ⊢
 refine pJ HT_ 0 5 rfl rfl ?_
 refine pJ HT_ 2 7 rfl rfl ?_
 refine pJ HT_ 5 10 rfl rfl ?_
 refine pJ HT_ 7 12 rfl rfl ?_
 refine take_ (i := 1) (N := some 6) (v := ?_) (a' := ?_) #[true, true, true, false, false, true, false, true, false, false, false, false, false] rfl rfl (take_ofW HT_.out HW_.out m6_q) (fun _ _ _ h => h) (Or.inl ⟨by rfl, ?_⟩) hHeld ?_ ?_
 rotate_left
 ·rintro w' ⟨s0, s1, s2, s3, s4, s5⟩
  go_simp
  with_reducible rfl
 rotate_left
 ·simp only [pS_q]
  rfl
 refine take_ (i := 3) (N := some 8) (v := ?_) (a' := ?_) #[true, true, true, true, false, true, false, true, false, false, false, false, false] rfl rfl (take_ofW HT_.out HW_.out m6_q) (fun _ _ _ h => h) (Or.inl ⟨by rfl, ?_⟩) hHeld ?_ ?_
 rotate_left
 ·rintro w' ⟨s0, s1, s2, s3, s4, s5⟩
  go_simp
  with_reducible rfl
 rotate_left
 ·simp only [pS_q]
  rfl
 refine take_ (i := 6) (N := some 11) (v := ?_) (a' := ?_) #[true, true, true, true, false, true, true, true, false, false, false, false, false] rfl rfl (take_ofW HT_.out HW_.out m6_q) (fun _ _ _ h => h) (Or.inl ⟨by rfl, ?_⟩) hHeld ?_ ?_
 rotate_left
 ·rintro w' ⟨s0, s1, s2, s3, s4, s5⟩
  go_simp
  with_reducible rfl
 rotate_left
 ·simp only [pS_q]
  rfl
 refine take_ (i := 8) (N := some 13) (v := ?_) (a' := ?_) #[true, true, true, true, false, true, true, true, true, false, false, false, false] rfl rfl (take_ofW HT_.out HW_.out m6_q) (fun _ _ _ h => h) (Or.inl ⟨by rfl, ?_⟩) hHeld ?_ ?_
 rotate_left
 ·rintro w' ⟨s0, s1, s2, s3, s4, s5⟩
  go_simp
  with_reducible rfl
 rotate_left
 ·simp only [pS_q]
  rfl
 refine one_ (i := 4) (N := some 9) #[true, true, true, true, true, true, true, true, true, false, false, false, false] rfl rfl (one_of HT_.out m6_q) (by decide) (fun K hK => ?_)
 refine goes_ Tryd.func65 m6_q rfl #[.int .i64 a0_0, .int .i64 a1_0] (by rfl) rfl rfl m0_q ?_
 with_reducible refine (cmp_Compare_int.calls a0_0 a1_0 t152 _ A3.out).mono ?_
 rintro e w' ⟨rfl, ⟨nd, rfl⟩⟩
 refine ⟨_, rfl, ?_⟩
 refine hK.out _ _ ⟨(bC_q BK150.out 0).trans rfl, (bC_q BK150.out 1).trans rfl, (bC_q BK150.out 2).trans rfl, (bC_q BK151.out 0).trans rfl, (bC_q BK151.out 1).trans rfl, (bC_q BK151.out 2).trans rfl⟩ (fun hHeld => ?_)
 clear hK K
 refine nJ_q ?_
 refine one_ (i := 9) (N := some 14) #[true, true, true, true, true, true, true, true, true, true, false, false, false] rfl rfl (one_of HT_.out m6_q) (by decide) (fun K hK => ?_)
 refine goes_ Tryd.func65 m6_q rfl #[.int .i64 a0_1, .int .i64 a1_1] (by rfl) rfl rfl m0_q ?_
 with_reducible refine (cmp_Compare_int.calls a0_1 a1_1 t153 _ A4.out).mono ?_
 rintro e w' ⟨rfl, ⟨nd, rfl⟩⟩
 refine ⟨_, rfl, ?_⟩
 refine hK.out _ _ ⟨(bC_q BK150.out 0).trans rfl, (bC_q BK150.out 1).trans rfl, (bC_q BK150.out 2).trans rfl, (bC_q BK151.out 0).trans rfl, (bC_q BK151.out 1).trans rfl, (bC_q BK151.out 2).trans rfl⟩ (fun hHeld => ?_)
 clear hK K
 refine nJ_q ?_
 refine one_ (i := 10) (N := some 15) #[true, true, true, true, true, true, true, true, true, true, true, false, false] rfl rfl (one_of HT_.out m6_q) (by decide) (fun K hK => ?_)
 refine rI_q (Kd.int .i64) _ 3 ?hg (N := 15) ?hd (xs := ([t152, t153] : List Int)) (inner := [.int .i64 t152, .int .i64 t153]) (ok := fun _ => True) (okp := fun _ => True) ?hr ?hp (fun _ hk => hk) trivial (bR_q _ _) (nR_q _) (by simp) ?_; (case hd => rfl); (case hg => rfl); (case hr => exact m10_q); (case hp => exact (Reps.one (show Kd.M (Kd.int .i64) _ _ _ t152 [.int .i64 t152] from rfl) (Reps.one (show Kd.M (Kd.int .i64) _ _ _ t153 [.int .i64 t153] from rfl) (Reps.none _ _))))
 intro v155 w9 ho10 hb hg_ hnew_
 clear hg_ hnew_
 (first | rw [← Ny154.out] at ho10 | (simp only [Int.reduceToNat] at ho10; rw [← Ny154.out] at ho10))
 have HO156 := Ae_q (rL_q ho10 (bZ_q m42_q))
 replace BK150 := Ae_q (bB_q (g := gb150) (o := .cells #[.int .i64 a0_0, .int .i64 a0_1, .int .i64 a0_2] 49 (0, 0)) (bup BK150.out) hb)
 replace BK151 := Ae_q (bB_q (g := gb151) (o := .cells #[.int .i64 a1_0, .int .i64 a1_1, .int .i64 a1_2] 49 (0, 0)) (bup BK151.out) hb)
 replace HB := Ae_q (bT_q m42_q hb)
 clear hb ho10
 obtain ⟨Ao11, co11, eo11⟩ := rS_q HO156.out
 (first | subst eo11 | (injection eo11 with f1_ f2_ f3_; have f4_ := f1_.symm; have f5_ := f3_.symm; clear f1_ f2_ f3_; subst f4_; subst f5_))
 refine hK.out _ _ ⟨(bC_q BK150.out 0).trans rfl, (bC_q BK150.out 1).trans rfl, (bC_q BK150.out 2).trans rfl, (bC_q BK151.out 0).trans rfl, (bC_q BK151.out 1).trans rfl, (bC_q BK151.out 2).trans rfl⟩ (fun hHeld => ?_)
 clear hK K
 refine nJ_q ?_
 refine one_ (i := 11) (N := some 16) #[true, true, true, true, true, true, true, true, true, true, true, true, false] rfl rfl (one_of HT_.out m6_q) (by decide) (fun K hK => ?_)
 refine goes_ Tryd.func64 m6_q rfl #[.slice Ao11 y154.length co11] (by rfl) rfl rfl m0_q ?_
 with_reducible refine (cmp_Or_int.calls k _ _ y154 t157 _ ?side1 ?side2 A5.out).mono ?_
 (case side1 => exact cup (rR_q HO156.out).2.2)
 (case side2 => exact (rR_q HO156.out).2.1)
 rintro e w' ⟨rfl, ⟨nd, rfl⟩⟩
 refine ⟨_, rfl, ?_⟩
 refine hK.out _ _ ⟨(bC_q BK150.out 0).trans rfl, (bC_q BK150.out 1).trans rfl, (bC_q BK150.out 2).trans rfl, (bC_q BK151.out 0).trans rfl, (bC_q BK151.out 1).trans rfl, (bC_q BK151.out 2).trans rfl⟩ (fun hHeld => ?_)
 clear hK K
 refine nJ_q ?_
 refine pJ HT_ 12 4 rfl rfl ?_
 refine done_ (done_of HT_.out m6_q) ?_
 try go_wp2
 go_ret
 exact ⟨m3_q, m42_q⟩

end Go.Proofs.YtbclhpibilbdbaaDoor.PSc
