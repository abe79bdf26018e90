import Derived.Test.YtbclhpibilbdbaaDoorVJPScx0
import Derived.Test.YtbclhpibilbdbaaDoorVJPScx18
namespace Go.Proofs.YtbclhpibilbdbaaDoor.PSc
open Go.RowKit Go.Proofs.YtbclhpibilbdbaaDoorW.PrintWords Go.Proofs.YtbclhpibilbdbaaDoorW.PrintLast Go.Proofs.YtbclhpibilbdbaaDoorW.PrintMore
attribute [local go_sem] max2_int min2_int max_two min_two max_three min_three max_four min_four
set_option linter.unusedVariables false
set_option linter.unusedSimpArgs false

mutual
def spec_l1Number.j0 : Nat → ByteArray → Bool → Option (Int)
 | 0, _, _ => none
 | k + 1, x0, x18 => if x18 = true then (some (-1)) else (spec_l1Number.l0 k x0 0 0)
def spec_l1Number.l0 : Nat → ByteArray → Int → Int → Option (Int)
 | 0, _, _, _ => none
 | k + 1, x0, x3, x4 => if x4 < (x0.size : Int) then (if 0 ≤ x4 then (if (bt x0 x4) < 48 then (some (-1)) else (if (bt x0 x4) > 57 then (some (-1)) else (spec_l1Number.l0 k x0 (wrap64 ((wrap64 (10 * x3)) + (((bt x0 x4) - 48) % 256))) (wrap64 (x4 + 1))))) else (none)) else (some x3)
end
def spec_l1Number.f (k : Nat) (a0 : ByteArray) : Option (Int) := (spec_l6In.f (a0.size : Int) 1 4).bind fun t325 => (if t325 = true then (if (a0.size : Int) > 1 then (if 0 < (a0.size : Int) then (spec_l1Number.j0 k a0 ((bt a0 0) == 48)) else (none)) else (spec_l1Number.j0 k a0 false)) else (spec_l1Number.j0 k a0 true))
set_option maxHeartbeats 8000000 in
set_option maxRecDepth 100000 in
theorem spec_l1Number.calls (k : Nat) (a0 : ByteArray) (r : Int) (w : World) (h : spec_l1Number.f k a0 = some r) :
    Calls Tryd.prog 36 #[.string a0] w fun e w' => e = .returned (.int .i64 r) ∧ Drawn0 w w' := by
 have H : ((spec_l6In.f (a0.size : Int) 1 4).bind fun t325 => (if t325 = true then (if (a0.size : Int) > 1 then (if 0 < (a0.size : Int) then (spec_l1Number.j0 k a0 ((bt a0 0) == 48)) else (none)) else (spec_l1Number.j0 k a0 false)) else (spec_l1Number.j0 k a0 true))) = some r := h
 clear h
 have HC2 := Ae_q H
 clear H
 go_enter Tryd.func36, Tryd.ntmps36
 go_upto_region 1 with (fail)
 go_cut [18] (fun v18 wc => ∃ (kq : Nat) (x18_1 : Bool), v18 = .bool x18_1 ∧ Aside0 (spec_l1Number.j0 kq a0 x18_1 = some r) ∧ Aside0 (kq ≤ k) ∧ Drawn0 w wc)
 case first =>
  have H := HC2.out
  clear HC2
  replace H := oB_q.mp H
  obtain ⟨t325, A30, H⟩ := H
  replace H : (if t325 = true then (if (a0.size : Int) > 1 then (if 0 < (a0.size : Int) then (spec_l1Number.j0 k a0 ((bt a0 0) == 48)) else (none)) else (spec_l1Number.j0 k a0 false)) else (spec_l1Number.j0 k a0 true)) = some r := H
  have A3 := Ae_q A30
  clear A30
  by_cases c4 : t325 = true
  rotate_left
  ·replace c4 := fM_q.mpr c4
   subst c4
   have H1 : (spec_l1Number.j0 k a0 true) = some r := by rw [if_neg (show ¬ (false = true) by decide)] at H; exact H
   clear H
   have H := H1
   clear H1
   have H' := Ae_q H
   clear H
   go_wp2_with (first | ((with_reducible refine gC_q (f := 53) rfl ?_); refine gL_q (some 7) rfl rfl Tryd.func53 m6_q rfl #[.int .i64 (a0.size : Int), .int .i64 1, .int .i64 4] rfl m0_q ?_; (with_reducible refine (spec_l6In.calls (a0.size : Int) 1 4 false _ A3.out).mono ?_); rintro e w' ⟨rfl, ⟨nd, rfl⟩⟩; refine ⟨_, rfl, ?_⟩))
   go_meet
   case rel => exact ⟨_, (true), m2_q, H', ⟨m48_q⟩, m18_q⟩
  subst c4
  have H1 : (if (a0.size : Int) > 1 then (if 0 < (a0.size : Int) then (spec_l1Number.j0 k a0 ((bt a0 0) == 48)) else (none)) else (spec_l1Number.j0 k a0 false)) = some r := by rw [if_pos rfl] at H; exact H
  clear H
  have H := H1
  clear H1
  by_cases c5 : (a0.size : Int) > 1
  rotate_left
  ·rw [if_neg c5] at H
   have c5b0 : decide (1 < (a0.size : Int)) = false := dF_q c5
   have c5b1 : decide (1 < a0.size) = false := dF_q (by omega)
   clear c5
   (first | rw [c5b0] | (simp only [i64_w, i32_w]; rw [c5b0]) | skip)
   have H' := Ae_q H
   clear H
   go_wp2_with (first | ((with_reducible refine gC_q (f := 53) rfl ?_); refine gL_q (some 7) rfl rfl Tryd.func53 m6_q rfl #[.int .i64 (a0.size : Int), .int .i64 1, .int .i64 4] rfl m0_q ?_; (with_reducible refine (spec_l6In.calls (a0.size : Int) 1 4 true _ A3.out).mono ?_); rintro e w' ⟨rfl, ⟨nd, rfl⟩⟩; refine ⟨_, rfl, ?_⟩))
   go_meet
   case rel => exact ⟨_, (false), m2_q, H', ⟨m48_q⟩, m18_q⟩
  rw [if_pos c5] at H
  have c5b0 : decide (1 < (a0.size : Int)) = true := dT_q c5
  have c5b1 : decide (1 < a0.size) = true := dT_q (by omega)
  clear c5
  (first | rw [c5b0] | (simp only [i64_w, i32_w]; rw [c5b0]) | skip)
  by_cases c6 : 0 < (a0.size : Int)
  rotate_left
  ·rw [if_neg c6] at H
   exact absurd H (by simp)
  rw [if_pos c6] at H
  have c6b0 : decide (0 < (a0.size : Int)) = true := dT_q c6
  have c6b1 : decide (0 < a0.size) = true := dT_q (by omega)
  clear c6
  have H' := Ae_q H
  clear H
  go_wp2_with (first | ((with_reducible refine gC_q (f := 53) rfl ?_); refine gL_q (some 7) rfl rfl Tryd.func53 m6_q rfl #[.int .i64 (a0.size : Int), .int .i64 1, .int .i64 4] rfl m0_q ?_; (with_reducible refine (spec_l6In.calls (a0.size : Int) 1 4 true _ A3.out).mono ?_); rintro e w' ⟨rfl, ⟨nd, rfl⟩⟩; refine ⟨_, rfl, ?_⟩; have p7 : 0 ≤ (0 : Int) := (by omega); have q7 : 0 < a0.size := (by have : (0 : Int) < (a0.size : Int) := oD_q (by assumption); omega); have hx7 : ∀ h : 0 < a0.size, ((a0[0]'h).toNat : Int) = bt a0 0 := bt_at a0 0; clear p7; have qi7 : (0 < (a0.size : Int)) = True := eq_true (oD_q (by assumption)); replace q7 := eq_true q7))
  go_meet
  case rel => exact ⟨_, (((bt a0 0) == 48)), m2_q, H', ⟨m48_q⟩, m18_q⟩
 case rest =>
  clear HC2
  try clear p2
  try clear c3
  try clear c4
  try clear c5
  try clear c5b0
  try clear c5b1
  try clear c6
  try clear c6b0
  try clear c6b1
  try clear p7
  try clear q7
  try clear hx7
  try clear qi7
  try clear p7
  try clear q7
  obtain ⟨kq, x18_1, rfl, HA, HJ1, ⟨mc1, rfl⟩⟩ := hcut
  cases kq with
  | zero => exact absurd HA.out (by simp [spec_l1Number.j0])
  | succ kj1 =>
   have H := HA.out
   clear HA
   simp only [spec_l1Number.j0] at H
   by_cases c8 : x18_1 = true
   ·subst c8
    have H1 : (some (-1)) = some r := by rw [if_pos rfl] at H; exact H
    clear H
    have H := H1
    clear H1
    obtain rfl := oI_q H
    go_wp2
    go_ret
    exact ⟨m2_q, m18_q⟩
   replace c8 := fM_q.mpr c8
   subst c8
   have H1 : (spec_l1Number.l0 kj1 a0 0 0) = some r := by rw [if_neg (show ¬ (false = true) by decide)] at H; exact H
   clear H
   have H := H1
   clear H1
   have H' := Ae_q H
   clear H
   go_wp2
   go_loopg [3, 4] kj1 (fun kq v3 v4 w' => ∃ (x3_2 : Int) (x4_2 : Int), v3 = .int .i64 x3_2 ∧ v4 = .int .i64 x4_2 ∧ Aside0 (spec_l1Number.l0 kq a0 x3_2 x4_2 = some r) ∧ Aside0 (kq ≤ kj1) ∧ Drawn0 w w')
   case atStart => exact ⟨(0), (0), m2_q, m2_q, H', ⟨nR_q _⟩, m18_q⟩
   case round =>
    clear H'
    try clear c1
    try clear p2
    try clear c3
    try clear c4
    try clear c5
    try clear c5b0
    try clear c5b1
    try clear c6
    try clear c6b0
    try clear c6b1
    try clear p7
    try clear q7
    try clear hx7
    try clear qi7
    try clear c8
    try clear p2
    try clear p7
    try clear q7
    obtain ⟨x3_2, x4_2, rfl, rfl, HA, HK2, ⟨m2, rfl⟩⟩ := hrel
    cases gk with
    | zero => exact absurd HA.out (by simp [spec_l1Number.l0])
    | succ k2 =>
     have H := HA.out
     clear HA
     simp only [spec_l1Number.l0] at H
     by_cases c9 : x4_2 < (a0.size : Int)
     rotate_left
     ·rw [if_neg c9] at H
      have c9b0 : decide (x4_2 < (a0.size : Int)) = false := dF_q c9
      clear c9
      obtain rfl := oI_q H
      go_wp2
      go_ret
      exact ⟨m2_q, m18_q⟩
     rw [if_pos c9] at H
     have c9b0 : decide (x4_2 < (a0.size : Int)) = true := dT_q c9
     clear c9
     by_cases c10 : 0 ≤ x4_2
     rotate_left
     ·rw [if_neg c10] at H
      exact absurd H (by simp)
     rw [if_pos c10] at H
     have c10b0 : decide (0 ≤ x4_2) = true := dT_q c10
     clear c10
     by_cases c12 : (bt a0 x4_2) < 48
     ·rw [if_pos c12] at H
      have c12b0 : decide ((bt a0 x4_2) < 48) = true := dT_q c12
      clear c12
      obtain rfl := oI_q H
      have p11 : 0 ≤ (x4_2 : Int) := oD_q (by assumption)
      have q11 : x4_2 < (a0.size : Int) := oD_q (by assumption)
      have hx11 := bt_at a0 x4_2
      replace p11 := eq_true p11
      replace q11 := eq_true q11
      go_wp2
      go_ret
      exact ⟨m2_q, m18_q⟩
     rw [if_neg c12] at H
     have c12b0 : decide ((bt a0 x4_2) < 48) = false := dF_q c12
     clear c12
     by_cases c14 : (bt a0 x4_2) > 57
     ·rw [if_pos c14] at H
      have c14b0 : decide (57 < (bt a0 x4_2)) = true := dT_q c14
      clear c14
      obtain rfl := oI_q H
      have p11 : 0 ≤ (x4_2 : Int) := oD_q (by assumption)
      have q11 : x4_2 < (a0.size : Int) := oD_q (by assumption)
      have hx11 := bt_at a0 x4_2
      replace p11 := eq_true p11
      replace q11 := eq_true q11
      have p13 : 0 ≤ (x4_2 : Int) := oD_q (by assumption)
      have q13 : x4_2 < (a0.size : Int) := oD_q (by assumption)
      have hx13 := bt_at a0 x4_2
      replace p13 := eq_true p13
      replace q13 := eq_true q13
      go_wp2
      go_ret
      exact ⟨m2_q, m18_q⟩
     rw [if_neg c14] at H
     have c14b0 : decide (57 < (bt a0 x4_2)) = false := dF_q c14
     clear c14
     have H' := Ae_q H
     clear H
     have p11 : 0 ≤ (x4_2 : Int) := oD_q (by assumption)
     have q11 : x4_2 < (a0.size : Int) := oD_q (by assumption)
     have hx11 := bt_at a0 x4_2
     replace p11 := eq_true p11
     replace q11 := eq_true q11
     have p13 : 0 ≤ (x4_2 : Int) := oD_q (by assumption)
     have q13 : x4_2 < (a0.size : Int) := oD_q (by assumption)
     have hx13 := bt_at a0 x4_2
     replace p13 := eq_true p13
     replace q13 := eq_true q13
     have p15 : 0 ≤ (x4_2 : Int) := oD_q (by assumption)
     have q15 : x4_2 < (a0.size : Int) := oD_q (by assumption)
     have hx15 := bt_at a0 x4_2
     replace p15 := eq_true p15
     replace q15 := eq_true q15
     go_wp2
     go_roundg k2
     case measure => have := HJ1.out; have := HK2.out; omega
     case rel => exact ⟨(wrap64 ((wrap64 (10 * x3_2)) + (((bt a0 x4_2) - 48) % 256))), (wrap64 (x4_2 + 1)), m2_q, m2_q, H', ⟨by have := HJ1.out; have := HK2.out; omega⟩, m18_q⟩

def spec_l21Lot.f (a0_0 : Int) (a0_1 : Int) (a0_2 : Int) : Option (Bool) := (spec_l6In.f a0_0 1 20).bind fun t327 => (if t327 = true then ((spec_l6In.f a0_1 0 99).bind fun t328 => (if t328 = true then ((spec_l6In.f a0_2 1 9999).bind fun t329 => (some t329)) else (some false))) else (some false))
set_option maxHeartbeats 8000000 in
set_option maxRecDepth 100000 in
theorem spec_l21Lot.calls (a0_0 : Int) (a0_1 : Int) (a0_2 : Int) (r : Bool) (w : World) (h : spec_l21Lot.f a0_0 a0_1 a0_2 = some r) :
    Calls Tryd.prog 55 #[.agg #[.int .i64 a0_0, .int .i64 a0_1, .int .i64 a0_2]] w fun e w' => e = .returned (.bool r) ∧ Below w.heap.size w w' := by
 have hu49 := Tryd.underlying49
 have HB := Ae_q (bR_q w.heap.size w)
 have H : ((spec_l6In.f a0_0 1 20).bind fun t327 => (if t327 = true then ((spec_l6In.f a0_1 0 99).bind fun t328 => (if t328 = true then ((spec_l6In.f a0_2 1 9999).bind fun t329 => (some t329)) else (some false))) else (some false))) = some r := h
 clear h
 replace H := oB_q.mp H
 obtain ⟨t327, A20, H⟩ := H
 replace H : (if t327 = true then ((spec_l6In.f a0_1 0 99).bind fun t328 => (if t328 = true then ((spec_l6In.f a0_2 1 9999).bind fun t329 => (some t329)) else (some false))) else (some false)) = some r := H
 have A2 := Ae_q A20
 clear A20
 by_cases c3 : t327 = true
 rotate_left
 ·replace c3 := fM_q.mpr c3
  subst c3
  have H1 : (some false) = some r := by rw [if_neg (show ¬ (false = true) by decide)] at H; exact H
  clear H
  have H := H1
  clear H1
  obtain rfl := oI_q H
  go_enter Tryd.func55, Tryd.ntmps55
  go_wp2_with (first | ((with_reducible refine gD_q (N := 1) rfl ?_); refine bE_q ?hg (N := 1) ?hd (cs := #[.int .i64 a0_0, .int .i64 a0_1, .int .i64 a0_2]) (t := 49) ?hr ?_; (case hd => rfl); (case hg => rfl); (case hr => exact m10_q); intro gb326 hg w11 hbox hb; have BK326 := Ae_q (hbox); have GW326 := Ae_q ((by rw [hg]; exact (bZ_q (bel HB.out)) : w.heap.size ≤ gb326)); have GE326 := Ae_q ((by rw [hg]; exact (bZ_q (bel HB.out)) : w.heap.size ≤ gb326)); replace HB := Ae_q (bT_q (bel HB.out) hb); clear hb hbox hg; have hcz12_0 : cI w11 gb326 0 a0_0 := cZ BK326 0 rfl; have hcz12_1 : cI w11 gb326 1 a0_1 := cZ BK326 1 rfl; have hcz12_2 : cI w11 gb326 2 a0_2 := cZ BK326 2 rfl; have hfz12_0 := bF_q BK326.out 0; have hfz12_1 := bF_q BK326.out 1; have hfz12_2 := bF_q BK326.out 2) | ((with_reducible refine gC_q (f := 53) rfl ?_); refine gL_q (some 5) rfl rfl Tryd.func53 m6_q rfl #[.int .i64 a0_0, .int .i64 1, .int .i64 20] rfl m0_q ?_; (with_reducible refine (spec_l6In.calls a0_0 1 20 false _ A2.out).mono ?_); rintro e w' ⟨rfl, ⟨nd, rfl⟩⟩; refine ⟨_, rfl, ?_⟩))
  go_ret
  exact ⟨m3_q, m55_q⟩
 subst c3
 have H1 : ((spec_l6In.f a0_1 0 99).bind fun t328 => (if t328 = true then ((spec_l6In.f a0_2 1 9999).bind fun t329 => (some t329)) else (some false))) = some r := by rw [if_pos rfl] at H; exact H
 clear H
 have H := H1
 clear H1
 replace H := oB_q.mp H
 obtain ⟨t328, A40, H⟩ := H
 replace H : (if t328 = true then ((spec_l6In.f a0_2 1 9999).bind fun t329 => (some t329)) else (some false)) = some r := H
 have A4 := Ae_q A40
 clear A40
 by_cases c5 : t328 = true
 rotate_left
 ·replace c5 := fM_q.mpr c5
  subst c5
  have H1 : (some false) = some r := by rw [if_neg (show ¬ (false = true) by decide)] at H; exact H
  clear H
  have H := H1
  clear H1
  obtain rfl := oI_q H
  go_enter Tryd.func55, Tryd.ntmps55
  go_wp2_with (first | ((with_reducible refine gD_q (N := 1) rfl ?_); refine bE_q ?hg (N := 1) ?hd (cs := #[.int .i64 a0_0, .int .i64 a0_1, .int .i64 a0_2]) (t := 49) ?hr ?_; (case hd => rfl); (case hg => rfl); (case hr => exact m10_q); intro gb326 hg w9 hbox hb; have BK326 := Ae_q (hbox); have GW326 := Ae_q ((by rw [hg]; exact (bZ_q (bel HB.out)) : w.heap.size ≤ gb326)); have GE326 := Ae_q ((by rw [hg]; exact (bZ_q (bel HB.out)) : w.heap.size ≤ gb326)); replace HB := Ae_q (bT_q (bel HB.out) hb); clear hb hbox hg; have hcz10_0 : cI w9 gb326 0 a0_0 := cZ BK326 0 rfl; have hcz10_1 : cI w9 gb326 1 a0_1 := cZ BK326 1 rfl; have hcz10_2 : cI w9 gb326 2 a0_2 := cZ BK326 2 rfl; have hfz10_0 := bF_q BK326.out 0; have hfz10_1 := bF_q BK326.out 1; have hfz10_2 := bF_q BK326.out 2) | ((with_reducible refine gC_q (f := 53) rfl ?_); refine gL_q (some 5) rfl rfl Tryd.func53 m6_q rfl #[.int .i64 a0_0, .int .i64 1, .int .i64 20] rfl m0_q ?_; (with_reducible refine (spec_l6In.calls a0_0 1 20 true _ A2.out).mono ?_); rintro e w' ⟨rfl, ⟨nd, rfl⟩⟩; refine ⟨_, rfl, ?_⟩) | (go_at_call 53; (with_reducible refine (spec_l6In.calls a0_1 0 99 false _ A4.out).mono ?_); rintro e w' ⟨rfl, ⟨nd, rfl⟩⟩))
  go_ret
  exact ⟨m3_q, m55_q⟩
 subst c5
 have H1 : ((spec_l6In.f a0_2 1 9999).bind fun t329 => (some t329)) = some r := by rw [if_pos rfl] at H; exact H
 clear H
 have H := H1
 clear H1
 replace H := oB_q.mp H
 obtain ⟨t329, A60, H⟩ := H
 replace H : (some t329) = some r := H
 have A6 := Ae_q A60
 clear A60
 obtain rfl := oI_q H
 go_enter Tryd.func55, Tryd.ntmps55
 go_wp2_with (first | ((with_reducible refine gD_q (N := 1) rfl ?_); refine bE_q ?hg (N := 1) ?hd (cs := #[.int .i64 a0_0, .int .i64 a0_1, .int .i64 a0_2]) (t := 49) ?hr ?_; (case hd => rfl); (case hg => rfl); (case hr => exact m10_q); intro gb326 hg w7 hbox hb; have BK326 := Ae_q (hbox); have GW326 := Ae_q ((by rw [hg]; exact (bZ_q (bel HB.out)) : w.heap.size ≤ gb326)); have GE326 := Ae_q ((by rw [hg]; exact (bZ_q (bel HB.out)) : w.heap.size ≤ gb326)); replace HB := Ae_q (bT_q (bel HB.out) hb); clear hb hbox hg; have hcz8_0 : cI w7 gb326 0 a0_0 := cZ BK326 0 rfl; have hcz8_1 : cI w7 gb326 1 a0_1 := cZ BK326 1 rfl; have hcz8_2 : cI w7 gb326 2 a0_2 := cZ BK326 2 rfl; have hfz8_0 := bF_q BK326.out 0; have hfz8_1 := bF_q BK326.out 1; have hfz8_2 := bF_q BK326.out 2) | ((with_reducible refine gC_q (f := 53) rfl ?_); refine gL_q (some 5) rfl rfl Tryd.func53 m6_q rfl #[.int .i64 a0_0, .int .i64 1, .int .i64 20] rfl m0_q ?_; (with_reducible refine (spec_l6In.calls a0_0 1 20 true _ A2.out).mono ?_); rintro e w' ⟨rfl, ⟨nd, rfl⟩⟩; refine ⟨_, rfl, ?_⟩) | (go_at_call 53; (first | (with_reducible refine (spec_l6In.calls a0_1 0 99 true _ A4.out).mono ?_) | (with_reducible refine (spec_l6In.calls a0_2 1 9999 t329 _ A6.out).mono ?_)); rintro e w' ⟨rfl, ⟨nd, rfl⟩⟩))
 go_ret
 exact ⟨m3_q, m55_q⟩

def spec_l21Before.f (a0_0 : Int) (a0_1 : Int) (a0_2 : Int) (a1_0 : Int) (a1_1 : Int) (a1_2 : Int) : Option (Bool) := if a0_0 < a1_0 then (some true) else (if a0_0 = a1_0 then (some (decide (a0_1 < a1_1))) else (some false))
set_option maxHeartbeats 8000000 in
set_option maxRecDepth 100000 in
theorem spec_l21Before.calls (a0_0 : Int) (a0_1 : Int) (a0_2 : Int) (a1_0 : Int) (a1_1 : Int) (a1_2 : Int) (r : Bool) (w : World) (h : spec_l21Before.f a0_0 a0_1 a0_2 a1_0 a1_1 a1_2 = some r) :
    Calls Tryd.prog 69 #[.agg #[.int .i64 a0_0, .int .i64 a0_1, .int .i64 a0_2], .agg #[.int .i64 a1_0, .int .i64 a1_1, .int .i64 a1_2]] w fun e w' => e = .returned (.bool r) ∧ Below w.heap.size w w' := by
 have hu49 := Tryd.underlying49
 have HB := Ae_q (bR_q w.heap.size w)
 have H : (if a0_0 < a1_0 then (some true) else (if a0_0 = a1_0 then (some (decide (a0_1 < a1_1))) else (some false))) = some r := h
 clear h
 by_cases c3 : a0_0 < a1_0
 ·rw [if_pos c3] at H
  have c3b0 : decide (a0_0 < a1_0) = true := dT_q c3
  clear c3
  obtain rfl := oI_q H
  go_enter Tryd.func69, Tryd.ntmps69
  go_wp2_with (first | ((with_reducible refine gD_q (N := 2) rfl ?_); refine bE_q ?hg (N := 2) ?hd (cs := #[.int .i64 a0_0, .int .i64 a0_1, .int .i64 a0_2]) (t := 49) ?hr ?_; (case hd => rfl); (case hg => rfl); (case hr => exact m10_q); intro gb330 hg w' hbox hb; have BK330 := Ae_q (hbox); have GW330 := Ae_q ((by rw [hg]; exact (bZ_q (bel HB.out)) : w.heap.size ≤ gb330)); have GE330 := Ae_q ((by rw [hg]; exact (bZ_q (bel HB.out)) : w.heap.size ≤ gb330)); replace HB := Ae_q (bT_q (bel HB.out) hb); clear hb hbox hg) | ((with_reducible refine gD_q (N := 3) rfl ?_); refine bE_q ?hg (N := 3) ?hd (cs := #[.int .i64 a1_0, .int .i64 a1_1, .int .i64 a1_2]) (t := 49) ?hr ?_; (case hd => rfl); (case hg => rfl); (case hr => exact m10_q); intro gb331 hg w5 hbox hb; have BK331 := Ae_q (hbox); have GW331 := Ae_q ((by rw [hg]; exact (bZ_q m25_q) : w.heap.size ≤ gb331)); have GE331 := Ae_q ((by rw [hg]; exact (bZ_q m25_q) : w.heap.size ≤ gb331)); replace HB := Ae_q (bT_q m25_q hb); have NB330_331 := Ae_q ((by rw [hg]; exact nL_q (blk_lt (g := gb330) (o := .cells #[.int .i64 a0_0, .int .i64 a0_1, .int .i64 a0_2] 49 (0, 0)) (bup BK330.out)) : gb330 ≠ gb331)); have NB331_330 := Ae_q ((by rw [hg]; exact nG_q (blk_lt (g := gb330) (o := .cells #[.int .i64 a0_0, .int .i64 a0_1, .int .i64 a0_2] 49 (0, 0)) (bup BK330.out)) : gb331 ≠ gb330)); replace BK330 := Ae_q (bB_q (g := gb330) (o := .cells #[.int .i64 a0_0, .int .i64 a0_1, .int .i64 a0_2] 49 (0, 0)) (bup BK330.out) hb); clear hb hbox hg; have hnb6 := NB330_331.out; have hnc6 := NB331_330.out; have hcz7_0 : cI w5 gb330 0 a0_0 := cZ BK330 0 rfl; have hcz7_1 : cI w5 gb330 1 a0_1 := cZ BK330 1 rfl; have hcz7_2 : cI w5 gb330 2 a0_2 := cZ BK330 2 rfl; have hfz7_0 := bF_q BK330.out 0; have hfz7_1 := bF_q BK330.out 1; have hfz7_2 := bF_q BK330.out 2; have hcz8_0 : cI w5 gb331 0 a1_0 := cZ BK331 0 rfl; have hcz8_1 : cI w5 gb331 1 a1_1 := cZ BK331 1 rfl; have hcz8_2 : cI w5 gb331 2 a1_2 := cZ BK331 2 rfl; have hfz8_0 := bF_q BK331.out 0; have hfz8_1 := bF_q BK331.out 1; have hfz8_2 := bF_q BK331.out 2))
  go_ret
  exact ⟨m3_q, m43_q⟩
 rw [if_neg c3] at H
 have c3b0 : decide (a0_0 < a1_0) = false := dF_q c3
 clear c3
 by_cases c9 : a0_0 = a1_0
 ·rw [if_pos c9] at H
  have c9b0 : (a0_0 == a1_0) = true := beq_iff_eq.mpr c9
  have c9b1 : (a0_0 != a1_0) = false := nE_q.mpr c9
  clear c9
  obtain rfl := oI_q H
  go_enter Tryd.func69, Tryd.ntmps69
  go_wp2_with (first | ((with_reducible refine gD_q (N := 2) rfl ?_); refine bE_q ?hg (N := 2) ?hd (cs := #[.int .i64 a0_0, .int .i64 a0_1, .int .i64 a0_2]) (t := 49) ?hr ?_; (case hd => rfl); (case hg => rfl); (case hr => exact m10_q); intro gb330 hg w' hbox hb; have BK330 := Ae_q (hbox); have GW330 := Ae_q ((by rw [hg]; exact (bZ_q (bel HB.out)) : w.heap.size ≤ gb330)); have GE330 := Ae_q ((by rw [hg]; exact (bZ_q (bel HB.out)) : w.heap.size ≤ gb330)); replace HB := Ae_q (bT_q (bel HB.out) hb); clear hb hbox hg) | ((with_reducible refine gD_q (N := 3) rfl ?_); refine bE_q ?hg (N := 3) ?hd (cs := #[.int .i64 a1_0, .int .i64 a1_1, .int .i64 a1_2]) (t := 49) ?hr ?_; (case hd => rfl); (case hg => rfl); (case hr => exact m10_q); intro gb331 hg w11 hbox hb; have BK331 := Ae_q (hbox); have GW331 := Ae_q ((by rw [hg]; exact (bZ_q m25_q) : w.heap.size ≤ gb331)); have GE331 := Ae_q ((by rw [hg]; exact (bZ_q m25_q) : w.heap.size ≤ gb331)); replace HB := Ae_q (bT_q m25_q hb); have NB330_331 := Ae_q ((by rw [hg]; exact nL_q (blk_lt (g := gb330) (o := .cells #[.int .i64 a0_0, .int .i64 a0_1, .int .i64 a0_2] 49 (0, 0)) (bup BK330.out)) : gb330 ≠ gb331)); have NB331_330 := Ae_q ((by rw [hg]; exact nG_q (blk_lt (g := gb330) (o := .cells #[.int .i64 a0_0, .int .i64 a0_1, .int .i64 a0_2] 49 (0, 0)) (bup BK330.out)) : gb331 ≠ gb330)); replace BK330 := Ae_q (bB_q (g := gb330) (o := .cells #[.int .i64 a0_0, .int .i64 a0_1, .int .i64 a0_2] 49 (0, 0)) (bup BK330.out) hb); clear hb hbox hg; have hnb12 := NB330_331.out; have hnc12 := NB331_330.out; have hcz13_0 : cI w11 gb330 0 a0_0 := cZ BK330 0 rfl; have hcz13_1 : cI w11 gb330 1 a0_1 := cZ BK330 1 rfl; have hcz13_2 : cI w11 gb330 2 a0_2 := cZ BK330 2 rfl; have hfz13_0 := bF_q BK330.out 0; have hfz13_1 := bF_q BK330.out 1; have hfz13_2 := bF_q BK330.out 2; have hcz14_0 : cI w11 gb331 0 a1_0 := cZ BK331 0 rfl; have hcz14_1 : cI w11 gb331 1 a1_1 := cZ BK331 1 rfl; have hcz14_2 : cI w11 gb331 2 a1_2 := cZ BK331 2 rfl; have hfz14_0 := bF_q BK331.out 0; have hfz14_1 := bF_q BK331.out 1; have hfz14_2 := bF_q BK331.out 2))
  go_ret
  exact ⟨m3_q, m43_q⟩
 rw [if_neg c9] at H
 have c9b0 : (a0_0 == a1_0) = false := fN_q.mpr c9
 have c9b1 : (a0_0 != a1_0) = true := nI_q.mpr c9
 obtain rfl := oI_q H
 go_enter Tryd.func69, Tryd.ntmps69
 go_wp2_with (first | ((with_reducible refine gD_q (N := 2) rfl ?_); refine bE_q ?hg (N := 2) ?hd (cs := #[.int .i64 a0_0, .int .i64 a0_1, .int .i64 a0_2]) (t := 49) ?hr ?_; (case hd => rfl); (case hg => rfl); (case hr => exact m10_q); intro gb330 hg w' hbox hb; have BK330 := Ae_q (hbox); have GW330 := Ae_q ((by rw [hg]; exact (bZ_q (bel HB.out)) : w.heap.size ≤ gb330)); have GE330 := Ae_q ((by rw [hg]; exact (bZ_q (bel HB.out)) : w.heap.size ≤ gb330)); replace HB := Ae_q (bT_q (bel HB.out) hb); clear hb hbox hg) | ((with_reducible refine gD_q (N := 3) rfl ?_); refine bE_q ?hg (N := 3) ?hd (cs := #[.int .i64 a1_0, .int .i64 a1_1, .int .i64 a1_2]) (t := 49) ?hr ?_; (case hd => rfl); (case hg => rfl); (case hr => exact m10_q); intro gb331 hg w16 hbox hb; have BK331 := Ae_q (hbox); have GW331 := Ae_q ((by rw [hg]; exact (bZ_q m25_q) : w.heap.size ≤ gb331)); have GE331 := Ae_q ((by rw [hg]; exact (bZ_q m25_q) : w.heap.size ≤ gb331)); replace HB := Ae_q (bT_q m25_q hb); have NB330_331 := Ae_q ((by rw [hg]; exact nL_q (blk_lt (g := gb330) (o := .cells #[.int .i64 a0_0, .int .i64 a0_1, .int .i64 a0_2] 49 (0, 0)) (bup BK330.out)) : gb330 ≠ gb331)); have NB331_330 := Ae_q ((by rw [hg]; exact nG_q (blk_lt (g := gb330) (o := .cells #[.int .i64 a0_0, .int .i64 a0_1, .int .i64 a0_2] 49 (0, 0)) (bup BK330.out)) : gb331 ≠ gb330)); replace BK330 := Ae_q (bB_q (g := gb330) (o := .cells #[.int .i64 a0_0, .int .i64 a0_1, .int .i64 a0_2] 49 (0, 0)) (bup BK330.out) hb); clear hb hbox hg; have hnb17 := NB330_331.out; have hnc17 := NB331_330.out; have hcz18_0 : cI w16 gb330 0 a0_0 := cZ BK330 0 rfl; have hcz18_1 : cI w16 gb330 1 a0_1 := cZ BK330 1 rfl; have hcz18_2 : cI w16 gb330 2 a0_2 := cZ BK330 2 rfl; have hfz18_0 := bF_q BK330.out 0; have hfz18_1 := bF_q BK330.out 1; have hfz18_2 := bF_q BK330.out 2; have hcz19_0 : cI w16 gb331 0 a1_0 := cZ BK331 0 rfl; have hcz19_1 : cI w16 gb331 1 a1_1 := cZ BK331 1 rfl; have hcz19_2 : cI w16 gb331 2 a1_2 := cZ BK331 2 rfl; have hfz19_0 := bF_q BK331.out 0; have hfz19_1 := bF_q BK331.out 1; have hfz19_2 := bF_q BK331.out 2))
 go_ret
 exact ⟨m3_q, m43_q⟩

end Go.Proofs.YtbclhpibilbdbaaDoor.PSc
