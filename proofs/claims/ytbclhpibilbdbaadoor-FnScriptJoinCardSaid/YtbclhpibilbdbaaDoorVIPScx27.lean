import Derived.Test.YtbclhpibilbdbaaDoorVIPScx0
import Derived.Test.YtbclhpibilbdbaaDoorVIPScx26
namespace Go.Proofs.YtbclhpibilbdbaaDoor.PSc
open Go.RowKit Go.Proofs.YtbclhpibilbdbaaDoorW.PrintWords Go.Proofs.YtbclhpibilbdbaaDoorW.PrintLast Go.Proofs.YtbclhpibilbdbaaDoorW.PrintMore
attribute [local go_sem] max2_int min2_int max_two min_two max_three min_three max_four min_four
set_option linter.unusedVariables false
set_option linter.unusedSimpArgs false

def spec_l6Many.l0 : Nat → ByteArray → Int → ByteArray → Option (ByteArray)
 | 0, _, _, _ => none
 | k + 1, x0, x1, x5 => if x1 > 0 then (if (Int.tmod x1 2) = 1 then (if x5.size + x0.size ≤ 9223372036854775807 then (if x0.size + x0.size ≤ 9223372036854775807 then (spec_l6Many.l0 k (x0 ++ x0) (wrap64 (Int.tdiv x1 2)) (x5 ++ x0)) else (none)) else (none)) else (if x0.size + x0.size ≤ 9223372036854775807 then (spec_l6Many.l0 k (x0 ++ x0) (wrap64 (Int.tdiv x1 2)) x5) else (none))) else (some x5)
def spec_l6Many.f (k : Nat) (a0 : ByteArray) (a1 : Int) : Option (ByteArray) := spec_l6Many.l0 k a0 a1 (⟨#[]⟩ : ByteArray)
set_option maxHeartbeats 8000000 in
set_option maxRecDepth 100000 in
theorem spec_l6Many.calls (k : Nat) (a0 : ByteArray) (a1 : Int) (r : ByteArray) (w : World) (h : spec_l6Many.f k a0 a1 = some r) :
    Calls Tryd.prog 20 #[.string a0, .int .i64 a1] w fun e w' => e = .returned (.string r) ∧ Drawn0 w w' := by
 have H : (spec_l6Many.l0 k a0 a1 (⟨#[]⟩ : ByteArray)) = some r := h
 clear h
 have H' := Ae_q H
 clear H
 go_enter Tryd.func20, Tryd.ntmps20
 go_wp2
 go_loopg [0, 1, 5] k (fun kq v0 v1 v5 w' => ∃ (x0_1 : ByteArray) (x1_1 : Int) (x5_1 : ByteArray), v0 = .string x0_1 ∧ v1 = .int .i64 x1_1 ∧ v5 = .string x5_1 ∧ Aside0 (spec_l6Many.l0 kq x0_1 x1_1 x5_1 = some r) ∧ Aside0 (kq ≤ k) ∧ Drawn0 w w')
 case atStart => exact ⟨(a0), (a1), ((⟨#[]⟩ : ByteArray)), m1_q, m1_q, m1_q, H', ⟨nR_q _⟩, m19_q⟩
 case round =>
  clear H'
  try clear c2
  try clear p2
  obtain ⟨x0_1, x1_1, x5_1, rfl, rfl, rfl, HA, HK1, ⟨m1, rfl⟩⟩ := hrel
  cases gk with
  | zero => exact absurd HA.out (by simp [spec_l6Many.l0])
  | succ k1 =>
   have H := HA.out
   clear HA
   simp only [spec_l6Many.l0] at H
   by_cases c3 : x1_1 > 0
   rotate_left
   ·rw [if_neg c3] at H
    have c3b0 : decide (0 < x1_1) = false := dF_q c3
    clear c3
    obtain rfl := oI_q H
    go_wp2
    go_ret
    exact ⟨m1_q, m19_q⟩
   rw [if_pos c3] at H
   have c3b0 : decide (0 < x1_1) = true := dT_q c3
   clear c3
   by_cases c4 : (Int.tmod x1_1 2) = 1
   rotate_left
   ·rw [if_neg c4] at H
    have c4b0 : ((Int.tmod x1_1 2) == 1) = false := fN_q.mpr c4
    have c4b1 : ((Int.tmod x1_1 2) != 1) = true := nI_q.mpr c4
    by_cases c7 : x0_1.size + x0_1.size ≤ 9223372036854775807
    rotate_left
    ·rw [if_neg c7] at H
     exact absurd H (by simp)
    rw [if_pos c7] at H
    have c7b0 := eq_true c7
    have c7b1 : decide (x0_1.size + x0_1.size ≤ 9223372036854775807) = true := dT_q c7
    try have c7b2 : (9223372036854775807 < x0_1.size + x0_1.size) = False := eq_false (Nat.not_lt.2 c7)
    have H' := Ae_q H
    clear H
    go_wp2
    go_roundg k1
    case measure => have := HK1.out; omega
    case rel => exact ⟨(x0_1 ++ x0_1), (wrap64 (Int.tdiv x1_1 2)), (x5_1), m1_q, m1_q, m1_q, H', ⟨m41_q⟩, m19_q⟩
   rw [if_pos c4] at H
   have c4b0 : ((Int.tmod x1_1 2) == 1) = true := beq_iff_eq.mpr c4
   have c4b1 : ((Int.tmod x1_1 2) != 1) = false := nE_q.mpr c4
   clear c4
   by_cases c5 : x5_1.size + x0_1.size ≤ 9223372036854775807
   rotate_left
   ·rw [if_neg c5] at H
    exact absurd H (by simp)
   rw [if_pos c5] at H
   have c5b0 := eq_true c5
   have c5b1 : decide (x5_1.size + x0_1.size ≤ 9223372036854775807) = true := dT_q c5
   try have c5b2 : (9223372036854775807 < x5_1.size + x0_1.size) = False := eq_false (Nat.not_lt.2 c5)
   by_cases c6 : x0_1.size + x0_1.size ≤ 9223372036854775807
   rotate_left
   ·rw [if_neg c6] at H
    exact absurd H (by simp)
   rw [if_pos c6] at H
   have c6b0 := eq_true c6
   have c6b1 : decide (x0_1.size + x0_1.size ≤ 9223372036854775807) = true := dT_q c6
   try have c6b2 : (9223372036854775807 < x0_1.size + x0_1.size) = False := eq_false (Nat.not_lt.2 c6)
   have H' := Ae_q H
   clear H
   go_wp2
   go_roundg k1
   case measure => have := HK1.out; omega
   case rel => exact ⟨(x0_1 ++ x0_1), (wrap64 (Int.tdiv x1_1 2)), (x5_1 ++ x0_1), m1_q, m1_q, m1_q, H', ⟨m41_q⟩, m19_q⟩

mutual
def spec_DrawExecute.l0 : Nat → ByteArray → Int → Int → List Int → Int → Option (ByteArray)
 | 0, _, _, _, _, _ => none
 | k + 1, x4, x5, x6, x526000, x526001 => if x6 < x5 then ((spec_l92Line.f k x526000 x526001).bind fun bt528 => (if x4.size + bt528.1.size ≤ 9223372036854775807 then (if (x4 ++ bt528.1).size + 1 ≤ 9223372036854775807 then (spec_DrawExecute.l0 k ((x4 ++ bt528.1) ++ (⟨#[10]⟩ : ByteArray)) x5 (wrap64 (x6 + 1)) x526000 bt528.2) else (none)) else (none))) else ((spec_l6Rd_pick.f k x526000 x526001 24).bind fun bt530 => (if bt530.1 = 0 then ((spec_l6Rd_pick.f k x526000 bt530.2 4).bind fun bt532 => ((spec_l6Many.f k (⟨#[112, 117, 116, 32, 49, 32, 50, 32, 51, 10]⟩ : ByteArray) (wrap64 (58 + bt532.1))).bind fun t534 => (if x4.size + t534.size ≤ 9223372036854775807 then (spec_DrawExecute.j1 k (x4 ++ t534) x526000 bt532.2) else (none)))) else (spec_DrawExecute.j1 k x4 x526000 bt530.2)))
def spec_DrawExecute.j1 : Nat → ByteArray → List Int → Int → Option (ByteArray)
 | 0, _, _, _ => none
 | k + 1, x4, x526000, x526001 => (spec_l6Rd_pick.f k x526000 x526001 8).bind fun bt535 => (if bt535.1 = 0 then ((spec_l92Line.f k x526000 bt535.2).bind fun bt537 => (if x4.size + bt537.1.size ≤ 9223372036854775807 then (some (x4 ++ bt537.1)) else (none))) else (some x4))
end
def spec_DrawExecute.f (k : Nat) (l0 : List Int) : Option (ByteArray) := (spec_l6Open.f l0).bind fun bt523 => ((spec_l6Rd_pick.f k bt523.1 bt523.2 20).bind fun bt526 => (spec_DrawExecute.l0 k (⟨#[]⟩ : ByteArray) bt526.1 0 bt523.1 bt526.2))
set_option maxHeartbeats 8000000 in
set_option maxRecDepth 100000 in
theorem spec_DrawExecute.calls (k : Nat) (A0 : Option Addr) (c0 : Nat) (l0 : List Int) (r : ByteArray) (w : World) (hr0 : Kd.C (Kd.int .u8) w A0 l0.length l0) (hc0 : l0.length ≤ c0) (h : spec_DrawExecute.f k l0 = some r) :
    Calls Tryd.prog 12 #[.slice A0 l0.length c0] w fun e w' => e = .returned (.string r) ∧ Below w.heap.size w w' := by
 have HR0 := Ae_q hr0
 have HC0 := Ae_q hc0
 clear hr0 hc0
 have HB := Ae_q (bR_q w.heap.size w)
 have H : ((spec_l6Open.f l0).bind fun bt523 => ((spec_l6Rd_pick.f k bt523.1 bt523.2 20).bind fun bt526 => (spec_DrawExecute.l0 k (⟨#[]⟩ : ByteArray) bt526.1 0 bt523.1 bt526.2))) = some r := h
 clear h
 replace H := oB_q.mp H
 obtain ⟨⟨t523, t524⟩, A20, H⟩ := H
 replace H : ((spec_l6Rd_pick.f k t523 t524 20).bind fun bt526 => (spec_DrawExecute.l0 k (⟨#[]⟩ : ByteArray) bt526.1 0 t523 bt526.2)) = some r := H
 have A2 := Ae_q A20
 clear A20
 replace H := oB_q.mp H
 obtain ⟨⟨t526, t527⟩, A30, H⟩ := H
 replace H : (spec_DrawExecute.l0 k (⟨#[]⟩ : ByteArray) t526 0 t523 t527) = some r := H
 have A3 := Ae_q A30
 clear A30
 have H' := Ae_q H
 clear H
 go_enter Tryd.func12, Tryd.ntmps12
 go_wp2_with (first | ((first | ((with_reducible refine gC_q (f := 17) rfl ?_); refine gL_q (some 8) rfl rfl Tryd.func17 m7_q rfl #[.slice A0 l0.length c0] rfl m0_q ?_; (with_reducible refine (spec_l6Open.calls _ _ l0 t523 t524 w _ ?side1 ?side2 ?side3 A2.out).mono ?_); (case side1 => exact m69_q); (case side2 => exact HR0.out); (case side3 => exact m62_q); rintro e w' ⟨g525, rfl, hi, hb, hb2⟩; refine ⟨_, rfl, ?_⟩; have n0_ := Ae_q (hb); have n1_ := Ae_q (hi); clear HB) | ((with_reducible refine gC_q (f := 18) rfl ?_); refine gL_q (some 10) rfl rfl Tryd.func18 m7_q rfl #[.pointer (some ⟨g525, 0, none⟩), .int .i64 20] rfl m0_q ?_; (with_reducible refine (spec_l6Rd_pick.calls k g525 t523 t524 20 t526 t527 w _ ?side1 ?side2 A3.out).mono ?_); (case side1 => exact m30_q); (case side2 => exact m22_q); rintro e w' ⟨rfl, hi, hb, hk⟩; refine ⟨_, rfl, ?_⟩; have n0_ := Ae_q (hb); have n1_ := Ae_q (hi); clear HB; clear HI525)); have HB := n0_; have HI525 := n1_; clear n0_ n1_; (try clear hb); (try clear hb2); (try clear hk); (try clear hi)))
 go_loopg [4, 6] k (fun kq v4 v6 w' => ∃ (x4_1 : ByteArray) (x6_1 : Int) (x526001_1 : Int), v4 = .string x4_1 ∧ v6 = .int .i64 x6_1 ∧ Aside0 (spec_DrawExecute.l0 kq x4_1 t526 x6_1 t523 x526001_1 = some r) ∧ Aside0 (kq ≤ k) ∧ Aside0 (IsS39 w w' g525 t523 x526001_1) ∧ Aside0 (Below w.heap.size w w'))
 case atStart => exact ⟨((⟨#[]⟩ : ByteArray)), (0), (t527), m1_q, m1_q, H', ⟨nR_q _⟩, ⟨m30_q⟩, ⟨m22_q⟩⟩
 case round =>
  clear H'
  try clear c1
  try clear p2
  obtain ⟨x4_1, x6_1, x526001_1, rfl, rfl, HA, HK1, HI525, HB⟩ := hrel
  cases gk with
  | zero => exact absurd HA.out (by simp [spec_DrawExecute.l0])
  | succ k1 =>
   have H := HA.out
   clear HA
   simp only [spec_DrawExecute.l0] at H
   by_cases c6 : x6_1 < t526
   ·rw [if_pos c6] at H
    have c6b0 : decide (x6_1 < t526) = true := dT_q c6
    clear c6
    replace H := oB_q.mp H
    obtain ⟨⟨t528, t529⟩, A70, H⟩ := H
    replace H : (if x4_1.size + t528.size ≤ 9223372036854775807 then (if (x4_1 ++ t528).size + 1 ≤ 9223372036854775807 then (spec_DrawExecute.l0 k1 ((x4_1 ++ t528) ++ (⟨#[10]⟩ : ByteArray)) t526 (wrap64 (x6_1 + 1)) t523 t529) else (none)) else (none)) = some r := H
    have A7 := Ae_q A70
    clear A70
    by_cases c8 : x4_1.size + t528.size ≤ 9223372036854775807
    rotate_left
    ·rw [if_neg c8] at H
     exact absurd H (by simp)
    rw [if_pos c8] at H
    have c8b0 := eq_true c8
    have c8b1 : decide (x4_1.size + t528.size ≤ 9223372036854775807) = true := dT_q c8
    try have c8b2 : (9223372036854775807 < x4_1.size + t528.size) = False := eq_false (Nat.not_lt.2 c8)
    by_cases c9 : (x4_1 ++ t528).size + 1 ≤ 9223372036854775807
    rotate_left
    ·rw [if_neg c9] at H
     exact absurd H (by simp)
    rw [if_pos c9] at H
    have c9b0 := eq_true c9
    have c9b1 : decide ((x4_1 ++ t528).size + 1 ≤ 9223372036854775807) = true := dT_q c9
    try have c9b2 : (9223372036854775807 < (x4_1 ++ t528).size + 1) = False := eq_false (Nat.not_lt.2 c9)
    have c9b3 : (9223372036854775807 < x4_1.size + t528.size + 1) = False := eq_false (by have h_ := c9; simp only [ByteArray.size_append] at h_; omega)
    have H' := Ae_q H
    clear H
    go_wp2_with (first | ((with_reducible refine gC_q (f := 19) rfl ?_); refine gL_q (some 18) rfl rfl Tryd.func19 m7_q rfl #[.pointer (some ⟨g525, 0, none⟩)] rfl m0_q ?_; (with_reducible refine (spec_l92Line.calls k1 g525 t523 x526001_1 t528 t529 w _ ?side1 ?side2 A7.out).mono ?_); (case side1 => exact m30_q); (case side2 => exact m22_q); rintro e w' ⟨rfl, hi, hb, hk⟩; refine ⟨_, rfl, ?_⟩; replace HB := Ae_q (hb); replace HI525 := Ae_q (hi); (try clear hb); (try clear hb2); (try clear hk); (try clear hi)))
    go_roundg k1
    case measure => have := HK1.out; omega
    case rel => exact ⟨((x4_1 ++ t528) ++ (⟨#[10]⟩ : ByteArray)), (wrap64 (x6_1 + 1)), (t529), m1_q, m1_q, H', ⟨m41_q⟩, ⟨m30_q⟩, ⟨m22_q⟩⟩
   rw [if_neg c6] at H
   have c6b0 : decide (x6_1 < t526) = false := dF_q c6
   clear c6
   replace H := oB_q.mp H
   obtain ⟨⟨t530, t531⟩, A110, H⟩ := H
   replace H : (if t530 = 0 then ((spec_l6Rd_pick.f k1 t523 t531 4).bind fun bt532 => ((spec_l6Many.f k1 (⟨#[112, 117, 116, 32, 49, 32, 50, 32, 51, 10]⟩ : ByteArray) (wrap64 (58 + bt532.1))).bind fun t534 => (if x4_1.size + t534.size ≤ 9223372036854775807 then (spec_DrawExecute.j1 k1 (x4_1 ++ t534) t523 bt532.2) else (none)))) else (spec_DrawExecute.j1 k1 x4_1 t523 t531)) = some r := H
   have A11 := Ae_q A110
   clear A110
   have HC12 := Ae_q H
   clear H
   go_upto_if 23 with (first | ((with_reducible refine gC_q (f := 18) rfl ?_); refine gL_q (some 22) rfl rfl Tryd.func18 m7_q rfl #[.pointer (some ⟨g525, 0, none⟩), .int .i64 24] rfl m0_q ?_; (with_reducible refine (spec_l6Rd_pick.calls k1 g525 t523 x526001_1 24 t530 t531 w _ ?side1 ?side2 A11.out).mono ?_); (case side1 => exact m30_q); (case side2 => exact m22_q); rintro e w' ⟨rfl, hi, hb, hk⟩; refine ⟨_, rfl, ?_⟩; replace HB := Ae_q (hb); replace HI525 := Ae_q (hi); (try clear hb); (try clear hb2); (try clear hk); (try clear hi)))
   (try simp only [Act.put, sA_q, sZ_q, sS_q])
   go_cut [4] (fun v4 wc => ∃ (kq : Nat) (x4_11 : ByteArray) (x526001_11 : Int), v4 = .string x4_11 ∧ Aside0 (spec_DrawExecute.j1 kq x4_11 t523 x526001_11 = some r) ∧ Aside0 (kq ≤ k1) ∧ Aside0 (IsS39 w wc g525 t523 x526001_11) ∧ Aside0 (Below w.heap.size w wc))
   case first =>
    have H := HC12.out
    clear HC12
    by_cases c14 : t530 = 0
    rotate_left
    ·rw [if_neg c14] at H
     have c14b0 : (t530 == 0) = false := fN_q.mpr c14
     have c14b1 : (t530 != 0) = true := nI_q.mpr c14
     (first | rw [c14b0] | (simp only [i64_w, i32_w]; rw [c14b0]) | skip)
     have H' := Ae_q H
     clear H
     go_wp2
     go_meet
     case rel => exact ⟨_, (x4_1), (t531), m1_q, H', ⟨m44_q⟩, ⟨m30_q⟩, ⟨m22_q⟩⟩
    rw [if_pos c14] at H
    have c14b0 : (t530 == 0) = true := beq_iff_eq.mpr c14
    have c14b1 : (t530 != 0) = false := nE_q.mpr c14
    clear c14
    (first | rw [c14b0] | (simp only [i64_w, i32_w]; rw [c14b0]) | skip)
    replace H := oB_q.mp H
    obtain ⟨⟨t532, t533⟩, A150, H⟩ := H
    replace H : ((spec_l6Many.f k1 (⟨#[112, 117, 116, 32, 49, 32, 50, 32, 51, 10]⟩ : ByteArray) (wrap64 (58 + t532))).bind fun t534 => (if x4_1.size + t534.size ≤ 9223372036854775807 then (spec_DrawExecute.j1 k1 (x4_1 ++ t534) t523 t533) else (none))) = some r := H
    have A15 := Ae_q A150
    clear A150
    replace H := oB_q.mp H
    obtain ⟨t534, A160, H⟩ := H
    replace H : (if x4_1.size + t534.size ≤ 9223372036854775807 then (spec_DrawExecute.j1 k1 (x4_1 ++ t534) t523 t533) else (none)) = some r := H
    have A16 := Ae_q A160
    clear A160
    by_cases c17 : x4_1.size + t534.size ≤ 9223372036854775807
    rotate_left
    ·rw [if_neg c17] at H
     exact absurd H (by simp)
    rw [if_pos c17] at H
    have c17b0 := eq_true c17
    have c17b1 : decide (x4_1.size + t534.size ≤ 9223372036854775807) = true := dT_q c17
    try have c17b2 : (9223372036854775807 < x4_1.size + t534.size) = False := eq_false (Nat.not_lt.2 c17)
    have H' := Ae_q H
    clear H
    go_wp2_with (first | ((with_reducible refine gC_q (f := 18) rfl ?_); refine gL_q (some 26) rfl rfl Tryd.func18 m7_q rfl #[.pointer (some ⟨g525, 0, none⟩), .int .i64 4] rfl m0_q ?_; (with_reducible refine (spec_l6Rd_pick.calls k1 g525 t523 t531 4 t532 t533 w _ ?side1 ?side2 A15.out).mono ?_); (case side1 => exact m30_q); (case side2 => exact m22_q); rintro e w' ⟨rfl, hi, hb, hk⟩; refine ⟨_, rfl, ?_⟩; replace HB := Ae_q (hb); replace HI525 := Ae_q (hi); (try clear hb); (try clear hb2); (try clear hk); (try clear hi)) | ((with_reducible refine gC_q (f := 20) rfl ?_); refine gL_q (some 28) rfl rfl Tryd.func20 m7_q rfl #[.string (⟨#[112, 117, 116, 32, 49, 32, 50, 32, 51, 10]⟩ : ByteArray), .int .i64 (wrap64 (58 + t532))] rfl m0_q ?_; (with_reducible refine (spec_l6Many.calls k1 (⟨#[112, 117, 116, 32, 49, 32, 50, 32, 51, 10]⟩ : ByteArray) (wrap64 (58 + t532)) t534 _ A16.out).mono ?_); rintro e w' ⟨rfl, ⟨nd, rfl⟩⟩; refine ⟨_, rfl, ?_⟩))
    go_meet
    case rel => exact ⟨_, (x4_1 ++ t534), (t533), m1_q, H', ⟨m44_q⟩, ⟨m30_q⟩, ⟨m22_q⟩⟩
   case rest =>
    clear HC12
    try clear c1
    try clear c2
    try clear p2
    try clear c6
    try clear c6b0
    try clear p6
    try clear c8
    try clear c8b0
    try clear c8b1
    try clear c8b2
    try clear c9
    try clear c9b0
    try clear c9b1
    try clear c9b2
    try clear c12
    try clear c14
    try clear c14b0
    try clear c14b1
    try clear c17
    try clear c17b0
    try clear c17b1
    try clear c17b2
    try clear c18
    try clear p2
    obtain ⟨kq, x4_11, x526001_11, rfl, HA, HJ11, HI525, HB⟩ := hcut
    cases kq with
    | zero => exact absurd HA.out (by simp [spec_DrawExecute.j1])
    | succ kj11 =>
     have H := HA.out
     clear HA
     simp only [spec_DrawExecute.j1] at H
     replace H := oB_q.mp H
     obtain ⟨⟨t535, t536⟩, A190, H⟩ := H
     replace H : (if t535 = 0 then ((spec_l92Line.f kj11 t523 t536).bind fun bt537 => (if x4_11.size + bt537.1.size ≤ 9223372036854775807 then (some (x4_11 ++ bt537.1)) else (none))) else (some x4_11)) = some r := H
     have A19 := Ae_q A190
     clear A190
     by_cases c20 : t535 = 0
     rotate_left
     ·rw [if_neg c20] at H
      have c20b0 : (t535 == 0) = false := fN_q.mpr c20
      have c20b1 : (t535 != 0) = true := nI_q.mpr c20
      obtain rfl := oI_q H
      go_wp2_with (first | ((with_reducible refine gC_q (f := 18) rfl ?_); refine gL_q (some 31) rfl rfl Tryd.func18 m7_q rfl #[.pointer (some ⟨g525, 0, none⟩), .int .i64 8] rfl m0_q ?_; (with_reducible refine (spec_l6Rd_pick.calls kj11 g525 t523 x526001_11 8 t535 t536 w _ ?side1 ?side2 A19.out).mono ?_); (case side1 => exact m30_q); (case side2 => exact m22_q); rintro e w' ⟨rfl, hi, hb, hk⟩; refine ⟨_, rfl, ?_⟩; replace HB := Ae_q (hb); replace HI525 := Ae_q (hi); (try clear hb); (try clear hb2); (try clear hk); (try clear hi)))
      go_ret
      exact ⟨m3_q, m22_q⟩
     rw [if_pos c20] at H
     have c20b0 : (t535 == 0) = true := beq_iff_eq.mpr c20
     have c20b1 : (t535 != 0) = false := nE_q.mpr c20
     clear c20
     replace H := oB_q.mp H
     obtain ⟨⟨t537, t538⟩, A210, H⟩ := H
     replace H : (if x4_11.size + t537.size ≤ 9223372036854775807 then (some (x4_11 ++ t537)) else (none)) = some r := H
     have A21 := Ae_q A210
     clear A210
     by_cases c22 : x4_11.size + t537.size ≤ 9223372036854775807
     rotate_left
     ·rw [if_neg c22] at H
      exact absurd H (by simp)
     rw [if_pos c22] at H
     have c22b0 := eq_true c22
     have c22b1 : decide (x4_11.size + t537.size ≤ 9223372036854775807) = true := dT_q c22
     try have c22b2 : (9223372036854775807 < x4_11.size + t537.size) = False := eq_false (Nat.not_lt.2 c22)
     obtain rfl := oI_q H
     go_wp2_with (first | ((first | ((with_reducible refine gC_q (f := 18) rfl ?_); refine gL_q (some 31) rfl rfl Tryd.func18 m7_q rfl #[.pointer (some ⟨g525, 0, none⟩), .int .i64 8] rfl m0_q ?_; (with_reducible refine (spec_l6Rd_pick.calls kj11 g525 t523 x526001_11 8 t535 t536 w _ ?side1 ?side2 A19.out).mono ?_)) | ((with_reducible refine gC_q (f := 19) rfl ?_); refine gL_q (some 35) rfl rfl Tryd.func19 m7_q rfl #[.pointer (some ⟨g525, 0, none⟩)] rfl m0_q ?_; (with_reducible refine (spec_l92Line.calls kj11 g525 t523 t536 t537 t538 w _ ?side1 ?side2 A21.out).mono ?_))); (case side1 => exact m30_q); (case side2 => exact m22_q); rintro e w' ⟨rfl, hi, hb, hk⟩; refine ⟨_, rfl, ?_⟩; replace HB := Ae_q (hb); replace HI525 := Ae_q (hi); (try clear hb); (try clear hb2); (try clear hk); (try clear hi)))
     go_ret
     exact ⟨m3_q, m22_q⟩

end Go.Proofs.YtbclhpibilbdbaaDoor.PSc
