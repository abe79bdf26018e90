import Derived.Test.YtbclhpibilbdbaaDoorVJPScx0
import Derived.Test.YtbclhpibilbdbaaDoorVJPScx17
namespace Go.Proofs.YtbclhpibilbdbaaDoor.PSc
open Go.RowKit Go.Proofs.YtbclhpibilbdbaaDoorW.PrintWords Go.Proofs.YtbclhpibilbdbaaDoorW.PrintLast Go.Proofs.YtbclhpibilbdbaaDoorW.PrintMore
attribute [local go_sem] max2_int min2_int max_two min_two max_three min_three max_four min_four
set_option linter.unusedVariables false
set_option linter.unusedSimpArgs false

def spec_l51Lots.l0 : Nat → List (S49) → ByteArray → Int → Option (ByteArray)
 | 0, _, _, _ => none
 | k + 1, x1, x5, x6 => if x6 < (x1.length : Int) then (if x5.size + 1 ≤ 9223372036854775807 then (if 0 ≤ x6 then ((spec_l6Dec.f k ((rd_T49 x1 x6).f0)).bind fun t311 => (if (x5 ++ (⟨#[32]⟩ : ByteArray)).size + t311.size ≤ 9223372036854775807 then (if ((x5 ++ (⟨#[32]⟩ : ByteArray)) ++ t311).size + 1 ≤ 9223372036854775807 then ((spec_l6Dec.f k ((rd_T49 x1 x6).f1)).bind fun t313 => (if (((x5 ++ (⟨#[32]⟩ : ByteArray)) ++ t311) ++ (⟨#[58]⟩ : ByteArray)).size + t313.size ≤ 9223372036854775807 then (if ((((x5 ++ (⟨#[32]⟩ : ByteArray)) ++ t311) ++ (⟨#[58]⟩ : ByteArray)) ++ t313).size + 1 ≤ 9223372036854775807 then ((spec_l6Dec.f k ((rd_T49 x1 x6).f2)).bind fun t315 => (if (((((x5 ++ (⟨#[32]⟩ : ByteArray)) ++ t311) ++ (⟨#[58]⟩ : ByteArray)) ++ t313) ++ (⟨#[58]⟩ : ByteArray)).size + t315.size ≤ 9223372036854775807 then (spec_l51Lots.l0 k x1 ((((((x5 ++ (⟨#[32]⟩ : ByteArray)) ++ t311) ++ (⟨#[58]⟩ : ByteArray)) ++ t313) ++ (⟨#[58]⟩ : ByteArray)) ++ t315) (wrap64 (x6 + 1))) else (none))) else (none)) else (none))) else (none)) else (none))) else (none)) else (none)) else (if x5.size + 1 ≤ 9223372036854775807 then (some (x5 ++ (⟨#[10]⟩ : ByteArray))) else (none))
def spec_l51Lots.f (k : Nat) (a0 : ByteArray) (l1 : List (S49)) : Option (ByteArray) := spec_l51Lots.l0 k l1 a0 0
def spec_l51Lots.T5 : Bool × List (List Nat × List Nat) := (true, [([], []), ([0], [0]), ([], []), ([], []), ([2, 3], [2, 3]), ([4], [4]), ([5], [5]), ([6], [6]), ([1, 7], [1, 7]), ([8], [8]), ([], []), ([], []), ([10, 11], [10, 11]), ([12], [12]), ([13], [13]), ([14, 7], [14]), ([9, 15], [9, 15]), ([16], [16]), ([], []), ([], []), ([18, 19], [18, 19]), ([20], [20]), ([21], [21]), ([22, 15], [22]), ([17, 23], [17, 23]), ([24, 23, 0, 1, 2, 3, 4, 5, 6, 7, 8, 9, 10, 11, 12, 13, 14, 15, 16, 17, 18, 19, 20, 21, 22, 23, 24], [0, 24])])
def spec_l51Lots.B5 : List Nat := [0, 1, 0, 0, 12, 28, 60, 124, 255, 511, 0, 0, 3072, 7168, 15360, 31996, 65535, 131071, 0, 0, 786432, 1835008, 3932160, 8191228, 16777215, 33554431]
theorem spec_l51Lots.tab5 : rtab .any (opsOf Tryd.f25 5) = spec_l51Lots.T5 := by kernel_rfl
theorem spec_l51Lots.bits5 : waitsOk spec_l51Lots.T5.2 spec_l51Lots.B5 = true := by kernel_rfl
set_option maxHeartbeats 8000000 in
set_option maxRecDepth 100000 in
theorem spec_l51Lots.calls (k : Nat) (a0 : ByteArray) (A1 : Option Addr) (c1 : Nat) (l1 : List (S49)) (r : ByteArray) (w : World) (hr1 : Kd.C k49 w A1 l1.length l1) (hc1 : l1.length ≤ c1) (h : spec_l51Lots.f k a0 l1 = some r) :
    Calls Tryd.prog 25 #[.string a0, .slice A1 l1.length c1] w fun e w' => e = .returned (.string r) ∧ Below w.heap.size w w' := by
 have HR1 := Ae_q hr1
 have HC1 := Ae_q hc1
 clear hr1 hc1
 have HB := Ae_q (bR_q w.heap.size w)
 have H : (spec_l51Lots.l0 k l1 a0 0) = some r := h
 clear h
 have H' := Ae_q H
 clear H
 go_enter Tryd.func25, Tryd.ntmps25
 go_wp2
 go_loopg [5, 6] k (fun kq v5 v6 w' => ∃ (x5_1 : ByteArray) (x6_1 : Int), v5 = .string x5_1 ∧ v6 = .int .i64 x6_1 ∧ Aside0 (spec_l51Lots.l0 kq l1 x5_1 x6_1 = some r) ∧ Aside0 (kq ≤ k) ∧ Aside0 (Below w.heap.size w w'))
 case atStart => exact ⟨(a0), (0), m2_q, m2_q, H', ⟨nR_q _⟩, ⟨bel HB.out⟩⟩
 case round =>
  clear H'
  try clear c1
  try clear c2
  try clear p2
  obtain ⟨x5_1, x6_1, rfl, rfl, HA, HK1, HB⟩ := hrel
  cases gk with
  | zero => exact absurd HA.out (by simp [spec_l51Lots.l0])
  | succ k1 =>
   have H := HA.out
   clear HA
   simp only [spec_l51Lots.l0] at H
   by_cases c3 : x6_1 < (l1.length : Int)
   rotate_left
   ·rw [if_neg c3] at H
    have c3b0 : decide (x6_1 < (l1.length : Int)) = false := dF_q c3
    clear c3
    by_cases c18 : x5_1.size + 1 ≤ 9223372036854775807
    rotate_left
    ·rw [if_neg c18] at H
     exact absurd H (by simp)
    rw [if_pos c18] at H
    have c18b0 := eq_true c18
    have c18b1 : decide (x5_1.size + 1 ≤ 9223372036854775807) = true := dT_q c18
    try have c18b2 : (9223372036854775807 < x5_1.size + 1) = False := eq_false (Nat.not_lt.2 c18)
    obtain rfl := oI_q H
    go_wp2
    go_ret
    exact ⟨m3_q, bel HB.out⟩
   rw [if_pos c3] at H
   have c3b0 : decide (x6_1 < (l1.length : Int)) = true := dT_q c3
   clear c3
   by_cases c4 : x5_1.size + 1 ≤ 9223372036854775807
   rotate_left
   ·rw [if_neg c4] at H
    exact absurd H (by simp)
   rw [if_pos c4] at H
   have c4b0 := eq_true c4
   have c4b1 : decide (x5_1.size + 1 ≤ 9223372036854775807) = true := dT_q c4
   try have c4b2 : (9223372036854775807 < x5_1.size + 1) = False := eq_false (Nat.not_lt.2 c4)
   by_cases c5 : 0 ≤ x6_1
   rotate_left
   ·rw [if_neg c5] at H
    exact absurd H (by simp)
   rw [if_pos c5] at H
   have c5b0 : decide (0 ≤ x6_1) = true := dT_q c5
   clear c5
   replace H := oB_q.mp H
   obtain ⟨t311, A60, H⟩ := H
   replace H : (if (x5_1 ++ (⟨#[32]⟩ : ByteArray)).size + t311.size ≤ 9223372036854775807 then (if ((x5_1 ++ (⟨#[32]⟩ : ByteArray)) ++ t311).size + 1 ≤ 9223372036854775807 then ((spec_l6Dec.f k1 ((rd_T49 l1 x6_1).f1)).bind fun t313 => (if (((x5_1 ++ (⟨#[32]⟩ : ByteArray)) ++ t311) ++ (⟨#[58]⟩ : ByteArray)).size + t313.size ≤ 9223372036854775807 then (if ((((x5_1 ++ (⟨#[32]⟩ : ByteArray)) ++ t311) ++ (⟨#[58]⟩ : ByteArray)) ++ t313).size + 1 ≤ 9223372036854775807 then ((spec_l6Dec.f k1 ((rd_T49 l1 x6_1).f2)).bind fun t315 => (if (((((x5_1 ++ (⟨#[32]⟩ : ByteArray)) ++ t311) ++ (⟨#[58]⟩ : ByteArray)) ++ t313) ++ (⟨#[58]⟩ : ByteArray)).size + t315.size ≤ 9223372036854775807 then (spec_l51Lots.l0 k1 l1 ((((((x5_1 ++ (⟨#[32]⟩ : ByteArray)) ++ t311) ++ (⟨#[58]⟩ : ByteArray)) ++ t313) ++ (⟨#[58]⟩ : ByteArray)) ++ t315) (wrap64 (x6_1 + 1))) else (none))) else (none)) else (none))) else (none)) else (none)) = some r := H
   have A6 := Ae_q A60
   clear A60
   by_cases c7 : (x5_1 ++ (⟨#[32]⟩ : ByteArray)).size + t311.size ≤ 9223372036854775807
   rotate_left
   ·rw [if_neg c7] at H
    exact absurd H (by simp)
   rw [if_pos c7] at H
   have c7b0 := eq_true c7
   have c7b1 : decide ((x5_1 ++ (⟨#[32]⟩ : ByteArray)).size + t311.size ≤ 9223372036854775807) = true := dT_q c7
   try have c7b2 : (9223372036854775807 < (x5_1 ++ (⟨#[32]⟩ : ByteArray)).size + t311.size) = False := eq_false (Nat.not_lt.2 c7)
   have c7b3 : (9223372036854775807 < x5_1.size + 1 + t311.size) = False := eq_false (by have h_ := c7; have e0_ : (⟨#[32]⟩ : ByteArray).size = 1 := rfl; simp only [ByteArray.size_append, e0_] at h_; omega)
   by_cases c8 : ((x5_1 ++ (⟨#[32]⟩ : ByteArray)) ++ t311).size + 1 ≤ 9223372036854775807
   rotate_left
   ·rw [if_neg c8] at H
    exact absurd H (by simp)
   rw [if_pos c8] at H
   have c8b0 := eq_true c8
   have c8b1 : decide (((x5_1 ++ (⟨#[32]⟩ : ByteArray)) ++ t311).size + 1 ≤ 9223372036854775807) = true := dT_q c8
   try have c8b2 : (9223372036854775807 < ((x5_1 ++ (⟨#[32]⟩ : ByteArray)) ++ t311).size + 1) = False := eq_false (Nat.not_lt.2 c8)
   have c8b3 : (9223372036854775807 < x5_1.size + 1 + t311.size + 1) = False := eq_false (by have h_ := c8; have e0_ : (⟨#[32]⟩ : ByteArray).size = 1 := rfl; simp only [ByteArray.size_append, e0_] at h_; omega)
   replace H := oB_q.mp H
   obtain ⟨t313, A90, H⟩ := H
   replace H : (if (((x5_1 ++ (⟨#[32]⟩ : ByteArray)) ++ t311) ++ (⟨#[58]⟩ : ByteArray)).size + t313.size ≤ 9223372036854775807 then (if ((((x5_1 ++ (⟨#[32]⟩ : ByteArray)) ++ t311) ++ (⟨#[58]⟩ : ByteArray)) ++ t313).size + 1 ≤ 9223372036854775807 then ((spec_l6Dec.f k1 ((rd_T49 l1 x6_1).f2)).bind fun t315 => (if (((((x5_1 ++ (⟨#[32]⟩ : ByteArray)) ++ t311) ++ (⟨#[58]⟩ : ByteArray)) ++ t313) ++ (⟨#[58]⟩ : ByteArray)).size + t315.size ≤ 9223372036854775807 then (spec_l51Lots.l0 k1 l1 ((((((x5_1 ++ (⟨#[32]⟩ : ByteArray)) ++ t311) ++ (⟨#[58]⟩ : ByteArray)) ++ t313) ++ (⟨#[58]⟩ : ByteArray)) ++ t315) (wrap64 (x6_1 + 1))) else (none))) else (none)) else (none)) = some r := H
   have A9 := Ae_q A90
   clear A90
   by_cases c10 : (((x5_1 ++ (⟨#[32]⟩ : ByteArray)) ++ t311) ++ (⟨#[58]⟩ : ByteArray)).size + t313.size ≤ 9223372036854775807
   rotate_left
   ·rw [if_neg c10] at H
    exact absurd H (by simp)
   rw [if_pos c10] at H
   have c10b0 := eq_true c10
   have c10b1 : decide ((((x5_1 ++ (⟨#[32]⟩ : ByteArray)) ++ t311) ++ (⟨#[58]⟩ : ByteArray)).size + t313.size ≤ 9223372036854775807) = true := dT_q c10
   try have c10b2 : (9223372036854775807 < (((x5_1 ++ (⟨#[32]⟩ : ByteArray)) ++ t311) ++ (⟨#[58]⟩ : ByteArray)).size + t313.size) = False := eq_false (Nat.not_lt.2 c10)
   have c10b3 : (9223372036854775807 < x5_1.size + 1 + t311.size + 1 + t313.size) = False := eq_false (by have h_ := c10; have e0_ : (⟨#[32]⟩ : ByteArray).size = 1 := rfl; have e1_ : (⟨#[58]⟩ : ByteArray).size = 1 := rfl; simp only [ByteArray.size_append, e0_, e1_] at h_; omega)
   by_cases c11 : ((((x5_1 ++ (⟨#[32]⟩ : ByteArray)) ++ t311) ++ (⟨#[58]⟩ : ByteArray)) ++ t313).size + 1 ≤ 9223372036854775807
   rotate_left
   ·rw [if_neg c11] at H
    exact absurd H (by simp)
   rw [if_pos c11] at H
   have c11b0 := eq_true c11
   have c11b1 : decide (((((x5_1 ++ (⟨#[32]⟩ : ByteArray)) ++ t311) ++ (⟨#[58]⟩ : ByteArray)) ++ t313).size + 1 ≤ 9223372036854775807) = true := dT_q c11
   try have c11b2 : (9223372036854775807 < ((((x5_1 ++ (⟨#[32]⟩ : ByteArray)) ++ t311) ++ (⟨#[58]⟩ : ByteArray)) ++ t313).size + 1) = False := eq_false (Nat.not_lt.2 c11)
   have c11b3 : (9223372036854775807 < x5_1.size + 1 + t311.size + 1 + t313.size + 1) = False := eq_false (by have h_ := c11; have e0_ : (⟨#[32]⟩ : ByteArray).size = 1 := rfl; have e1_ : (⟨#[58]⟩ : ByteArray).size = 1 := rfl; simp only [ByteArray.size_append, e0_, e1_] at h_; omega)
   replace H := oB_q.mp H
   obtain ⟨t315, A120, H⟩ := H
   replace H : (if (((((x5_1 ++ (⟨#[32]⟩ : ByteArray)) ++ t311) ++ (⟨#[58]⟩ : ByteArray)) ++ t313) ++ (⟨#[58]⟩ : ByteArray)).size + t315.size ≤ 9223372036854775807 then (spec_l51Lots.l0 k1 l1 ((((((x5_1 ++ (⟨#[32]⟩ : ByteArray)) ++ t311) ++ (⟨#[58]⟩ : ByteArray)) ++ t313) ++ (⟨#[58]⟩ : ByteArray)) ++ t315) (wrap64 (x6_1 + 1))) else (none)) = some r := H
   have A12 := Ae_q A120
   clear A120
   by_cases c13 : (((((x5_1 ++ (⟨#[32]⟩ : ByteArray)) ++ t311) ++ (⟨#[58]⟩ : ByteArray)) ++ t313) ++ (⟨#[58]⟩ : ByteArray)).size + t315.size ≤ 9223372036854775807
   rotate_left
   ·rw [if_neg c13] at H
    exact absurd H (by simp)
   rw [if_pos c13] at H
   have c13b0 := eq_true c13
   have c13b1 : decide ((((((x5_1 ++ (⟨#[32]⟩ : ByteArray)) ++ t311) ++ (⟨#[58]⟩ : ByteArray)) ++ t313) ++ (⟨#[58]⟩ : ByteArray)).size + t315.size ≤ 9223372036854775807) = true := dT_q c13
   try have c13b2 : (9223372036854775807 < (((((x5_1 ++ (⟨#[32]⟩ : ByteArray)) ++ t311) ++ (⟨#[58]⟩ : ByteArray)) ++ t313) ++ (⟨#[58]⟩ : ByteArray)).size + t315.size) = False := eq_false (Nat.not_lt.2 c13)
   have c13b3 : (9223372036854775807 < x5_1.size + 1 + t311.size + 1 + t313.size + 1 + t315.size) = False := eq_false (by have h_ := c13; have e0_ : (⟨#[32]⟩ : ByteArray).size = 1 := rfl; have e1_ : (⟨#[58]⟩ : ByteArray).size = 1 := rfl; simp only [ByteArray.size_append, e0_, e1_] at h_; omega)
   have H' := Ae_q H
   clear H
   try go_wp2
   replace HB := Ae_q (bD_q HB.out)
   have p310 : 0 ≤ (x6_1 : Int) := oD_q (by assumption)
   have q310 : x6_1 < (l1.length : Int) := oD_q (by assumption)
   obtain ⟨ad310, e310, hx310_0, hx310_1, hx310_2⟩ := at_T49 HR1.out x6_1 p310 q310
   have hw310_2 := hx310_2
   have hw310_1 := hx310_1
   have hw310_0 := hx310_0
   cases e310
   replace hx310_0 := cel HB.out hx310_0
   replace hx310_1 := cel HB.out hx310_1
   replace hx310_2 := cel HB.out hx310_2
   replace p310 := eq_true p310
   replace q310 := eq_true q310
   have p312 : 0 ≤ (x6_1 : Int) := oD_q (by assumption)
   have q312 : x6_1 < (l1.length : Int) := oD_q (by assumption)
   obtain ⟨ad312, e312, hx312_0, hx312_1, hx312_2⟩ := at_T49 HR1.out x6_1 p312 q312
   have hw312_2 := hx312_2
   have hw312_1 := hx312_1
   have hw312_0 := hx312_0
   obtain rfl : ad310 = ad312 := (by injection e312)
   replace hx312_0 := cel HB.out hx312_0
   replace hx312_1 := cel HB.out hx312_1
   replace hx312_2 := cel HB.out hx312_2
   replace p312 := eq_true p312
   replace q312 := eq_true q312
   have p314 : 0 ≤ (x6_1 : Int) := oD_q (by assumption)
   have q314 : x6_1 < (l1.length : Int) := oD_q (by assumption)
   obtain ⟨ad314, e314, hx314_0, hx314_1, hx314_2⟩ := at_T49 HR1.out x6_1 p314 q314
   have hw314_2 := hx314_2
   have hw314_1 := hx314_1
   have hw314_0 := hx314_0
   obtain rfl : ad310 = ad314 := (by injection e314)
   replace hx314_0 := cel HB.out hx314_0
   replace hx314_1 := cel HB.out hx314_1
   replace hx314_2 := cel HB.out hx314_2
   replace p314 := eq_true p314
   replace q314 := eq_true q314
   refine start_ (n := 26) (S := fun w' => w'.cell? (ad310.add ((x6_1).toNat * 3)) = some (.int .i64 ((rd_T49 l1 x6_1).f0)) ∧ w'.cell? ⟨(ad310.add ((x6_1).toNat * 3)).block, (ad310.add ((x6_1).toNat * 3)).off + 1, none⟩ = some (.int .i64 ((rd_T49 l1 x6_1).f1)) ∧ w'.cell? ⟨(ad310.add ((x6_1).toNat * 3)).block, (ad310.add ((x6_1).toNat * 3)).off + 2, none⟩ = some (.int .i64 ((rd_T49 l1 x6_1).f2)) ∧ w'.cell? (ad310.add ((x6_1).toNat * 3)) = some (.int .i64 ((rd_T49 l1 x6_1).f0)) ∧ w'.cell? ⟨(ad310.add ((x6_1).toNat * 3)).block, (ad310.add ((x6_1).toNat * 3)).off + 1, none⟩ = some (.int .i64 ((rd_T49 l1 x6_1).f1)) ∧ w'.cell? ⟨(ad310.add ((x6_1).toNat * 3)).block, (ad310.add ((x6_1).toNat * 3)).off + 2, none⟩ = some (.int .i64 ((rd_T49 l1 x6_1).f2)) ∧ w'.cell? (ad310.add ((x6_1).toNat * 3)) = some (.int .i64 ((rd_T49 l1 x6_1).f0)) ∧ w'.cell? ⟨(ad310.add ((x6_1).toNat * 3)).block, (ad310.add ((x6_1).toNat * 3)).off + 1, none⟩ = some (.int .i64 ((rd_T49 l1 x6_1).f1)) ∧ w'.cell? ⟨(ad310.add ((x6_1).toNat * 3)).block, (ad310.add ((x6_1).toNat * 3)).off + 2, none⟩ = some (.int .i64 ((rd_T49 l1 x6_1).f2))) (ds := []) #[false, false, false, false, false, false, false, false, false, false, false, false, false, false, false, false, false, false, false, false, false, false, false, false, false, false] m6_q rfl rfl ⟨(cel HB.out hw310_0), (cel HB.out hw310_1), (cel HB.out hw310_2), (cel HB.out hw312_0), (cel HB.out hw312_1), (cel HB.out hw312_2), (cel HB.out hw314_0), (cel HB.out hw314_1), (cel HB.out hw314_2)⟩ (fun hHeld => ?_); refine with_tabW spec_l51Lots.tab5 spec_l51Lots.bits5 (fun HT_ HW_ => ?_)
   generalize wr.drew = w14 at HB hx310_0 hx310_1 hx310_2 hx312_0 hx312_1 hx312_2 hx314_0 hx314_1 hx314_2 hHeld ⊢
   refine pJ HT_ 0 14 rfl rfl ?_
   refine pJ HT_ 1 15 rfl rfl ?_
   refine pJ HT_ 2 16 rfl rfl ?_
   refine pJ HT_ 3 17 rfl rfl ?_
   refine pJ HT_ 4 18 rfl rfl ?_
   refine pJ HT_ 5 19 rfl rfl ?_
   refine pJ HT_ 10 24 rfl rfl ?_
   refine pJ HT_ 11 25 rfl rfl ?_
   refine pJ HT_ 12 26 rfl rfl ?_
   refine pJ HT_ 13 27 rfl rfl ?_
   refine pJ HT_ 18 32 rfl rfl ?_
   refine pJ HT_ 19 33 rfl rfl ?_
   refine pJ HT_ 20 34 rfl rfl ?_
   refine pJ HT_ 21 35 rfl rfl ?_
   refine take_ (i := 6) (N := some 20) (v := ?_) (a' := ?_) #[true, true, true, true, true, true, true, false, false, false, true, true, true, true, false, false, false, false, true, true, true, true, false, false, false, false] rfl rfl (take_ofW HT_.out HW_.out m6_q) (fun _ _ _ h => h) (Or.inl ⟨by rfl, ?_⟩) hHeld ?_ ?_
   rotate_left
   ·rintro w' ⟨s0, s1, s2, s3, s4, s5, s6, s7, s8⟩
    go_simp
    with_reducible rfl
   rotate_left
   ·simp only [pS_q]
    rfl
   refine take_ (i := 14) (N := some 28) (v := ?_) (a' := ?_) #[true, true, true, true, true, true, true, false, false, false, true, true, true, true, true, false, false, false, true, true, true, true, false, false, false, false] rfl rfl (take_ofW HT_.out HW_.out m6_q) (fun _ _ _ h => h) (Or.inl ⟨by rfl, ?_⟩) hHeld ?_ ?_
   rotate_left
   ·rintro w' ⟨s0, s1, s2, s3, s4, s5, s6, s7, s8⟩
    go_simp
    with_reducible rfl
   rotate_left
   ·simp only [pS_q]
    rfl
   refine take_ (i := 22) (N := some 36) (v := ?_) (a' := ?_) #[true, true, true, true, true, true, true, false, false, false, true, true, true, true, true, false, false, false, true, true, true, true, true, false, false, false] rfl rfl (take_ofW HT_.out HW_.out m6_q) (fun _ _ _ h => h) (Or.inl ⟨by rfl, ?_⟩) hHeld ?_ ?_
   rotate_left
   ·rintro w' ⟨s0, s1, s2, s3, s4, s5, s6, s7, s8⟩
    go_simp
    with_reducible rfl
   rotate_left
   ·simp only [pS_q]
    rfl
   refine one_ (i := 7) (N := some 21) #[true, true, true, true, true, true, true, true, false, false, true, true, true, true, true, false, false, false, true, true, true, true, true, false, false, false] rfl rfl (one_of HT_.out m6_q) (by decide) (fun K hK => ?_)
   refine goes_ Tryd.func26 m6_q rfl #[.int .i64 ((rd_T49 l1 x6_1).f0)] (by rfl) rfl rfl m0_q ?_
   with_reducible refine (spec_l6Dec.calls k1 ((rd_T49 l1 x6_1).f0) t311 _ A6.out).mono ?_
   rintro e w' ⟨rfl, hb⟩
   refine ⟨_, rfl, ?_⟩
   replace HB := Ae_q (bT_q (bel HB.out) hb)
   (try clear hb)
   (try clear hb2)
   (try clear hk)
   (try clear hi)
   refine hK.out _ _ ⟨(cel HB.out hw310_0), (cel HB.out hw310_1), (cel HB.out hw310_2), (cel HB.out hw312_0), (cel HB.out hw312_1), (cel HB.out hw312_2), (cel HB.out hw314_0), (cel HB.out hw314_1), (cel HB.out hw314_2)⟩ (fun hHeld => ?_)
   clear hK K
   refine nJ_q ?_
   refine pJ HT_ 8 22 rfl rfl ?_
   refine pJ HT_ 9 23 rfl rfl ?_
   refine one_ (i := 15) (N := some 29) #[true, true, true, true, true, true, true, true, true, true, true, true, true, true, true, true, false, false, true, true, true, true, true, false, false, false] rfl rfl (one_of HT_.out m6_q) (by decide) (fun K hK => ?_)
   refine goes_ Tryd.func26 m6_q rfl #[.int .i64 ((rd_T49 l1 x6_1).f1)] (by rfl) rfl rfl m0_q ?_
   with_reducible refine (spec_l6Dec.calls k1 ((rd_T49 l1 x6_1).f1) t313 _ A9.out).mono ?_
   rintro e w16 ⟨rfl, hb⟩
   refine ⟨_, rfl, ?_⟩
   replace HB := Ae_q (bT_q (bel HB.out) hb)
   (try clear hb)
   (try clear hb2)
   (try clear hk)
   (try clear hi)
   refine hK.out _ _ ⟨(cel HB.out hw310_0), (cel HB.out hw310_1), (cel HB.out hw310_2), (cel HB.out hw312_0), (cel HB.out hw312_1), (cel HB.out hw312_2), (cel HB.out hw314_0), (cel HB.out hw314_1), (cel HB.out hw314_2)⟩ (fun hHeld => ?_)
   clear hK K
   refine nJ_q ?_
   refine pJ HT_ 16 30 rfl rfl ?_
   refine pJ HT_ 17 31 rfl rfl ?_
   refine one_ (i := 23) (N := some 37) #[true, true, true, true, true, true, true, true, true, true, true, true, true, true, true, true, true, true, true, true, true, true, true, true, false, false] rfl rfl (one_of HT_.out m6_q) (by decide) (fun K hK => ?_)
   refine goes_ Tryd.func26 m6_q rfl #[.int .i64 ((rd_T49 l1 x6_1).f2)] (by rfl) rfl rfl m0_q ?_
   with_reducible refine (spec_l6Dec.calls k1 ((rd_T49 l1 x6_1).f2) t315 _ A12.out).mono ?_
   rintro e w' ⟨rfl, hb⟩
   refine ⟨_, rfl, ?_⟩
   replace HB := Ae_q (bT_q (bel HB.out) hb)
   (try clear hb)
   (try clear hb2)
   (try clear hk)
   (try clear hi)
   refine hK.out _ _ ⟨(cel HB.out hw310_0), (cel HB.out hw310_1), (cel HB.out hw310_2), (cel HB.out hw312_0), (cel HB.out hw312_1), (cel HB.out hw312_2), (cel HB.out hw314_0), (cel HB.out hw314_1), (cel HB.out hw314_2)⟩ (fun hHeld => ?_)
   clear hK K
   refine nJ_q ?_
   refine pJ HT_ 24 38 rfl rfl ?_
   refine pJ HT_ 25 5 rfl rfl ?_
   refine done_ (done_of HT_.out m6_q) ?_
   try go_wp2
   go_roundg k1
   case measure => have := HK1.out; omega
   case rel => exact ⟨((((((x5_1 ++ (⟨#[32]⟩ : ByteArray)) ++ t311) ++ (⟨#[58]⟩ : ByteArray)) ++ t313) ++ (⟨#[58]⟩ : ByteArray)) ++ t315), (wrap64 (x6_1 + 1)), m2_q, m2_q, H', ⟨m38_q⟩, ⟨bel HB.out⟩⟩

def spec_l51Cut.l0 : Nat → ByteArray → List ByteArray → Int → Int → Option (List ByteArray)
 | 0, _, _, _, _ => none
 | k + 1, x0, x3, x4, x5 => if x5 < (x0.size : Int) then (if 0 ≤ x5 then (if (bt x0 x5) = 32 then (if 0 ≤ x4 then (if x4 ≤ x5 then (if x5 ≤ (x0.size : Int) then (if x3.length < 8796093022208 then (spec_l51Cut.l0 k x0 (x3 ++ [x0.extract (x4 : Int).toNat (x5 : Int).toNat]) (wrap64 (x5 + 1)) (wrap64 (x5 + 1))) else (none)) else (none)) else (none)) else (none)) else (spec_l51Cut.l0 k x0 x3 x4 (wrap64 (x5 + 1)))) else (none)) else (if 0 ≤ x4 then (if x4 ≤ (x0.size : Int) then (if x3.length < 8796093022208 then (some (x3 ++ [x0.extract (x4 : Int).toNat x0.size])) else (none)) else (none)) else (none))
def spec_l51Cut.f (k : Nat) (a0 : ByteArray) : Option (List ByteArray) := spec_l51Cut.l0 k a0 (([] : List ByteArray)) 0 0
set_option maxHeartbeats 8000000 in
set_option maxRecDepth 100000 in
theorem spec_l51Cut.calls (k : Nat) (a0 : ByteArray) (r : List ByteArray) (w : World) (h : spec_l51Cut.f k a0 = some r) :
    Calls Tryd.prog 35 #[.string a0] w fun e w' => ∃ v0_ : Value, e = .returned (v0_) ∧ Kd.R Kd.string 9 w' w.heap.size (fun _ => True) v0_ r ∧ Below w.heap.size w w' := by
 have HB := Ae_q (bR_q w.heap.size w)
 have H : (spec_l51Cut.l0 k a0 (([] : List ByteArray)) 0 0) = some r := h
 clear h
 obtain ⟨y316, hy316⟩ : ∃ y_ : List ByteArray, y_ = (([] : List ByteArray)) := ⟨_, rfl⟩
 replace H : (spec_l51Cut.l0 k a0 y316 0 0) = some r := by first | (rw [hy316]; with_reducible exact H) | (have H2_ := (oS_q _ _).symm.trans H; rw [hy316]; with_reducible exact H2_) | (have H2_ := (oS_q _ _).symm.trans H; with_reducible exact H2_) | with_reducible exact H | (rw [hy316]; exact H) | exact H
 have Ny316 := Ae_q hy316
 clear hy316
 have H' := Ae_q H
 clear H
 go_enter Tryd.func35, Tryd.ntmps35
 go_wp2_with (first | ((with_reducible refine gD_q (N := 6) rfl ?_); refine Kd.R_lit Kd.string _ 9 ?hg (N := 6) ?hd (xs := ([] : List ByteArray)) (inner := []) (ok := fun _ => True) (okp := fun _ => True) ?hr ?hp (fun _ hk => hk) trivial (bR_q _ _) (nR_q _) (by simp) ?_; (case hd => rfl); (case hg => rfl); (case hr => exact m10_q); (case hp => exact m46_q); intro v317 w2 ho3 hb hg_ hnew_; clear hg_ hnew_; (first | rw [← Ny316.out] at ho3 | (simp only [Int.reduceToNat] at ho3; rw [← Ny316.out] at ho3)); have HO318 := Ae_q (rL_q ho3 (bZ_q (bel HB.out))); replace HB := Ae_q (bT_q (bel HB.out) hb); clear hb ho3))
 go_loopg [3, 4, 5] k (fun kq v3 v4 v5 w' => ∃ (x3_1 : List ByteArray) (x4_1 : Int) (x5_1 : Int), v4 = .int .i64 x4_1 ∧ v5 = .int .i64 x5_1 ∧ Aside0 (spec_l51Cut.l0 kq a0 x3_1 x4_1 x5_1 = some r) ∧ Aside0 (kq ≤ k) ∧ Aside0 (Kd.R Kd.string 9 w' w.heap.size (fun _ => True) v3 x3_1) ∧ Aside0 (Below w.heap.size w w'))
 case atStart => exact ⟨(y316), (0), (0), m2_q, m2_q, H', ⟨nR_q _⟩, ⟨rup HO318.out⟩, ⟨bel HB.out⟩⟩
 case round =>
  clear H'
  try clear p2
  try clear c3
  obtain ⟨x3_1, x4_1, x5_1, rfl, rfl, HA, HK1, HO_3, HB⟩ := hrel
  cases gk with
  | zero => exact absurd HA.out (by simp [spec_l51Cut.l0])
  | succ k1 =>
   have H := HA.out
   clear HA
   simp only [spec_l51Cut.l0] at H
   by_cases c4 : x5_1 < (a0.size : Int)
   rotate_left
   ·rw [if_neg c4] at H
    have c4b0 : decide (x5_1 < (a0.size : Int)) = false := dF_q c4
    clear c4
    by_cases c13 : 0 ≤ x4_1
    rotate_left
    ·rw [if_neg c13] at H
     exact absurd H (by simp)
    rw [if_pos c13] at H
    have c13b0 := eq_true c13
    have c13b1 : decide (0 ≤ x4_1) = true := dT_q c13
    clear c13
    by_cases c14 : x4_1 ≤ (a0.size : Int)
    rotate_left
    ·rw [if_neg c14] at H
     exact absurd H (by simp)
    rw [if_pos c14] at H
    have c14b0 := eq_true c14
    have c14b1 : decide (x4_1 ≤ (a0.size : Int)) = true := dT_q c14
    clear c14
    by_cases c15 : x3_1.length < 8796093022208
    rotate_left
    ·rw [if_neg c15] at H
     exact absurd H (by simp)
    rw [if_pos c15] at H
    have LMc15 := Ae_q c15
    clear c15
    obtain ⟨y322, hy322⟩ : ∃ y_ : List ByteArray, y_ = (x3_1 ++ [a0.extract (x4_1 : Int).toNat a0.size]) := ⟨_, rfl⟩
    replace H : (some y322) = some r := by first | (rw [hy322]; with_reducible exact H) | (have H2_ := (oS_q _ _).symm.trans H; rw [hy322]; with_reducible exact H2_) | (have H2_ := (oS_q _ _).symm.trans H; with_reducible exact H2_) | with_reducible exact H | (rw [hy322]; exact H) | exact H
    have Ny322 := Ae_q hy322
    clear hy322
    obtain rfl := oI_q H
    go_wp2_with (first | ((with_reducible refine gate_builtin (b := .append) (xs := #[.tmp 26, .tmp 30]) rfl ?_); at_builtin; refine Kd.R_append Kd.string (w0 := w) w.heap.size rfl (.tmp 26) (.tmp 30) 33 9 (.string ⟨#[]⟩) 16 rfl Tryd.underlying33 info9 rfl (by decide) (by omega) u3 x3_1 (a0.extract (x4_1 : Int).toNat a0.size) [.string (a0.extract (x4_1 : Int).toNat a0.size)] (fun _ => True) (fun _ => False) rfl rfl ?aP (fun _ hk => hk.elim) ?aF ?aO ?aB ?aS ?aL ?_; (case aP => exact rfl); (case aB => exact m98_q); (case aF => exact (fun _ _ => trivial)); (case aO => exact (rup HO_3.out)); (case aS => exact m95_q); (case aL => have := LMc15.out; omega); intro v323 w16 ho hb hg hat; rw [← Ny322.out] at ho; replace HB := Ae_q (hb); have HO324 := Ae_q (ho); clear HO_3; clear ho hb hg hat))
    go_ret
    exact ⟨_, m3_q, rup HO324.out, bel HB.out⟩
   rw [if_pos c4] at H
   have c4b0 : decide (x5_1 < (a0.size : Int)) = true := dT_q c4
   clear c4
   by_cases c5 : 0 ≤ x5_1
   rotate_left
   ·rw [if_neg c5] at H
    exact absurd H (by simp)
   rw [if_pos c5] at H
   have c5b0 : decide (0 ≤ x5_1) = true := dT_q c5
   clear c5
   by_cases c7 : (bt a0 x5_1) = 32
   rotate_left
   ·rw [if_neg c7] at H
    have c7b0 : ((bt a0 x5_1) == 32) = false := fN_q.mpr c7
    have c7b1 : ((bt a0 x5_1) != 32) = true := nI_q.mpr c7
    have H' := Ae_q H
    clear H
    have p6 : 0 ≤ (x5_1 : Int) := oD_q (by assumption)
    have q6 : x5_1 < (a0.size : Int) := oD_q (by assumption)
    have hx6 := bt_at a0 x5_1
    replace p6 := eq_true p6
    replace q6 := eq_true q6
    go_wp2
    go_roundg k1
    case measure => have := HK1.out; omega
    case rel => exact ⟨(x3_1), (x4_1), (wrap64 (x5_1 + 1)), m2_q, m2_q, H', ⟨m38_q⟩, ⟨rup HO_3.out⟩, ⟨bel HB.out⟩⟩
   rw [if_pos c7] at H
   have c7b0 : ((bt a0 x5_1) == 32) = true := beq_iff_eq.mpr c7
   have c7b1 : ((bt a0 x5_1) != 32) = false := nE_q.mpr c7
   clear c7
   by_cases c8 : 0 ≤ x4_1
   rotate_left
   ·rw [if_neg c8] at H
    exact absurd H (by simp)
   rw [if_pos c8] at H
   have c8b0 := eq_true c8
   have c8b1 : decide (0 ≤ x4_1) = true := dT_q c8
   clear c8
   by_cases c9 : x4_1 ≤ x5_1
   rotate_left
   ·rw [if_neg c9] at H
    exact absurd H (by simp)
   rw [if_pos c9] at H
   have c9b0 := eq_true c9
   have c9b1 : decide (x4_1 ≤ x5_1) = true := dT_q c9
   clear c9
   by_cases c10 : x5_1 ≤ (a0.size : Int)
   rotate_left
   ·rw [if_neg c10] at H
    exact absurd H (by simp)
   rw [if_pos c10] at H
   have c10b0 := eq_true c10
   have c10b1 : decide (x5_1 ≤ (a0.size : Int)) = true := dT_q c10
   clear c10
   by_cases c11 : x3_1.length < 8796093022208
   rotate_left
   ·rw [if_neg c11] at H
    exact absurd H (by simp)
   rw [if_pos c11] at H
   have LMc11 := Ae_q c11
   clear c11
   obtain ⟨y319, hy319⟩ : ∃ y_ : List ByteArray, y_ = (x3_1 ++ [a0.extract (x4_1 : Int).toNat (x5_1 : Int).toNat]) := ⟨_, rfl⟩
   replace H : (spec_l51Cut.l0 k1 a0 y319 (wrap64 (x5_1 + 1)) (wrap64 (x5_1 + 1))) = some r := by first | (rw [hy319]; with_reducible exact H) | (have H2_ := (oS_q _ _).symm.trans H; rw [hy319]; with_reducible exact H2_) | (have H2_ := (oS_q _ _).symm.trans H; with_reducible exact H2_) | with_reducible exact H | (rw [hy319]; exact H) | exact H
   have Ny319 := Ae_q hy319
   clear hy319
   have H' := Ae_q H
   clear H
   have p6 : 0 ≤ (x5_1 : Int) := oD_q (by assumption)
   have q6 : x5_1 < (a0.size : Int) := oD_q (by assumption)
   have hx6 := bt_at a0 x5_1
   replace p6 := eq_true p6
   replace q6 := eq_true q6
   go_wp2_with (first | ((with_reducible refine gate_builtin (b := .append) (xs := #[.tmp 17, .tmp 22]) rfl ?_); at_builtin; refine Kd.R_append Kd.string (w0 := w) w.heap.size rfl (.tmp 17) (.tmp 22) 33 9 (.string ⟨#[]⟩) 16 rfl Tryd.underlying33 info9 rfl (by decide) (by omega) u3 x3_1 (a0.extract (x4_1 : Int).toNat (x5_1 : Int).toNat) [.string (a0.extract (x4_1 : Int).toNat (x5_1 : Int).toNat)] (fun _ => True) (fun _ => False) rfl rfl ?aP (fun _ hk => hk.elim) ?aF ?aO ?aB ?aS ?aL ?_; (case aP => exact rfl); (case aB => exact m98_q); (case aF => exact (fun _ _ => trivial)); (case aO => exact (rup HO_3.out)); (case aS => exact m95_q); (case aL => have := LMc11.out; omega); intro v320 w12 ho hb hg hat; rw [← Ny319.out] at ho; replace HB := Ae_q (hb); have HO321 := Ae_q (ho); clear HO_3; clear ho hb hg hat))
   go_roundg k1
   case measure => have := HK1.out; omega
   case rel => exact ⟨(y319), (wrap64 (x5_1 + 1)), (wrap64 (x5_1 + 1)), m2_q, m2_q, H', ⟨m38_q⟩, ⟨rup HO321.out⟩, ⟨bel HB.out⟩⟩

def spec_l6In.f (a0 : Int) (a1 : Int) (a2 : Int) : Option (Bool) := if a0 ≥ a1 then (some (decide (a0 ≤ a2))) else (some false)
set_option maxHeartbeats 8000000 in
set_option maxRecDepth 100000 in
theorem spec_l6In.calls (a0 : Int) (a1 : Int) (a2 : Int) (r : Bool) (w : World) (h : spec_l6In.f a0 a1 a2 = some r) :
    Calls Tryd.prog 53 #[.int .i64 a0, .int .i64 a1, .int .i64 a2] w fun e w' => e = .returned (.bool r) ∧ Drawn0 w w' := by
 have H : (if a0 ≥ a1 then (some (decide (a0 ≤ a2))) else (some false)) = some r := h
 clear h
 by_cases c4 : a0 ≥ a1
 ·rw [if_pos c4] at H
  have c4b0 : decide (a1 ≤ a0) = true := dT_q c4
  clear c4
  obtain rfl := oI_q H
  go_enter Tryd.func53, Tryd.ntmps53
  go_wp2
  go_ret
  exact ⟨m2_q, m18_q⟩
 rw [if_neg c4] at H
 have c4b0 : decide (a1 ≤ a0) = false := dF_q c4
 clear c4
 obtain rfl := oI_q H
 go_enter Tryd.func53, Tryd.ntmps53
 go_wp2
 go_ret
 exact ⟨m2_q, m18_q⟩

end Go.Proofs.YtbclhpibilbdbaaDoor.PSc
