import Derived.Test.YtbclhpibilbdbaaDoorVJPScx0
import Derived.Test.YtbclhpibilbdbaaDoorVJPScx4
namespace Go.Proofs.YtbclhpibilbdbaaDoor.PSc
open Go.RowKit Go.Proofs.YtbclhpibilbdbaaDoorW.PrintWords Go.Proofs.YtbclhpibilbdbaaDoorW.PrintLast Go.Proofs.YtbclhpibilbdbaaDoorW.PrintMore
attribute [local go_sem] max2_int min2_int max_two min_two max_three min_three max_four min_four
set_option linter.unusedVariables false
set_option linter.unusedSimpArgs false

def impl_lotsText.l0 : Nat → ByteArray → List (S49) → Int → Int → Option (ByteArray)
 | 0, _, _, _, _ => none
 | k + 1, x0, x7, x8, x9 => if x9 < x8 then (if 0 ≤ x9 then (if x9 < (x7.length : Int) then ((strconv_Itoa_33.f ((rd_T49 x7 x9).f0)).bind fun t124 => (if 1 + t124.size ≤ 9223372036854775807 then (if ((⟨#[32]⟩ : ByteArray) ++ t124).size + 1 ≤ 9223372036854775807 then ((strconv_Itoa_33.f ((rd_T49 x7 x9).f1)).bind fun t125 => (if (((⟨#[32]⟩ : ByteArray) ++ t124) ++ (⟨#[58]⟩ : ByteArray)).size + t125.size ≤ 9223372036854775807 then (if ((((⟨#[32]⟩ : ByteArray) ++ t124) ++ (⟨#[58]⟩ : ByteArray)) ++ t125).size + 1 ≤ 9223372036854775807 then ((strconv_Itoa_33.f ((rd_T49 x7 x9).f2)).bind fun t126 => (if (((((⟨#[32]⟩ : ByteArray) ++ t124) ++ (⟨#[58]⟩ : ByteArray)) ++ t125) ++ (⟨#[58]⟩ : ByteArray)).size + t126.size ≤ 9223372036854775807 then (if x0.size + ((((((⟨#[32]⟩ : ByteArray) ++ t124) ++ (⟨#[58]⟩ : ByteArray)) ++ t125) ++ (⟨#[58]⟩ : ByteArray)) ++ t126).size ≤ 9223372036854775807 then (impl_lotsText.l0 k (x0 ++ ((((((⟨#[32]⟩ : ByteArray) ++ t124) ++ (⟨#[58]⟩ : ByteArray)) ++ t125) ++ (⟨#[58]⟩ : ByteArray)) ++ t126)) x7 x8 (wrap64 (x9 + 1))) else (none)) else (none))) else (none)) else (none))) else (none)) else (none))) else (none)) else (none)) else (some x0)
def impl_lotsText.f (k : Nat) (a0 : ByteArray) (l1 : List (S49)) : Option (ByteArray) := impl_lotsText.l0 k a0 l1 (l1.length : Int) 0
def impl_lotsText.T4 : Bool × List (List Nat × List Nat) := (true, [([], []), ([], []), ([1], [1]), ([2], [2]), ([3], [3]), ([4], [4]), ([], []), ([6], [6]), ([7, 3], [7]), ([5, 8], [5, 8]), ([9], [9]), ([], []), ([11], [11]), ([12, 8], [12]), ([10, 13], [10, 13]), ([0, 14], [0, 14]), ([15, 13, 0, 1, 2, 3, 4, 5, 6, 7, 8, 9, 10, 11, 12, 13, 14, 15], [0, 15])])
def impl_lotsText.B4 : List Nat := [0, 0, 2, 6, 14, 30, 0, 64, 206, 510, 1022, 0, 2048, 6606, 16382, 32767, 65535]
theorem impl_lotsText.tab4 : rtab .any (opsOf Tryd.f23 4) = impl_lotsText.T4 := by kernel_rfl
theorem impl_lotsText.bits4 : waitsOk impl_lotsText.T4.2 impl_lotsText.B4 = true := by kernel_rfl
set_option maxHeartbeats 8000000 in
set_option maxRecDepth 100000 in
theorem impl_lotsText.calls (k : Nat) (a0 : ByteArray) (A1 : Option Addr) (c1 : Nat) (l1 : List (S49)) (r : ByteArray) (w : World) (hr1 : Kd.C k49 w A1 l1.length l1) (hc1 : l1.length ≤ c1) (h : impl_lotsText.f k a0 l1 = some r) (hG : Sh.GW w) :
    Calls Tryd.prog 23 #[.string a0, .slice A1 l1.length c1] w fun e w' => e = .returned (.string r) ∧ Below w.heap.size w w' := by
 have HG := Ae_q hG
 clear hG
 have hu49 := Tryd.underlying49
 have HR1 := Ae_q hr1
 have HC1 := Ae_q hc1
 clear hr1 hc1
 have HB := Ae_q (bR_q w.heap.size w)
 have H : (impl_lotsText.l0 k a0 l1 (l1.length : Int) 0) = some r := h
 clear h
 have H' := Ae_q H
 clear H
 go_enter Tryd.func23, Tryd.ntmps23
 go_wp2
 go_loopg [0, 9] k (fun kq v0 v9 w' => ∃ (x0_1 : ByteArray) (x9_1 : Int), v0 = .string x0_1 ∧ v9 = .int .i64 x9_1 ∧ Aside0 (impl_lotsText.l0 kq x0_1 l1 (l1.length : Int) x9_1 = some r) ∧ Aside0 (kq ≤ k) ∧ Aside0 (Below w.heap.size w w'))
 case atStart => exact ⟨(a0), (0), m2_q, m2_q, H', ⟨nR_q _⟩, ⟨bel HB.out⟩⟩
 case round =>
  clear H'
  try clear c1
  try clear c2
  try clear p2
  obtain ⟨x0_1, x9_1, rfl, rfl, HA, HK1, HB⟩ := hrel
  cases gk with
  | zero => exact absurd HA.out (by simp [impl_lotsText.l0])
  | succ k1 =>
   have H := HA.out
   clear HA
   simp only [impl_lotsText.l0] at H
   by_cases c3 : x9_1 < (l1.length : Int)
   rotate_left
   ·rw [if_neg c3] at H
    have c3b0 : decide (x9_1 < (l1.length : Int)) = false := dF_q c3
    clear c3
    obtain rfl := oI_q H
    go_wp2
    go_ret
    exact ⟨m3_q, bel HB.out⟩
   rw [if_pos c3] at H
   have c3b0 : decide (x9_1 < (l1.length : Int)) = true := dT_q c3
   clear c3
   by_cases c4 : 0 ≤ x9_1
   rotate_left
   ·rw [if_neg c4] at H
    exact absurd H (by simp)
   rw [if_pos c4] at H
   have c4b0 : decide (0 ≤ x9_1) = true := dT_q c4
   clear c4
   by_cases c5 : x9_1 < (l1.length : Int)
   rotate_left
   ·rw [if_neg c5] at H
    exact absurd H (by simp)
   rw [if_pos c5] at H
   have c5b0 : decide (x9_1 < (l1.length : Int)) = true := dT_q c5
   clear c5
   replace H := oB_q.mp H
   obtain ⟨t124, A60, H⟩ := H
   replace H : (if 1 + t124.size ≤ 9223372036854775807 then (if ((⟨#[32]⟩ : ByteArray) ++ t124).size + 1 ≤ 9223372036854775807 then ((strconv_Itoa_33.f ((rd_T49 l1 x9_1).f1)).bind fun t125 => (if (((⟨#[32]⟩ : ByteArray) ++ t124) ++ (⟨#[58]⟩ : ByteArray)).size + t125.size ≤ 9223372036854775807 then (if ((((⟨#[32]⟩ : ByteArray) ++ t124) ++ (⟨#[58]⟩ : ByteArray)) ++ t125).size + 1 ≤ 9223372036854775807 then ((strconv_Itoa_33.f ((rd_T49 l1 x9_1).f2)).bind fun t126 => (if (((((⟨#[32]⟩ : ByteArray) ++ t124) ++ (⟨#[58]⟩ : ByteArray)) ++ t125) ++ (⟨#[58]⟩ : ByteArray)).size + t126.size ≤ 9223372036854775807 then (if x0_1.size + ((((((⟨#[32]⟩ : ByteArray) ++ t124) ++ (⟨#[58]⟩ : ByteArray)) ++ t125) ++ (⟨#[58]⟩ : ByteArray)) ++ t126).size ≤ 9223372036854775807 then (impl_lotsText.l0 k1 (x0_1 ++ ((((((⟨#[32]⟩ : ByteArray) ++ t124) ++ (⟨#[58]⟩ : ByteArray)) ++ t125) ++ (⟨#[58]⟩ : ByteArray)) ++ t126)) l1 (l1.length : Int) (wrap64 (x9_1 + 1))) else (none)) else (none))) else (none)) else (none))) else (none)) else (none)) = some r := H
   have A6 := Ae_q A60
   clear A60
   by_cases c7 : 1 + t124.size ≤ 9223372036854775807
   rotate_left
   ·rw [if_neg c7] at H
    exact absurd H (by simp)
   rw [if_pos c7] at H
   have c7b0 := eq_true c7
   have c7b1 : decide (1 + t124.size ≤ 9223372036854775807) = true := dT_q c7
   try have c7b2 : (9223372036854775807 < 1 + t124.size) = False := eq_false (Nat.not_lt.2 c7)
   by_cases c8 : ((⟨#[32]⟩ : ByteArray) ++ t124).size + 1 ≤ 9223372036854775807
   rotate_left
   ·rw [if_neg c8] at H
    exact absurd H (by simp)
   rw [if_pos c8] at H
   have c8b0 := eq_true c8
   have c8b1 : decide (((⟨#[32]⟩ : ByteArray) ++ t124).size + 1 ≤ 9223372036854775807) = true := dT_q c8
   try have c8b2 : (9223372036854775807 < ((⟨#[32]⟩ : ByteArray) ++ t124).size + 1) = False := eq_false (Nat.not_lt.2 c8)
   have c8b3 : (9223372036854775807 < 1 + t124.size + 1) = False := eq_false (by have h_ := c8; have e0_ : (⟨#[32]⟩ : ByteArray).size = 1 := rfl; simp only [ByteArray.size_append, e0_] at h_; omega)
   replace H := oB_q.mp H
   obtain ⟨t125, A90, H⟩ := H
   replace H : (if (((⟨#[32]⟩ : ByteArray) ++ t124) ++ (⟨#[58]⟩ : ByteArray)).size + t125.size ≤ 9223372036854775807 then (if ((((⟨#[32]⟩ : ByteArray) ++ t124) ++ (⟨#[58]⟩ : ByteArray)) ++ t125).size + 1 ≤ 9223372036854775807 then ((strconv_Itoa_33.f ((rd_T49 l1 x9_1).f2)).bind fun t126 => (if (((((⟨#[32]⟩ : ByteArray) ++ t124) ++ (⟨#[58]⟩ : ByteArray)) ++ t125) ++ (⟨#[58]⟩ : ByteArray)).size + t126.size ≤ 9223372036854775807 then (if x0_1.size + ((((((⟨#[32]⟩ : ByteArray) ++ t124) ++ (⟨#[58]⟩ : ByteArray)) ++ t125) ++ (⟨#[58]⟩ : ByteArray)) ++ t126).size ≤ 9223372036854775807 then (impl_lotsText.l0 k1 (x0_1 ++ ((((((⟨#[32]⟩ : ByteArray) ++ t124) ++ (⟨#[58]⟩ : ByteArray)) ++ t125) ++ (⟨#[58]⟩ : ByteArray)) ++ t126)) l1 (l1.length : Int) (wrap64 (x9_1 + 1))) else (none)) else (none))) else (none)) else (none)) = some r := H
   have A9 := Ae_q A90
   clear A90
   by_cases c10 : (((⟨#[32]⟩ : ByteArray) ++ t124) ++ (⟨#[58]⟩ : ByteArray)).size + t125.size ≤ 9223372036854775807
   rotate_left
   ·rw [if_neg c10] at H
    exact absurd H (by simp)
   rw [if_pos c10] at H
   have c10b0 := eq_true c10
   have c10b1 : decide ((((⟨#[32]⟩ : ByteArray) ++ t124) ++ (⟨#[58]⟩ : ByteArray)).size + t125.size ≤ 9223372036854775807) = true := dT_q c10
   try have c10b2 : (9223372036854775807 < (((⟨#[32]⟩ : ByteArray) ++ t124) ++ (⟨#[58]⟩ : ByteArray)).size + t125.size) = False := eq_false (Nat.not_lt.2 c10)
   have c10b3 : (9223372036854775807 < 1 + t124.size + 1 + t125.size) = False := eq_false (by have h_ := c10; have e0_ : (⟨#[32]⟩ : ByteArray).size = 1 := rfl; have e1_ : (⟨#[58]⟩ : ByteArray).size = 1 := rfl; simp only [ByteArray.size_append, e0_, e1_] at h_; omega)
   by_cases c11 : ((((⟨#[32]⟩ : ByteArray) ++ t124) ++ (⟨#[58]⟩ : ByteArray)) ++ t125).size + 1 ≤ 9223372036854775807
   rotate_left
   ·rw [if_neg c11] at H
    exact absurd H (by simp)
   rw [if_pos c11] at H
   have c11b0 := eq_true c11
   have c11b1 : decide (((((⟨#[32]⟩ : ByteArray) ++ t124) ++ (⟨#[58]⟩ : ByteArray)) ++ t125).size + 1 ≤ 9223372036854775807) = true := dT_q c11
   try have c11b2 : (9223372036854775807 < ((((⟨#[32]⟩ : ByteArray) ++ t124) ++ (⟨#[58]⟩ : ByteArray)) ++ t125).size + 1) = False := eq_false (Nat.not_lt.2 c11)
   have c11b3 : (9223372036854775807 < 1 + t124.size + 1 + t125.size + 1) = False := eq_false (by have h_ := c11; have e0_ : (⟨#[32]⟩ : ByteArray).size = 1 := rfl; have e1_ : (⟨#[58]⟩ : ByteArray).size = 1 := rfl; simp only [ByteArray.size_append, e0_, e1_] at h_; omega)
   replace H := oB_q.mp H
   obtain ⟨t126, A120, H⟩ := H
   replace H : (if (((((⟨#[32]⟩ : ByteArray) ++ t124) ++ (⟨#[58]⟩ : ByteArray)) ++ t125) ++ (⟨#[58]⟩ : ByteArray)).size + t126.size ≤ 9223372036854775807 then (if x0_1.size + ((((((⟨#[32]⟩ : ByteArray) ++ t124) ++ (⟨#[58]⟩ : ByteArray)) ++ t125) ++ (⟨#[58]⟩ : ByteArray)) ++ t126).size ≤ 9223372036854775807 then (impl_lotsText.l0 k1 (x0_1 ++ ((((((⟨#[32]⟩ : ByteArray) ++ t124) ++ (⟨#[58]⟩ : ByteArray)) ++ t125) ++ (⟨#[58]⟩ : ByteArray)) ++ t126)) l1 (l1.length : Int) (wrap64 (x9_1 + 1))) else (none)) else (none)) = some r := H
   have A12 := Ae_q A120
   clear A120
   by_cases c13 : (((((⟨#[32]⟩ : ByteArray) ++ t124) ++ (⟨#[58]⟩ : ByteArray)) ++ t125) ++ (⟨#[58]⟩ : ByteArray)).size + t126.size ≤ 9223372036854775807
   rotate_left
   ·rw [if_neg c13] at H
    exact absurd H (by simp)
   rw [if_pos c13] at H
   have c13b0 := eq_true c13
   have c13b1 : decide ((((((⟨#[32]⟩ : ByteArray) ++ t124) ++ (⟨#[58]⟩ : ByteArray)) ++ t125) ++ (⟨#[58]⟩ : ByteArray)).size + t126.size ≤ 9223372036854775807) = true := dT_q c13
   try have c13b2 : (9223372036854775807 < (((((⟨#[32]⟩ : ByteArray) ++ t124) ++ (⟨#[58]⟩ : ByteArray)) ++ t125) ++ (⟨#[58]⟩ : ByteArray)).size + t126.size) = False := eq_false (Nat.not_lt.2 c13)
   have c13b3 : (9223372036854775807 < 1 + t124.size + 1 + t125.size + 1 + t126.size) = False := eq_false (by have h_ := c13; have e0_ : (⟨#[32]⟩ : ByteArray).size = 1 := rfl; have e1_ : (⟨#[58]⟩ : ByteArray).size = 1 := rfl; simp only [ByteArray.size_append, e0_, e1_] at h_; omega)
   by_cases c14 : x0_1.size + ((((((⟨#[32]⟩ : ByteArray) ++ t124) ++ (⟨#[58]⟩ : ByteArray)) ++ t125) ++ (⟨#[58]⟩ : ByteArray)) ++ t126).size ≤ 9223372036854775807
   rotate_left
   ·rw [if_neg c14] at H
    exact absurd H (by simp)
   rw [if_pos c14] at H
   have c14b0 := eq_true c14
   have c14b1 : decide (x0_1.size + ((((((⟨#[32]⟩ : ByteArray) ++ t124) ++ (⟨#[58]⟩ : ByteArray)) ++ t125) ++ (⟨#[58]⟩ : ByteArray)) ++ t126).size ≤ 9223372036854775807) = true := dT_q c14
   try have c14b2 : (9223372036854775807 < x0_1.size + ((((((⟨#[32]⟩ : ByteArray) ++ t124) ++ (⟨#[58]⟩ : ByteArray)) ++ t125) ++ (⟨#[58]⟩ : ByteArray)) ++ t126).size) = False := eq_false (Nat.not_lt.2 c14)
   have c14b3 : (9223372036854775807 < x0_1.size + (1 + t124.size + 1 + t125.size + 1 + t126.size)) = False := eq_false (by have h_ := c14; have e0_ : (⟨#[32]⟩ : ByteArray).size = 1 := rfl; have e1_ : (⟨#[58]⟩ : ByteArray).size = 1 := rfl; simp only [ByteArray.size_append, e0_, e1_] at h_; omega)
   have H' := Ae_q H
   clear H
   have p122 : 0 ≤ (x9_1 : Int) := oD_q (by assumption)
   have q122 : x9_1 < (l1.length : Int) := oD_q (by assumption)
   obtain ⟨ad122, e122, hx122_0, hx122_1, hx122_2⟩ := at_T49 HR1.out x9_1 p122 q122
   cases e122
   replace hx122_0 := cel HB.out hx122_0
   replace hx122_1 := cel HB.out hx122_1
   replace hx122_2 := cel HB.out hx122_2
   replace p122 := eq_true p122
   replace q122 := eq_true q122
   try go_wp2_with (first | ((with_reducible refine gD_q (N := 6) rfl ?_); refine bE_q ?hg (N := 6) ?hd (cs := #[.int .i64 0, .int .i64 0, .int .i64 0]) (t := 49) ?hr ?_; (case hd => rfl); (case hg => rfl); (case hr => exact m10_q); intro gb123 hg w15 hbox hb; have BK123 := Ae_q (hbox); have GW123 := Ae_q ((by rw [hg]; exact (bZ_q (bel HB.out)) : w.heap.size ≤ gb123)); have GE123 := Ae_q ((by rw [hg]; exact (bZ_q (bel HB.out)) : w.heap.size ≤ gb123)); replace HB := Ae_q (bT_q (bel HB.out) hb); clear hb hbox hg; have hcz16_0 : cI w15 gb123 0 0 := cZ BK123 0 rfl; have hcz16_1 : cI w15 gb123 1 0 := cZ BK123 1 rfl; have hcz16_2 : cI w15 gb123 2 0 := cZ BK123 2 rfl; have hfz16_0 := bF_q BK123.out 0; have hfz16_1 := bF_q BK123.out 1; have hfz16_2 := bF_q BK123.out 2))
   have n0_ : Aside0 ((((w15.setCell ⟨gb123, 0, none⟩ (.int .i64 ((rd_T49 l1 x9_1).f0))).setCell ⟨gb123, 1, none⟩ (.int .i64 ((rd_T49 l1 x9_1).f1))).setCell ⟨gb123, 2, none⟩ (.int .i64 ((rd_T49 l1 x9_1).f2))).heap[gb123]? = some (.cells #[.int .i64 ((rd_T49 l1 x9_1).f0), .int .i64 ((rd_T49 l1 x9_1).f1), .int .i64 ((rd_T49 l1 x9_1).f2)] 49 (0, 0))) := ⟨by (with_reducible repeat (first | refine bN_q ?_ _ | refine bW_q ?_ | refine bL_q ?_ _)); refine blk_put (cs := #[.int .i64 ((rd_T49 l1 x9_1).f0), .int .i64 ((rd_T49 l1 x9_1).f1), .int .i64 0]) ?_ 2 _ rfl; (with_reducible repeat (first | refine bN_q ?_ _ | refine bW_q ?_ | refine bL_q ?_ _)); refine blk_put (cs := #[.int .i64 ((rd_T49 l1 x9_1).f0), .int .i64 0, .int .i64 0]) ?_ 1 _ rfl; (with_reducible repeat (first | refine bN_q ?_ _ | refine bW_q ?_ | refine bL_q ?_ _)); refine blk_put (cs := #[.int .i64 0, .int .i64 0, .int .i64 0]) ?_ 0 _ rfl; (with_reducible repeat (first | refine bN_q ?_ _ | refine bW_q ?_ | refine bL_q ?_ _)); exact BK123.out⟩
   have n1_ : Aside0 (Below w.heap.size w (((w15.setCell ⟨gb123, 0, none⟩ (.int .i64 ((rd_T49 l1 x9_1).f0))).setCell ⟨gb123, 1, none⟩ (.int .i64 ((rd_T49 l1 x9_1).f1))).setCell ⟨gb123, 2, none⟩ (.int .i64 ((rd_T49 l1 x9_1).f2)))) := ⟨m35_q⟩
   (try clear BK123)
   (try clear HB)
   generalize (((w15.setCell ⟨gb123, 0, none⟩ (.int .i64 ((rd_T49 l1 x9_1).f0))).setCell ⟨gb123, 1, none⟩ (.int .i64 ((rd_T49 l1 x9_1).f1))).setCell ⟨gb123, 2, none⟩ (.int .i64 ((rd_T49 l1 x9_1).f2))) = w17 at n0_ n1_ ⊢
   have BK123 := n0_
   have HB := n1_
   clear n0_ n1_
   replace BK123 := Ae_q (bW_q BK123.out)
   replace HB := Ae_q (bD_q HB.out)
   refine start_ (n := 17) (S := fun w' => w'.cell? ⟨gb123, 0, none⟩ = some (.int .i64 ((rd_T49 l1 x9_1).f0)) ∧ w'.cell? ⟨gb123, 1, none⟩ = some (.int .i64 ((rd_T49 l1 x9_1).f1)) ∧ w'.cell? ⟨gb123, 2, none⟩ = some (.int .i64 ((rd_T49 l1 x9_1).f2))) (ds := []) #[false, false, false, false, false, false, false, false, false, false, false, false, false, false, false, false, false] m6_q rfl rfl ⟨(bC_q BK123.out 0).trans rfl, (bC_q BK123.out 1).trans rfl, (bC_q BK123.out 2).trans rfl⟩ (fun hHeld => ?_); refine with_tabW impl_lotsText.tab4 impl_lotsText.bits4 (fun HT_ HW_ => ?_)
   generalize w17.drew = w18 at BK123 HB hHeld ⊢
   refine pJ HT_ 0 13 rfl rfl ?_
   refine pJ HT_ 1 14 rfl rfl ?_
   refine pJ HT_ 6 19 rfl rfl ?_
   refine pJ HT_ 11 24 rfl rfl ?_
   refine take_ (i := 2) (N := some 15) (v := ?_) (a' := ?_) #[true, true, true, false, false, false, true, false, false, false, false, true, false, false, false, false, false] rfl rfl (take_ofW HT_.out HW_.out m6_q) (fun _ _ _ h => h) (Or.inl ⟨by rfl, ?_⟩) hHeld ?_ ?_
   rotate_left
   ·rintro w' ⟨s0, s1, s2⟩
    go_simp
    with_reducible rfl
   rotate_left
   ·simp only [pS_q]
    rfl
   refine take_ (i := 7) (N := some 20) (v := ?_) (a' := ?_) #[true, true, true, false, false, false, true, true, false, false, false, true, false, false, false, false, false] rfl rfl (take_ofW HT_.out HW_.out m6_q) (fun _ _ _ h => h) (Or.inl ⟨by rfl, ?_⟩) hHeld ?_ ?_
   rotate_left
   ·rintro w' ⟨s0, s1, s2⟩
    go_simp
    with_reducible rfl
   rotate_left
   ·simp only [pS_q]
    rfl
   refine take_ (i := 12) (N := some 25) (v := ?_) (a' := ?_) #[true, true, true, false, false, false, true, true, false, false, false, true, true, false, false, false, false] rfl rfl (take_ofW HT_.out HW_.out m6_q) (fun _ _ _ h => h) (Or.inl ⟨by rfl, ?_⟩) hHeld ?_ ?_
   rotate_left
   ·rintro w' ⟨s0, s1, s2⟩
    go_simp
    with_reducible rfl
   rotate_left
   ·simp only [pS_q]
    rfl
   refine one_ (i := 3) (N := some 16) #[true, true, true, true, false, false, true, true, false, false, false, true, true, false, false, false, false] rfl rfl (one_of HT_.out m6_q) (by decide) (fun K hK => ?_)
   refine goes_ Tryd.func33 m6_q rfl #[.int .i64 ((rd_T49 l1 x9_1).f0)] (by rfl) rfl rfl m0_q ?_
   with_reducible refine (strconv_Itoa_33.calls ((rd_T49 l1 x9_1).f0) t124 _ A6.out m29_q).mono ?_
   rintro e w' ⟨rfl, hb⟩
   refine ⟨_, rfl, ?_⟩
   replace BK123 := Ae_q (bB_q (g := gb123) (o := .cells #[.int .i64 ((rd_T49 l1 x9_1).f0), .int .i64 ((rd_T49 l1 x9_1).f1), .int .i64 ((rd_T49 l1 x9_1).f2)] 49 (0, 0)) (bup BK123.out) hb)
   replace HB := Ae_q (bT_q m35_q hb)
   (try clear hb)
   (try clear hb2)
   (try clear hk)
   (try clear hi)
   refine hK.out _ _ ⟨(bC_q BK123.out 0).trans rfl, (bC_q BK123.out 1).trans rfl, (bC_q BK123.out 2).trans rfl⟩ (fun hHeld => ?_)
   clear hK K
   refine nJ_q ?_
   refine pJ HT_ 4 17 rfl rfl ?_
   refine pJ HT_ 5 18 rfl rfl ?_
   refine one_ (i := 8) (N := some 21) #[true, true, true, true, true, true, true, true, true, false, false, true, true, false, false, false, false] rfl rfl (one_of HT_.out m6_q) (by decide) (fun K hK => ?_)
   refine goes_ Tryd.func33 m6_q rfl #[.int .i64 ((rd_T49 l1 x9_1).f1)] (by rfl) rfl rfl m0_q ?_
   with_reducible refine (strconv_Itoa_33.calls ((rd_T49 l1 x9_1).f1) t125 _ A9.out m29_q).mono ?_
   rintro e w' ⟨rfl, hb⟩
   refine ⟨_, rfl, ?_⟩
   replace BK123 := Ae_q (bB_q (g := gb123) (o := .cells #[.int .i64 ((rd_T49 l1 x9_1).f0), .int .i64 ((rd_T49 l1 x9_1).f1), .int .i64 ((rd_T49 l1 x9_1).f2)] 49 (0, 0)) (bup BK123.out) hb)
   replace HB := Ae_q (bT_q m35_q hb)
   (try clear hb)
   (try clear hb2)
   (try clear hk)
   (try clear hi)
   refine hK.out _ _ ⟨(bC_q BK123.out 0).trans rfl, (bC_q BK123.out 1).trans rfl, (bC_q BK123.out 2).trans rfl⟩ (fun hHeld => ?_)
   clear hK K
   refine nJ_q ?_
   refine pJ HT_ 9 22 rfl rfl ?_
   refine pJ HT_ 10 23 rfl rfl ?_
   refine one_ (i := 13) (N := some 26) #[true, true, true, true, true, true, true, true, true, true, true, true, true, true, false, false, false] rfl rfl (one_of HT_.out m6_q) (by decide) (fun K hK => ?_)
   refine goes_ Tryd.func33 m6_q rfl #[.int .i64 ((rd_T49 l1 x9_1).f2)] (by rfl) rfl rfl m0_q ?_
   with_reducible refine (strconv_Itoa_33.calls ((rd_T49 l1 x9_1).f2) t126 _ A12.out m29_q).mono ?_
   rintro e w' ⟨rfl, hb⟩
   refine ⟨_, rfl, ?_⟩
   replace BK123 := Ae_q (bB_q (g := gb123) (o := .cells #[.int .i64 ((rd_T49 l1 x9_1).f0), .int .i64 ((rd_T49 l1 x9_1).f1), .int .i64 ((rd_T49 l1 x9_1).f2)] 49 (0, 0)) (bup BK123.out) hb)
   replace HB := Ae_q (bT_q m35_q hb)
   (try clear hb)
   (try clear hb2)
   (try clear hk)
   (try clear hi)
   refine hK.out _ _ ⟨(bC_q BK123.out 0).trans rfl, (bC_q BK123.out 1).trans rfl, (bC_q BK123.out 2).trans rfl⟩ (fun hHeld => ?_)
   clear hK K
   refine nJ_q ?_
   refine pJ HT_ 14 27 rfl rfl ?_
   refine pJ HT_ 15 28 rfl rfl ?_
   refine pJ HT_ 16 0 rfl rfl ?_
   refine done_ (done_of HT_.out m6_q) ?_
   try go_wp2
   go_roundg k1
   case measure => have := HK1.out; omega
   case rel => exact ⟨(x0_1 ++ ((((((⟨#[32]⟩ : ByteArray) ++ t124) ++ (⟨#[58]⟩ : ByteArray)) ++ t125) ++ (⟨#[58]⟩ : ByteArray)) ++ t126)), (wrap64 (x9_1 + 1)), m2_q, m2_q, H', ⟨m38_q⟩, ⟨m35_q⟩⟩

end Go.Proofs.YtbclhpibilbdbaaDoor.PSc
