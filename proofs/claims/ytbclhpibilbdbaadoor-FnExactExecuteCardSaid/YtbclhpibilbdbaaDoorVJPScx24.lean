import Derived.Test.YtbclhpibilbdbaaDoorVJPScx0
import Derived.Test.YtbclhpibilbdbaaDoorVJPScx18
import Derived.Test.YtbclhpibilbdbaaDoorVJPScx23
namespace Go.Proofs.YtbclhpibilbdbaaDoor.PSc
open Go.RowKit Go.Proofs.YtbclhpibilbdbaaDoorW.PrintWords Go.Proofs.YtbclhpibilbdbaaDoorW.PrintLast Go.Proofs.YtbclhpibilbdbaaDoorW.PrintMore
attribute [local go_sem] max2_int min2_int max_two min_two max_three min_three max_four min_four
set_option linter.unusedVariables false
set_option linter.unusedSimpArgs false

def spec_Execute.l0 : Nat → ByteArray → List (S49) → ByteArray → Int → Int → Option (ByteArray)
 | 0, _, _, _, _, _ => none
 | k + 1, x0, x3, x4, x5, x6 => if x6 < (x0.size : Int) then (if 0 ≤ x6 then (if (bt x0 x6) = 10 then (if 0 ≤ x5 then (if x5 ≤ x6 then (if x6 ≤ (x0.size : Int) then ((spec_l51Line.f k x3 (x0.extract (x5 : Int).toNat (x6 : Int).toNat)).bind fun bt464 => (if x4.size + bt464.2.size ≤ 9223372036854775807 then (spec_Execute.l0 k x0 bt464.1 (x4 ++ bt464.2) (wrap64 (x6 + 1)) (wrap64 (x6 + 1))) else (none))) else (none)) else (none)) else (none)) else (spec_Execute.l0 k x0 x3 x4 x5 (wrap64 (x6 + 1)))) else (none)) else ((spec_l51Lots.f k (⟨#[101, 110, 100]⟩ : ByteArray) x3).bind fun t468 => (if x4.size + t468.size ≤ 9223372036854775807 then (some (x4 ++ t468)) else (none)))
def spec_Execute.f (k : Nat) (a0 : ByteArray) : Option (ByteArray) := if (a0.size : Int) > 600 then (some (⟨#[116, 111, 111, 32, 108, 111, 110, 103, 10]⟩ : ByteArray)) else (spec_Execute.l0 k a0 (([] : List (S49))) (⟨#[]⟩ : ByteArray) 0 0)
set_option maxHeartbeats 8000000 in
set_option maxRecDepth 100000 in
theorem spec_Execute.calls (k : Nat) (a0 : ByteArray) (r : ByteArray) (w : World) (h : spec_Execute.f k a0 = some r) :
    Calls Tryd.prog 14 #[.string a0] w fun e w' => e = .returned (.string r) ∧ Below w.heap.size w w' := by
 have HB := Ae_q (bR_q w.heap.size w)
 have H : (if (a0.size : Int) > 600 then (some (⟨#[116, 111, 111, 32, 108, 111, 110, 103, 10]⟩ : ByteArray)) else (spec_Execute.l0 k a0 (([] : List (S49))) (⟨#[]⟩ : ByteArray) 0 0)) = some r := h
 clear h
 by_cases c2 : (a0.size : Int) > 600
 ·rw [if_pos c2] at H
  have c2b0 : decide (600 < (a0.size : Int)) = true := dT_q c2
  have c2b1 : decide (600 < a0.size) = true := dT_q (by omega)
  clear c2
  obtain rfl := oI_q H
  go_enter Tryd.func14, Tryd.ntmps14
  go_wp2
  go_ret
  exact ⟨m3_q, bel HB.out⟩
 rw [if_neg c2] at H
 have c2b0 : decide (600 < (a0.size : Int)) = false := dF_q c2
 have c2b1 : decide (600 < a0.size) = false := dF_q (by omega)
 clear c2
 obtain ⟨y461, hy461⟩ : ∃ y_ : List (S49), y_ = (([] : List (S49))) := ⟨_, rfl⟩
 replace H : (spec_Execute.l0 k a0 y461 (⟨#[]⟩ : ByteArray) 0 0) = some r := by first | (rw [hy461]; with_reducible exact H) | (have H2_ := (oS_q _ _).symm.trans H; rw [hy461]; with_reducible exact H2_) | (have H2_ := (oS_q _ _).symm.trans H; with_reducible exact H2_) | with_reducible exact H | (rw [hy461]; exact H) | exact H
 have Ny461 := Ae_q hy461
 clear hy461
 have H' := Ae_q H
 clear H
 go_enter Tryd.func14, Tryd.ntmps14
 go_wp2_with (first | ((with_reducible refine gD_q (N := 12) rfl ?_); refine Kd.R_lit k49 _ 49 ?hg (N := 12) ?hd (xs := ([] : List (S49))) (inner := []) (ok := fun _ => True) (okp := fun _ => True) ?hr ?hp (fun _ hk => hk) trivial (bR_q _ _) (nR_q _) (by simp) ?_; (case hd => rfl); (case hg => rfl); (case hr => exact m10_q); (case hp => exact m46_q); intro v462 w3 ho4 hb hg_ hnew_; clear hg_ hnew_; (first | rw [← Ny461.out] at ho4 | (simp only [Int.reduceToNat] at ho4; rw [← Ny461.out] at ho4)); have HO463 := Ae_q (rL_q ho4 (bZ_q (bel HB.out))); replace HB := Ae_q (bT_q (bel HB.out) hb); clear hb ho4))
 go_loopg [3, 4, 5, 6] k (fun kq v3 v4 v5 v6 w' => ∃ (x3_1 : List (S49)) (x4_1 : ByteArray) (x5_1 : Int) (x6_1 : Int), v4 = .string x4_1 ∧ v5 = .int .i64 x5_1 ∧ v6 = .int .i64 x6_1 ∧ Aside0 (spec_Execute.l0 kq a0 x3_1 x4_1 x5_1 x6_1 = some r) ∧ Aside0 (kq ≤ k) ∧ Aside0 (Kd.R k49 49 w' w.heap.size (fun _ => True) v3 x3_1) ∧ Aside0 (Below w.heap.size w w'))
 case atStart => exact ⟨(y461), ((⟨#[]⟩ : ByteArray)), (0), (0), m2_q, m2_q, m2_q, H', ⟨nR_q _⟩, ⟨rup HO463.out⟩, ⟨bel HB.out⟩⟩
 case round =>
  clear H'
  try clear c1
  try clear c2
  try clear c2b0
  try clear c2b1
  try clear p2
  obtain ⟨x3_1, x4_1, x5_1, x6_1, rfl, rfl, rfl, HA, HK1, HO_3, HB⟩ := hrel
  cases gk with
  | zero => exact absurd HA.out (by simp [spec_Execute.l0])
  | succ k1 =>
   have H := HA.out
   clear HA
   simp only [spec_Execute.l0] at H
   by_cases c5 : x6_1 < (a0.size : Int)
   rotate_left
   ·rw [if_neg c5] at H
    have c5b0 : decide (x6_1 < (a0.size : Int)) = false := dF_q c5
    clear c5
    replace H := oB_q.mp H
    obtain ⟨t468, A160, H⟩ := H
    replace H : (if x4_1.size + t468.size ≤ 9223372036854775807 then (some (x4_1 ++ t468)) else (none)) = some r := H
    have A16 := Ae_q A160
    clear A160
    by_cases c17 : x4_1.size + t468.size ≤ 9223372036854775807
    rotate_left
    ·rw [if_neg c17] at H
     exact absurd H (by simp)
    rw [if_pos c17] at H
    have c17b0 := eq_true c17
    have c17b1 : decide (x4_1.size + t468.size ≤ 9223372036854775807) = true := dT_q c17
    try have c17b2 : (9223372036854775807 < x4_1.size + t468.size) = False := eq_false (Nat.not_lt.2 c17)
    obtain rfl := oI_q H
    obtain ⟨Ao18, co18, eo18⟩ := rS_q HO_3.out
    subst eo18
    go_wp2_with (first | ((with_reducible refine gC_q (f := 25) rfl ?_); refine gL_q (some 40) rfl rfl Tryd.func25 m6_q rfl #[.string (⟨#[101, 110, 100]⟩ : ByteArray), .slice Ao18 x3_1.length co18] rfl m0_q ?_; (with_reducible refine (spec_l51Lots.calls k1 (⟨#[101, 110, 100]⟩ : ByteArray) _ _ x3_1 t468 _ ?side1 ?side2 A16.out).mono ?_); (case side1 => exact cup (rR_q HO_3.out).2.2); (case side2 => exact (rR_q HO_3.out).2.1); rintro e w' ⟨rfl, hb⟩; refine ⟨_, rfl, ?_⟩; replace HO_3 := Ae_q (rO_q (rup HO_3.out) hb); replace HB := Ae_q (bT_q (bel HB.out) hb); (try clear hb); (try clear hb2); (try clear hk); (try clear hi)))
    go_ret
    exact ⟨m3_q, bel HB.out⟩
   rw [if_pos c5] at H
   have c5b0 : decide (x6_1 < (a0.size : Int)) = true := dT_q c5
   clear c5
   by_cases c6 : 0 ≤ x6_1
   rotate_left
   ·rw [if_neg c6] at H
    exact absurd H (by simp)
   rw [if_pos c6] at H
   have c6b0 : decide (0 ≤ x6_1) = true := dT_q c6
   clear c6
   by_cases c8 : (bt a0 x6_1) = 10
   rotate_left
   ·rw [if_neg c8] at H
    have c8b0 : ((bt a0 x6_1) == 10) = false := fN_q.mpr c8
    have c8b1 : ((bt a0 x6_1) != 10) = true := nI_q.mpr c8
    have H' := Ae_q H
    clear H
    have p7 : 0 ≤ (x6_1 : Int) := oD_q (by assumption)
    have q7 : x6_1 < (a0.size : Int) := oD_q (by assumption)
    have hx7 := bt_at a0 x6_1
    replace p7 := eq_true p7
    replace q7 := eq_true q7
    go_wp2
    go_roundg k1
    case measure => have := HK1.out; omega
    case rel => exact ⟨(x3_1), (x4_1), (x5_1), (wrap64 (x6_1 + 1)), m2_q, m2_q, m2_q, H', ⟨m38_q⟩, ⟨rup HO_3.out⟩, ⟨bel HB.out⟩⟩
   rw [if_pos c8] at H
   have c8b0 : ((bt a0 x6_1) == 10) = true := beq_iff_eq.mpr c8
   have c8b1 : ((bt a0 x6_1) != 10) = false := nE_q.mpr c8
   clear c8
   by_cases c9 : 0 ≤ x5_1
   rotate_left
   ·rw [if_neg c9] at H
    exact absurd H (by simp)
   rw [if_pos c9] at H
   have c9b0 := eq_true c9
   have c9b1 : decide (0 ≤ x5_1) = true := dT_q c9
   clear c9
   by_cases c10 : x5_1 ≤ x6_1
   rotate_left
   ·rw [if_neg c10] at H
    exact absurd H (by simp)
   rw [if_pos c10] at H
   have c10b0 := eq_true c10
   have c10b1 : decide (x5_1 ≤ x6_1) = true := dT_q c10
   clear c10
   by_cases c11 : x6_1 ≤ (a0.size : Int)
   rotate_left
   ·rw [if_neg c11] at H
    exact absurd H (by simp)
   rw [if_pos c11] at H
   have c11b0 := eq_true c11
   have c11b1 : decide (x6_1 ≤ (a0.size : Int)) = true := dT_q c11
   clear c11
   replace H := oB_q.mp H
   obtain ⟨⟨t464, t467⟩, A120, H⟩ := H
   replace H : (if x4_1.size + t467.size ≤ 9223372036854775807 then (spec_Execute.l0 k1 a0 t464 (x4_1 ++ t467) (wrap64 (x6_1 + 1)) (wrap64 (x6_1 + 1))) else (none)) = some r := H
   have A12 := Ae_q A120
   clear A120
   by_cases c13 : x4_1.size + t467.size ≤ 9223372036854775807
   rotate_left
   ·rw [if_neg c13] at H
    exact absurd H (by simp)
   rw [if_pos c13] at H
   have c13b0 := eq_true c13
   have c13b1 : decide (x4_1.size + t467.size ≤ 9223372036854775807) = true := dT_q c13
   try have c13b2 : (9223372036854775807 < x4_1.size + t467.size) = False := eq_false (Nat.not_lt.2 c13)
   have H' := Ae_q H
   clear H
   have p7 : 0 ≤ (x6_1 : Int) := oD_q (by assumption)
   have q7 : x6_1 < (a0.size : Int) := oD_q (by assumption)
   have hx7 := bt_at a0 x6_1
   replace p7 := eq_true p7
   replace q7 := eq_true q7
   obtain ⟨Ao14, co14, eo14⟩ := rS_q HO_3.out
   subst eo14
   go_wp2_with (first | ((with_reducible refine gC_q (f := 24) rfl ?_); refine gL_q (some 29) rfl rfl Tryd.func24 m6_q rfl #[.slice Ao14 x3_1.length co14, .string (a0.extract (x5_1 : Int).toNat (x6_1 : Int).toNat)] rfl m0_q ?_; (with_reducible refine (spec_l51Line.calls k1 (fun k_ => some k_ = (.slice Ao14 x3_1.length co14 : Value).ownBlock) (.slice Ao14 x3_1.length co14) x3_1 (a0.extract (x5_1 : Int).toNat (x6_1 : Int).toNat) t464 t467 w _ ?side1 ?side2 A12.out).mono ?_); (case side1 => exact m89_q); (case side2 => exact Kd.R_tight rfl HO_3.out); rintro e w' ⟨v465, rfl, ho0, hb, hkp⟩; refine ⟨_, rfl, ?_⟩; have HO466 := Ae_q (rM_q (ok' := fun k_ => True) ho0 (fun k_ hk_ => trivial)); replace HB := Ae_q (hb); clear HO_3; (try clear hb); (try clear hkp); (try clear ho0)))
   go_roundg k1
   case measure => have := HK1.out; omega
   case rel => exact ⟨(t464), (x4_1 ++ t467), (wrap64 (x6_1 + 1)), (wrap64 (x6_1 + 1)), m2_q, m2_q, m2_q, H', ⟨m38_q⟩, ⟨rup HO466.out⟩, ⟨bel HB.out⟩⟩

end Go.Proofs.YtbclhpibilbdbaaDoor.PSc
