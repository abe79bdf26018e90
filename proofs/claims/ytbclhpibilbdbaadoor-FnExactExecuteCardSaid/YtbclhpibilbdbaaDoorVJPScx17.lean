import Derived.Test.YtbclhpibilbdbaaDoorVJPScx0
import Derived.Test.YtbclhpibilbdbaaDoorVJPScx2
import Derived.Test.YtbclhpibilbdbaaDoorVJPScx5
import Derived.Test.YtbclhpibilbdbaaDoorVJPScx13
import Derived.Test.YtbclhpibilbdbaaDoorVJPScx16
namespace Go.Proofs.YtbclhpibilbdbaaDoor.PSc
open Go.RowKit Go.Proofs.YtbclhpibilbdbaaDoorW.PrintWords Go.Proofs.YtbclhpibilbdbaaDoorW.PrintLast Go.Proofs.YtbclhpibilbdbaaDoorW.PrintMore
attribute [local go_sem] max2_int min2_int max_two min_two max_three min_three max_four min_four
set_option linter.unusedVariables false
set_option linter.unusedSimpArgs false

def impl_Execute.l0 : Nat → List (S49) → ByteArray → List ByteArray → Int → Int → Option (ByteArray)
 | 0, _, _, _, _, _ => none
 | k + 1, x3, x4, x20, x21, x22 => if x22 < x21 then (if 0 ≤ x22 then (if x22 < (x20.length : Int) then ((impl_command.f k x3 (rdOf ByteArray.empty x20 x22)).bind fun bt297 => (if x4.size + bt297.2.size ≤ 9223372036854775807 then (if (x4 ++ bt297.2).size + 1 ≤ 9223372036854775807 then (impl_Execute.l0 k bt297.1 ((x4 ++ bt297.2) ++ (⟨#[10]⟩ : ByteArray)) x20 x21 (wrap64 (x22 + 1))) else (none)) else (none))) else (none)) else (none)) else ((impl_lotsText.f k (⟨#[101, 110, 100]⟩ : ByteArray) x3).bind fun t301 => (if x4.size + t301.size ≤ 9223372036854775807 then (if (x4 ++ t301).size + 1 ≤ 9223372036854775807 then (some ((x4 ++ t301) ++ (⟨#[10]⟩ : ByteArray))) else (none)) else (none)))
def impl_Execute.f (k : Nat) (a0 : ByteArray) : Option (ByteArray) := if (a0.size : Int) > 600 then (some (⟨#[116, 111, 111, 32, 108, 111, 110, 103, 10]⟩ : ByteArray)) else ((strings_Split.f a0 (⟨#[10]⟩ : ByteArray)).bind fun t289 => (if 0 ≤ (wrap64 ((t289.length : Int) - 1)) then (if (wrap64 ((t289.length : Int) - 1)) ≤ (t289.length : Int) then ((some (t289.take ((wrap64 ((t289.length : Int) - 1)) : Int).toNat : List ByteArray)).bind fun y292 => (impl_Execute.l0 k (([] : List (S49))) (⟨#[]⟩ : ByteArray) y292 (y292.length : Int) 0)) else (none)) else (none)))
set_option maxHeartbeats 8000000 in
set_option maxRecDepth 100000 in
theorem impl_Execute.calls (k : Nat) (a0 : ByteArray) (r : ByteArray) (w : World) (h : impl_Execute.f k a0 = some r) (hG : Sh.GW w) :
    Calls Tryd.prog 13 #[.string a0] w fun e w' => e = .returned (.string r) ∧ Below w.heap.size w w' := by
 have HG := Ae_q hG
 clear hG
 have HB := Ae_q (bR_q w.heap.size w)
 have H : (if (a0.size : Int) > 600 then (some (⟨#[116, 111, 111, 32, 108, 111, 110, 103, 10]⟩ : ByteArray)) else ((strings_Split.f a0 (⟨#[10]⟩ : ByteArray)).bind fun t289 => (if 0 ≤ (wrap64 ((t289.length : Int) - 1)) then (if (wrap64 ((t289.length : Int) - 1)) ≤ (t289.length : Int) then ((some (t289.take ((wrap64 ((t289.length : Int) - 1)) : Int).toNat : List ByteArray)).bind fun y292 => (impl_Execute.l0 k (([] : List (S49))) (⟨#[]⟩ : ByteArray) y292 (y292.length : Int) 0)) else (none)) else (none)))) = some r := h
 clear h
 by_cases c2 : (a0.size : Int) > 600
 ·rw [if_pos c2] at H
  have c2b0 : decide (600 < (a0.size : Int)) = true := dT_q c2
  have c2b1 : decide (600 < a0.size) = true := dT_q (by omega)
  clear c2
  obtain rfl := oI_q H
  go_enter Tryd.func13, Tryd.ntmps13
  go_wp2
  go_ret
  exact ⟨m3_q, bel HB.out⟩
 rw [if_neg c2] at H
 have c2b0 : decide (600 < (a0.size : Int)) = false := dF_q c2
 have c2b1 : decide (600 < a0.size) = false := dF_q (by omega)
 clear c2
 obtain ⟨y286, hy286⟩ : ∃ y_ : List (S49), y_ = (([] : List (S49))) := ⟨_, rfl⟩
 replace H : ((strings_Split.f a0 (⟨#[10]⟩ : ByteArray)).bind fun t289 => (if 0 ≤ (wrap64 ((t289.length : Int) - 1)) then (if (wrap64 ((t289.length : Int) - 1)) ≤ (t289.length : Int) then ((some (t289.take ((wrap64 ((t289.length : Int) - 1)) : Int).toNat : List ByteArray)).bind fun y292 => (impl_Execute.l0 k y286 (⟨#[]⟩ : ByteArray) y292 (y292.length : Int) 0)) else (none)) else (none))) = some r := by first | (rw [hy286]; with_reducible exact H) | (have H2_ := (oS_q _ _).symm.trans H; rw [hy286]; with_reducible exact H2_) | (have H2_ := (oS_q _ _).symm.trans H; with_reducible exact H2_) | with_reducible exact H | (rw [hy286]; exact H) | exact H
 have Ny286 := Ae_q hy286
 clear hy286
 replace H := oB_q.mp H
 obtain ⟨t289, A30, H⟩ := H
 replace H : (if 0 ≤ (wrap64 ((t289.length : Int) - 1)) then (if (wrap64 ((t289.length : Int) - 1)) ≤ (t289.length : Int) then ((some (t289.take ((wrap64 ((t289.length : Int) - 1)) : Int).toNat : List ByteArray)).bind fun y292 => (impl_Execute.l0 k y286 (⟨#[]⟩ : ByteArray) y292 (y292.length : Int) 0)) else (none)) else (none)) = some r := H
 have A3 := Ae_q A30
 clear A30
 obtain ⟨ji4, hji4⟩ : ∃ j_ : Int, (wrap64 ((t289.length : Int) - 1)) = j_ := ⟨_, rfl⟩
 replace H : (if 0 ≤ (ji4) then (if (ji4) ≤ (t289.length : Int) then ((some (t289.take ((ji4) : Int).toNat : List ByteArray)).bind fun y292 => (impl_Execute.l0 k y286 (⟨#[]⟩ : ByteArray) y292 (y292.length : Int) 0)) else (none)) else (none)) = some r := by first | (rw [hji4] at H; exact H) | (simp only [hji4] at H ⊢; exact H)
 (try rw [hji4] at A3)
 have hji4w : (IntKind.i64.wrap ((t289.length : Int) - 1)) = ji4 := (i64_w _).trans hji4
 by_cases c5 : 0 ≤ (ji4)
 rotate_left
 ·rw [if_neg c5] at H
  exact absurd H (by simp)
 rw [if_pos c5] at H
 have c5b0 := eq_true c5
 have c5b1 : decide (0 ≤ (ji4)) = true := dT_q c5
 clear c5
 by_cases c6 : (ji4) ≤ (t289.length : Int)
 rotate_left
 ·rw [if_neg c6] at H
  exact absurd H (by simp)
 rw [if_pos c6] at H
 have c6b0 := eq_true c6
 have c6b1 : decide ((ji4) ≤ (t289.length : Int)) = true := dT_q c6
 clear c6
 obtain ⟨y292, hy292⟩ : ∃ y_ : List ByteArray, y_ = (t289.take ((ji4) : Int).toNat) := ⟨_, rfl⟩
 replace H : (impl_Execute.l0 k y286 (⟨#[]⟩ : ByteArray) y292 (y292.length : Int) 0) = some r := by first | (rw [hy292]; with_reducible exact H) | (have H2_ := (oS_q _ _).symm.trans H; rw [hy292]; with_reducible exact H2_) | (have H2_ := (oS_q _ _).symm.trans H; with_reducible exact H2_) | with_reducible exact H | (rw [hy292]; exact H) | exact H
 have Ny292 := Ae_q hy292
 clear hy292
 have H' := Ae_q H
 clear H
 go_enter Tryd.func13, Tryd.ntmps13
 go_wp2_with (first | ((with_reducible refine gD_q (N := 13) rfl ?_); refine Kd.R_lit k49 _ 49 ?hg (N := 13) ?hd (xs := ([] : List (S49))) (inner := []) (ok := fun _ => True) (okp := fun _ => True) ?hr ?hp (fun _ hk => hk) trivial (bR_q _ _) (nR_q _) (by simp) ?_; (case hd => rfl); (case hg => rfl); (case hr => exact m10_q); (case hp => exact m46_q); intro v287 w7 ho8 hb hg_ hnew_; clear hg_ hnew_; (first | rw [← Ny286.out] at ho8 | (simp only [Int.reduceToNat] at ho8; rw [← Ny286.out] at ho8)); have HO288 := Ae_q (rL_q ho8 (bZ_q (bel HB.out))); replace HB := Ae_q (bT_q (bel HB.out) hb); clear hb ho8) | ((with_reducible refine gC_q (f := 21) rfl ?_); refine gL_q (some 15) rfl rfl Tryd.func21 m6_q rfl #[.string a0, .string (⟨#[10]⟩ : ByteArray)] rfl m0_q ?_; (with_reducible refine (strings_Split.calls a0 (⟨#[10]⟩ : ByteArray) t289 _ A3.out m29_q).mono ?_); rintro e w' ⟨v290, rfl, ho0, hb⟩; refine ⟨_, rfl, ?_⟩; replace HO288 := Ae_q (rO_q (rup HO288.out) hb); have HO291 := Ae_q (rL_q ho0 (bZ_q (bel HB.out))); replace HB := Ae_q (bT_q (bel HB.out) hb); (try clear hb); (try clear hb2); (try clear hk); (try clear hi); (try clear ho0); obtain ⟨Ao10, co10, eo10⟩ := rS_q HO291.out; subst eo10; have q11 : ((ji4) : Int) ≤ ((t289.length : Int) : Int) := oD_q (by assumption); obtain ⟨i011, hi011, _, hsz11, _⟩ := info_parts info9; have hroom11 : t289.length ≤ co10 := (rR_q HO291.out).2.1; have hC11 : Kd.C Kd.string _ Ao10 t289.length t289 := (rR_q HO291.out).2.2; have hcut11 := cut_to (P := Tryd.prog) 33 9 .i64 Tryd.underlying33 hi011 Ao10 t289.length co10 (ji4) (oD_q (by assumption)) q11 hroom11; have hr11 := Kd.C_take (m := ((ji4) : Int).toNat) hC11 (by omega); have hy11 : y292.length = ((ji4) : Int).toNat := (by rw [Ny292.out, lT_q]; omega); rw [← Ny292.out] at hr11; rw [← hy11] at hcut11; have HR295 := Ae_q hr11; have HC295 := Ae_q (show y292.length ≤ co10 from by omega); clear hr11 hC11 hroom11 hi011 hsz11; have KY11 := Ae_q hy11; clear hy11; have KL11 := Ae_q (show ((ji4) : Int).toNat ≤ t289.length from by omega); replace q11 := eq_true q11))
 go_loopg [3, 4, 22] k (fun kq v3 v4 v22 w' => ∃ (x3_1 : List (S49)) (x4_1 : ByteArray) (x22_1 : Int), v4 = .string x4_1 ∧ v22 = .int .i64 x22_1 ∧ Aside0 (impl_Execute.l0 kq x3_1 x4_1 y292 (y292.length : Int) x22_1 = some r) ∧ Aside0 (kq ≤ k) ∧ Aside0 (Kd.R k49 49 w' w.heap.size (fun _ => True) v3 x3_1) ∧ Aside0 (Kd.R Kd.string 9 w' w.heap.size (fun _ => True) (.slice Ao10 t289.length co10) t289) ∧ Aside0 (Below w.heap.size w w'))
 case atStart => exact ⟨(y286), ((⟨#[]⟩ : ByteArray)), (0), m2_q, m2_q, H', ⟨nR_q _⟩, ⟨rup HO288.out⟩, ⟨rup HO291.out⟩, ⟨bel HB.out⟩⟩
 case round =>
  clear H'
  try clear c1
  try clear q1
  try clear c2
  try clear c2b0
  try clear c2b1
  try clear p2
  try clear c5
  try clear c5b0
  try clear c5b1
  try clear c6
  try clear c6b0
  try clear c6b1
  try clear p6
  try clear q11
  try clear q11
  obtain ⟨x3_1, x4_1, x22_1, rfl, rfl, HA, HK1, HO_3, HW, HB⟩ := hrel
  have HR295 := Ae_q (by have hr_ := Kd.C_take (m := ((ji4) : Int).toNat) (rR_q HW.out).2.2 (by have := KL11.out; omega); rw [← Ny292.out] at hr_; exact hr_)
  cases gk with
  | zero => exact absurd HA.out (by simp [impl_Execute.l0])
  | succ k1 =>
   have H := HA.out
   clear HA
   simp only [impl_Execute.l0] at H
   by_cases c12 : x22_1 < (y292.length : Int)
   rotate_left
   ·rw [if_neg c12] at H
    have c12b0 : decide (x22_1 < (y292.length : Int)) = false := dF_q c12
    clear c12
    replace H := oB_q.mp H
    obtain ⟨t301, A200, H⟩ := H
    replace H : (if x4_1.size + t301.size ≤ 9223372036854775807 then (if (x4_1 ++ t301).size + 1 ≤ 9223372036854775807 then (some ((x4_1 ++ t301) ++ (⟨#[10]⟩ : ByteArray))) else (none)) else (none)) = some r := H
    have A20 := Ae_q A200
    clear A200
    by_cases c21 : x4_1.size + t301.size ≤ 9223372036854775807
    rotate_left
    ·rw [if_neg c21] at H
     exact absurd H (by simp)
    rw [if_pos c21] at H
    have c21b0 := eq_true c21
    have c21b1 : decide (x4_1.size + t301.size ≤ 9223372036854775807) = true := dT_q c21
    try have c21b2 : (9223372036854775807 < x4_1.size + t301.size) = False := eq_false (Nat.not_lt.2 c21)
    by_cases c22 : (x4_1 ++ t301).size + 1 ≤ 9223372036854775807
    rotate_left
    ·rw [if_neg c22] at H
     exact absurd H (by simp)
    rw [if_pos c22] at H
    have c22b0 := eq_true c22
    have c22b1 : decide ((x4_1 ++ t301).size + 1 ≤ 9223372036854775807) = true := dT_q c22
    try have c22b2 : (9223372036854775807 < (x4_1 ++ t301).size + 1) = False := eq_false (Nat.not_lt.2 c22)
    have c22b3 : (9223372036854775807 < x4_1.size + t301.size + 1) = False := eq_false (by have h_ := c22; simp only [ByteArray.size_append] at h_; omega)
    obtain rfl := oI_q H
    obtain ⟨Ao23, co23, eo23⟩ := rS_q HO_3.out
    subst eo23
    go_wp2_with (first | ((with_reducible refine gC_q (f := 23) rfl ?_); refine gL_q (some 40) rfl rfl Tryd.func23 m6_q rfl #[.string (⟨#[101, 110, 100]⟩ : ByteArray), .slice Ao23 x3_1.length co23] rfl m0_q ?_; (with_reducible refine (impl_lotsText.calls k1 (⟨#[101, 110, 100]⟩ : ByteArray) _ _ x3_1 t301 _ ?side1 ?side2 A20.out m29_q).mono ?_); (case side1 => exact cup (rR_q HO_3.out).2.2); (case side2 => exact (rR_q HO_3.out).2.1); rintro e w' ⟨rfl, hb⟩; refine ⟨_, rfl, ?_⟩; replace HO_3 := Ae_q (rO_q (rup HO_3.out) hb); replace HB := Ae_q (bT_q (bel HB.out) hb); (try clear hb); (try clear hb2); (try clear hk); (try clear hi)))
    go_ret
    exact ⟨by first | rfl | (simp [eN_q, eS_q] <;> rfl) | (simp only [← hji4]; first | rfl | (simp [eN_q, eS_q] <;> rfl)) | (simp [*, eN_q, eS_q] <;> rfl), bel HB.out⟩
   rw [if_pos c12] at H
   have c12b0 : decide (x22_1 < (y292.length : Int)) = true := dT_q c12
   clear c12
   by_cases c13 : 0 ≤ x22_1
   rotate_left
   ·rw [if_neg c13] at H
    exact absurd H (by simp)
   rw [if_pos c13] at H
   have c13b0 : decide (0 ≤ x22_1) = true := dT_q c13
   clear c13
   by_cases c14 : x22_1 < (y292.length : Int)
   rotate_left
   ·rw [if_neg c14] at H
    exact absurd H (by simp)
   rw [if_pos c14] at H
   have c14b0 : decide (x22_1 < (y292.length : Int)) = true := dT_q c14
   clear c14
   replace H := oB_q.mp H
   obtain ⟨⟨t297, t300⟩, A150, H⟩ := H
   replace H : (if x4_1.size + t300.size ≤ 9223372036854775807 then (if (x4_1 ++ t300).size + 1 ≤ 9223372036854775807 then (impl_Execute.l0 k1 t297 ((x4_1 ++ t300) ++ (⟨#[10]⟩ : ByteArray)) y292 (y292.length : Int) (wrap64 (x22_1 + 1))) else (none)) else (none)) = some r := H
   have A15 := Ae_q A150
   clear A150
   by_cases c16 : x4_1.size + t300.size ≤ 9223372036854775807
   rotate_left
   ·rw [if_neg c16] at H
    exact absurd H (by simp)
   rw [if_pos c16] at H
   have c16b0 := eq_true c16
   have c16b1 : decide (x4_1.size + t300.size ≤ 9223372036854775807) = true := dT_q c16
   try have c16b2 : (9223372036854775807 < x4_1.size + t300.size) = False := eq_false (Nat.not_lt.2 c16)
   by_cases c17 : (x4_1 ++ t300).size + 1 ≤ 9223372036854775807
   rotate_left
   ·rw [if_neg c17] at H
    exact absurd H (by simp)
   rw [if_pos c17] at H
   have c17b0 := eq_true c17
   have c17b1 : decide ((x4_1 ++ t300).size + 1 ≤ 9223372036854775807) = true := dT_q c17
   try have c17b2 : (9223372036854775807 < (x4_1 ++ t300).size + 1) = False := eq_false (Nat.not_lt.2 c17)
   have c17b3 : (9223372036854775807 < x4_1.size + t300.size + 1) = False := eq_false (by have h_ := c17; simp only [ByteArray.size_append] at h_; omega)
   have H' := Ae_q H
   clear H
   have p296 : 0 ≤ (x22_1 : Int) := oD_q (by assumption)
   have q296 : x22_1 < (y292.length : Int) := oD_q (by assumption)
   obtain ⟨ad296, e296, hx296_0⟩ := Kd.at_string HR295.out x22_1 p296 q296
   cases e296
   replace p296 := eq_true p296
   replace q296 := eq_true q296
   obtain ⟨Ao18, co18, eo18⟩ := rS_q HO_3.out
   subst eo18
   go_wp2_with (first | ((with_reducible refine gC_q (f := 22) rfl ?_); refine gL_q (some 29) rfl rfl Tryd.func22 m6_q rfl #[.slice Ao18 x3_1.length co18, .string (rdOf ByteArray.empty y292 x22_1)] rfl m0_q ?_; (with_reducible refine (impl_command.calls k1 (fun k_ => some k_ = (.slice Ao18 x3_1.length co18 : Value).ownBlock) (.slice Ao18 x3_1.length co18) x3_1 (rdOf ByteArray.empty y292 x22_1) t297 t300 w _ ?side1 ?side2 A15.out m29_q).mono ?_); (case side1 => exact m89_q); (case side2 => exact Kd.R_tight rfl HO_3.out); rintro e w' ⟨v298, rfl, ho0, hb, hkp⟩; refine ⟨_, rfl, ?_⟩; have nW_ := Ae_q (R_kept_ty HW.out HO_3.out hkp); clear HW; have HW := nW_; clear nW_; have HO299 := Ae_q (rM_q (ok' := fun k_ => True) ho0 (fun k_ hk_ => trivial)); replace HB := Ae_q (hb); clear HO_3; (try clear hb); (try clear hkp); (try clear ho0)))
   go_roundg k1
   case measure => have := HK1.out; omega
   case rel => exact ⟨(t297), ((x4_1 ++ t300) ++ (⟨#[10]⟩ : ByteArray)), (wrap64 (x22_1 + 1)), m2_q, m2_q, H', ⟨m38_q⟩, ⟨rup HO299.out⟩, ⟨by (with_reducible repeat (first | apply rA_q | apply rN_q | apply rD_q)); exact HW.out⟩, ⟨bel HB.out⟩⟩

def spec_l6Dec.f : Nat → Int → Option (ByteArray)
 | 0, _ => none
 | k + 1, a0 => if a0 < (-9223372036854775807) then (some (⟨#[45, 57, 50, 50, 51, 51, 55, 50, 48, 51, 54, 56, 53, 52, 55, 55, 53, 56, 48, 56]⟩ : ByteArray)) else (if a0 < 0 then ((spec_l6Dec.f k (wrap64 (-a0))).bind fun t302 => (if 1 + t302.size ≤ 9223372036854775807 then (some ((⟨#[45]⟩ : ByteArray) ++ t302)) else (none))) else (if a0 < 10 then (some (strOfNums (([(wrap64 (48 + a0)) % 256] : List Int)))) else ((spec_l6Dec.f k (wrap64 (Int.tdiv a0 10))).bind fun t306 => ((some (([(wrap64 (48 + (Int.tmod a0 10))) % 256] : List Int) : List Int)).bind fun y307 => (if t306.size + (strOfNums y307).size ≤ 9223372036854775807 then (some (t306 ++ (strOfNums y307))) else (none))))))
def spec_l6Dec.T7 : Bool × List (List Nat × List Nat) := (true, [([], []), ([0], [0]), ([1], [1]), ([], []), ([3], [3]), ([4], [4]), ([5], [5]), ([6], [6]), ([7], [7]), ([2, 8], [2, 8]), ([9, 2, 0, 1, 2, 3, 4, 5, 6, 7, 8, 9], [9])])
def spec_l6Dec.B7 : List Nat := [0, 1, 3, 0, 8, 24, 56, 120, 248, 511, 1023]
theorem spec_l6Dec.tab7 : rtab .any (opsOf Tryd.f26 7) = spec_l6Dec.T7 := by kernel_rfl
theorem spec_l6Dec.bits7 : waitsOk spec_l6Dec.T7.2 spec_l6Dec.B7 = true := by kernel_rfl
set_option maxHeartbeats 8000000 in
set_option maxRecDepth 100000 in
theorem spec_l6Dec.calls (k : Nat) : ∀ (a0 : Int) (r : ByteArray) (w : World) (h : spec_l6Dec.f k a0 = some r),
    Calls Tryd.prog 26 #[.int .i64 a0] w fun e w' => e = .returned (.string r) ∧ Below w.heap.size w w' := by
 induction k using Nat.strongRecOn with
 | _ k ih =>
 intro a0 r w h
 cases k with
 | zero => exact absurd h (by simp [spec_l6Dec.f])
 | succ k =>
 simp only [spec_l6Dec.f] at h
 have HB := Ae_q (bR_q w.heap.size w)
 have H : (if a0 < (-9223372036854775807) then (some (⟨#[45, 57, 50, 50, 51, 51, 55, 50, 48, 51, 54, 56, 53, 52, 55, 55, 53, 56, 48, 56]⟩ : ByteArray)) else (if a0 < 0 then ((spec_l6Dec.f k (wrap64 (-a0))).bind fun t302 => (if 1 + t302.size ≤ 9223372036854775807 then (some ((⟨#[45]⟩ : ByteArray) ++ t302)) else (none))) else (if a0 < 10 then (some (strOfNums (([(wrap64 (48 + a0)) % 256] : List Int)))) else ((spec_l6Dec.f k (wrap64 (Int.tdiv a0 10))).bind fun t306 => ((some (([(wrap64 (48 + (Int.tmod a0 10))) % 256] : List Int) : List Int)).bind fun y307 => (if t306.size + (strOfNums y307).size ≤ 9223372036854775807 then (some (t306 ++ (strOfNums y307))) else (none))))))) = some r := h
 clear h
 by_cases c2 : a0 < (-9223372036854775807)
 ·rw [if_pos c2] at H
  have c2b0 : decide (a0 < (-9223372036854775807)) = true := dT_q c2
  clear c2
  obtain rfl := oI_q H
  go_enter Tryd.func26, Tryd.ntmps26
  go_wp2
  go_ret
  exact ⟨m3_q, bel HB.out⟩
 rw [if_neg c2] at H
 have c2b0 : decide (a0 < (-9223372036854775807)) = false := dF_q c2
 clear c2
 by_cases c3 : a0 < 0
 ·rw [if_pos c3] at H
  have c3b0 : decide (a0 < 0) = true := dT_q c3
  clear c3
  replace H := oB_q.mp H
  obtain ⟨t302, A40, H⟩ := H
  replace H : (if 1 + t302.size ≤ 9223372036854775807 then (some ((⟨#[45]⟩ : ByteArray) ++ t302)) else (none)) = some r := H
  have A4 := Ae_q A40
  clear A40
  by_cases c5 : 1 + t302.size ≤ 9223372036854775807
  rotate_left
  ·rw [if_neg c5] at H
   exact absurd H (by simp)
  rw [if_pos c5] at H
  have c5b0 := eq_true c5
  have c5b1 : decide (1 + t302.size ≤ 9223372036854775807) = true := dT_q c5
  try have c5b2 : (9223372036854775807 < 1 + t302.size) = False := eq_false (Nat.not_lt.2 c5)
  obtain rfl := oI_q H
  go_enter Tryd.func26, Tryd.ntmps26
  go_wp2_with (first | ((with_reducible refine gC_q (f := 26) rfl ?_); refine gL_q (some 9) rfl rfl Tryd.func26 m6_q rfl #[.int .i64 (wrap64 (-a0))] rfl m0_q ?_; (with_reducible refine (ih k (by omega) (wrap64 (-a0)) t302 _ A4.out).mono ?_); rintro e w' ⟨rfl, hb⟩; refine ⟨_, rfl, ?_⟩; replace HB := Ae_q (bT_q (bel HB.out) hb); (try clear hb); (try clear hb2); (try clear hk); (try clear hi)))
  go_ret
  exact ⟨m3_q, bel HB.out⟩
 rw [if_neg c3] at H
 have c3b0 : decide (a0 < 0) = false := dF_q c3
 clear c3
 by_cases c7 : a0 < 10
 ·rw [if_pos c7] at H
  have c7b0 : decide (a0 < 10) = true := dT_q c7
  clear c7
  obtain ⟨y303, hy303⟩ : ∃ y_ : List Int, y_ = (([(wrap64 (48 + a0)) % 256] : List Int)) := ⟨_, rfl⟩
  replace H : (some (strOfNums y303)) = some r := by first | (rw [hy303]; with_reducible exact H) | (have H2_ := (oS_q _ _).symm.trans H; rw [hy303]; with_reducible exact H2_) | (have H2_ := (oS_q _ _).symm.trans H; with_reducible exact H2_) | with_reducible exact H | (rw [hy303]; exact H) | exact H
  have Ny303 := Ae_q hy303
  clear hy303
  obtain rfl := oI_q H
  go_enter Tryd.func26, Tryd.ntmps26
  go_wp2_with (first | ((with_reducible refine gD_q (N := 16) rfl ?_); refine Kd.R_lit (Kd.int .u8) _ 5 ?hg (N := 16) ?hd (xs := ([(wrap64 (48 + a0)) % 256] : List Int)) (inner := [.int .u8 ((wrap64 (48 + a0)) % 256)]) (ok := fun _ => True) (okp := fun _ => True) ?hr ?hp (fun _ hk => hk) trivial (bR_q _ _) (nR_q _) (by simp) ?_; (case hd => rfl); (case hg => rfl); (case hr => exact m10_q); (case hp => exact (Reps.one (show Kd.M (Kd.int .u8) _ _ _ ((wrap64 (48 + a0)) % 256) [.int .u8 ((wrap64 (48 + a0)) % 256)] from rfl) (Reps.none _ _))); intro v304 w8 ho9 hb hg_ hnew_; clear hg_ hnew_; (first | rw [← Ny303.out] at ho9 | (simp only [Int.reduceToNat] at ho9; rw [← Ny303.out] at ho9)); have HO305 := Ae_q (rL_q ho9 (bZ_q (bel HB.out))); replace HB := Ae_q (bT_q (bel HB.out) hb); clear hb ho9; have hcv10 := own_string (P := Tryd.prog) Tryd.underlying22 Tryd.underlying5 Tryd.underlying9 (Kd.own_of_R HO305.out)))
  go_ret
  exact ⟨m3_q, bel HB.out⟩
 rw [if_neg c7] at H
 have c7b0 : decide (a0 < 10) = false := dF_q c7
 clear c7
 replace H := oB_q.mp H
 obtain ⟨t306, A110, H⟩ := H
 replace H : ((some (([(wrap64 (48 + (Int.tmod a0 10))) % 256] : List Int) : List Int)).bind fun y307 => (if t306.size + (strOfNums y307).size ≤ 9223372036854775807 then (some (t306 ++ (strOfNums y307))) else (none))) = some r := H
 have A11 := Ae_q A110
 clear A110
 obtain ⟨y307, hy307⟩ : ∃ y_ : List Int, y_ = (([(wrap64 (48 + (Int.tmod a0 10))) % 256] : List Int)) := ⟨_, rfl⟩
 replace H : (if t306.size + (strOfNums y307).size ≤ 9223372036854775807 then (some (t306 ++ (strOfNums y307))) else (none)) = some r := by first | (rw [hy307]; with_reducible exact H) | (have H2_ := (oS_q _ _).symm.trans H; rw [hy307]; with_reducible exact H2_) | (have H2_ := (oS_q _ _).symm.trans H; with_reducible exact H2_) | with_reducible exact H | (rw [hy307]; exact H) | exact H
 have Ny307 := Ae_q hy307
 clear hy307
 by_cases c12 : t306.size + (strOfNums y307).size ≤ 9223372036854775807
 rotate_left
 ·rw [if_neg c12] at H
  exact absurd H (by simp)
 rw [if_pos c12] at H
 have c12b0 := eq_true c12
 have c12b1 : decide (t306.size + (strOfNums y307).size ≤ 9223372036854775807) = true := dT_q c12
 try have c12b2 : (9223372036854775807 < t306.size + (strOfNums y307).size) = False := eq_false (Nat.not_lt.2 c12)
 obtain rfl := oI_q H
 go_enter Tryd.func26, Tryd.ntmps26
 try go_wp2
 replace HB := Ae_q (bD_q HB.out)
 refine start_ (n := 11) (S := fun w' => True) (ds := []) #[false, false, false, false, false, false, false, false, false, false, false] m6_q rfl rfl trivial (fun hHeld => ?_); refine with_tabW spec_l6Dec.tab7 spec_l6Dec.bits7 (fun HT_ HW_ => ?_)
 generalize w.drew = w13 at HB hHeld ⊢
 refine pJ HT_ 0 18 rfl rfl ?_
 refine pJ HT_ 1 19 rfl rfl ?_
 refine pJ HT_ 3 21 rfl rfl ?_
 refine pJ HT_ 4 22 rfl rfl ?_
 refine pJ HT_ 5 23 rfl rfl ?_
 refine pJ HT_ 6 24 rfl rfl ?_
 refine join_ (σ := Value) 2 #[true, true, true, true, true, true, true, true, true, false, false] (fun s_ => [(20, .string t306), (25, s_), (26, .string (strOfNums y307))]) (fun s_ w' => (Kd.R (Kd.int .u8) 5 w' w.heap.size (fun _ => True) s_ y307) ∧ (Below w.heap.size w w')) ?_ ?_
 rotate_left
 ·intro hCont
  refine two_ (i := 2) (j := 7) (Ni := some 20) (Nj := some 25) #[true, true, true, true, true, true, true, false, false, false, false] #[true, true, false, true, true, true, true, true, false, false, false] rfl rfl rfl rfl (two_of HT_.out m6_q) (by decide) (by decide) (fun K hK => ?_) (fun K hK => ?_)
  ·skip
   refine goes_ Tryd.func26 m6_q rfl #[.int .i64 (wrap64 (Int.tdiv a0 10))] (by rfl) rfl rfl m0_q ?_
   with_reducible refine (ih k (by omega) (wrap64 (Int.tdiv a0 10)) t306 _ A11.out).mono ?_
   rintro e w14 ⟨rfl, hb⟩
   refine ⟨_, rfl, ?_⟩
   replace HB := Ae_q (bT_q (bel HB.out) hb)
   (try clear hb)
   (try clear hb2)
   (try clear hk)
   (try clear hi)
   refine hK.out _ _ trivial (fun hHeld => ?_)
   clear hK K
   refine nJ_q ?_
   refine one_ (i := 7) (N := some 25) #[true, true, true, true, true, true, true, true, false, false, false] rfl rfl (one_of HT_.out m6_q) (by decide) (fun K hK => ?_)
   refine rI_q (Kd.int .u8) _ 5 ?hg (N := 25) ?hd (xs := ([(wrap64 (48 + (Int.tmod a0 10))) % 256] : List Int)) (inner := [.int .u8 ((wrap64 (48 + (Int.tmod a0 10))) % 256)]) (ok := fun _ => True) (okp := fun _ => True) ?hr ?hp (fun _ hk => hk) trivial (bR_q _ _) (nR_q _) (by simp) ?_; (case hd => rfl); (case hg => rfl); (case hr => exact m10_q); (case hp => exact m54_q)
   intro v308 w15 ho16 hb hg_ hnew_
   clear hg_ hnew_
   (first | rw [← Ny307.out] at ho16 | (simp only [Int.reduceToNat] at ho16; rw [← Ny307.out] at ho16))
   have HO309 := Ae_q (rL_q ho16 (bZ_q (bel HB.out)))
   replace HB := Ae_q (bT_q (bel HB.out) hb)
   clear hb ho16
   refine hK.out _ _ trivial (fun hHeld => ?_)
   clear hK K
   refine nJ_q ?_
   refine one_ (i := 8) (N := some 26) #[true, true, true, true, true, true, true, true, true, false, false] rfl rfl (one_of HT_.out m6_q) (by decide) (fun K hK => ?_)
   have hcv17 := own_string (P := Tryd.prog) Tryd.underlying22 Tryd.underlying5 Tryd.underlying9 (Kd.own_of_R HO309.out)
   refine value_ (w1 := ?_) (v := ?_) (by rfl) rfl ?_ ?_
   rotate_left 2
   ·go_simp
    constructor
    ·rfl
    rfl
   clear hcv17
   refine hK.out _ _ trivial (fun hHeld => ?_)
   clear hK K
   refine nJ_q ?_
   exact norm_ m96_q (hCont (v308) _ ⟨(rup HO309.out), (bel HB.out)⟩)
  skip
  refine rI_q (Kd.int .u8) _ 5 ?hg (N := 25) ?hd (xs := ([(wrap64 (48 + (Int.tmod a0 10))) % 256] : List Int)) (inner := [.int .u8 ((wrap64 (48 + (Int.tmod a0 10))) % 256)]) (ok := fun _ => True) (okp := fun _ => True) ?hr ?hp (fun _ hk => hk) trivial (bR_q _ _) (nR_q _) (by simp) ?_; (case hd => rfl); (case hg => rfl); (case hr => exact m10_q); (case hp => exact m54_q)
  intro v308 w14 ho15 hb hg_ hnew_
  clear hg_ hnew_
  (first | rw [← Ny307.out] at ho15 | (simp only [Int.reduceToNat] at ho15; rw [← Ny307.out] at ho15))
  have HO309 := Ae_q (rL_q ho15 (bZ_q (bel HB.out)))
  replace HB := Ae_q (bT_q (bel HB.out) hb)
  clear hb ho15
  refine hK.out _ _ trivial (fun hHeld => ?_)
  clear hK K
  refine nJ_q ?_
  refine two_ (i := 2) (j := 8) (Ni := some 20) (Nj := some 26) #[true, true, true, true, true, true, true, true, false, false, false] #[true, true, false, true, true, true, true, true, true, false, false] rfl rfl rfl rfl (two_of HT_.out m6_q) (by decide) (by decide) (fun K hK => ?_) (fun K hK => ?_)
  ·skip
   refine goes_ Tryd.func26 m6_q rfl #[.int .i64 (wrap64 (Int.tdiv a0 10))] (by rfl) rfl rfl m0_q ?_
   with_reducible refine (ih k (by omega) (wrap64 (Int.tdiv a0 10)) t306 _ A11.out).mono ?_
   rintro e w' ⟨rfl, hb⟩
   refine ⟨_, rfl, ?_⟩
   replace HO309 := Ae_q (rO_q (rup HO309.out) hb)
   replace HB := Ae_q (bT_q (bel HB.out) hb)
   (try clear hb)
   (try clear hb2)
   (try clear hk)
   (try clear hi)
   refine hK.out _ _ trivial (fun hHeld => ?_)
   clear hK K
   refine nJ_q ?_
   refine one_ (i := 8) (N := some 26) #[true, true, true, true, true, true, true, true, true, false, false] rfl rfl (one_of HT_.out m6_q) (by decide) (fun K hK => ?_)
   have hcv17 := own_string (P := Tryd.prog) Tryd.underlying22 Tryd.underlying5 Tryd.underlying9 (Kd.own_of_R HO309.out)
   refine value_ (w1 := ?_) (v := ?_) (by rfl) rfl ?_ ?_
   rotate_left 2
   ·go_simp
    constructor
    ·rfl
    rfl
   clear hcv17
   refine hK.out _ _ trivial (fun hHeld => ?_)
   clear hK K
   refine nJ_q ?_
   exact norm_ m96_q (hCont (v308) _ ⟨(rup HO309.out), (bel HB.out)⟩)
  skip
  have hcv16 := own_string (P := Tryd.prog) Tryd.underlying22 Tryd.underlying5 Tryd.underlying9 (Kd.own_of_R HO309.out)
  refine value_ (w1 := ?_) (v := ?_) (by rfl) rfl ?_ ?_
  rotate_left 2
  ·go_simp
   constructor
   ·rfl
   rfl
  clear hcv16
  refine hK.out _ _ trivial (fun hHeld => ?_)
  clear hK K
  refine nJ_q ?_
  refine one_ (i := 2) (N := some 20) #[true, true, true, true, true, true, true, true, true, false, false] rfl rfl (one_of HT_.out m6_q) (by decide) (fun K hK => ?_)
  refine goes_ Tryd.func26 m6_q rfl #[.int .i64 (wrap64 (Int.tdiv a0 10))] (by rfl) rfl rfl m0_q ?_
  with_reducible refine (ih k (by omega) (wrap64 (Int.tdiv a0 10)) t306 _ A11.out).mono ?_
  rintro e w' ⟨rfl, hb⟩
  refine ⟨_, rfl, ?_⟩
  replace HO309 := Ae_q (rO_q (rup HO309.out) hb)
  replace HB := Ae_q (bT_q (bel HB.out) hb)
  (try clear hb)
  (try clear hb2)
  (try clear hk)
  (try clear hi)
  refine hK.out _ _ trivial (fun hHeld => ?_)
  clear hK K
  refine nJ_q ?_
  exact norm_ m96_q (hCont (v308) _ ⟨(rup HO309.out), (bel HB.out)⟩)
 rintro v308 w18 ⟨h0_, h1_⟩
 have n0_ : Aside0 (Kd.R (Kd.int .u8) 5 w18 w.heap.size (fun _ => True) v308 y307) := ⟨h0_⟩
 have n1_ : Aside0 (Below w.heap.size w w18) := ⟨h1_⟩
 clear HB
 clear h0_ h1_
 have HO309 := n0_
 have HB := n1_
 clear n0_ n1_
 have hHeld := trivial
 refine norm_ (a' := ?_) ?_ ?_
 rotate_left
 ·simp only [putAll, Act.put, sA_q, sZ_q, sS_q]
  rfl
 refine pJ HT_ 9 27 rfl rfl ?_
 refine pJ HT_ 10 2 rfl rfl ?_
 refine done_ (done_of HT_.out m6_q) ?_
 try go_wp2
 go_ret
 exact ⟨m3_q, bel HB.out⟩

end Go.Proofs.YtbclhpibilbdbaaDoor.PSc
