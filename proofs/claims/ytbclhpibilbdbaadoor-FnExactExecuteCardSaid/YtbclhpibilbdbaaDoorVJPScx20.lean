import Derived.Test.YtbclhpibilbdbaaDoorVJPScx0
import Derived.Test.YtbclhpibilbdbaaDoorVJPScx19
namespace Go.Proofs.YtbclhpibilbdbaaDoor.PSc
open Go.RowKit Go.Proofs.YtbclhpibilbdbaaDoorW.PrintWords Go.Proofs.YtbclhpibilbdbaaDoorW.PrintLast Go.Proofs.YtbclhpibilbdbaaDoorW.PrintMore
attribute [local go_sem] max2_int min2_int max_two min_two max_three min_three max_four min_four
set_option linter.unusedVariables false
set_option linter.unusedSimpArgs false

def spec_StoreValid.l0 : Nat → List (S49) → Int → Option (Bool)
 | 0, _, _ => none
 | k + 1, x0, x3 => if x3 < (x0.length : Int) then (if 0 ≤ x3 then ((spec_l21Lot.f ((rd_T49 x0 x3).f0) ((rd_T49 x0 x3).f1) ((rd_T49 x0 x3).f2)).bind fun t333 => (if t333 = true then (if x3 > 0 then (if 0 ≤ (wrap64 (x3 - 1)) then (if (wrap64 (x3 - 1)) < (x0.length : Int) then ((spec_l21Before.f ((rd_T49 x0 (wrap64 (x3 - 1))).f0) ((rd_T49 x0 (wrap64 (x3 - 1))).f1) ((rd_T49 x0 (wrap64 (x3 - 1))).f2) ((rd_T49 x0 x3).f0) ((rd_T49 x0 x3).f1) ((rd_T49 x0 x3).f2)).bind fun t336 => (if t336 = true then (spec_StoreValid.l0 k x0 (wrap64 (x3 + 1))) else (some false))) else (none)) else (none)) else (spec_StoreValid.l0 k x0 (wrap64 (x3 + 1)))) else (some false))) else (none)) else (some (decide ((x0.length : Int) ≤ 12)))
def spec_StoreValid.f (k : Nat) (l0 : List (S49)) : Option (Bool) := spec_StoreValid.l0 k l0 0
def spec_StoreValid.T4 : Bool × List (List Nat × List Nat) := (true, [([], []), ([], []), ([0, 1], [0, 1]), ([2], [2]), ([3], [3]), ([4], [4]), ([5, 4], [5]), ([6], [6]), ([7, 6], [6, 7]), ([8, 6, 6], [6, 8]), ([9], [9]), ([9], [9]), ([11, 9], [9, 11]), ([10, 12, 9], [9, 10, 12]), ([13, 9], [9, 13]), ([9], [9]), ([9], [9]), ([15, 16, 9], [9, 15, 16]), ([17, 9], [9, 17]), ([14, 18, 9, 9], [9, 14, 18]), ([19, 9], [9, 19]), ([9, 20, 6], [6, 9, 20]), ([6, 21], [6, 21])])
def spec_StoreValid.B4 : List Nat := [0, 0, 3, 7, 15, 31, 63, 127, 255, 511, 1023, 1023, 3071, 8191, 16383, 1023, 1023, 99327, 230399, 524287, 1048575, 2097151, 4194303]
theorem spec_StoreValid.tab4 : rtab .any (opsOf Tryd.f54 4) = spec_StoreValid.T4 := by kernel_rfl
theorem spec_StoreValid.bits4 : waitsOk spec_StoreValid.T4.2 spec_StoreValid.B4 = true := by kernel_rfl
set_option maxHeartbeats 8000000 in
set_option maxRecDepth 100000 in
theorem spec_StoreValid.calls (k : Nat) (A0 : Option Addr) (c0 : Nat) (l0 : List (S49)) (r : Bool) (w : World) (hr0 : Kd.C k49 w A0 l0.length l0) (hc0 : l0.length ≤ c0) (h : spec_StoreValid.f k l0 = some r) :
    Calls Tryd.prog 54 #[.slice A0 l0.length c0] w fun e w' => e = .returned (.bool r) ∧ Below w.heap.size w w' := by
 have hu49 := Tryd.underlying49
 have HR0 := Ae_q hr0
 have HC0 := Ae_q hc0
 clear hr0 hc0
 have HB := Ae_q (bR_q w.heap.size w)
 have H : (spec_StoreValid.l0 k l0 0) = some r := h
 clear h
 have H' := Ae_q H
 clear H
 go_enter Tryd.func54, Tryd.ntmps54
 go_wp2
 go_loopg [3] k (fun kq v3 w' => ∃ (x3_1 : Int), v3 = .int .i64 x3_1 ∧ Aside0 (spec_StoreValid.l0 kq l0 x3_1 = some r) ∧ Aside0 (kq ≤ k) ∧ Aside0 (Below w.heap.size w w'))
 case atStart => exact ⟨(0), m2_q, H', ⟨nR_q _⟩, ⟨bel HB.out⟩⟩
 case round =>
  clear H'
  obtain ⟨x3_1, rfl, HA, HK1, HB⟩ := hrel
  cases gk with
  | zero => exact absurd HA.out (by simp [spec_StoreValid.l0])
  | succ k1 =>
   have H := HA.out
   clear HA
   simp only [spec_StoreValid.l0] at H
   by_cases c2 : x3_1 < (l0.length : Int)
   rotate_left
   ·rw [if_neg c2] at H
    have c2b0 : decide (x3_1 < (l0.length : Int)) = false := dF_q c2
    clear c2
    obtain rfl := oI_q H
    go_wp2
    go_ret
    exact ⟨m3_q, bel HB.out⟩
   rw [if_pos c2] at H
   have c2b0 : decide (x3_1 < (l0.length : Int)) = true := dT_q c2
   clear c2
   by_cases c3 : 0 ≤ x3_1
   rotate_left
   ·rw [if_neg c3] at H
    exact absurd H (by simp)
   rw [if_pos c3] at H
   have c3b0 : decide (0 ≤ x3_1) = true := dT_q c3
   clear c3
   replace H := oB_q.mp H
   obtain ⟨t333, A40, H⟩ := H
   replace H : (if t333 = true then (if x3_1 > 0 then (if 0 ≤ (wrap64 (x3_1 - 1)) then (if (wrap64 (x3_1 - 1)) < (l0.length : Int) then ((spec_l21Before.f ((rd_T49 l0 (wrap64 (x3_1 - 1))).f0) ((rd_T49 l0 (wrap64 (x3_1 - 1))).f1) ((rd_T49 l0 (wrap64 (x3_1 - 1))).f2) ((rd_T49 l0 x3_1).f0) ((rd_T49 l0 x3_1).f1) ((rd_T49 l0 x3_1).f2)).bind fun t336 => (if t336 = true then (spec_StoreValid.l0 k1 l0 (wrap64 (x3_1 + 1))) else (some false))) else (none)) else (none)) else (spec_StoreValid.l0 k1 l0 (wrap64 (x3_1 + 1)))) else (some false)) = some r := H
   have A4 := Ae_q A40
   clear A40
   by_cases c5 : t333 = true
   rotate_left
   ·replace c5 := fM_q.mpr c5
    subst c5
    have H1 : (some false) = some r := by rw [if_neg (show ¬ (false = true) by decide)] at H; exact H
    clear H
    have H := H1
    clear H1
    obtain rfl := oI_q H
    try go_wp2
    replace HB := Ae_q (bD_q HB.out)
    have p332 : 0 ≤ (x3_1 : Int) := oD_q (by assumption)
    have q332 : x3_1 < (l0.length : Int) := oD_q (by assumption)
    obtain ⟨ad332, e332, hx332_0, hx332_1, hx332_2⟩ := at_T49 HR0.out x3_1 p332 q332
    have hw332_2 := hx332_2
    have hw332_1 := hx332_1
    have hw332_0 := hx332_0
    cases e332
    replace hx332_0 := cel HB.out hx332_0
    replace hx332_1 := cel HB.out hx332_1
    replace hx332_2 := cel HB.out hx332_2
    replace p332 := eq_true p332
    replace q332 := eq_true q332
    refine start_ (n := 23) (S := fun w' => w'.cell? (ad332.add ((x3_1).toNat * 3)) = some (.int .i64 ((rd_T49 l0 x3_1).f0)) ∧ w'.cell? ⟨(ad332.add ((x3_1).toNat * 3)).block, (ad332.add ((x3_1).toNat * 3)).off + 1, none⟩ = some (.int .i64 ((rd_T49 l0 x3_1).f1)) ∧ w'.cell? ⟨(ad332.add ((x3_1).toNat * 3)).block, (ad332.add ((x3_1).toNat * 3)).off + 2, none⟩ = some (.int .i64 ((rd_T49 l0 x3_1).f2))) (ds := []) #[false, false, false, false, false, false, false, false, false, false, false, false, false, false, false, false, false, false, false, false, false, false, false] m6_q rfl rfl ⟨(cel HB.out hw332_0), (cel HB.out hw332_1), (cel HB.out hw332_2)⟩ (fun hHeld => ?_); refine with_tabW spec_StoreValid.tab4 spec_StoreValid.bits4 (fun HT_ HW_ => ?_)
    generalize wr.drew = w20 at HB hx332_0 hx332_1 hx332_2 hHeld ⊢
    refine pJ HT_ 0 10 rfl rfl ?_
    refine pJ HT_ 1 11 rfl rfl ?_
    refine pJ HT_ 2 12 rfl rfl ?_
    refine take_ (i := 3) (N := some 13) (v := ?_) (a' := ?_) #[true, true, true, true, false, false, false, false, false, false, false, false, false, false, false, false, false, false, false, false, false, false, false] rfl rfl (take_ofW HT_.out HW_.out m6_q) (fun _ _ _ h => h) (Or.inl ⟨by rfl, ?_⟩) hHeld ?_ ?_
    rotate_left
    ·rintro w' ⟨s0, s1, s2⟩
     go_simp
     with_reducible rfl
    rotate_left
    ·simp only [pS_q]
     rfl
    refine one_ (i := 4) (N := some 14) #[true, true, true, true, true, false, false, false, false, false, false, false, false, false, false, false, false, false, false, false, false, false, false] rfl rfl (one_of HT_.out m6_q) (by decide) (fun K hK => ?_)
    refine goes_ Tryd.func55 m6_q rfl #[.agg #[.int .i64 ((rd_T49 l0 x3_1).f0), .int .i64 ((rd_T49 l0 x3_1).f1), .int .i64 ((rd_T49 l0 x3_1).f2)]] (by rfl) rfl rfl m0_q ?_
    with_reducible refine (spec_l21Lot.calls ((rd_T49 l0 x3_1).f0) ((rd_T49 l0 x3_1).f1) ((rd_T49 l0 x3_1).f2) false _ A4.out).mono ?_
    rintro e w' ⟨rfl, hb⟩
    refine ⟨_, rfl, ?_⟩
    replace HB := Ae_q (bT_q (bel HB.out) hb)
    (try clear hb)
    (try clear hb2)
    (try clear hk)
    (try clear hi)
    refine hK.out _ _ ⟨(cel HB.out hw332_0), (cel HB.out hw332_1), (cel HB.out hw332_2)⟩ (fun hHeld => ?_)
    clear hK K
    refine nJ_q ?_
    refine pJ HT_ 5 15 rfl rfl ?_
    refine pJ HT_ 6 16 rfl rfl ?_
    refine pV HT_ 7 17 rfl rfl ?_
    refine pV HT_ 8 18 rfl rfl ?_
    refine pV HT_ 9 19 rfl rfl ?_
    refine pV HT_ 10 20 rfl rfl ?_
    refine pV HT_ 11 21 rfl rfl ?_
    refine pV HT_ 12 22 rfl rfl ?_
    refine pV HT_ 13 23 rfl rfl ?_
    refine pV HT_ 14 24 rfl rfl ?_
    refine pV HT_ 15 25 rfl rfl ?_
    refine pV HT_ 16 26 rfl rfl ?_
    refine pV HT_ 17 27 rfl rfl ?_
    refine pV HT_ 18 28 rfl rfl ?_
    refine pV HT_ 19 29 rfl rfl ?_
    refine pV HT_ 20 30 rfl rfl ?_
    refine pV HT_ 21 31 rfl rfl ?_
    refine pJ HT_ 22 32 rfl rfl ?_
    refine done_ (done_of HT_.out m6_q) ?_
    try go_wp2
    go_ret
    exact ⟨m3_q, bel HB.out⟩
   subst c5
   have H1 : (if x3_1 > 0 then (if 0 ≤ (wrap64 (x3_1 - 1)) then (if (wrap64 (x3_1 - 1)) < (l0.length : Int) then ((spec_l21Before.f ((rd_T49 l0 (wrap64 (x3_1 - 1))).f0) ((rd_T49 l0 (wrap64 (x3_1 - 1))).f1) ((rd_T49 l0 (wrap64 (x3_1 - 1))).f2) ((rd_T49 l0 x3_1).f0) ((rd_T49 l0 x3_1).f1) ((rd_T49 l0 x3_1).f2)).bind fun t336 => (if t336 = true then (spec_StoreValid.l0 k1 l0 (wrap64 (x3_1 + 1))) else (some false))) else (none)) else (none)) else (spec_StoreValid.l0 k1 l0 (wrap64 (x3_1 + 1)))) = some r := by rw [if_pos rfl] at H; exact H
   clear H
   have H := H1
   clear H1
   by_cases c6 : x3_1 > 0
   rotate_left
   ·rw [if_neg c6] at H
    have c6b0 : decide (0 < x3_1) = false := dF_q c6
    clear c6
    have H' := Ae_q H
    clear H
    try go_wp2
    replace HB := Ae_q (bD_q HB.out)
    have p332 : 0 ≤ (x3_1 : Int) := oD_q (by assumption)
    have q332 : x3_1 < (l0.length : Int) := oD_q (by assumption)
    obtain ⟨ad332, e332, hx332_0, hx332_1, hx332_2⟩ := at_T49 HR0.out x3_1 p332 q332
    have hw332_2 := hx332_2
    have hw332_1 := hx332_1
    have hw332_0 := hx332_0
    cases e332
    replace hx332_0 := cel HB.out hx332_0
    replace hx332_1 := cel HB.out hx332_1
    replace hx332_2 := cel HB.out hx332_2
    replace p332 := eq_true p332
    replace q332 := eq_true q332
    refine start_ (n := 23) (S := fun w' => w'.cell? (ad332.add ((x3_1).toNat * 3)) = some (.int .i64 ((rd_T49 l0 x3_1).f0)) ∧ w'.cell? ⟨(ad332.add ((x3_1).toNat * 3)).block, (ad332.add ((x3_1).toNat * 3)).off + 1, none⟩ = some (.int .i64 ((rd_T49 l0 x3_1).f1)) ∧ w'.cell? ⟨(ad332.add ((x3_1).toNat * 3)).block, (ad332.add ((x3_1).toNat * 3)).off + 2, none⟩ = some (.int .i64 ((rd_T49 l0 x3_1).f2))) (ds := []) #[false, false, false, false, false, false, false, false, false, false, false, false, false, false, false, false, false, false, false, false, false, false, false] m6_q rfl rfl ⟨(cel HB.out hw332_0), (cel HB.out hw332_1), (cel HB.out hw332_2)⟩ (fun hHeld => ?_); refine with_tabW spec_StoreValid.tab4 spec_StoreValid.bits4 (fun HT_ HW_ => ?_)
    generalize wr.drew = w18 at HB hx332_0 hx332_1 hx332_2 hHeld ⊢
    refine pJ HT_ 0 10 rfl rfl ?_
    refine pJ HT_ 1 11 rfl rfl ?_
    refine pJ HT_ 2 12 rfl rfl ?_
    refine take_ (i := 3) (N := some 13) (v := ?_) (a' := ?_) #[true, true, true, true, false, false, false, false, false, false, false, false, false, false, false, false, false, false, false, false, false, false, false] rfl rfl (take_ofW HT_.out HW_.out m6_q) (fun _ _ _ h => h) (Or.inl ⟨by rfl, ?_⟩) hHeld ?_ ?_
    rotate_left
    ·rintro w' ⟨s0, s1, s2⟩
     go_simp
     with_reducible rfl
    rotate_left
    ·simp only [pS_q]
     rfl
    refine one_ (i := 4) (N := some 14) #[true, true, true, true, true, false, false, false, false, false, false, false, false, false, false, false, false, false, false, false, false, false, false] rfl rfl (one_of HT_.out m6_q) (by decide) (fun K hK => ?_)
    refine goes_ Tryd.func55 m6_q rfl #[.agg #[.int .i64 ((rd_T49 l0 x3_1).f0), .int .i64 ((rd_T49 l0 x3_1).f1), .int .i64 ((rd_T49 l0 x3_1).f2)]] (by rfl) rfl rfl m0_q ?_
    with_reducible refine (spec_l21Lot.calls ((rd_T49 l0 x3_1).f0) ((rd_T49 l0 x3_1).f1) ((rd_T49 l0 x3_1).f2) true _ A4.out).mono ?_
    rintro e w' ⟨rfl, hb⟩
    refine ⟨_, rfl, ?_⟩
    replace HB := Ae_q (bT_q (bel HB.out) hb)
    (try clear hb)
    (try clear hb2)
    (try clear hk)
    (try clear hi)
    refine hK.out _ _ ⟨(cel HB.out hw332_0), (cel HB.out hw332_1), (cel HB.out hw332_2)⟩ (fun hHeld => ?_)
    clear hK K
    refine nJ_q ?_
    refine pJ HT_ 5 15 rfl rfl ?_
    refine pJ HT_ 6 16 rfl rfl ?_
    refine pJ HT_ 7 17 rfl rfl ?_
    refine pJ HT_ 8 18 rfl rfl ?_
    refine pJ HT_ 9 19 rfl rfl ?_
    refine pV HT_ 10 20 rfl rfl ?_
    refine pV HT_ 11 21 rfl rfl ?_
    refine pV HT_ 12 22 rfl rfl ?_
    refine pV HT_ 13 23 rfl rfl ?_
    refine pV HT_ 14 24 rfl rfl ?_
    refine pV HT_ 15 25 rfl rfl ?_
    refine pV HT_ 16 26 rfl rfl ?_
    refine pV HT_ 17 27 rfl rfl ?_
    refine pV HT_ 18 28 rfl rfl ?_
    refine pV HT_ 19 29 rfl rfl ?_
    refine pV HT_ 20 30 rfl rfl ?_
    refine pJ HT_ 21 31 rfl rfl ?_
    refine pJ HT_ 22 32 rfl rfl ?_
    refine done_ (done_of HT_.out m6_q) ?_
    try go_wp2
    go_roundg k1
    case measure => have := HK1.out; omega
    case rel => exact ⟨(wrap64 (x3_1 + 1)), m2_q, H', ⟨m38_q⟩, ⟨bel HB.out⟩⟩
   rw [if_pos c6] at H
   have c6b0 : decide (0 < x3_1) = true := dT_q c6
   clear c6
   obtain ⟨ji7, hji7⟩ : ∃ j_ : Int, (wrap64 (x3_1 - 1)) = j_ := ⟨_, rfl⟩
   replace H : (if 0 ≤ (ji7) then (if (ji7) < (l0.length : Int) then ((spec_l21Before.f ((rd_T49 l0 (ji7)).f0) ((rd_T49 l0 (ji7)).f1) ((rd_T49 l0 (ji7)).f2) ((rd_T49 l0 x3_1).f0) ((rd_T49 l0 x3_1).f1) ((rd_T49 l0 x3_1).f2)).bind fun t336 => (if t336 = true then (spec_StoreValid.l0 k1 l0 (wrap64 (x3_1 + 1))) else (some false))) else (none)) else (none)) = some r := by first | (rw [hji7] at H; exact H) | (simp only [hji7] at H ⊢; exact H)
   (try rw [hji7] at A4)
   have hji7w : (IntKind.i64.wrap (x3_1 - 1)) = ji7 := (i64_w _).trans hji7
   by_cases c8 : 0 ≤ (ji7)
   rotate_left
   ·rw [if_neg c8] at H
    exact absurd H (by simp)
   rw [if_pos c8] at H
   have c8b0 : decide (0 ≤ (ji7)) = true := dT_q c8
   clear c8
   by_cases c9 : (ji7) < (l0.length : Int)
   rotate_left
   ·rw [if_neg c9] at H
    exact absurd H (by simp)
   rw [if_pos c9] at H
   have c9b0 : decide ((ji7) < (l0.length : Int)) = true := dT_q c9
   clear c9
   replace H := oB_q.mp H
   obtain ⟨t336, A100, H⟩ := H
   replace H : (if t336 = true then (spec_StoreValid.l0 k1 l0 (wrap64 (x3_1 + 1))) else (some false)) = some r := H
   have A10 := Ae_q A100
   clear A100
   by_cases c11 : t336 = true
   ·subst c11
    have H1 : (spec_StoreValid.l0 k1 l0 (wrap64 (x3_1 + 1))) = some r := by rw [if_pos rfl] at H; exact H
    clear H
    have H := H1
    clear H1
    have H' := Ae_q H
    clear H
    try go_wp2
    replace HB := Ae_q (bD_q HB.out)
    have p332 : 0 ≤ (x3_1 : Int) := oD_q (by assumption)
    have q332 : x3_1 < (l0.length : Int) := oD_q (by assumption)
    obtain ⟨ad332, e332, hx332_0, hx332_1, hx332_2⟩ := at_T49 HR0.out x3_1 p332 q332
    have hw332_2 := hx332_2
    have hw332_1 := hx332_1
    have hw332_0 := hx332_0
    cases e332
    replace hx332_0 := cel HB.out hx332_0
    replace hx332_1 := cel HB.out hx332_1
    replace hx332_2 := cel HB.out hx332_2
    replace p332 := eq_true p332
    replace q332 := eq_true q332
    have p334 : 0 ≤ ((ji7) : Int) := oD_q (by assumption)
    have q334 : (ji7) < (l0.length : Int) := oD_q (by assumption)
    obtain ⟨ad334, e334, hx334_0, hx334_1, hx334_2⟩ := at_T49 HR0.out (ji7) p334 q334
    have hw334_2 := hx334_2
    have hw334_1 := hx334_1
    have hw334_0 := hx334_0
    obtain rfl : ad332 = ad334 := (by injection e334)
    replace hx334_0 := cel HB.out hx334_0
    replace hx334_1 := cel HB.out hx334_1
    replace hx334_2 := cel HB.out hx334_2
    replace p334 := eq_true p334
    replace q334 := eq_true q334
    have p335 : 0 ≤ (x3_1 : Int) := oD_q (by assumption)
    have q335 : x3_1 < (l0.length : Int) := oD_q (by assumption)
    obtain ⟨ad335, e335, hx335_0, hx335_1, hx335_2⟩ := at_T49 HR0.out x3_1 p335 q335
    have hw335_2 := hx335_2
    have hw335_1 := hx335_1
    have hw335_0 := hx335_0
    obtain rfl : ad332 = ad335 := (by injection e335)
    replace hx335_0 := cel HB.out hx335_0
    replace hx335_1 := cel HB.out hx335_1
    replace hx335_2 := cel HB.out hx335_2
    replace p335 := eq_true p335
    replace q335 := eq_true q335
    refine start_ (n := 23) (S := fun w' => w'.cell? (ad332.add ((x3_1).toNat * 3)) = some (.int .i64 ((rd_T49 l0 x3_1).f0)) ∧ w'.cell? ⟨(ad332.add ((x3_1).toNat * 3)).block, (ad332.add ((x3_1).toNat * 3)).off + 1, none⟩ = some (.int .i64 ((rd_T49 l0 x3_1).f1)) ∧ w'.cell? ⟨(ad332.add ((x3_1).toNat * 3)).block, (ad332.add ((x3_1).toNat * 3)).off + 2, none⟩ = some (.int .i64 ((rd_T49 l0 x3_1).f2)) ∧ w'.cell? (ad332.add (((ji7)).toNat * 3)) = some (.int .i64 ((rd_T49 l0 (ji7)).f0)) ∧ w'.cell? ⟨(ad332.add (((ji7)).toNat * 3)).block, (ad332.add (((ji7)).toNat * 3)).off + 1, none⟩ = some (.int .i64 ((rd_T49 l0 (ji7)).f1)) ∧ w'.cell? ⟨(ad332.add (((ji7)).toNat * 3)).block, (ad332.add (((ji7)).toNat * 3)).off + 2, none⟩ = some (.int .i64 ((rd_T49 l0 (ji7)).f2)) ∧ w'.cell? (ad332.add ((x3_1).toNat * 3)) = some (.int .i64 ((rd_T49 l0 x3_1).f0)) ∧ w'.cell? ⟨(ad332.add ((x3_1).toNat * 3)).block, (ad332.add ((x3_1).toNat * 3)).off + 1, none⟩ = some (.int .i64 ((rd_T49 l0 x3_1).f1)) ∧ w'.cell? ⟨(ad332.add ((x3_1).toNat * 3)).block, (ad332.add ((x3_1).toNat * 3)).off + 2, none⟩ = some (.int .i64 ((rd_T49 l0 x3_1).f2))) (ds := []) #[false, false, false, false, false, false, false, false, false, false, false, false, false, false, false, false, false, false, false, false, false, false, false] m6_q rfl rfl ⟨(cel HB.out hw332_0), (cel HB.out hw332_1), (cel HB.out hw332_2), (cel HB.out hw334_0), (cel HB.out hw334_1), (cel HB.out hw334_2), (cel HB.out hw335_0), (cel HB.out hw335_1), (cel HB.out hw335_2)⟩ (fun hHeld => ?_); refine with_tabW spec_StoreValid.tab4 spec_StoreValid.bits4 (fun HT_ HW_ => ?_)
    generalize wr.drew = w12 at HB hx332_0 hx332_1 hx332_2 hx334_0 hx334_1 hx334_2 hx335_0 hx335_1 hx335_2 hHeld ⊢
    refine pJ HT_ 0 10 rfl rfl ?_
    refine pJ HT_ 1 11 rfl rfl ?_
    refine pJ HT_ 2 12 rfl rfl ?_
    refine take_ (i := 3) (N := some 13) (v := ?_) (a' := ?_) #[true, true, true, true, false, false, false, false, false, false, false, false, false, false, false, false, false, false, false, false, false, false, false] rfl rfl (take_ofW HT_.out HW_.out m6_q) (fun _ _ _ h => h) (Or.inl ⟨by rfl, ?_⟩) hHeld ?_ ?_
    rotate_left
    ·rintro w' ⟨s0, s1, s2, s3, s4, s5, s6, s7, s8⟩
     go_simp
     with_reducible rfl
    rotate_left
    ·simp only [pS_q]
     rfl
    refine one_ (i := 4) (N := some 14) #[true, true, true, true, true, false, false, false, false, false, false, false, false, false, false, false, false, false, false, false, false, false, false] rfl rfl (one_of HT_.out m6_q) (by decide) (fun K hK => ?_)
    refine goes_ Tryd.func55 m6_q rfl #[.agg #[.int .i64 ((rd_T49 l0 x3_1).f0), .int .i64 ((rd_T49 l0 x3_1).f1), .int .i64 ((rd_T49 l0 x3_1).f2)]] (by rfl) rfl rfl m0_q ?_
    with_reducible refine (spec_l21Lot.calls ((rd_T49 l0 x3_1).f0) ((rd_T49 l0 x3_1).f1) ((rd_T49 l0 x3_1).f2) true _ A4.out).mono ?_
    rintro e w' ⟨rfl, hb⟩
    refine ⟨_, rfl, ?_⟩
    replace HB := Ae_q (bT_q (bel HB.out) hb)
    (try clear hb)
    (try clear hb2)
    (try clear hk)
    (try clear hi)
    refine hK.out _ _ ⟨(cel HB.out hw332_0), (cel HB.out hw332_1), (cel HB.out hw332_2), (cel HB.out hw334_0), (cel HB.out hw334_1), (cel HB.out hw334_2), (cel HB.out hw335_0), (cel HB.out hw335_1), (cel HB.out hw335_2)⟩ (fun hHeld => ?_)
    clear hK K
    refine nJ_q ?_
    refine pJ HT_ 5 15 rfl rfl ?_
    refine pJ HT_ 6 16 rfl rfl ?_
    refine pJ HT_ 7 17 rfl rfl ?_
    refine pJ HT_ 8 18 rfl rfl ?_
    refine pJ HT_ 9 19 rfl rfl ?_
    refine pJ HT_ 10 20 rfl rfl ?_
    refine pJ HT_ 11 21 rfl rfl ?_
    refine pJ HT_ 12 22 rfl rfl ?_
    refine pJ HT_ 13 23 rfl rfl ?_
    refine pJ HT_ 15 25 rfl rfl ?_
    refine pJ HT_ 16 26 rfl rfl ?_
    refine pJ HT_ 17 27 rfl rfl ?_
    refine take_ (i := 14) (N := some 24) (v := ?_) (a' := ?_) #[true, true, true, true, true, true, true, true, true, true, true, true, true, true, true, true, true, true, false, false, false, false, false] rfl rfl (take_ofW HT_.out HW_.out m6_q) (fun _ _ _ h => h) (Or.inl ⟨by rfl, ?_⟩) hHeld ?_ ?_
    rotate_left
    ·rintro w' ⟨s0, s1, s2, s3, s4, s5, s6, s7, s8⟩
     go_simp
     with_reducible rfl
    rotate_left
    ·simp only [pS_q]
     rfl
    refine take_ (i := 18) (N := some 28) (v := ?_) (a' := ?_) #[true, true, true, true, true, true, true, true, true, true, true, true, true, true, true, true, true, true, true, false, false, false, false] rfl rfl (take_ofW HT_.out HW_.out m6_q) (fun _ _ _ h => h) (Or.inl ⟨by rfl, ?_⟩) hHeld ?_ ?_
    rotate_left
    ·rintro w' ⟨s0, s1, s2, s3, s4, s5, s6, s7, s8⟩
     go_simp
     with_reducible rfl
    rotate_left
    ·simp only [pS_q]
     rfl
    refine one_ (i := 19) (N := some 29) #[true, true, true, true, true, true, true, true, true, true, true, true, true, true, true, true, true, true, true, true, false, false, false] rfl rfl (one_of HT_.out m6_q) (by decide) (fun K hK => ?_)
    refine goes_ Tryd.func69 m6_q rfl #[.agg #[.int .i64 ((rd_T49 l0 (ji7)).f0), .int .i64 ((rd_T49 l0 (ji7)).f1), .int .i64 ((rd_T49 l0 (ji7)).f2)], .agg #[.int .i64 ((rd_T49 l0 x3_1).f0), .int .i64 ((rd_T49 l0 x3_1).f1), .int .i64 ((rd_T49 l0 x3_1).f2)]] (by rfl) rfl rfl m70_q ?_
    with_reducible refine (spec_l21Before.calls ((rd_T49 l0 (ji7)).f0) ((rd_T49 l0 (ji7)).f1) ((rd_T49 l0 (ji7)).f2) ((rd_T49 l0 x3_1).f0) ((rd_T49 l0 x3_1).f1) ((rd_T49 l0 x3_1).f2) true _ A10.out).mono ?_
    rintro e w' ⟨rfl, hb⟩
    refine ⟨_, rfl, ?_⟩
    replace HB := Ae_q (bT_q (bel HB.out) hb)
    (try clear hb)
    (try clear hb2)
    (try clear hk)
    (try clear hi)
    refine hK.out _ _ ⟨(cel HB.out hw332_0), (cel HB.out hw332_1), (cel HB.out hw332_2), (cel HB.out hw334_0), (cel HB.out hw334_1), (cel HB.out hw334_2), (cel HB.out hw335_0), (cel HB.out hw335_1), (cel HB.out hw335_2)⟩ (fun hHeld => ?_)
    clear hK K
    refine nJ_q ?_
    refine pJ HT_ 20 30 rfl rfl ?_
    refine pJ HT_ 21 31 rfl rfl ?_
    refine pJ HT_ 22 32 rfl rfl ?_
    refine done_ (done_of HT_.out m6_q) ?_
    try go_wp2
    go_roundg k1
    case measure => have := HK1.out; omega
    case rel => exact ⟨(wrap64 (x3_1 + 1)), m2_q, H', ⟨m38_q⟩, ⟨bel HB.out⟩⟩
   replace c11 := fM_q.mpr c11
   subst c11
   have H1 : (some false) = some r := by rw [if_neg (show ¬ (false = true) by decide)] at H; exact H
   clear H
   have H := H1
   clear H1
   obtain rfl := oI_q H
   try go_wp2
   replace HB := Ae_q (bD_q HB.out)
   have p332 : 0 ≤ (x3_1 : Int) := oD_q (by assumption)
   have q332 : x3_1 < (l0.length : Int) := oD_q (by assumption)
   obtain ⟨ad332, e332, hx332_0, hx332_1, hx332_2⟩ := at_T49 HR0.out x3_1 p332 q332
   have hw332_2 := hx332_2
   have hw332_1 := hx332_1
   have hw332_0 := hx332_0
   cases e332
   replace hx332_0 := cel HB.out hx332_0
   replace hx332_1 := cel HB.out hx332_1
   replace hx332_2 := cel HB.out hx332_2
   replace p332 := eq_true p332
   replace q332 := eq_true q332
   have p334 : 0 ≤ ((ji7) : Int) := oD_q (by assumption)
   have q334 : (ji7) < (l0.length : Int) := oD_q (by assumption)
   obtain ⟨ad334, e334, hx334_0, hx334_1, hx334_2⟩ := at_T49 HR0.out (ji7) p334 q334
   have hw334_2 := hx334_2
   have hw334_1 := hx334_1
   have hw334_0 := hx334_0
   obtain rfl : ad332 = ad334 := (by injection e334)
   replace hx334_0 := cel HB.out hx334_0
   replace hx334_1 := cel HB.out hx334_1
   replace hx334_2 := cel HB.out hx334_2
   replace p334 := eq_true p334
   replace q334 := eq_true q334
   have p335 : 0 ≤ (x3_1 : Int) := oD_q (by assumption)
   have q335 : x3_1 < (l0.length : Int) := oD_q (by assumption)
   obtain ⟨ad335, e335, hx335_0, hx335_1, hx335_2⟩ := at_T49 HR0.out x3_1 p335 q335
   have hw335_2 := hx335_2
   have hw335_1 := hx335_1
   have hw335_0 := hx335_0
   obtain rfl : ad332 = ad335 := (by injection e335)
   replace hx335_0 := cel HB.out hx335_0
   replace hx335_1 := cel HB.out hx335_1
   replace hx335_2 := cel HB.out hx335_2
   replace p335 := eq_true p335
   replace q335 := eq_true q335
   refine start_ (n := 23) (S := fun w' => w'.cell? (ad332.add ((x3_1).toNat * 3)) = some (.int .i64 ((rd_T49 l0 x3_1).f0)) ∧ w'.cell? ⟨(ad332.add ((x3_1).toNat * 3)).block, (ad332.add ((x3_1).toNat * 3)).off + 1, none⟩ = some (.int .i64 ((rd_T49 l0 x3_1).f1)) ∧ w'.cell? ⟨(ad332.add ((x3_1).toNat * 3)).block, (ad332.add ((x3_1).toNat * 3)).off + 2, none⟩ = some (.int .i64 ((rd_T49 l0 x3_1).f2)) ∧ w'.cell? (ad332.add (((ji7)).toNat * 3)) = some (.int .i64 ((rd_T49 l0 (ji7)).f0)) ∧ w'.cell? ⟨(ad332.add (((ji7)).toNat * 3)).block, (ad332.add (((ji7)).toNat * 3)).off + 1, none⟩ = some (.int .i64 ((rd_T49 l0 (ji7)).f1)) ∧ w'.cell? ⟨(ad332.add (((ji7)).toNat * 3)).block, (ad332.add (((ji7)).toNat * 3)).off + 2, none⟩ = some (.int .i64 ((rd_T49 l0 (ji7)).f2)) ∧ w'.cell? (ad332.add ((x3_1).toNat * 3)) = some (.int .i64 ((rd_T49 l0 x3_1).f0)) ∧ w'.cell? ⟨(ad332.add ((x3_1).toNat * 3)).block, (ad332.add ((x3_1).toNat * 3)).off + 1, none⟩ = some (.int .i64 ((rd_T49 l0 x3_1).f1)) ∧ w'.cell? ⟨(ad332.add ((x3_1).toNat * 3)).block, (ad332.add ((x3_1).toNat * 3)).off + 2, none⟩ = some (.int .i64 ((rd_T49 l0 x3_1).f2))) (ds := []) #[false, false, false, false, false, false, false, false, false, false, false, false, false, false, false, false, false, false, false, false, false, false, false] m6_q rfl rfl ⟨(cel HB.out hw332_0), (cel HB.out hw332_1), (cel HB.out hw332_2), (cel HB.out hw334_0), (cel HB.out hw334_1), (cel HB.out hw334_2), (cel HB.out hw335_0), (cel HB.out hw335_1), (cel HB.out hw335_2)⟩ (fun hHeld => ?_); refine with_tabW spec_StoreValid.tab4 spec_StoreValid.bits4 (fun HT_ HW_ => ?_)
   generalize wr.drew = w15 at HB hx332_0 hx332_1 hx332_2 hx334_0 hx334_1 hx334_2 hx335_0 hx335_1 hx335_2 hHeld ⊢
   refine pJ HT_ 0 10 rfl rfl ?_
   refine pJ HT_ 1 11 rfl rfl ?_
   refine pJ HT_ 2 12 rfl rfl ?_
   refine take_ (i := 3) (N := some 13) (v := ?_) (a' := ?_) #[true, true, true, true, false, false, false, false, false, false, false, false, false, false, false, false, false, false, false, false, false, false, false] rfl rfl (take_ofW HT_.out HW_.out m6_q) (fun _ _ _ h => h) (Or.inl ⟨by rfl, ?_⟩) hHeld ?_ ?_
   rotate_left
   ·rintro w' ⟨s0, s1, s2, s3, s4, s5, s6, s7, s8⟩
    go_simp
    with_reducible rfl
   rotate_left
   ·simp only [pS_q]
    rfl
   refine one_ (i := 4) (N := some 14) #[true, true, true, true, true, false, false, false, false, false, false, false, false, false, false, false, false, false, false, false, false, false, false] rfl rfl (one_of HT_.out m6_q) (by decide) (fun K hK => ?_)
   refine goes_ Tryd.func55 m6_q rfl #[.agg #[.int .i64 ((rd_T49 l0 x3_1).f0), .int .i64 ((rd_T49 l0 x3_1).f1), .int .i64 ((rd_T49 l0 x3_1).f2)]] (by rfl) rfl rfl m0_q ?_
   with_reducible refine (spec_l21Lot.calls ((rd_T49 l0 x3_1).f0) ((rd_T49 l0 x3_1).f1) ((rd_T49 l0 x3_1).f2) true _ A4.out).mono ?_
   rintro e w' ⟨rfl, hb⟩
   refine ⟨_, rfl, ?_⟩
   replace HB := Ae_q (bT_q (bel HB.out) hb)
   (try clear hb)
   (try clear hb2)
   (try clear hk)
   (try clear hi)
   refine hK.out _ _ ⟨(cel HB.out hw332_0), (cel HB.out hw332_1), (cel HB.out hw332_2), (cel HB.out hw334_0), (cel HB.out hw334_1), (cel HB.out hw334_2), (cel HB.out hw335_0), (cel HB.out hw335_1), (cel HB.out hw335_2)⟩ (fun hHeld => ?_)
   clear hK K
   refine nJ_q ?_
   refine pJ HT_ 5 15 rfl rfl ?_
   refine pJ HT_ 6 16 rfl rfl ?_
   refine pJ HT_ 7 17 rfl rfl ?_
   refine pJ HT_ 8 18 rfl rfl ?_
   refine pJ HT_ 9 19 rfl rfl ?_
   refine pJ HT_ 10 20 rfl rfl ?_
   refine pJ HT_ 11 21 rfl rfl ?_
   refine pJ HT_ 12 22 rfl rfl ?_
   refine pJ HT_ 13 23 rfl rfl ?_
   refine pJ HT_ 15 25 rfl rfl ?_
   refine pJ HT_ 16 26 rfl rfl ?_
   refine pJ HT_ 17 27 rfl rfl ?_
   refine take_ (i := 14) (N := some 24) (v := ?_) (a' := ?_) #[true, true, true, true, true, true, true, true, true, true, true, true, true, true, true, true, true, true, false, false, false, false, false] rfl rfl (take_ofW HT_.out HW_.out m6_q) (fun _ _ _ h => h) (Or.inl ⟨by rfl, ?_⟩) hHeld ?_ ?_
   rotate_left
   ·rintro w' ⟨s0, s1, s2, s3, s4, s5, s6, s7, s8⟩
    go_simp
    with_reducible rfl
   rotate_left
   ·simp only [pS_q]
    rfl
   refine take_ (i := 18) (N := some 28) (v := ?_) (a' := ?_) #[true, true, true, true, true, true, true, true, true, true, true, true, true, true, true, true, true, true, true, false, false, false, false] rfl rfl (take_ofW HT_.out HW_.out m6_q) (fun _ _ _ h => h) (Or.inl ⟨by rfl, ?_⟩) hHeld ?_ ?_
   rotate_left
   ·rintro w' ⟨s0, s1, s2, s3, s4, s5, s6, s7, s8⟩
    go_simp
    with_reducible rfl
   rotate_left
   ·simp only [pS_q]
    rfl
   refine one_ (i := 19) (N := some 29) #[true, true, true, true, true, true, true, true, true, true, true, true, true, true, true, true, true, true, true, true, false, false, false] rfl rfl (one_of HT_.out m6_q) (by decide) (fun K hK => ?_)
   refine goes_ Tryd.func69 m6_q rfl #[.agg #[.int .i64 ((rd_T49 l0 (ji7)).f0), .int .i64 ((rd_T49 l0 (ji7)).f1), .int .i64 ((rd_T49 l0 (ji7)).f2)], .agg #[.int .i64 ((rd_T49 l0 x3_1).f0), .int .i64 ((rd_T49 l0 x3_1).f1), .int .i64 ((rd_T49 l0 x3_1).f2)]] (by rfl) rfl rfl m70_q ?_
   with_reducible refine (spec_l21Before.calls ((rd_T49 l0 (ji7)).f0) ((rd_T49 l0 (ji7)).f1) ((rd_T49 l0 (ji7)).f2) ((rd_T49 l0 x3_1).f0) ((rd_T49 l0 x3_1).f1) ((rd_T49 l0 x3_1).f2) false _ A10.out).mono ?_
   rintro e w' ⟨rfl, hb⟩
   refine ⟨_, rfl, ?_⟩
   replace HB := Ae_q (bT_q (bel HB.out) hb)
   (try clear hb)
   (try clear hb2)
   (try clear hk)
   (try clear hi)
   refine hK.out _ _ ⟨(cel HB.out hw332_0), (cel HB.out hw332_1), (cel HB.out hw332_2), (cel HB.out hw334_0), (cel HB.out hw334_1), (cel HB.out hw334_2), (cel HB.out hw335_0), (cel HB.out hw335_1), (cel HB.out hw335_2)⟩ (fun hHeld => ?_)
   clear hK K
   refine nJ_q ?_
   refine pJ HT_ 20 30 rfl rfl ?_
   refine pJ HT_ 21 31 rfl rfl ?_
   refine pJ HT_ 22 32 rfl rfl ?_
   refine done_ (done_of HT_.out m6_q) ?_
   try go_wp2
   go_ret
   exact ⟨by first | rfl | (simp [eN_q, eS_q] <;> rfl) | (simp only [← hji7]; first | rfl | (simp [eN_q, eS_q] <;> rfl)) | (simp [*, eN_q, eS_q] <;> rfl), bel HB.out⟩

end Go.Proofs.YtbclhpibilbdbaaDoor.PSc
