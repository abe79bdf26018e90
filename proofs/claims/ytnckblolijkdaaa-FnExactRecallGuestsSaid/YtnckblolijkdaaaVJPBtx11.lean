import Derived.Test.YtnckblolijkdaaaVJPBtx0
import Derived.Test.YtnckblolijkdaaaVJPBtx10
namespace Go.Proofs.Ytnckblolijkdaaa.PBt
open Go.RowKit Go.Proofs.YtnckblolijkdaaaW.PrintWords Go.Proofs.YtnckblolijkdaaaW.PrintLast Go.Proofs.YtnckblolijkdaaaW.PrintMore
attribute [local go_sem] max2_int min2_int max_two min_two max_three min_three max_four min_four
set_option linter.unusedVariables false
set_option linter.unusedSimpArgs false

def spec_BatchesValid.l0 : Nat → List (S39) → Int → Option (Bool)
 | 0, _, _ => none
 | k + 1, x0, x3 => if x3 < (x0.length : Int) then (if 0 ≤ x3 then ((spec_l42Batch.f k ((rd_T39 x0 x3).f0) ((rd_T39 x0 x3).f1) ((rd_T39 x0 x3).f2) ((rd_T39 x0 x3).f3)).bind fun t171 => (if t171 = true then (if x3 > 0 then (if 0 ≤ (wrap64 (x3 - 1)) then (if (wrap64 (x3 - 1)) < (x0.length : Int) then (if ((rd_T39 x0 (wrap64 (x3 - 1))).f0) ≥ ((rd_T39 x0 x3).f0) then (some false) else (spec_BatchesValid.l0 k x0 (wrap64 (x3 + 1)))) else (none)) else (none)) else (spec_BatchesValid.l0 k x0 (wrap64 (x3 + 1)))) else (some false))) else (none)) else (some (decide ((x0.length : Int) ≤ 6)))
def spec_BatchesValid.f (k : Nat) (l0 : List (S39)) : Option (Bool) := spec_BatchesValid.l0 k l0 0
def spec_BatchesValid.T4 : Bool × List (List Nat × List Nat) := (true, [([], []), ([], []), ([0, 1], [0, 1]), ([2], [2]), ([3], [3]), ([4], [4]), ([5, 4], [5]), ([6], [6]), ([7, 6], [6, 7]), ([8, 6, 6], [6, 8]), ([9], [9]), ([9], [9]), ([11, 9], [9, 11]), ([10, 12, 9], [9, 10, 12]), ([13, 9], [9, 13]), ([14, 9], [9, 14]), ([9], [9]), ([9], [9]), ([16, 17, 9], [9, 16, 17]), ([18, 9], [9, 18]), ([19, 9], [9, 19]), ([15, 20, 9], [9, 15, 20]), ([9, 21, 6], [6, 9, 21]), ([6, 22], [6, 22])])
def spec_BatchesValid.B4 : List Nat := [0, 0, 3, 7, 15, 31, 63, 127, 255, 511, 1023, 1023, 3071, 8191, 16383, 32767, 1023, 1023, 197631, 459775, 984063, 2097151, 4194303, 8388607]
theorem spec_BatchesValid.tab4 : rtab .any (opsOf Try.f16 4) = spec_BatchesValid.T4 := by kernel_rfl
theorem spec_BatchesValid.bits4 : waitsOk spec_BatchesValid.T4.2 spec_BatchesValid.B4 = true := by kernel_rfl
set_option maxHeartbeats 8000000 in
set_option maxRecDepth 100000 in
theorem spec_BatchesValid.calls (k : Nat) (A0 : Option Addr) (c0 : Nat) (l0 : List (S39)) (r : Bool) (w : World) (hr0 : Kd.C k39 w A0 l0.length l0) (hc0 : l0.length ≤ c0) (h : spec_BatchesValid.f k l0 = some r) :
    Calls Try.prog 16 #[.slice A0 l0.length c0] w fun e w' => e = .returned (.bool r) ∧ Below w.heap.size w w' := by
 have hu39 := Try.underlying39
 have HR0 := Ae_q hr0
 have HC0 := Ae_q hc0
 clear hr0 hc0
 have HB := Ae_q (bR_q w.heap.size w)
 have H : (spec_BatchesValid.l0 k l0 0) = some r := h
 clear h
 have H' := Ae_q H
 clear H
 go_enter Try.func16, Try.ntmps16
 go_wp2
 go_loopg [3] k (fun kq v3 w' => ∃ (x3_1 : Int), v3 = .int .i64 x3_1 ∧ Aside0 (spec_BatchesValid.l0 kq l0 x3_1 = some r) ∧ Aside0 (kq ≤ k) ∧ Aside0 (Below w.heap.size w w'))
 case atStart => exact ⟨(0), m3_q, H', ⟨nR_q _⟩, ⟨bel HB.out⟩⟩
 case round =>
  clear H'
  try clear c1
  obtain ⟨x3_1, rfl, HA, HK1, HB⟩ := hrel
  cases gk with
  | zero => exact absurd HA.out (by simp [spec_BatchesValid.l0])
  | succ k1 =>
   have H := HA.out
   clear HA
   simp only [spec_BatchesValid.l0] at H
   by_cases c2 : x3_1 < (l0.length : Int)
   rotate_left
   ·rw [if_neg c2] at H
    have c2b0 : decide (x3_1 < (l0.length : Int)) = false := dF_q c2
    clear c2
    obtain rfl := oI_q H
    go_wp2
    go_ret
    exact ⟨m2_q, bel HB.out⟩
   rw [if_pos c2] at H
   have c2b0 : decide (x3_1 < (l0.length : Int)) = true := dT_q c2
   clear c2
   by_cases c3 : 0 ≤ x3_1
   rotate_left
   ·rw [if_neg c3] at H
    exact absurd H (by simp)
   rw [if_pos c3] at H
   have c3b0 : decide (0 ≤ x3_1) = true := dT_q c3
   clear c3
   replace H := oB_q.mp H
   obtain ⟨t171, A40, H⟩ := H
   replace H : (if t171 = true then (if x3_1 > 0 then (if 0 ≤ (wrap64 (x3_1 - 1)) then (if (wrap64 (x3_1 - 1)) < (l0.length : Int) then (if ((rd_T39 l0 (wrap64 (x3_1 - 1))).f0) ≥ ((rd_T39 l0 x3_1).f0) then (some false) else (spec_BatchesValid.l0 k1 l0 (wrap64 (x3_1 + 1)))) else (none)) else (none)) else (spec_BatchesValid.l0 k1 l0 (wrap64 (x3_1 + 1)))) else (some false)) = some r := H
   have A4 := Ae_q A40
   clear A40
   by_cases c5 : t171 = true
   rotate_left
   ·replace c5 := fM_q.mpr c5
    subst c5
    have H1 : (some false) = some r := by rw [if_neg (show ¬ (false = true) by decide)] at H; exact H
    clear H
    have H := H1
    clear H1
    obtain rfl := oI_q H
    try go_wp2
    replace HB := Ae_q (bD_q HB.out)
    have p170 : 0 ≤ (x3_1 : Int) := oD_q (by assumption)
    have q170 : x3_1 < (l0.length : Int) := oD_q (by assumption)
    obtain ⟨ad170, A170_1, c170_1, e170, hx170_0, hx170_1, hx170_2, hx170_3, hl170_1, hi170_1⟩ := at_T39 HR0.out x3_1 p170 q170
    have hw170_3 := hx170_3
    have hw170_2 := hx170_2
    have hw170_1 := hx170_1
    have hw170_0 := hx170_0
    cases e170
    replace hx170_0 := cel HB.out hx170_0
    replace hx170_1 := cel HB.out hx170_1
    replace hx170_2 := cel HB.out hx170_2
    replace hx170_3 := cel HB.out hx170_3
    have HR170_1 := Ae_q hi170_1
    have HC170_1 := Ae_q hl170_1
    clear hi170_1 hl170_1
    replace p170 := eq_true p170
    replace q170 := eq_true q170
    refine start_ (n := 24) (S := fun w' => w'.cell? (ad170.add ((x3_1).toNat * 4)) = some (.int .i64 ((rd_T39 l0 x3_1).f0)) ∧ w'.cell? ⟨(ad170.add ((x3_1).toNat * 4)).block, (ad170.add ((x3_1).toNat * 4)).off + 1, none⟩ = some (.slice A170_1 ((rd_T39 l0 x3_1).f1).length c170_1) ∧ w'.cell? ⟨(ad170.add ((x3_1).toNat * 4)).block, (ad170.add ((x3_1).toNat * 4)).off + 2, none⟩ = some (.int .i64 ((rd_T39 l0 x3_1).f2)) ∧ w'.cell? ⟨(ad170.add ((x3_1).toNat * 4)).block, (ad170.add ((x3_1).toNat * 4)).off + 3, none⟩ = some (.int .i64 ((rd_T39 l0 x3_1).f3))) (ds := []) #[false, false, false, false, false, false, false, false, false, false, false, false, false, false, false, false, false, false, false, false, false, false, false, false] m5_q rfl rfl ⟨(cel HB.out hw170_0), (cel HB.out hw170_1), (cel HB.out hw170_2), (cel HB.out hw170_3)⟩ (fun hHeld => ?_); refine with_tabW spec_BatchesValid.tab4 spec_BatchesValid.bits4 (fun HT_ HW_ => ?_)
    generalize wr.drew = w17 at HB HR170_1 hx170_0 hx170_1 hx170_2 hx170_3 hHeld ⊢
    refine pJ HT_ 0 10 rfl rfl ?_
    refine pJ HT_ 1 11 rfl rfl ?_
    refine pJ HT_ 2 12 rfl rfl ?_
    refine take_ (i := 3) (N := some 13) (v := ?_) (a' := ?_) #[true, true, true, true, false, false, false, false, false, false, false, false, false, false, false, false, false, false, false, false, false, false, false, false] rfl rfl (take_ofW HT_.out HW_.out m5_q) (fun _ _ _ h => h) (Or.inl ⟨by rfl, ?_⟩) hHeld ?_ ?_
    rotate_left
    ·rintro w' ⟨s0, s1, s2, s3⟩
     go_simp
     with_reducible rfl
    rotate_left
    ·simp only [pS_q]
     rfl
    refine one_ (i := 4) (N := some 14) #[true, true, true, true, true, false, false, false, false, false, false, false, false, false, false, false, false, false, false, false, false, false, false, false] rfl rfl (one_of HT_.out m5_q) (by decide) (fun K hK => ?_)
    refine goes_ Try.func48 m5_q rfl #[.agg #[.int .i64 ((rd_T39 l0 x3_1).f0), .slice A170_1 ((rd_T39 l0 x3_1).f1).length c170_1, .int .i64 ((rd_T39 l0 x3_1).f2), .int .i64 ((rd_T39 l0 x3_1).f3)]] (by rfl) rfl rfl m0_q ?_
    with_reducible refine (spec_l42Batch.calls k1 ((rd_T39 l0 x3_1).f0) _ _ ((rd_T39 l0 x3_1).f1) ((rd_T39 l0 x3_1).f2) ((rd_T39 l0 x3_1).f3) false _ ?side1 ?side2 A4.out).mono ?_
    (case side1 => exact m56_q)
    (case side2 => exact HC170_1.out)
    rintro e w' ⟨rfl, hb⟩
    refine ⟨_, rfl, ?_⟩
    replace HB := Ae_q (bT_q (bel HB.out) hb)
    (try clear hb)
    (try clear hb2)
    (try clear hk)
    (try clear hi)
    refine hK.out _ _ ⟨(cel (bel HB.out) hw170_0), (cel (bel HB.out) hw170_1), (cel (bel HB.out) hw170_2), (cel (bel HB.out) hw170_3)⟩ (fun hHeld => ?_)
    clear hK K
    refine nJ_q ?_
    refine pJ HT_ 5 15 rfl rfl ?_
    refine pJ HT_ 6 16 rfl rfl ?_
    refine pV HT_ 7 17 rfl rfl ?_
    refine pV HT_ 8 18 rfl rfl ?_
    refine pV HT_ 9 19 rfl rfl ?_
    refine pV HT_ 10 20 rfl rfl ?_
    refine pV HT_ 11 21 rfl rfl ?_
    refine pV HT_ 12 22 rfl rfl ?_
    refine pV HT_ 13 23 rfl rfl ?_
    refine pV HT_ 14 24 rfl rfl ?_
    refine pV HT_ 15 25 rfl rfl ?_
    refine pV HT_ 16 26 rfl rfl ?_
    refine pV HT_ 17 27 rfl rfl ?_
    refine pV HT_ 18 28 rfl rfl ?_
    refine pV HT_ 19 29 rfl rfl ?_
    refine pV HT_ 20 30 rfl rfl ?_
    refine pV HT_ 21 31 rfl rfl ?_
    refine pV HT_ 22 32 rfl rfl ?_
    refine pJ HT_ 23 33 rfl rfl ?_
    refine done_ (done_of HT_.out m5_q) ?_
    try go_wp2
    go_ret
    exact ⟨m2_q, bel HB.out⟩
   subst c5
   have H1 : (if x3_1 > 0 then (if 0 ≤ (wrap64 (x3_1 - 1)) then (if (wrap64 (x3_1 - 1)) < (l0.length : Int) then (if ((rd_T39 l0 (wrap64 (x3_1 - 1))).f0) ≥ ((rd_T39 l0 x3_1).f0) then (some false) else (spec_BatchesValid.l0 k1 l0 (wrap64 (x3_1 + 1)))) else (none)) else (none)) else (spec_BatchesValid.l0 k1 l0 (wrap64 (x3_1 + 1)))) = some r := by rw [if_pos rfl] at H; exact H
   clear H
   have H := H1
   clear H1
   by_cases c6 : x3_1 > 0
   rotate_left
   ·rw [if_neg c6] at H
    have c6b0 : decide (0 < x3_1) = false := dF_q c6
    clear c6
    have H' := Ae_q H
    clear H
    try go_wp2
    replace HB := Ae_q (bD_q HB.out)
    have p170 : 0 ≤ (x3_1 : Int) := oD_q (by assumption)
    have q170 : x3_1 < (l0.length : Int) := oD_q (by assumption)
    obtain ⟨ad170, A170_1, c170_1, e170, hx170_0, hx170_1, hx170_2, hx170_3, hl170_1, hi170_1⟩ := at_T39 HR0.out x3_1 p170 q170
    have hw170_3 := hx170_3
    have hw170_2 := hx170_2
    have hw170_1 := hx170_1
    have hw170_0 := hx170_0
    cases e170
    replace hx170_0 := cel HB.out hx170_0
    replace hx170_1 := cel HB.out hx170_1
    replace hx170_2 := cel HB.out hx170_2
    replace hx170_3 := cel HB.out hx170_3
    have HR170_1 := Ae_q hi170_1
    have HC170_1 := Ae_q hl170_1
    clear hi170_1 hl170_1
    replace p170 := eq_true p170
    replace q170 := eq_true q170
    refine start_ (n := 24) (S := fun w' => w'.cell? (ad170.add ((x3_1).toNat * 4)) = some (.int .i64 ((rd_T39 l0 x3_1).f0)) ∧ w'.cell? ⟨(ad170.add ((x3_1).toNat * 4)).block, (ad170.add ((x3_1).toNat * 4)).off + 1, none⟩ = some (.slice A170_1 ((rd_T39 l0 x3_1).f1).length c170_1) ∧ w'.cell? ⟨(ad170.add ((x3_1).toNat * 4)).block, (ad170.add ((x3_1).toNat * 4)).off + 2, none⟩ = some (.int .i64 ((rd_T39 l0 x3_1).f2)) ∧ w'.cell? ⟨(ad170.add ((x3_1).toNat * 4)).block, (ad170.add ((x3_1).toNat * 4)).off + 3, none⟩ = some (.int .i64 ((rd_T39 l0 x3_1).f3))) (ds := []) #[false, false, false, false, false, false, false, false, false, false, false, false, false, false, false, false, false, false, false, false, false, false, false, false] m5_q rfl rfl ⟨(cel HB.out hw170_0), (cel HB.out hw170_1), (cel HB.out hw170_2), (cel HB.out hw170_3)⟩ (fun hHeld => ?_); refine with_tabW spec_BatchesValid.tab4 spec_BatchesValid.bits4 (fun HT_ HW_ => ?_)
    generalize wr.drew = w15 at HB HR170_1 hx170_0 hx170_1 hx170_2 hx170_3 hHeld ⊢
    refine pJ HT_ 0 10 rfl rfl ?_
    refine pJ HT_ 1 11 rfl rfl ?_
    refine pJ HT_ 2 12 rfl rfl ?_
    refine take_ (i := 3) (N := some 13) (v := ?_) (a' := ?_) #[true, true, true, true, false, false, false, false, false, false, false, false, false, false, false, false, false, false, false, false, false, false, false, false] rfl rfl (take_ofW HT_.out HW_.out m5_q) (fun _ _ _ h => h) (Or.inl ⟨by rfl, ?_⟩) hHeld ?_ ?_
    rotate_left
    ·rintro w' ⟨s0, s1, s2, s3⟩
     go_simp
     with_reducible rfl
    rotate_left
    ·simp only [pS_q]
     rfl
    refine one_ (i := 4) (N := some 14) #[true, true, true, true, true, false, false, false, false, false, false, false, false, false, false, false, false, false, false, false, false, false, false, false] rfl rfl (one_of HT_.out m5_q) (by decide) (fun K hK => ?_)
    refine goes_ Try.func48 m5_q rfl #[.agg #[.int .i64 ((rd_T39 l0 x3_1).f0), .slice A170_1 ((rd_T39 l0 x3_1).f1).length c170_1, .int .i64 ((rd_T39 l0 x3_1).f2), .int .i64 ((rd_T39 l0 x3_1).f3)]] (by rfl) rfl rfl m0_q ?_
    with_reducible refine (spec_l42Batch.calls k1 ((rd_T39 l0 x3_1).f0) _ _ ((rd_T39 l0 x3_1).f1) ((rd_T39 l0 x3_1).f2) ((rd_T39 l0 x3_1).f3) true _ ?side1 ?side2 A4.out).mono ?_
    (case side1 => exact m56_q)
    (case side2 => exact HC170_1.out)
    rintro e w' ⟨rfl, hb⟩
    refine ⟨_, rfl, ?_⟩
    replace HB := Ae_q (bT_q (bel HB.out) hb)
    (try clear hb)
    (try clear hb2)
    (try clear hk)
    (try clear hi)
    refine hK.out _ _ ⟨(cel (bel HB.out) hw170_0), (cel (bel HB.out) hw170_1), (cel (bel HB.out) hw170_2), (cel (bel HB.out) hw170_3)⟩ (fun hHeld => ?_)
    clear hK K
    refine nJ_q ?_
    refine pJ HT_ 5 15 rfl rfl ?_
    refine pJ HT_ 6 16 rfl rfl ?_
    refine pJ HT_ 7 17 rfl rfl ?_
    refine pJ HT_ 8 18 rfl rfl ?_
    refine pJ HT_ 9 19 rfl rfl ?_
    refine pV HT_ 10 20 rfl rfl ?_
    refine pV HT_ 11 21 rfl rfl ?_
    refine pV HT_ 12 22 rfl rfl ?_
    refine pV HT_ 13 23 rfl rfl ?_
    refine pV HT_ 14 24 rfl rfl ?_
    refine pV HT_ 15 25 rfl rfl ?_
    refine pV HT_ 16 26 rfl rfl ?_
    refine pV HT_ 17 27 rfl rfl ?_
    refine pV HT_ 18 28 rfl rfl ?_
    refine pV HT_ 19 29 rfl rfl ?_
    refine pV HT_ 20 30 rfl rfl ?_
    refine pV HT_ 21 31 rfl rfl ?_
    refine pJ HT_ 22 32 rfl rfl ?_
    refine pJ HT_ 23 33 rfl rfl ?_
    refine done_ (done_of HT_.out m5_q) ?_
    try go_wp2
    go_roundg k1
    case measure => have := HK1.out; omega
    case rel => exact ⟨(wrap64 (x3_1 + 1)), m3_q, H', ⟨m28_q⟩, ⟨bel HB.out⟩⟩
   rw [if_pos c6] at H
   have c6b0 : decide (0 < x3_1) = true := dT_q c6
   clear c6
   obtain ⟨ji7, hji7⟩ : ∃ j_ : Int, (wrap64 (x3_1 - 1)) = j_ := ⟨_, rfl⟩
   replace H : (if 0 ≤ (ji7) then (if (ji7) < (l0.length : Int) then (if ((rd_T39 l0 (ji7)).f0) ≥ ((rd_T39 l0 x3_1).f0) then (some false) else (spec_BatchesValid.l0 k1 l0 (wrap64 (x3_1 + 1)))) else (none)) else (none)) = some r := by first | (rw [hji7] at H; exact H) | (simp only [hji7] at H ⊢; exact H)
   (try rw [hji7] at A4)
   have hji7w : (IntKind.i64.wrap (x3_1 - 1)) = ji7 := (i64_w _).trans hji7
   by_cases c8 : 0 ≤ (ji7)
   rotate_left
   ·rw [if_neg c8] at H
    exact absurd H (by simp)
   rw [if_pos c8] at H
   have c8b0 : decide (0 ≤ (ji7)) = true := dT_q c8
   clear c8
   by_cases c9 : (ji7) < (l0.length : Int)
   rotate_left
   ·rw [if_neg c9] at H
    exact absurd H (by simp)
   rw [if_pos c9] at H
   have c9b0 : decide ((ji7) < (l0.length : Int)) = true := dT_q c9
   clear c9
   by_cases c10 : ((rd_T39 l0 (ji7)).f0) ≥ ((rd_T39 l0 x3_1).f0)
   ·rw [if_pos c10] at H
    have c10b0 : decide (((rd_T39 l0 x3_1).f0) ≤ ((rd_T39 l0 (ji7)).f0)) = true := dT_q c10
    clear c10
    obtain rfl := oI_q H
    try go_wp2
    replace HB := Ae_q (bD_q HB.out)
    have p170 : 0 ≤ (x3_1 : Int) := oD_q (by assumption)
    have q170 : x3_1 < (l0.length : Int) := oD_q (by assumption)
    obtain ⟨ad170, A170_1, c170_1, e170, hx170_0, hx170_1, hx170_2, hx170_3, hl170_1, hi170_1⟩ := at_T39 HR0.out x3_1 p170 q170
    have hw170_3 := hx170_3
    have hw170_2 := hx170_2
    have hw170_1 := hx170_1
    have hw170_0 := hx170_0
    cases e170
    replace hx170_0 := cel HB.out hx170_0
    replace hx170_1 := cel HB.out hx170_1
    replace hx170_2 := cel HB.out hx170_2
    replace hx170_3 := cel HB.out hx170_3
    have HR170_1 := Ae_q hi170_1
    have HC170_1 := Ae_q hl170_1
    clear hi170_1 hl170_1
    replace p170 := eq_true p170
    replace q170 := eq_true q170
    have p172 : 0 ≤ ((ji7) : Int) := oD_q (by assumption)
    have q172 : (ji7) < (l0.length : Int) := oD_q (by assumption)
    obtain ⟨ad172, A172_1, c172_1, e172, hx172_0, hx172_1, hx172_2, hx172_3, hl172_1, hi172_1⟩ := at_T39 HR0.out (ji7) p172 q172
    have hw172_3 := hx172_3
    have hw172_2 := hx172_2
    have hw172_1 := hx172_1
    have hw172_0 := hx172_0
    obtain rfl : ad170 = ad172 := (by injection e172)
    replace hx172_0 := cel HB.out hx172_0
    replace hx172_1 := cel HB.out hx172_1
    replace hx172_2 := cel HB.out hx172_2
    replace hx172_3 := cel HB.out hx172_3
    have HR172_1 := Ae_q hi172_1
    have HC172_1 := Ae_q hl172_1
    clear hi172_1 hl172_1
    replace p172 := eq_true p172
    replace q172 := eq_true q172
    have p173 : 0 ≤ (x3_1 : Int) := oD_q (by assumption)
    have q173 : x3_1 < (l0.length : Int) := oD_q (by assumption)
    obtain ⟨ad173, A173_1, c173_1, e173, hx173_0, hx173_1, hx173_2, hx173_3, hl173_1, hi173_1⟩ := at_T39 HR0.out x3_1 p173 q173
    have hw173_3 := hx173_3
    have hw173_2 := hx173_2
    have hw173_1 := hx173_1
    have hw173_0 := hx173_0
    obtain rfl : ad170 = ad173 := (by injection e173)
    replace hx173_0 := cel HB.out hx173_0
    replace hx173_1 := cel HB.out hx173_1
    replace hx173_2 := cel HB.out hx173_2
    replace hx173_3 := cel HB.out hx173_3
    have HR173_1 := Ae_q hi173_1
    have HC173_1 := Ae_q hl173_1
    clear hi173_1 hl173_1
    replace p173 := eq_true p173
    replace q173 := eq_true q173
    refine start_ (n := 24) (S := fun w' => w'.cell? (ad170.add ((x3_1).toNat * 4)) = some (.int .i64 ((rd_T39 l0 x3_1).f0)) ∧ w'.cell? ⟨(ad170.add ((x3_1).toNat * 4)).block, (ad170.add ((x3_1).toNat * 4)).off + 1, none⟩ = some (.slice A170_1 ((rd_T39 l0 x3_1).f1).length c170_1) ∧ w'.cell? ⟨(ad170.add ((x3_1).toNat * 4)).block, (ad170.add ((x3_1).toNat * 4)).off + 2, none⟩ = some (.int .i64 ((rd_T39 l0 x3_1).f2)) ∧ w'.cell? ⟨(ad170.add ((x3_1).toNat * 4)).block, (ad170.add ((x3_1).toNat * 4)).off + 3, none⟩ = some (.int .i64 ((rd_T39 l0 x3_1).f3)) ∧ w'.cell? (ad170.add (((ji7)).toNat * 4)) = some (.int .i64 ((rd_T39 l0 (ji7)).f0)) ∧ w'.cell? ⟨(ad170.add (((ji7)).toNat * 4)).block, (ad170.add (((ji7)).toNat * 4)).off + 1, none⟩ = some (.slice A172_1 ((rd_T39 l0 (ji7)).f1).length c172_1) ∧ w'.cell? ⟨(ad170.add (((ji7)).toNat * 4)).block, (ad170.add (((ji7)).toNat * 4)).off + 2, none⟩ = some (.int .i64 ((rd_T39 l0 (ji7)).f2)) ∧ w'.cell? ⟨(ad170.add (((ji7)).toNat * 4)).block, (ad170.add (((ji7)).toNat * 4)).off + 3, none⟩ = some (.int .i64 ((rd_T39 l0 (ji7)).f3)) ∧ w'.cell? (ad170.add ((x3_1).toNat * 4)) = some (.int .i64 ((rd_T39 l0 x3_1).f0)) ∧ w'.cell? ⟨(ad170.add ((x3_1).toNat * 4)).block, (ad170.add ((x3_1).toNat * 4)).off + 1, none⟩ = some (.slice A173_1 ((rd_T39 l0 x3_1).f1).length c173_1) ∧ w'.cell? ⟨(ad170.add ((x3_1).toNat * 4)).block, (ad170.add ((x3_1).toNat * 4)).off + 2, none⟩ = some (.int .i64 ((rd_T39 l0 x3_1).f2)) ∧ w'.cell? ⟨(ad170.add ((x3_1).toNat * 4)).block, (ad170.add ((x3_1).toNat * 4)).off + 3, none⟩ = some (.int .i64 ((rd_T39 l0 x3_1).f3))) (ds := []) #[false, false, false, false, false, false, false, false, false, false, false, false, false, false, false, false, false, false, false, false, false, false, false, false] m5_q rfl rfl ⟨(cel HB.out hw170_0), (cel HB.out hw170_1), (cel HB.out hw170_2), (cel HB.out hw170_3), (cel HB.out hw172_0), (cel HB.out hw172_1), (cel HB.out hw172_2), (cel HB.out hw172_3), (cel HB.out hw173_0), (cel HB.out hw173_1), (cel HB.out hw173_2), (cel HB.out hw173_3)⟩ (fun hHeld => ?_); refine with_tabW spec_BatchesValid.tab4 spec_BatchesValid.bits4 (fun HT_ HW_ => ?_)
    generalize wr.drew = w11 at HB HR170_1 HR172_1 HR173_1 hx170_0 hx170_1 hx170_2 hx170_3 hx172_0 hx172_1 hx172_2 hx172_3 hx173_0 hx173_1 hx173_2 hx173_3 hHeld ⊢
    refine pJ HT_ 0 10 rfl rfl ?_
    refine pJ HT_ 1 11 rfl rfl ?_
    refine pJ HT_ 2 12 rfl rfl ?_
    refine take_ (i := 3) (N := some 13) (v := ?_) (a' := ?_) #[true, true, true, true, false, false, false, false, false, false, false, false, false, false, false, false, false, false, false, false, false, false, false, false] rfl rfl (take_ofW HT_.out HW_.out m5_q) (fun _ _ _ h => h) (Or.inl ⟨by rfl, ?_⟩) hHeld ?_ ?_
    rotate_left
    ·rintro w' ⟨s0, s1, s2, s3, s4, s5, s6, s7, s8, s9, s10, s11⟩
     go_simp
     with_reducible rfl
    rotate_left
    ·simp only [pS_q]
     rfl
    refine one_ (i := 4) (N := some 14) #[true, true, true, true, true, false, false, false, false, false, false, false, false, false, false, false, false, false, false, false, false, false, false, false] rfl rfl (one_of HT_.out m5_q) (by decide) (fun K hK => ?_)
    refine goes_ Try.func48 m5_q rfl #[.agg #[.int .i64 ((rd_T39 l0 x3_1).f0), .slice A170_1 ((rd_T39 l0 x3_1).f1).length c170_1, .int .i64 ((rd_T39 l0 x3_1).f2), .int .i64 ((rd_T39 l0 x3_1).f3)]] (by rfl) rfl rfl m0_q ?_
    with_reducible refine (spec_l42Batch.calls k1 ((rd_T39 l0 x3_1).f0) _ _ ((rd_T39 l0 x3_1).f1) ((rd_T39 l0 x3_1).f2) ((rd_T39 l0 x3_1).f3) true _ ?side1 ?side2 A4.out).mono ?_
    (case side1 => exact m56_q)
    (case side2 => exact HC170_1.out)
    rintro e w' ⟨rfl, hb⟩
    refine ⟨_, rfl, ?_⟩
    replace HB := Ae_q (bT_q (bel HB.out) hb)
    (try clear hb)
    (try clear hb2)
    (try clear hk)
    (try clear hi)
    refine hK.out _ _ ⟨(cel (bel HB.out) hw170_0), (cel (bel HB.out) hw170_1), (cel (bel HB.out) hw170_2), (cel (bel HB.out) hw170_3), (cel (bel HB.out) hw172_0), (cel (bel HB.out) hw172_1), (cel (bel HB.out) hw172_2), (cel (bel HB.out) hw172_3), (cel (bel HB.out) hw173_0), (cel (bel HB.out) hw173_1), (cel (bel HB.out) hw173_2), (cel (bel HB.out) hw173_3)⟩ (fun hHeld => ?_)
    clear hK K
    refine nJ_q ?_
    refine pJ HT_ 5 15 rfl rfl ?_
    refine pJ HT_ 6 16 rfl rfl ?_
    refine pJ HT_ 7 17 rfl rfl ?_
    refine pJ HT_ 8 18 rfl rfl ?_
    refine pJ HT_ 9 19 rfl rfl ?_
    refine pJ HT_ 10 20 rfl rfl ?_
    refine pJ HT_ 11 21 rfl rfl ?_
    refine pJ HT_ 12 22 rfl rfl ?_
    refine pJ HT_ 13 23 rfl rfl ?_
    refine pJ HT_ 14 24 rfl rfl ?_
    refine pJ HT_ 16 26 rfl rfl ?_
    refine pJ HT_ 17 27 rfl rfl ?_
    refine pJ HT_ 18 28 rfl rfl ?_
    refine pJ HT_ 19 29 rfl rfl ?_
    refine take_ (i := 15) (N := some 25) (v := ?_) (a' := ?_) #[true, true, true, true, true, true, true, true, true, true, true, true, true, true, true, true, true, true, true, true, false, false, false, false] rfl rfl (take_ofW HT_.out HW_.out m5_q) (fun _ _ _ h => h) (Or.inl ⟨by rfl, ?_⟩) hHeld ?_ ?_
    rotate_left
    ·rintro w' ⟨s0, s1, s2, s3, s4, s5, s6, s7, s8, s9, s10, s11⟩
     go_simp
     with_reducible rfl
    rotate_left
    ·simp only [pS_q]
     rfl
    refine take_ (i := 20) (N := some 30) (v := ?_) (a' := ?_) #[true, true, true, true, true, true, true, true, true, true, true, true, true, true, true, true, true, true, true, true, true, false, false, false] rfl rfl (take_ofW HT_.out HW_.out m5_q) (fun _ _ _ h => h) (Or.inl ⟨by rfl, ?_⟩) hHeld ?_ ?_
    rotate_left
    ·rintro w' ⟨s0, s1, s2, s3, s4, s5, s6, s7, s8, s9, s10, s11⟩
     go_simp
     with_reducible rfl
    rotate_left
    ·simp only [pS_q]
     rfl
    refine pJ HT_ 21 31 rfl rfl ?_
    refine pJ HT_ 22 32 rfl rfl ?_
    refine pJ HT_ 23 33 rfl rfl ?_
    refine done_ (done_of HT_.out m5_q) ?_
    try go_wp2
    go_ret
    exact ⟨by first | rfl | (simp [eN_q, eS_q] <;> rfl) | (simp only [← hji7]; first | rfl | (simp [eN_q, eS_q] <;> rfl)) | (simp [*, eN_q, eS_q] <;> rfl), bel HB.out⟩
   rw [if_neg c10] at H
   have c10b0 : decide (((rd_T39 l0 x3_1).f0) ≤ ((rd_T39 l0 (ji7)).f0)) = false := dF_q c10
   clear c10
   have H' := Ae_q H
   clear H
   try go_wp2
   replace HB := Ae_q (bD_q HB.out)
   have p170 : 0 ≤ (x3_1 : Int) := oD_q (by assumption)
   have q170 : x3_1 < (l0.length : Int) := oD_q (by assumption)
   obtain ⟨ad170, A170_1, c170_1, e170, hx170_0, hx170_1, hx170_2, hx170_3, hl170_1, hi170_1⟩ := at_T39 HR0.out x3_1 p170 q170
   have hw170_3 := hx170_3
   have hw170_2 := hx170_2
   have hw170_1 := hx170_1
   have hw170_0 := hx170_0
   cases e170
   replace hx170_0 := cel HB.out hx170_0
   replace hx170_1 := cel HB.out hx170_1
   replace hx170_2 := cel HB.out hx170_2
   replace hx170_3 := cel HB.out hx170_3
   have HR170_1 := Ae_q hi170_1
   have HC170_1 := Ae_q hl170_1
   clear hi170_1 hl170_1
   replace p170 := eq_true p170
   replace q170 := eq_true q170
   have p172 : 0 ≤ ((ji7) : Int) := oD_q (by assumption)
   have q172 : (ji7) < (l0.length : Int) := oD_q (by assumption)
   obtain ⟨ad172, A172_1, c172_1, e172, hx172_0, hx172_1, hx172_2, hx172_3, hl172_1, hi172_1⟩ := at_T39 HR0.out (ji7) p172 q172
   have hw172_3 := hx172_3
   have hw172_2 := hx172_2
   have hw172_1 := hx172_1
   have hw172_0 := hx172_0
   obtain rfl : ad170 = ad172 := (by injection e172)
   replace hx172_0 := cel HB.out hx172_0
   replace hx172_1 := cel HB.out hx172_1
   replace hx172_2 := cel HB.out hx172_2
   replace hx172_3 := cel HB.out hx172_3
   have HR172_1 := Ae_q hi172_1
   have HC172_1 := Ae_q hl172_1
   clear hi172_1 hl172_1
   replace p172 := eq_true p172
   replace q172 := eq_true q172
   have p173 : 0 ≤ (x3_1 : Int) := oD_q (by assumption)
   have q173 : x3_1 < (l0.length : Int) := oD_q (by assumption)
   obtain ⟨ad173, A173_1, c173_1, e173, hx173_0, hx173_1, hx173_2, hx173_3, hl173_1, hi173_1⟩ := at_T39 HR0.out x3_1 p173 q173
   have hw173_3 := hx173_3
   have hw173_2 := hx173_2
   have hw173_1 := hx173_1
   have hw173_0 := hx173_0
   obtain rfl : ad170 = ad173 := (by injection e173)
   replace hx173_0 := cel HB.out hx173_0
   replace hx173_1 := cel HB.out hx173_1
   replace hx173_2 := cel HB.out hx173_2
   replace hx173_3 := cel HB.out hx173_3
   have HR173_1 := Ae_q hi173_1
   have HC173_1 := Ae_q hl173_1
   clear hi173_1 hl173_1
   replace p173 := eq_true p173
   replace q173 := eq_true q173
   refine start_ (n := 24) (S := fun w' => w'.cell? (ad170.add ((x3_1).toNat * 4)) = some (.int .i64 ((rd_T39 l0 x3_1).f0)) ∧ w'.cell? ⟨(ad170.add ((x3_1).toNat * 4)).block, (ad170.add ((x3_1).toNat * 4)).off + 1, none⟩ = some (.slice A170_1 ((rd_T39 l0 x3_1).f1).length c170_1) ∧ w'.cell? ⟨(ad170.add ((x3_1).toNat * 4)).block, (ad170.add ((x3_1).toNat * 4)).off + 2, none⟩ = some (.int .i64 ((rd_T39 l0 x3_1).f2)) ∧ w'.cell? ⟨(ad170.add ((x3_1).toNat * 4)).block, (ad170.add ((x3_1).toNat * 4)).off + 3, none⟩ = some (.int .i64 ((rd_T39 l0 x3_1).f3)) ∧ w'.cell? (ad170.add (((ji7)).toNat * 4)) = some (.int .i64 ((rd_T39 l0 (ji7)).f0)) ∧ w'.cell? ⟨(ad170.add (((ji7)).toNat * 4)).block, (ad170.add (((ji7)).toNat * 4)).off + 1, none⟩ = some (.slice A172_1 ((rd_T39 l0 (ji7)).f1).length c172_1) ∧ w'.cell? ⟨(ad170.add (((ji7)).toNat * 4)).block, (ad170.add (((ji7)).toNat * 4)).off + 2, none⟩ = some (.int .i64 ((rd_T39 l0 (ji7)).f2)) ∧ w'.cell? ⟨(ad170.add (((ji7)).toNat * 4)).block, (ad170.add (((ji7)).toNat * 4)).off + 3, none⟩ = some (.int .i64 ((rd_T39 l0 (ji7)).f3)) ∧ w'.cell? (ad170.add ((x3_1).toNat * 4)) = some (.int .i64 ((rd_T39 l0 x3_1).f0)) ∧ w'.cell? ⟨(ad170.add ((x3_1).toNat * 4)).block, (ad170.add ((x3_1).toNat * 4)).off + 1, none⟩ = some (.slice A173_1 ((rd_T39 l0 x3_1).f1).length c173_1) ∧ w'.cell? ⟨(ad170.add ((x3_1).toNat * 4)).block, (ad170.add ((x3_1).toNat * 4)).off + 2, none⟩ = some (.int .i64 ((rd_T39 l0 x3_1).f2)) ∧ w'.cell? ⟨(ad170.add ((x3_1).toNat * 4)).block, (ad170.add ((x3_1).toNat * 4)).off + 3, none⟩ = some (.int .i64 ((rd_T39 l0 x3_1).f3))) (ds := []) #[false, false, false, false, false, false, false, false, false, false, false, false, false, false, false, false, false, false, false, false, false, false, false, false] m5_q rfl rfl ⟨(cel HB.out hw170_0), (cel HB.out hw170_1), (cel HB.out hw170_2), (cel HB.out hw170_3), (cel HB.out hw172_0), (cel HB.out hw172_1), (cel HB.out hw172_2), (cel HB.out hw172_3), (cel HB.out hw173_0), (cel HB.out hw173_1), (cel HB.out hw173_2), (cel HB.out hw173_3)⟩ (fun hHeld => ?_); refine with_tabW spec_BatchesValid.tab4 spec_BatchesValid.bits4 (fun HT_ HW_ => ?_)
   generalize wr.drew = w13 at HB HR170_1 HR172_1 HR173_1 hx170_0 hx170_1 hx170_2 hx170_3 hx172_0 hx172_1 hx172_2 hx172_3 hx173_0 hx173_1 hx173_2 hx173_3 hHeld ⊢
   refine pJ HT_ 0 10 rfl rfl ?_
   refine pJ HT_ 1 11 rfl rfl ?_
   refine pJ HT_ 2 12 rfl rfl ?_
   refine take_ (i := 3) (N := some 13) (v := ?_) (a' := ?_) #[true, true, true, true, false, false, false, false, false, false, false, false, false, false, false, false, false, false, false, false, false, false, false, false] rfl rfl (take_ofW HT_.out HW_.out m5_q) (fun _ _ _ h => h) (Or.inl ⟨by rfl, ?_⟩) hHeld ?_ ?_
   rotate_left
   ·rintro w' ⟨s0, s1, s2, s3, s4, s5, s6, s7, s8, s9, s10, s11⟩
    go_simp
    with_reducible rfl
   rotate_left
   ·simp only [pS_q]
    rfl
   refine one_ (i := 4) (N := some 14) #[true, true, true, true, true, false, false, false, false, false, false, false, false, false, false, false, false, false, false, false, false, false, false, false] rfl rfl (one_of HT_.out m5_q) (by decide) (fun K hK => ?_)
   refine goes_ Try.func48 m5_q rfl #[.agg #[.int .i64 ((rd_T39 l0 x3_1).f0), .slice A170_1 ((rd_T39 l0 x3_1).f1).length c170_1, .int .i64 ((rd_T39 l0 x3_1).f2), .int .i64 ((rd_T39 l0 x3_1).f3)]] (by rfl) rfl rfl m0_q ?_
   with_reducible refine (spec_l42Batch.calls k1 ((rd_T39 l0 x3_1).f0) _ _ ((rd_T39 l0 x3_1).f1) ((rd_T39 l0 x3_1).f2) ((rd_T39 l0 x3_1).f3) true _ ?side1 ?side2 A4.out).mono ?_
   (case side1 => exact m56_q)
   (case side2 => exact HC170_1.out)
   rintro e w' ⟨rfl, hb⟩
   refine ⟨_, rfl, ?_⟩
   replace HB := Ae_q (bT_q (bel HB.out) hb)
   (try clear hb)
   (try clear hb2)
   (try clear hk)
   (try clear hi)
   refine hK.out _ _ ⟨(cel (bel HB.out) hw170_0), (cel (bel HB.out) hw170_1), (cel (bel HB.out) hw170_2), (cel (bel HB.out) hw170_3), (cel (bel HB.out) hw172_0), (cel (bel HB.out) hw172_1), (cel (bel HB.out) hw172_2), (cel (bel HB.out) hw172_3), (cel (bel HB.out) hw173_0), (cel (bel HB.out) hw173_1), (cel (bel HB.out) hw173_2), (cel (bel HB.out) hw173_3)⟩ (fun hHeld => ?_)
   clear hK K
   refine nJ_q ?_
   refine pJ HT_ 5 15 rfl rfl ?_
   refine pJ HT_ 6 16 rfl rfl ?_
   refine pJ HT_ 7 17 rfl rfl ?_
   refine pJ HT_ 8 18 rfl rfl ?_
   refine pJ HT_ 9 19 rfl rfl ?_
   refine pJ HT_ 10 20 rfl rfl ?_
   refine pJ HT_ 11 21 rfl rfl ?_
   refine pJ HT_ 12 22 rfl rfl ?_
   refine pJ HT_ 13 23 rfl rfl ?_
   refine pJ HT_ 14 24 rfl rfl ?_
   refine pJ HT_ 16 26 rfl rfl ?_
   refine pJ HT_ 17 27 rfl rfl ?_
   refine pJ HT_ 18 28 rfl rfl ?_
   refine pJ HT_ 19 29 rfl rfl ?_
   refine take_ (i := 15) (N := some 25) (v := ?_) (a' := ?_) #[true, true, true, true, true, true, true, true, true, true, true, true, true, true, true, true, true, true, true, true, false, false, false, false] rfl rfl (take_ofW HT_.out HW_.out m5_q) (fun _ _ _ h => h) (Or.inl ⟨by rfl, ?_⟩) hHeld ?_ ?_
   rotate_left
   ·rintro w' ⟨s0, s1, s2, s3, s4, s5, s6, s7, s8, s9, s10, s11⟩
    go_simp
    with_reducible rfl
   rotate_left
   ·simp only [pS_q]
    rfl
   refine take_ (i := 20) (N := some 30) (v := ?_) (a' := ?_) #[true, true, true, true, true, true, true, true, true, true, true, true, true, true, true, true, true, true, true, true, true, false, false, false] rfl rfl (take_ofW HT_.out HW_.out m5_q) (fun _ _ _ h => h) (Or.inl ⟨by rfl, ?_⟩) hHeld ?_ ?_
   rotate_left
   ·rintro w' ⟨s0, s1, s2, s3, s4, s5, s6, s7, s8, s9, s10, s11⟩
    go_simp
    with_reducible rfl
   rotate_left
   ·simp only [pS_q]
    rfl
   refine pJ HT_ 21 31 rfl rfl ?_
   refine pJ HT_ 22 32 rfl rfl ?_
   refine pJ HT_ 23 33 rfl rfl ?_
   refine done_ (done_of HT_.out m5_q) ?_
   try go_wp2
   go_roundg k1
   case measure => have := HK1.out; omega
   case rel => exact ⟨(wrap64 (x3_1 + 1)), m3_q, H', ⟨m28_q⟩, ⟨bel HB.out⟩⟩

end Go.Proofs.Ytnckblolijkdaaa.PBt
