import Derived.Test.YtnhenfmegpjigaaVKPEvx0
import Derived.Test.YtnhenfmegpjigaaVKPEvx25
namespace Go.Proofs.Ytnhenfmegpjigaa.PEv
open Go.RowKit Go.Proofs.YtnhenfmegpjigaaW.PrintWords Go.Proofs.YtnhenfmegpjigaaW.PrintLast Go.Proofs.YtnhenfmegpjigaaW.PrintMore
attribute [local go_sem] max2_int min2_int max_two min_two max_three min_three max_four min_four
set_option linter.unusedVariables false
set_option linter.unusedSimpArgs false

def spec_GuestsValid.l0 : Nat → List (S50) → Int → Option (Bool)
 | 0, _, _ => none
 | k + 1, x0, x3 => if x3 < (x0.length : Int) then (if 0 ≤ x3 then ((spec_l12Guest.f ((rd_T50 x0 x3).f0) ((rd_T50 x0 x3).f1) ((rd_T50 x0 x3).f2)).bind fun t545 => (if t545 = true then (if x3 > 0 then (if 0 ≤ (wrap64 (x3 - 1)) then (if (wrap64 (x3 - 1)) < (x0.length : Int) then (if ((rd_T50 x0 (wrap64 (x3 - 1))).f0) ≥ ((rd_T50 x0 x3).f0) then (some false) else (spec_GuestsValid.l0 k x0 (wrap64 (x3 + 1)))) else (none)) else (none)) else (spec_GuestsValid.l0 k x0 (wrap64 (x3 + 1)))) else (some false))) else (none)) else (some (decide ((x0.length : Int) ≤ 10)))
def spec_GuestsValid.f (k : Nat) (l0 : List (S50)) : Option (Bool) := spec_GuestsValid.l0 k l0 0
def spec_GuestsValid.T4 : Bool × List (List Nat × List Nat) := (true, [([], []), ([], []), ([0, 1], [0, 1]), ([2], [2]), ([3], [3]), ([4], [4]), ([5, 4], [5]), ([6], [6]), ([7, 6], [6, 7]), ([8, 6, 6], [6, 8]), ([9], [9]), ([9], [9]), ([11, 9], [9, 11]), ([10, 12, 9], [9, 10, 12]), ([13, 9], [9, 13]), ([14, 9], [9, 14]), ([9], [9]), ([9], [9]), ([16, 17, 9], [9, 16, 17]), ([18, 9], [9, 18]), ([19, 9], [9, 19]), ([15, 20, 9], [9, 15, 20]), ([9, 21, 6], [6, 9, 21]), ([6, 22], [6, 22])])
def spec_GuestsValid.B4 : List Nat := [0, 0, 3, 7, 15, 31, 63, 127, 255, 511, 1023, 1023, 3071, 8191, 16383, 32767, 1023, 1023, 197631, 459775, 984063, 2097151, 4194303, 8388607]
theorem spec_GuestsValid.tab4 : rtab .any (opsOf Try.f36 4) = spec_GuestsValid.T4 := by kernel_rfl
theorem spec_GuestsValid.bits4 : waitsOk spec_GuestsValid.T4.2 spec_GuestsValid.B4 = true := by kernel_rfl
set_option maxHeartbeats 8000000 in
set_option maxRecDepth 100000 in
theorem spec_GuestsValid.calls (k : Nat) (A0 : Option Addr) (c0 : Nat) (l0 : List (S50)) (r : Bool) (w : World) (hr0 : Kd.C k50 w A0 l0.length l0) (hc0 : l0.length ≤ c0) (h : spec_GuestsValid.f k l0 = some r) :
    Calls Try.prog 36 #[.slice A0 l0.length c0] w fun e w' => e = .returned (.bool r) ∧ Below w.heap.size w w' := by
 have hu50 := Try.underlying50
 have HR0 := Ae_q hr0
 have HC0 := Ae_q hc0
 clear hr0 hc0
 have HB := Ae_q (bR_q w.heap.size w)
 have H : (spec_GuestsValid.l0 k l0 0) = some r := h
 clear h
 have H' := Ae_q H
 clear H
 go_enter Try.func36, Try.ntmps36
 go_wp2
 go_loopg [3] k (fun kq v3 w' => ∃ (x3_1 : Int), v3 = .int .i64 x3_1 ∧ Aside0 (spec_GuestsValid.l0 kq l0 x3_1 = some r) ∧ Aside0 (kq ≤ k) ∧ Aside0 (Below w.heap.size w w'))
 case atStart => exact ⟨(0), (by first | rfl | (simp; done) | (simp [*]; done)), H', ⟨nR_q _⟩, ⟨bel HB.out⟩⟩
 case round =>
  clear H'
  obtain ⟨x3_1, rfl, HA, HK1, HB⟩ := hrel
  cases gk with
  | zero => exact absurd HA.out (by simp [spec_GuestsValid.l0])
  | succ k1 =>
   have H := HA.out
   clear HA
   simp only [spec_GuestsValid.l0] at H
   by_cases c2 : x3_1 < (l0.length : Int)
   rotate_left
   ·rw [if_neg c2] at H
    have c2b0 : decide (x3_1 < (l0.length : Int)) = false := dF_q c2
    clear c2
    obtain rfl := oI_q H
    go_wp2
    go_ret
    exact ⟨by first | rfl | (simp [eN_q, eS_q] <;> rfl) | (simp [*, eN_q, eS_q] <;> rfl), bel HB.out⟩
   rw [if_pos c2] at H
   have c2b0 : decide (x3_1 < (l0.length : Int)) = true := dT_q c2
   clear c2
   by_cases c3 : 0 ≤ x3_1
   rotate_left
   ·rw [if_neg c3] at H
    exact absurd H (by simp)
   rw [if_pos c3] at H
   have c3b0 : decide (0 ≤ x3_1) = true := dT_q c3
   clear c3
   replace H := oB_q.mp H
   obtain ⟨t545, A40, H⟩ := H
   replace H : (if t545 = true then (if x3_1 > 0 then (if 0 ≤ (wrap64 (x3_1 - 1)) then (if (wrap64 (x3_1 - 1)) < (l0.length : Int) then (if ((rd_T50 l0 (wrap64 (x3_1 - 1))).f0) ≥ ((rd_T50 l0 x3_1).f0) then (some false) else (spec_GuestsValid.l0 k1 l0 (wrap64 (x3_1 + 1)))) else (none)) else (none)) else (spec_GuestsValid.l0 k1 l0 (wrap64 (x3_1 + 1)))) else (some false)) = some r := H
   have A4 := Ae_q A40
   clear A40
   by_cases c5 : t545 = true
   rotate_left
   ·replace c5 := fM_q.mpr c5
    subst c5
    have H1 : (some false) = some r := by rw [if_neg (show ¬ (false = true) by decide)] at H; exact H
    clear H
    have H := H1
    clear H1
    obtain rfl := oI_q H
    try go_wp2
    have n0_ := Ae_q (bD_q HB.out)
    clear HB
    have HB := n0_
    clear n0_
    have p544 : 0 ≤ (x3_1 : Int) := oD_q (by assumption)
    have q544 : x3_1 < (l0.length : Int) := oD_q (by assumption)
    obtain ⟨ad544, e544, hx544_0, hx544_1, hx544_2⟩ := at_T50 HR0.out x3_1 p544 q544
    have hw544_2 := hx544_2
    have hw544_1 := hx544_1
    have hw544_0 := hx544_0
    cases e544
    replace hx544_0 := cel HB.out hx544_0
    replace hx544_1 := cel HB.out hx544_1
    replace hx544_2 := cel HB.out hx544_2
    replace p544 := eq_true p544
    replace q544 := eq_true q544
    refine start_ (n := 24) (S := fun w' => w'.cell? (ad544.add ((x3_1).toNat * 3)) = some (.int .i64 ((rd_T50 l0 x3_1).f0)) ∧ w'.cell? ⟨(ad544.add ((x3_1).toNat * 3)).block, (ad544.add ((x3_1).toNat * 3)).off + 1, none⟩ = some (.int .i64 ((rd_T50 l0 x3_1).f1)) ∧ w'.cell? ⟨(ad544.add ((x3_1).toNat * 3)).block, (ad544.add ((x3_1).toNat * 3)).off + 2, none⟩ = some (.int .i64 ((rd_T50 l0 x3_1).f2))) (ds := []) #[false, false, false, false, false, false, false, false, false, false, false, false, false, false, false, false, false, false, false, false, false, false, false, false] (by kernel_rfl) rfl rfl ⟨(cel HB.out hw544_0), (cel HB.out hw544_1), (cel HB.out hw544_2)⟩ (fun hHeld => ?_); refine with_tabW spec_GuestsValid.tab4 spec_GuestsValid.bits4 (fun HT_ HW_ => ?_)
    generalize wr.drew = w17 at HB hx544_0 hx544_1 hx544_2 hHeld ⊢
    refine pI (v := ?_) (a' := ?_) HT_ 0 10 rfl rfl (by kernel_rfl) (fun _ _ _ h => h) (by rfl) ?_ ?_ ?_
    rotate_left
    ·intro w'
     go_simp
     with_reducible rfl
    rotate_left
    ·simp only [pS_q]
     rfl
    refine pI (v := ?_) (a' := ?_) HT_ 1 11 rfl rfl (by kernel_rfl) (fun _ _ _ h => h) (by rfl) ?_ ?_ ?_
    rotate_left
    ·intro w'
     go_simp
     with_reducible rfl
    rotate_left
    ·simp only [pS_q]
     rfl
    refine pI (v := ?_) (a' := ?_) HT_ 2 12 rfl rfl (by kernel_rfl) (fun _ _ _ h => h) (by rfl) ?_ ?_ ?_
    rotate_left
    ·intro w'
     go_simp
     with_reducible rfl
    rotate_left
    ·simp only [pS_q]
     rfl
    refine take_ (i := 3) (N := some 13) (v := ?_) (a' := ?_) #[true, true, true, true, false, false, false, false, false, false, false, false, false, false, false, false, false, false, false, false, false, false, false, false] rfl rfl (take_ofW HT_.out HW_.out (by kernel_rfl)) (fun _ _ _ h => h) (Or.inl ⟨by rfl, ?_⟩) hHeld ?_ ?_
    rotate_left
    ·rintro w' ⟨s0, s1, s2⟩
     go_simp
     with_reducible rfl
    rotate_left
    ·simp only [pS_q]
     rfl
    refine one_ (i := 4) (N := some 14) #[true, true, true, true, true, false, false, false, false, false, false, false, false, false, false, false, false, false, false, false, false, false, false, false] rfl rfl (one_of HT_.out (by kernel_rfl)) (by decide) (fun K hK => ?_)
    refine goes_ Try.func57 (by kernel_rfl) rfl #[.agg #[.int .i64 ((rd_T50 l0 x3_1).f0), .int .i64 ((rd_T50 l0 x3_1).f1), .int .i64 ((rd_T50 l0 x3_1).f2)]] (by rfl) rfl rfl (by (try simp only [lM_q, lC_q, lN_q]); first | done | rfl | (simp only [lD_q, lT_q]; rfl)) ?_
    with_reducible refine (spec_l12Guest.calls ((rd_T50 l0 x3_1).f0) ((rd_T50 l0 x3_1).f1) ((rd_T50 l0 x3_1).f2) false _ A4.out).mono ?_
    rintro e w18 ⟨rfl, hb⟩
    refine ⟨_, rfl, ?_⟩
    have n0_ := Ae_q (bT_q (bel HB.out) hb)
    clear HB
    have HB := n0_
    clear n0_
    (try clear hb)
    (try clear hb2)
    (try clear hk)
    (try clear hi)
    refine hK.out _ _ ⟨(cel HB.out hw544_0), (cel HB.out hw544_1), (cel HB.out hw544_2)⟩ (fun hHeld => ?_)
    clear hK K
    refine norm_ (a' := ?_) ?_ ?_
    rotate_left
    ·show Act.put _ (some 14) _ = _
     simp only [pS_q]
     rfl
    refine pI (v := ?_) (a' := ?_) HT_ 5 15 rfl rfl (by kernel_rfl) (fun _ _ _ h => h) (by rfl) ?_ ?_ ?_
    rotate_left
    ·intro w'
     go_simp
     with_reducible rfl
    rotate_left
    ·simp only [pS_q]
     rfl
    refine pI (v := ?_) (a' := ?_) HT_ 6 16 rfl rfl (by kernel_rfl) (fun _ _ _ h => h) (by rfl) ?_ ?_ ?_
    rotate_left
    ·intro w'
     go_simp
     with_reducible rfl
    rotate_left
    ·simp only [pS_q]
     rfl
    refine pU (a' := ?_) HT_ 7 17 rfl rfl (by kernel_rfl) (fun _ _ _ h => h) (by rfl) ?_ ?_
    rotate_left
    ·simp only [pS_q]
     rfl
    refine pU (a' := ?_) HT_ 8 18 rfl rfl (by kernel_rfl) (fun _ _ _ h => h) (by rfl) ?_ ?_
    rotate_left
    ·simp only [pS_q]
     rfl
    refine pU (a' := ?_) HT_ 9 19 rfl rfl (by kernel_rfl) (fun _ _ _ h => h) (by rfl) ?_ ?_
    rotate_left
    ·simp only [pS_q]
     rfl
    refine pU (a' := ?_) HT_ 10 20 rfl rfl (by kernel_rfl) (fun _ _ _ h => h) (by rfl) ?_ ?_
    rotate_left
    ·simp only [pS_q]
     rfl
    refine pU (a' := ?_) HT_ 11 21 rfl rfl (by kernel_rfl) (fun _ _ _ h => h) (by rfl) ?_ ?_
    rotate_left
    ·simp only [pS_q]
     rfl
    refine pU (a' := ?_) HT_ 12 22 rfl rfl (by kernel_rfl) (fun _ _ _ h => h) (by rfl) ?_ ?_
    rotate_left
    ·simp only [pS_q]
     rfl
    refine pU (a' := ?_) HT_ 13 23 rfl rfl (by kernel_rfl) (fun _ _ _ h => h) (by rfl) ?_ ?_
    rotate_left
    ·simp only [pS_q]
     rfl
    refine pU (a' := ?_) HT_ 14 24 rfl rfl (by kernel_rfl) (fun _ _ _ h => h) (by rfl) ?_ ?_
    rotate_left
    ·simp only [pS_q]
     rfl
    refine pU (a' := ?_) HT_ 15 25 rfl rfl (by kernel_rfl) (fun _ _ _ h => h) (by rfl) ?_ ?_
    rotate_left
    ·simp only [pS_q]
     rfl
    refine pU (a' := ?_) HT_ 16 26 rfl rfl (by kernel_rfl) (fun _ _ _ h => h) (by rfl) ?_ ?_
    rotate_left
    ·simp only [pS_q]
     rfl
    refine pU (a' := ?_) HT_ 17 27 rfl rfl (by kernel_rfl) (fun _ _ _ h => h) (by rfl) ?_ ?_
    rotate_left
    ·simp only [pS_q]
     rfl
    refine pU (a' := ?_) HT_ 18 28 rfl rfl (by kernel_rfl) (fun _ _ _ h => h) (by rfl) ?_ ?_
    rotate_left
    ·simp only [pS_q]
     rfl
    refine pU (a' := ?_) HT_ 19 29 rfl rfl (by kernel_rfl) (fun _ _ _ h => h) (by rfl) ?_ ?_
    rotate_left
    ·simp only [pS_q]
     rfl
    refine pU (a' := ?_) HT_ 20 30 rfl rfl (by kernel_rfl) (fun _ _ _ h => h) (by rfl) ?_ ?_
    rotate_left
    ·simp only [pS_q]
     rfl
    refine pU (a' := ?_) HT_ 21 31 rfl rfl (by kernel_rfl) (fun _ _ _ h => h) (by rfl) ?_ ?_
    rotate_left
    ·simp only [pS_q]
     rfl
    refine pU (a' := ?_) HT_ 22 32 rfl rfl (by kernel_rfl) (fun _ _ _ h => h) (by rfl) ?_ ?_
    rotate_left
    ·simp only [pS_q]
     rfl
    refine pI (v := ?_) (a' := ?_) HT_ 23 33 rfl rfl (by kernel_rfl) (fun _ _ _ h => h) (by rfl) ?_ ?_ ?_
    rotate_left
    ·intro w'
     go_simp
     with_reducible rfl
    rotate_left
    ·simp only [pS_q]
     rfl
    refine done_ (done_of HT_.out (by kernel_rfl)) ?_
    try go_wp2
    go_ret
    exact ⟨by first | rfl | (simp [eN_q, eS_q] <;> rfl) | (simp [*, eN_q, eS_q] <;> rfl), bel HB.out⟩
   subst c5
   have H1 : (if x3_1 > 0 then (if 0 ≤ (wrap64 (x3_1 - 1)) then (if (wrap64 (x3_1 - 1)) < (l0.length : Int) then (if ((rd_T50 l0 (wrap64 (x3_1 - 1))).f0) ≥ ((rd_T50 l0 x3_1).f0) then (some false) else (spec_GuestsValid.l0 k1 l0 (wrap64 (x3_1 + 1)))) else (none)) else (none)) else (spec_GuestsValid.l0 k1 l0 (wrap64 (x3_1 + 1)))) = some r := by rw [if_pos rfl] at H; exact H
   clear H
   have H := H1
   clear H1
   by_cases c6 : x3_1 > 0
   rotate_left
   ·rw [if_neg c6] at H
    have c6b0 : decide (0 < x3_1) = false := dF_q c6
    clear c6
    have H' := Ae_q H
    clear H
    try go_wp2
    have n0_ := Ae_q (bD_q HB.out)
    clear HB
    have HB := n0_
    clear n0_
    have p544 : 0 ≤ (x3_1 : Int) := oD_q (by assumption)
    have q544 : x3_1 < (l0.length : Int) := oD_q (by assumption)
    obtain ⟨ad544, e544, hx544_0, hx544_1, hx544_2⟩ := at_T50 HR0.out x3_1 p544 q544
    have hw544_2 := hx544_2
    have hw544_1 := hx544_1
    have hw544_0 := hx544_0
    cases e544
    replace hx544_0 := cel HB.out hx544_0
    replace hx544_1 := cel HB.out hx544_1
    replace hx544_2 := cel HB.out hx544_2
    replace p544 := eq_true p544
    replace q544 := eq_true q544
    refine start_ (n := 24) (S := fun w' => w'.cell? (ad544.add ((x3_1).toNat * 3)) = some (.int .i64 ((rd_T50 l0 x3_1).f0)) ∧ w'.cell? ⟨(ad544.add ((x3_1).toNat * 3)).block, (ad544.add ((x3_1).toNat * 3)).off + 1, none⟩ = some (.int .i64 ((rd_T50 l0 x3_1).f1)) ∧ w'.cell? ⟨(ad544.add ((x3_1).toNat * 3)).block, (ad544.add ((x3_1).toNat * 3)).off + 2, none⟩ = some (.int .i64 ((rd_T50 l0 x3_1).f2))) (ds := []) #[false, false, false, false, false, false, false, false, false, false, false, false, false, false, false, false, false, false, false, false, false, false, false, false] (by kernel_rfl) rfl rfl ⟨(cel HB.out hw544_0), (cel HB.out hw544_1), (cel HB.out hw544_2)⟩ (fun hHeld => ?_); refine with_tabW spec_GuestsValid.tab4 spec_GuestsValid.bits4 (fun HT_ HW_ => ?_)
    generalize wr.drew = w15 at HB hx544_0 hx544_1 hx544_2 hHeld ⊢
    refine pI (v := ?_) (a' := ?_) HT_ 0 10 rfl rfl (by kernel_rfl) (fun _ _ _ h => h) (by rfl) ?_ ?_ ?_
    rotate_left
    ·intro w'
     go_simp
     with_reducible rfl
    rotate_left
    ·simp only [pS_q]
     rfl
    refine pI (v := ?_) (a' := ?_) HT_ 1 11 rfl rfl (by kernel_rfl) (fun _ _ _ h => h) (by rfl) ?_ ?_ ?_
    rotate_left
    ·intro w'
     go_simp
     with_reducible rfl
    rotate_left
    ·simp only [pS_q]
     rfl
    refine pI (v := ?_) (a' := ?_) HT_ 2 12 rfl rfl (by kernel_rfl) (fun _ _ _ h => h) (by rfl) ?_ ?_ ?_
    rotate_left
    ·intro w'
     go_simp
     with_reducible rfl
    rotate_left
    ·simp only [pS_q]
     rfl
    refine take_ (i := 3) (N := some 13) (v := ?_) (a' := ?_) #[true, true, true, true, false, false, false, false, false, false, false, false, false, false, false, false, false, false, false, false, false, false, false, false] rfl rfl (take_ofW HT_.out HW_.out (by kernel_rfl)) (fun _ _ _ h => h) (Or.inl ⟨by rfl, ?_⟩) hHeld ?_ ?_
    rotate_left
    ·rintro w' ⟨s0, s1, s2⟩
     go_simp
     with_reducible rfl
    rotate_left
    ·simp only [pS_q]
     rfl
    refine one_ (i := 4) (N := some 14) #[true, true, true, true, true, false, false, false, false, false, false, false, false, false, false, false, false, false, false, false, false, false, false, false] rfl rfl (one_of HT_.out (by kernel_rfl)) (by decide) (fun K hK => ?_)
    refine goes_ Try.func57 (by kernel_rfl) rfl #[.agg #[.int .i64 ((rd_T50 l0 x3_1).f0), .int .i64 ((rd_T50 l0 x3_1).f1), .int .i64 ((rd_T50 l0 x3_1).f2)]] (by rfl) rfl rfl (by (try simp only [lM_q, lC_q, lN_q]); first | done | rfl | (simp only [lD_q, lT_q]; rfl)) ?_
    with_reducible refine (spec_l12Guest.calls ((rd_T50 l0 x3_1).f0) ((rd_T50 l0 x3_1).f1) ((rd_T50 l0 x3_1).f2) true _ A4.out).mono ?_
    rintro e w16 ⟨rfl, hb⟩
    refine ⟨_, rfl, ?_⟩
    have n0_ := Ae_q (bT_q (bel HB.out) hb)
    clear HB
    have HB := n0_
    clear n0_
    (try clear hb)
    (try clear hb2)
    (try clear hk)
    (try clear hi)
    refine hK.out _ _ ⟨(cel HB.out hw544_0), (cel HB.out hw544_1), (cel HB.out hw544_2)⟩ (fun hHeld => ?_)
    clear hK K
    refine norm_ (a' := ?_) ?_ ?_
    rotate_left
    ·show Act.put _ (some 14) _ = _
     simp only [pS_q]
     rfl
    refine pI (v := ?_) (a' := ?_) HT_ 5 15 rfl rfl (by kernel_rfl) (fun _ _ _ h => h) (by rfl) ?_ ?_ ?_
    rotate_left
    ·intro w'
     go_simp
     with_reducible rfl
    rotate_left
    ·simp only [pS_q]
     rfl
    refine pI (v := ?_) (a' := ?_) HT_ 6 16 rfl rfl (by kernel_rfl) (fun _ _ _ h => h) (by rfl) ?_ ?_ ?_
    rotate_left
    ·intro w'
     go_simp
     with_reducible rfl
    rotate_left
    ·simp only [pS_q]
     rfl
    refine pI (v := ?_) (a' := ?_) HT_ 7 17 rfl rfl (by kernel_rfl) (fun _ _ _ h => h) (by rfl) ?_ ?_ ?_
    rotate_left
    ·intro w'
     go_simp
     with_reducible rfl
    rotate_left
    ·simp only [pS_q]
     rfl
    refine pI (v := ?_) (a' := ?_) HT_ 8 18 rfl rfl (by kernel_rfl) (fun _ _ _ h => h) (by rfl) ?_ ?_ ?_
    rotate_left
    ·intro w'
     go_simp
     with_reducible rfl
    rotate_left
    ·simp only [pS_q]
     rfl
    refine pI (v := ?_) (a' := ?_) HT_ 9 19 rfl rfl (by kernel_rfl) (fun _ _ _ h => h) (by rfl) ?_ ?_ ?_
    rotate_left
    ·intro w'
     go_simp
     with_reducible rfl
    rotate_left
    ·simp only [pS_q]
     rfl
    refine pU (a' := ?_) HT_ 10 20 rfl rfl (by kernel_rfl) (fun _ _ _ h => h) (by rfl) ?_ ?_
    rotate_left
    ·simp only [pS_q]
     rfl
    refine pU (a' := ?_) HT_ 11 21 rfl rfl (by kernel_rfl) (fun _ _ _ h => h) (by rfl) ?_ ?_
    rotate_left
    ·simp only [pS_q]
     rfl
    refine pU (a' := ?_) HT_ 12 22 rfl rfl (by kernel_rfl) (fun _ _ _ h => h) (by rfl) ?_ ?_
    rotate_left
    ·simp only [pS_q]
     rfl
    refine pU (a' := ?_) HT_ 13 23 rfl rfl (by kernel_rfl) (fun _ _ _ h => h) (by rfl) ?_ ?_
    rotate_left
    ·simp only [pS_q]
     rfl
    refine pU (a' := ?_) HT_ 14 24 rfl rfl (by kernel_rfl) (fun _ _ _ h => h) (by rfl) ?_ ?_
    rotate_left
    ·simp only [pS_q]
     rfl
    refine pU (a' := ?_) HT_ 15 25 rfl rfl (by kernel_rfl) (fun _ _ _ h => h) (by rfl) ?_ ?_
    rotate_left
    ·simp only [pS_q]
     rfl
    refine pU (a' := ?_) HT_ 16 26 rfl rfl (by kernel_rfl) (fun _ _ _ h => h) (by rfl) ?_ ?_
    rotate_left
    ·simp only [pS_q]
     rfl
    refine pU (a' := ?_) HT_ 17 27 rfl rfl (by kernel_rfl) (fun _ _ _ h => h) (by rfl) ?_ ?_
    rotate_left
    ·simp only [pS_q]
     rfl
    refine pU (a' := ?_) HT_ 18 28 rfl rfl (by kernel_rfl) (fun _ _ _ h => h) (by rfl) ?_ ?_
    rotate_left
    ·simp only [pS_q]
     rfl
    refine pU (a' := ?_) HT_ 19 29 rfl rfl (by kernel_rfl) (fun _ _ _ h => h) (by rfl) ?_ ?_
    rotate_left
    ·simp only [pS_q]
     rfl
    refine pU (a' := ?_) HT_ 20 30 rfl rfl (by kernel_rfl) (fun _ _ _ h => h) (by rfl) ?_ ?_
    rotate_left
    ·simp only [pS_q]
     rfl
    refine pU (a' := ?_) HT_ 21 31 rfl rfl (by kernel_rfl) (fun _ _ _ h => h) (by rfl) ?_ ?_
    rotate_left
    ·simp only [pS_q]
     rfl
    refine pI (v := ?_) (a' := ?_) HT_ 22 32 rfl rfl (by kernel_rfl) (fun _ _ _ h => h) (by rfl) ?_ ?_ ?_
    rotate_left
    ·intro w'
     go_simp
     with_reducible rfl
    rotate_left
    ·simp only [pS_q]
     rfl
    refine pI (v := ?_) (a' := ?_) HT_ 23 33 rfl rfl (by kernel_rfl) (fun _ _ _ h => h) (by rfl) ?_ ?_ ?_
    rotate_left
    ·intro w'
     go_simp
     with_reducible rfl
    rotate_left
    ·simp only [pS_q]
     rfl
    refine done_ (done_of HT_.out (by kernel_rfl)) ?_
    try go_wp2
    go_roundg k1
    case measure => have := HK1.out; omega
    case rel => exact ⟨(wrap64 (x3_1 + 1)), (by first | rfl | (simp; done) | (simp [*]; done)), H', ⟨by have := HK1.out; omega⟩, ⟨bel HB.out⟩⟩
   rw [if_pos c6] at H
   have c6b0 : decide (0 < x3_1) = true := dT_q c6
   clear c6
   obtain ⟨ji7, hji7⟩ : ∃ j_ : Int, (wrap64 (x3_1 - 1)) = j_ := ⟨_, rfl⟩
   replace H : (if 0 ≤ (ji7) then (if (ji7) < (l0.length : Int) then (if ((rd_T50 l0 (ji7)).f0) ≥ ((rd_T50 l0 x3_1).f0) then (some false) else (spec_GuestsValid.l0 k1 l0 (wrap64 (x3_1 + 1)))) else (none)) else (none)) = some r := by first | (rw [hji7] at H; exact H) | (simp only [hji7] at H ⊢; exact H)
   (try rw [hji7] at A4)
   have hji7w : (IntKind.i64.wrap (x3_1 - 1)) = ji7 := (i64_w _).trans hji7
   by_cases c8 : 0 ≤ (ji7)
   rotate_left
   ·rw [if_neg c8] at H
    exact absurd H (by simp)
   rw [if_pos c8] at H
   have c8b0 : decide (0 ≤ (ji7)) = true := dT_q c8
   clear c8
   by_cases c9 : (ji7) < (l0.length : Int)
   rotate_left
   ·rw [if_neg c9] at H
    exact absurd H (by simp)
   rw [if_pos c9] at H
   have c9b0 : decide ((ji7) < (l0.length : Int)) = true := dT_q c9
   clear c9
   by_cases c10 : ((rd_T50 l0 (ji7)).f0) ≥ ((rd_T50 l0 x3_1).f0)
   ·rw [if_pos c10] at H
    have c10b0 : decide (((rd_T50 l0 x3_1).f0) ≤ ((rd_T50 l0 (ji7)).f0)) = true := dT_q c10
    clear c10
    obtain rfl := oI_q H
    try go_wp2
    have n0_ := Ae_q (bD_q HB.out)
    clear HB
    have HB := n0_
    clear n0_
    have p544 : 0 ≤ (x3_1 : Int) := oD_q (by assumption)
    have q544 : x3_1 < (l0.length : Int) := oD_q (by assumption)
    obtain ⟨ad544, e544, hx544_0, hx544_1, hx544_2⟩ := at_T50 HR0.out x3_1 p544 q544
    have hw544_2 := hx544_2
    have hw544_1 := hx544_1
    have hw544_0 := hx544_0
    cases e544
    replace hx544_0 := cel HB.out hx544_0
    replace hx544_1 := cel HB.out hx544_1
    replace hx544_2 := cel HB.out hx544_2
    replace p544 := eq_true p544
    replace q544 := eq_true q544
    have p546 : 0 ≤ ((ji7) : Int) := oD_q (by assumption)
    have q546 : (ji7) < (l0.length : Int) := oD_q (by assumption)
    obtain ⟨ad546, e546, hx546_0, hx546_1, hx546_2⟩ := at_T50 HR0.out (ji7) p546 q546
    have hw546_2 := hx546_2
    have hw546_1 := hx546_1
    have hw546_0 := hx546_0
    obtain rfl : ad544 = ad546 := (by injection e546)
    replace hx546_0 := cel HB.out hx546_0
    replace hx546_1 := cel HB.out hx546_1
    replace hx546_2 := cel HB.out hx546_2
    replace p546 := eq_true p546
    replace q546 := eq_true q546
    have p547 : 0 ≤ (x3_1 : Int) := oD_q (by assumption)
    have q547 : x3_1 < (l0.length : Int) := oD_q (by assumption)
    obtain ⟨ad547, e547, hx547_0, hx547_1, hx547_2⟩ := at_T50 HR0.out x3_1 p547 q547
    have hw547_2 := hx547_2
    have hw547_1 := hx547_1
    have hw547_0 := hx547_0
    obtain rfl : ad544 = ad547 := (by injection e547)
    replace hx547_0 := cel HB.out hx547_0
    replace hx547_1 := cel HB.out hx547_1
    replace hx547_2 := cel HB.out hx547_2
    replace p547 := eq_true p547
    replace q547 := eq_true q547
    refine start_ (n := 24) (S := fun w' => w'.cell? (ad544.add ((x3_1).toNat * 3)) = some (.int .i64 ((rd_T50 l0 x3_1).f0)) ∧ w'.cell? ⟨(ad544.add ((x3_1).toNat * 3)).block, (ad544.add ((x3_1).toNat * 3)).off + 1, none⟩ = some (.int .i64 ((rd_T50 l0 x3_1).f1)) ∧ w'.cell? ⟨(ad544.add ((x3_1).toNat * 3)).block, (ad544.add ((x3_1).toNat * 3)).off + 2, none⟩ = some (.int .i64 ((rd_T50 l0 x3_1).f2)) ∧ w'.cell? (ad544.add (((ji7)).toNat * 3)) = some (.int .i64 ((rd_T50 l0 (ji7)).f0)) ∧ w'.cell? ⟨(ad544.add (((ji7)).toNat * 3)).block, (ad544.add (((ji7)).toNat * 3)).off + 1, none⟩ = some (.int .i64 ((rd_T50 l0 (ji7)).f1)) ∧ w'.cell? ⟨(ad544.add (((ji7)).toNat * 3)).block, (ad544.add (((ji7)).toNat * 3)).off + 2, none⟩ = some (.int .i64 ((rd_T50 l0 (ji7)).f2)) ∧ w'.cell? (ad544.add ((x3_1).toNat * 3)) = some (.int .i64 ((rd_T50 l0 x3_1).f0)) ∧ w'.cell? ⟨(ad544.add ((x3_1).toNat * 3)).block, (ad544.add ((x3_1).toNat * 3)).off + 1, none⟩ = some (.int .i64 ((rd_T50 l0 x3_1).f1)) ∧ w'.cell? ⟨(ad544.add ((x3_1).toNat * 3)).block, (ad544.add ((x3_1).toNat * 3)).off + 2, none⟩ = some (.int .i64 ((rd_T50 l0 x3_1).f2))) (ds := []) #[false, false, false, false, false, false, false, false, false, false, false, false, false, false, false, false, false, false, false, false, false, false, false, false] (by kernel_rfl) rfl rfl ⟨(cel HB.out hw544_0), (cel HB.out hw544_1), (cel HB.out hw544_2), (cel HB.out hw546_0), (cel HB.out hw546_1), (cel HB.out hw546_2), (cel HB.out hw547_0), (cel HB.out hw547_1), (cel HB.out hw547_2)⟩ (fun hHeld => ?_); refine with_tabW spec_GuestsValid.tab4 spec_GuestsValid.bits4 (fun HT_ HW_ => ?_)
    generalize wr.drew = w11 at HB hx544_0 hx544_1 hx544_2 hx546_0 hx546_1 hx546_2 hx547_0 hx547_1 hx547_2 hHeld ⊢
    refine pI (v := ?_) (a' := ?_) HT_ 0 10 rfl rfl (by kernel_rfl) (fun _ _ _ h => h) (by rfl) ?_ ?_ ?_
    rotate_left
    ·intro w'
     go_simp
     with_reducible rfl
    rotate_left
    ·simp only [pS_q]
     rfl
    refine pI (v := ?_) (a' := ?_) HT_ 1 11 rfl rfl (by kernel_rfl) (fun _ _ _ h => h) (by rfl) ?_ ?_ ?_
    rotate_left
    ·intro w'
     go_simp
     with_reducible rfl
    rotate_left
    ·simp only [pS_q]
     rfl
    refine pI (v := ?_) (a' := ?_) HT_ 2 12 rfl rfl (by kernel_rfl) (fun _ _ _ h => h) (by rfl) ?_ ?_ ?_
    rotate_left
    ·intro w'
     go_simp
     with_reducible rfl
    rotate_left
    ·simp only [pS_q]
     rfl
    refine take_ (i := 3) (N := some 13) (v := ?_) (a' := ?_) #[true, true, true, true, false, false, false, false, false, false, false, false, false, false, false, false, false, false, false, false, false, false, false, false] rfl rfl (take_ofW HT_.out HW_.out (by kernel_rfl)) (fun _ _ _ h => h) (Or.inl ⟨by rfl, ?_⟩) hHeld ?_ ?_
    rotate_left
    ·rintro w' ⟨s0, s1, s2, s3, s4, s5, s6, s7, s8⟩
     go_simp
     with_reducible rfl
    rotate_left
    ·simp only [pS_q]
     rfl
    refine one_ (i := 4) (N := some 14) #[true, true, true, true, true, false, false, false, false, false, false, false, false, false, false, false, false, false, false, false, false, false, false, false] rfl rfl (one_of HT_.out (by kernel_rfl)) (by decide) (fun K hK => ?_)
    refine goes_ Try.func57 (by kernel_rfl) rfl #[.agg #[.int .i64 ((rd_T50 l0 x3_1).f0), .int .i64 ((rd_T50 l0 x3_1).f1), .int .i64 ((rd_T50 l0 x3_1).f2)]] (by rfl) rfl rfl (by (try simp only [lM_q, lC_q, lN_q]); first | done | rfl | (simp only [lD_q, lT_q]; rfl)) ?_
    with_reducible refine (spec_l12Guest.calls ((rd_T50 l0 x3_1).f0) ((rd_T50 l0 x3_1).f1) ((rd_T50 l0 x3_1).f2) true _ A4.out).mono ?_
    rintro e w12 ⟨rfl, hb⟩
    refine ⟨_, rfl, ?_⟩
    have n0_ := Ae_q (bT_q (bel HB.out) hb)
    clear HB
    have HB := n0_
    clear n0_
    (try clear hb)
    (try clear hb2)
    (try clear hk)
    (try clear hi)
    refine hK.out _ _ ⟨(cel HB.out hw544_0), (cel HB.out hw544_1), (cel HB.out hw544_2), (cel HB.out hw546_0), (cel HB.out hw546_1), (cel HB.out hw546_2), (cel HB.out hw547_0), (cel HB.out hw547_1), (cel HB.out hw547_2)⟩ (fun hHeld => ?_)
    clear hK K
    refine norm_ (a' := ?_) ?_ ?_
    rotate_left
    ·show Act.put _ (some 14) _ = _
     simp only [pS_q]
     rfl
    refine pI (v := ?_) (a' := ?_) HT_ 5 15 rfl rfl (by kernel_rfl) (fun _ _ _ h => h) (by rfl) ?_ ?_ ?_
    rotate_left
    ·intro w'
     go_simp
     with_reducible rfl
    rotate_left
    ·simp only [pS_q]
     rfl
    refine pI (v := ?_) (a' := ?_) HT_ 6 16 rfl rfl (by kernel_rfl) (fun _ _ _ h => h) (by rfl) ?_ ?_ ?_
    rotate_left
    ·intro w'
     go_simp
     with_reducible rfl
    rotate_left
    ·simp only [pS_q]
     rfl
    refine pI (v := ?_) (a' := ?_) HT_ 7 17 rfl rfl (by kernel_rfl) (fun _ _ _ h => h) (by rfl) ?_ ?_ ?_
    rotate_left
    ·intro w'
     go_simp
     with_reducible rfl
    rotate_left
    ·simp only [pS_q]
     rfl
    refine pI (v := ?_) (a' := ?_) HT_ 8 18 rfl rfl (by kernel_rfl) (fun _ _ _ h => h) (by rfl) ?_ ?_ ?_
    rotate_left
    ·intro w'
     go_simp
     with_reducible rfl
    rotate_left
    ·simp only [pS_q]
     rfl
    refine pI (v := ?_) (a' := ?_) HT_ 9 19 rfl rfl (by kernel_rfl) (fun _ _ _ h => h) (by rfl) ?_ ?_ ?_
    rotate_left
    ·intro w'
     go_simp
     with_reducible rfl
    rotate_left
    ·simp only [pS_q]
     rfl
    refine pI (v := ?_) (a' := ?_) HT_ 10 20 rfl rfl (by kernel_rfl) (fun _ _ _ h => h) (by rfl) ?_ ?_ ?_
    rotate_left
    ·intro w'
     go_simp
     with_reducible rfl
    rotate_left
    ·simp only [pS_q]
     rfl
    refine pI (v := ?_) (a' := ?_) HT_ 11 21 rfl rfl (by kernel_rfl) (fun _ _ _ h => h) (by rfl) ?_ ?_ ?_
    rotate_left
    ·intro w'
     go_simp
     with_reducible rfl
    rotate_left
    ·simp only [pS_q]
     rfl
    refine pI (v := ?_) (a' := ?_) HT_ 12 22 rfl rfl (by kernel_rfl) (fun _ _ _ h => h) (by rfl) ?_ ?_ ?_
    rotate_left
    ·intro w'
     go_simp
     with_reducible rfl
    rotate_left
    ·simp only [pS_q]
     rfl
    refine pI (v := ?_) (a' := ?_) HT_ 13 23 rfl rfl (by kernel_rfl) (fun _ _ _ h => h) (by rfl) ?_ ?_ ?_
    rotate_left
    ·intro w'
     go_simp
     with_reducible rfl
    rotate_left
    ·simp only [pS_q]
     rfl
    refine pI (v := ?_) (a' := ?_) HT_ 14 24 rfl rfl (by kernel_rfl) (fun _ _ _ h => h) (by rfl) ?_ ?_ ?_
    rotate_left
    ·intro w'
     go_simp
     with_reducible rfl
    rotate_left
    ·simp only [pS_q]
     rfl
    refine pI (v := ?_) (a' := ?_) HT_ 16 26 rfl rfl (by kernel_rfl) (fun _ _ _ h => h) (by rfl) ?_ ?_ ?_
    rotate_left
    ·intro w'
     go_simp
     with_reducible rfl
    rotate_left
    ·simp only [pS_q]
     rfl
    refine pI (v := ?_) (a' := ?_) HT_ 17 27 rfl rfl (by kernel_rfl) (fun _ _ _ h => h) (by rfl) ?_ ?_ ?_
    rotate_left
    ·intro w'
     go_simp
     with_reducible rfl
    rotate_left
    ·simp only [pS_q]
     rfl
    refine pI (v := ?_) (a' := ?_) HT_ 18 28 rfl rfl (by kernel_rfl) (fun _ _ _ h => h) (by rfl) ?_ ?_ ?_
    rotate_left
    ·intro w'
     go_simp
     with_reducible rfl
    rotate_left
    ·simp only [pS_q]
     rfl
    refine pI (v := ?_) (a' := ?_) HT_ 19 29 rfl rfl (by kernel_rfl) (fun _ _ _ h => h) (by rfl) ?_ ?_ ?_
    rotate_left
    ·intro w'
     go_simp
     with_reducible rfl
    rotate_left
    ·simp only [pS_q]
     rfl
    refine take_ (i := 15) (N := some 25) (v := ?_) (a' := ?_) #[true, true, true, true, true, true, true, true, true, true, true, true, true, true, true, true, true, true, true, true, false, false, false, false] rfl rfl (take_ofW HT_.out HW_.out (by kernel_rfl)) (fun _ _ _ h => h) (Or.inl ⟨by rfl, ?_⟩) hHeld ?_ ?_
    rotate_left
    ·rintro w' ⟨s0, s1, s2, s3, s4, s5, s6, s7, s8⟩
     go_simp
     with_reducible rfl
    rotate_left
    ·simp only [pS_q]
     rfl
    refine take_ (i := 20) (N := some 30) (v := ?_) (a' := ?_) #[true, true, true, true, true, true, true, true, true, true, true, true, true, true, true, true, true, true, true, true, true, false, false, false] rfl rfl (take_ofW HT_.out HW_.out (by kernel_rfl)) (fun _ _ _ h => h) (Or.inl ⟨by rfl, ?_⟩) hHeld ?_ ?_
    rotate_left
    ·rintro w' ⟨s0, s1, s2, s3, s4, s5, s6, s7, s8⟩
     go_simp
     with_reducible rfl
    rotate_left
    ·simp only [pS_q]
     rfl
    refine pI (v := ?_) (a' := ?_) HT_ 21 31 rfl rfl (by kernel_rfl) (fun _ _ _ h => h) (by rfl) ?_ ?_ ?_
    rotate_left
    ·intro w'
     go_simp
     with_reducible rfl
    rotate_left
    ·simp only [pS_q]
     rfl
    refine pI (v := ?_) (a' := ?_) HT_ 22 32 rfl rfl (by kernel_rfl) (fun _ _ _ h => h) (by rfl) ?_ ?_ ?_
    rotate_left
    ·intro w'
     go_simp
     with_reducible rfl
    rotate_left
    ·simp only [pS_q]
     rfl
    refine pI (v := ?_) (a' := ?_) HT_ 23 33 rfl rfl (by kernel_rfl) (fun _ _ _ h => h) (by rfl) ?_ ?_ ?_
    rotate_left
    ·intro w'
     go_simp
     with_reducible rfl
    rotate_left
    ·simp only [pS_q]
     rfl
    refine done_ (done_of HT_.out (by kernel_rfl)) ?_
    try go_wp2
    go_ret
    exact ⟨by first | rfl | (simp [eN_q, eS_q] <;> rfl) | (simp only [← hji7]; first | rfl | (simp [eN_q, eS_q] <;> rfl)) | (simp [*, eN_q, eS_q] <;> rfl), bel HB.out⟩
   rw [if_neg c10] at H
   have c10b0 : decide (((rd_T50 l0 x3_1).f0) ≤ ((rd_T50 l0 (ji7)).f0)) = false := dF_q c10
   clear c10
   have H' := Ae_q H
   clear H
   try go_wp2
   have n0_ := Ae_q (bD_q HB.out)
   clear HB
   have HB := n0_
   clear n0_
   have p544 : 0 ≤ (x3_1 : Int) := oD_q (by assumption)
   have q544 : x3_1 < (l0.length : Int) := oD_q (by assumption)
   obtain ⟨ad544, e544, hx544_0, hx544_1, hx544_2⟩ := at_T50 HR0.out x3_1 p544 q544
   have hw544_2 := hx544_2
   have hw544_1 := hx544_1
   have hw544_0 := hx544_0
   cases e544
   replace hx544_0 := cel HB.out hx544_0
   replace hx544_1 := cel HB.out hx544_1
   replace hx544_2 := cel HB.out hx544_2
   replace p544 := eq_true p544
   replace q544 := eq_true q544
   have p546 : 0 ≤ ((ji7) : Int) := oD_q (by assumption)
   have q546 : (ji7) < (l0.length : Int) := oD_q (by assumption)
   obtain ⟨ad546, e546, hx546_0, hx546_1, hx546_2⟩ := at_T50 HR0.out (ji7) p546 q546
   have hw546_2 := hx546_2
   have hw546_1 := hx546_1
   have hw546_0 := hx546_0
   obtain rfl : ad544 = ad546 := (by injection e546)
   replace hx546_0 := cel HB.out hx546_0
   replace hx546_1 := cel HB.out hx546_1
   replace hx546_2 := cel HB.out hx546_2
   replace p546 := eq_true p546
   replace q546 := eq_true q546
   have p547 : 0 ≤ (x3_1 : Int) := oD_q (by assumption)
   have q547 : x3_1 < (l0.length : Int) := oD_q (by assumption)
   obtain ⟨ad547, e547, hx547_0, hx547_1, hx547_2⟩ := at_T50 HR0.out x3_1 p547 q547
   have hw547_2 := hx547_2
   have hw547_1 := hx547_1
   have hw547_0 := hx547_0
   obtain rfl : ad544 = ad547 := (by injection e547)
   replace hx547_0 := cel HB.out hx547_0
   replace hx547_1 := cel HB.out hx547_1
   replace hx547_2 := cel HB.out hx547_2
   replace p547 := eq_true p547
   replace q547 := eq_true q547
   refine start_ (n := 24) (S := fun w' => w'.cell? (ad544.add ((x3_1).toNat * 3)) = some (.int .i64 ((rd_T50 l0 x3_1).f0)) ∧ w'.cell? ⟨(ad544.add ((x3_1).toNat * 3)).block, (ad544.add ((x3_1).toNat * 3)).off + 1, none⟩ = some (.int .i64 ((rd_T50 l0 x3_1).f1)) ∧ w'.cell? ⟨(ad544.add ((x3_1).toNat * 3)).block, (ad544.add ((x3_1).toNat * 3)).off + 2, none⟩ = some (.int .i64 ((rd_T50 l0 x3_1).f2)) ∧ w'.cell? (ad544.add (((ji7)).toNat * 3)) = some (.int .i64 ((rd_T50 l0 (ji7)).f0)) ∧ w'.cell? ⟨(ad544.add (((ji7)).toNat * 3)).block, (ad544.add (((ji7)).toNat * 3)).off + 1, none⟩ = some (.int .i64 ((rd_T50 l0 (ji7)).f1)) ∧ w'.cell? ⟨(ad544.add (((ji7)).toNat * 3)).block, (ad544.add (((ji7)).toNat * 3)).off + 2, none⟩ = some (.int .i64 ((rd_T50 l0 (ji7)).f2)) ∧ w'.cell? (ad544.add ((x3_1).toNat * 3)) = some (.int .i64 ((rd_T50 l0 x3_1).f0)) ∧ w'.cell? ⟨(ad544.add ((x3_1).toNat * 3)).block, (ad544.add ((x3_1).toNat * 3)).off + 1, none⟩ = some (.int .i64 ((rd_T50 l0 x3_1).f1)) ∧ w'.cell? ⟨(ad544.add ((x3_1).toNat * 3)).block, (ad544.add ((x3_1).toNat * 3)).off + 2, none⟩ = some (.int .i64 ((rd_T50 l0 x3_1).f2))) (ds := []) #[false, false, false, false, false, false, false, false, false, false, false, false, false, false, false, false, false, false, false, false, false, false, false, false] (by kernel_rfl) rfl rfl ⟨(cel HB.out hw544_0), (cel HB.out hw544_1), (cel HB.out hw544_2), (cel HB.out hw546_0), (cel HB.out hw546_1), (cel HB.out hw546_2), (cel HB.out hw547_0), (cel HB.out hw547_1), (cel HB.out hw547_2)⟩ (fun hHeld => ?_); refine with_tabW spec_GuestsValid.tab4 spec_GuestsValid.bits4 (fun HT_ HW_ => ?_)
   generalize wr.drew = w13 at HB hx544_0 hx544_1 hx544_2 hx546_0 hx546_1 hx546_2 hx547_0 hx547_1 hx547_2 hHeld ⊢
   refine pI (v := ?_) (a' := ?_) HT_ 0 10 rfl rfl (by kernel_rfl) (fun _ _ _ h => h) (by rfl) ?_ ?_ ?_
   rotate_left
   ·intro w'
    go_simp
    with_reducible rfl
   rotate_left
   ·simp only [pS_q]
    rfl
   refine pI (v := ?_) (a' := ?_) HT_ 1 11 rfl rfl (by kernel_rfl) (fun _ _ _ h => h) (by rfl) ?_ ?_ ?_
   rotate_left
   ·intro w'
    go_simp
    with_reducible rfl
   rotate_left
   ·simp only [pS_q]
    rfl
   refine pI (v := ?_) (a' := ?_) HT_ 2 12 rfl rfl (by kernel_rfl) (fun _ _ _ h => h) (by rfl) ?_ ?_ ?_
   rotate_left
   ·intro w'
    go_simp
    with_reducible rfl
   rotate_left
   ·simp only [pS_q]
    rfl
   refine take_ (i := 3) (N := some 13) (v := ?_) (a' := ?_) #[true, true, true, true, false, false, false, false, false, false, false, false, false, false, false, false, false, false, false, false, false, false, false, false] rfl rfl (take_ofW HT_.out HW_.out (by kernel_rfl)) (fun _ _ _ h => h) (Or.inl ⟨by rfl, ?_⟩) hHeld ?_ ?_
   rotate_left
   ·rintro w' ⟨s0, s1, s2, s3, s4, s5, s6, s7, s8⟩
    go_simp
    with_reducible rfl
   rotate_left
   ·simp only [pS_q]
    rfl
   refine one_ (i := 4) (N := some 14) #[true, true, true, true, true, false, false, false, false, false, false, false, false, false, false, false, false, false, false, false, false, false, false, false] rfl rfl (one_of HT_.out (by kernel_rfl)) (by decide) (fun K hK => ?_)
   refine goes_ Try.func57 (by kernel_rfl) rfl #[.agg #[.int .i64 ((rd_T50 l0 x3_1).f0), .int .i64 ((rd_T50 l0 x3_1).f1), .int .i64 ((rd_T50 l0 x3_1).f2)]] (by rfl) rfl rfl (by (try simp only [lM_q, lC_q, lN_q]); first | done | rfl | (simp only [lD_q, lT_q]; rfl)) ?_
   with_reducible refine (spec_l12Guest.calls ((rd_T50 l0 x3_1).f0) ((rd_T50 l0 x3_1).f1) ((rd_T50 l0 x3_1).f2) true _ A4.out).mono ?_
   rintro e w14 ⟨rfl, hb⟩
   refine ⟨_, rfl, ?_⟩
   have n0_ := Ae_q (bT_q (bel HB.out) hb)
   clear HB
   have HB := n0_
   clear n0_
   (try clear hb)
   (try clear hb2)
   (try clear hk)
   (try clear hi)
   refine hK.out _ _ ⟨(cel HB.out hw544_0), (cel HB.out hw544_1), (cel HB.out hw544_2), (cel HB.out hw546_0), (cel HB.out hw546_1), (cel HB.out hw546_2), (cel HB.out hw547_0), (cel HB.out hw547_1), (cel HB.out hw547_2)⟩ (fun hHeld => ?_)
   clear hK K
   refine norm_ (a' := ?_) ?_ ?_
   rotate_left
   ·show Act.put _ (some 14) _ = _
    simp only [pS_q]
    rfl
   refine pI (v := ?_) (a' := ?_) HT_ 5 15 rfl rfl (by kernel_rfl) (fun _ _ _ h => h) (by rfl) ?_ ?_ ?_
   rotate_left
   ·intro w'
    go_simp
    with_reducible rfl
   rotate_left
   ·simp only [pS_q]
    rfl
   refine pI (v := ?_) (a' := ?_) HT_ 6 16 rfl rfl (by kernel_rfl) (fun _ _ _ h => h) (by rfl) ?_ ?_ ?_
   rotate_left
   ·intro w'
    go_simp
    with_reducible rfl
   rotate_left
   ·simp only [pS_q]
    rfl
   refine pI (v := ?_) (a' := ?_) HT_ 7 17 rfl rfl (by kernel_rfl) (fun _ _ _ h => h) (by rfl) ?_ ?_ ?_
   rotate_left
   ·intro w'
    go_simp
    with_reducible rfl
   rotate_left
   ·simp only [pS_q]
    rfl
   refine pI (v := ?_) (a' := ?_) HT_ 8 18 rfl rfl (by kernel_rfl) (fun _ _ _ h => h) (by rfl) ?_ ?_ ?_
   rotate_left
   ·intro w'
    go_simp
    with_reducible rfl
   rotate_left
   ·simp only [pS_q]
    rfl
   refine pI (v := ?_) (a' := ?_) HT_ 9 19 rfl rfl (by kernel_rfl) (fun _ _ _ h => h) (by rfl) ?_ ?_ ?_
   rotate_left
   ·intro w'
    go_simp
    with_reducible rfl
   rotate_left
   ·simp only [pS_q]
    rfl
   refine pI (v := ?_) (a' := ?_) HT_ 10 20 rfl rfl (by kernel_rfl) (fun _ _ _ h => h) (by rfl) ?_ ?_ ?_
   rotate_left
   ·intro w'
    go_simp
    with_reducible rfl
   rotate_left
   ·simp only [pS_q]
    rfl
   refine pI (v := ?_) (a' := ?_) HT_ 11 21 rfl rfl (by kernel_rfl) (fun _ _ _ h => h) (by rfl) ?_ ?_ ?_
   rotate_left
   ·intro w'
    go_simp
    with_reducible rfl
   rotate_left
   ·simp only [pS_q]
    rfl
   refine pI (v := ?_) (a' := ?_) HT_ 12 22 rfl rfl (by kernel_rfl) (fun _ _ _ h => h) (by rfl) ?_ ?_ ?_
   rotate_left
   ·intro w'
    go_simp
    with_reducible rfl
   rotate_left
   ·simp only [pS_q]
    rfl
   refine pI (v := ?_) (a' := ?_) HT_ 13 23 rfl rfl (by kernel_rfl) (fun _ _ _ h => h) (by rfl) ?_ ?_ ?_
   rotate_left
   ·intro w'
    go_simp
    with_reducible rfl
   rotate_left
   ·simp only [pS_q]
    rfl
   refine pI (v := ?_) (a' := ?_) HT_ 14 24 rfl rfl (by kernel_rfl) (fun _ _ _ h => h) (by rfl) ?_ ?_ ?_
   rotate_left
   ·intro w'
    go_simp
    with_reducible rfl
   rotate_left
   ·simp only [pS_q]
    rfl
   refine pI (v := ?_) (a' := ?_) HT_ 16 26 rfl rfl (by kernel_rfl) (fun _ _ _ h => h) (by rfl) ?_ ?_ ?_
   rotate_left
   ·intro w'
    go_simp
    with_reducible rfl
   rotate_left
   ·simp only [pS_q]
    rfl
   refine pI (v := ?_) (a' := ?_) HT_ 17 27 rfl rfl (by kernel_rfl) (fun _ _ _ h => h) (by rfl) ?_ ?_ ?_
   rotate_left
   ·intro w'
    go_simp
    with_reducible rfl
   rotate_left
   ·simp only [pS_q]
    rfl
   refine pI (v := ?_) (a' := ?_) HT_ 18 28 rfl rfl (by kernel_rfl) (fun _ _ _ h => h) (by rfl) ?_ ?_ ?_
   rotate_left
   ·intro w'
    go_simp
    with_reducible rfl
   rotate_left
   ·simp only [pS_q]
    rfl
   refine pI (v := ?_) (a' := ?_) HT_ 19 29 rfl rfl (by kernel_rfl) (fun _ _ _ h => h) (by rfl) ?_ ?_ ?_
   rotate_left
   ·intro w'
    go_simp
    with_reducible rfl
   rotate_left
   ·simp only [pS_q]
    rfl
   refine take_ (i := 15) (N := some 25) (v := ?_) (a' := ?_) #[true, true, true, true, true, true, true, true, true, true, true, true, true, true, true, true, true, true, true, true, false, false, false, false] rfl rfl (take_ofW HT_.out HW_.out (by kernel_rfl)) (fun _ _ _ h => h) (Or.inl ⟨by rfl, ?_⟩) hHeld ?_ ?_
   rotate_left
   ·rintro w' ⟨s0, s1, s2, s3, s4, s5, s6, s7, s8⟩
    go_simp
    with_reducible rfl
   rotate_left
   ·simp only [pS_q]
    rfl
   refine take_ (i := 20) (N := some 30) (v := ?_) (a' := ?_) #[true, true, true, true, true, true, true, true, true, true, true, true, true, true, true, true, true, true, true, true, true, false, false, false] rfl rfl (take_ofW HT_.out HW_.out (by kernel_rfl)) (fun _ _ _ h => h) (Or.inl ⟨by rfl, ?_⟩) hHeld ?_ ?_
   rotate_left
   ·rintro w' ⟨s0, s1, s2, s3, s4, s5, s6, s7, s8⟩
    go_simp
    with_reducible rfl
   rotate_left
   ·simp only [pS_q]
    rfl
   refine pI (v := ?_) (a' := ?_) HT_ 21 31 rfl rfl (by kernel_rfl) (fun _ _ _ h => h) (by rfl) ?_ ?_ ?_
   rotate_left
   ·intro w'
    go_simp
    with_reducible rfl
   rotate_left
   ·simp only [pS_q]
    rfl
   refine pI (v := ?_) (a' := ?_) HT_ 22 32 rfl rfl (by kernel_rfl) (fun _ _ _ h => h) (by rfl) ?_ ?_ ?_
   rotate_left
   ·intro w'
    go_simp
    with_reducible rfl
   rotate_left
   ·simp only [pS_q]
    rfl
   refine pI (v := ?_) (a' := ?_) HT_ 23 33 rfl rfl (by kernel_rfl) (fun _ _ _ h => h) (by rfl) ?_ ?_ ?_
   rotate_left
   ·intro w'
    go_simp
    with_reducible rfl
   rotate_left
   ·simp only [pS_q]
    rfl
   refine done_ (done_of HT_.out (by kernel_rfl)) ?_
   try go_wp2
   go_roundg k1
   case measure => have := HK1.out; omega
   case rel => exact ⟨(wrap64 (x3_1 + 1)), (by first | rfl | (simp; done) | (simp [*]; done)), H', ⟨by have := HK1.out; omega⟩, ⟨bel HB.out⟩⟩

end Go.Proofs.Ytnhenfmegpjigaa.PEv
