import Derived.Test.YtfnpiacmlahegaaVSPRpx0
import Derived.Test.YtfnpiacmlahegaaVSPRpx10
namespace Go.Proofs.Ytfnpiacmlahegaa.PRp
open Go.RowKit Go.Proofs.YtfnpiacmlahegaaW.PrintWords Go.Proofs.YtfnpiacmlahegaaW.PrintLast Go.Proofs.YtfnpiacmlahegaaW.PrintMore
attribute [local go_sem] max2_int min2_int max_two min_two max_three min_three max_four min_four
set_option linter.unusedVariables false
set_option linter.unusedSimpArgs false

def spec_l32Use.l0 : Nat → List (S63) → List Int → Int → Int → List Int → Int → Option (Int × List Int)
 | 0, _, _, _, _, _, _ => none
 | k + 1, x0, x1, x2, x8, x9, x10 => if x10 < (x1.length : Int) then (if 0 ≤ x10 then (if x10 < (x0.length : Int) then ((spec_l32On.f ((rd_T63 x0 x10).f0) ((rd_T63 x0 x10).f1) ((rd_T63 x0 x10).f2) ((rd_T63 x0 x10).f3) (rd x1 x10) x2).bind fun t275 => (if t275 = true then (if ((rd_T63 x0 x10).f2) > 0 then (if 0 ≤ (wrap64 (((rd_T63 x0 x10).f2) - 1)) then (if (wrap64 (((rd_T63 x0 x10).f2) - 1)) < (x9.length : Int) then (spec_l32Use.l0 k x0 x1 x2 (wrap64 (x8 + ((rd_T63 x0 x10).f1))) (x9.set ((wrap64 (((rd_T63 x0 x10).f2) - 1)) : Int).toNat (wrap64 ((rd x9 (wrap64 (((rd_T63 x0 x10).f2) - 1))) + 1))) (wrap64 (x10 + 1))) else (none)) else (none)) else (spec_l32Use.l0 k x0 x1 x2 (wrap64 (x8 + ((rd_T63 x0 x10).f1))) x9 (wrap64 (x10 + 1)))) else (spec_l32Use.l0 k x0 x1 x2 x8 x9 (wrap64 (x10 + 1))))) else (none)) else (none)) else (some (x8, x9))
def spec_l32Use.f (k : Nat) (l0 : List (S63)) (l1 : List Int) (a2 : Int) : Option (Int × List Int) := if 4 ≤ 35184372088832 then (spec_l32Use.l0 k l0 l1 a2 0 (List.replicate 4 0) 0) else (none)
def spec_l32Use.T6 : Bool × List (List Nat × List Nat) := (true, [([], []), ([], []), ([0, 1], [0, 1]), ([2], [2]), ([], []), ([], []), ([4, 5], [4, 5]), ([6], [6]), ([], []), ([3, 7, 8], [3, 7, 8])])
def spec_l32Use.B6 : List Nat := [0, 0, 3, 7, 0, 0, 48, 112, 0, 511]
theorem spec_l32Use.tab6 : rtab .any (opsOf Try.f64 6) = spec_l32Use.T6 := by kernel_rfl
theorem spec_l32Use.bits6 : waitsOk spec_l32Use.T6.2 spec_l32Use.B6 = true := by kernel_rfl
def spec_l32Use.T9 : Bool × List (List Nat × List Nat) := (true, [([], []), ([], []), ([], []), ([1, 2], [1, 2]), ([3], [3]), ([4], [4]), ([5], [5]), ([], []), ([], []), ([], []), ([8, 9], [8, 9]), ([10], [10]), ([11], [11]), ([12], [12]), ([7, 13], [7, 13]), ([14], [14]), ([15], [15]), ([0, 6, 0, 1, 2, 3, 4, 5, 6, 7, 8, 9, 10, 11, 12, 13, 14, 15, 16], [0, 6]), ([17, 16, 0, 1, 2, 3, 4, 5, 6, 7, 8, 9, 10, 11, 12, 13, 14, 15, 16], [16, 17])])
def spec_l32Use.B9 : List Nat := [0, 0, 0, 6, 14, 30, 62, 0, 0, 0, 768, 1792, 3840, 7936, 16256, 32640, 65408, 131071, 262143]
theorem spec_l32Use.tab9 : rtab .any (opsOf Try.f64 9) = spec_l32Use.T9 := by kernel_rfl
theorem spec_l32Use.bits9 : waitsOk spec_l32Use.T9.2 spec_l32Use.B9 = true := by kernel_rfl
set_option maxHeartbeats 8000000 in
set_option maxRecDepth 100000 in
theorem spec_l32Use.calls (k : Nat) (A0 : Option Addr) (c0 : Nat) (l0 : List (S63)) (A1 : Option Addr) (c1 : Nat) (l1 : List Int) (a2 : Int) (r1 : Int) (r2 : List Int) (w : World) (hr0 : Kd.C k63 w A0 l0.length l0) (hc0 : l0.length ≤ c0) (hr1 : Kd.C kI_q w A1 l1.length l1) (hc1 : l1.length ≤ c1) (h : spec_l32Use.f k l0 l1 a2 = some (r1, r2)) :
    Calls Try.prog 64 #[.slice A0 l0.length c0, .slice A1 l1.length c1, .int .i64 a2] w fun e w' => ∃ v1_ : Value, e = .returned (.tuple #[.int .i64 r1, v1_]) ∧ Kd.R kI_q 3 w' w.heap.size (fun _ => True) v1_ r2 ∧ Below w.heap.size w w' := by
 have hu63 := Try.underlying63
 have HR0 := Ae_q hr0
 have HC0 := Ae_q hc0
 clear hr0 hc0
 have HR1 := Ae_q hr1
 have HC1 := Ae_q hc1
 clear hr1 hc1
 have HB := Ae_q (bR_q w.heap.size w)
 have H : (if 4 ≤ 35184372088832 then (spec_l32Use.l0 k l0 l1 a2 0 (List.replicate 4 0) 0) else (none)) = some (r1, r2) := h
 clear h
 by_cases c4 : 4 ≤ 35184372088832
 rotate_left
 ·rw [if_neg c4] at H
  exact absurd H (by simp)
 rw [if_pos c4] at H
 have c4b0 := eq_true c4
 have c4b1 : decide (4 ≤ 35184372088832) = true := dT_q c4
 clear c4
 obtain ⟨y270, hy270⟩ : ∃ y_ : List Int, y_ = (List.replicate 4 0) := ⟨_, rfl⟩
 replace H : (spec_l32Use.l0 k l0 l1 a2 0 y270 0) = some (r1, r2) := by first | (rw [hy270]; with_reducible exact H) | (have H2_ := (oS_q _ _).symm.trans H; rw [hy270]; with_reducible exact H2_) | (have H2_ := (oS_q _ _).symm.trans H; with_reducible exact H2_) | with_reducible exact H | (rw [hy270]; exact H) | exact H
 have Ny270 := Ae_q hy270
 clear hy270
 have H' := Ae_q H
 clear H
 go_enter Try.func64, Try.ntmps64
 go_wp2_with (first | ((with_reducible refine gD_q (N := 11) rfl ?_); refine Kd.R_make kI_q _ 3 rfl (N := 11) rfl 23 _ _ rfl 4 rfl rfl Try.underlying23 (.int .i64 0) 8 info3 rfl (by decide) (by omega) 0 (ok := fun _ => True) (okp := fun _ => True) rfl (fun _ hk => hk) trivial (by omega) (by omega) (bR_q _ _) (nR_q _) ?_; intro v271 w5 ho6 hb hg_ hnew_; clear hg_ hnew_; (first | rw [← Ny270.out] at ho6 | (simp only [Int.reduceToNat] at ho6; rw [← Ny270.out] at ho6)); have HO272 := Ae_q (rL_q ho6 (bZ_q (bel HB.out))); replace HB := Ae_q (bT_q (bel HB.out) hb); clear hb ho6))
 go_loopg [8, 10] k (fun kq v8 v10 w' => ∃ (x8_1 : Int) (x9_1 : List Int) (x10_1 : Int), v8 = .int .i64 x8_1 ∧ v10 = .int .i64 x10_1 ∧ Aside0 (spec_l32Use.l0 kq l0 l1 a2 x8_1 x9_1 x10_1 = some (r1, r2)) ∧ Aside0 (kq ≤ k) ∧ Aside0 (Kd.R kI_q 3 w' w.heap.size (fun _ => True) v271 x9_1) ∧ Aside0 (Below w.heap.size w w'))
 case atStart => exact ⟨(0), (y270), (0), m5_q, m5_q, H', ⟨nR_q _⟩, ⟨rup HO272.out⟩, ⟨bel HB.out⟩⟩
 case round =>
  clear H'
  try clear c1
  try clear p2
  try clear c4
  try clear c4b0
  try clear c4b1
  try clear c6
  obtain ⟨x8_1, x9_1, x10_1, rfl, rfl, HA, HK1, HO_9, HB⟩ := hrel
  cases gk with
  | zero => exact absurd HA.out (by simp [spec_l32Use.l0])
  | succ k1 =>
   have H := HA.out
   clear HA
   simp only [spec_l32Use.l0] at H
   by_cases c7 : x10_1 < (l1.length : Int)
   rotate_left
   ·rw [if_neg c7] at H
    have c7b0 : decide (x10_1 < (l1.length : Int)) = false := dF_q c7
    clear c7
    simp only [oE_q, pE_q] at H
    obtain ⟨rfl, rfl⟩ := H
    go_wp2
    go_ret2
    exact ⟨_, m4_q, rup HO_9.out, bel HB.out⟩
   rw [if_pos c7] at H
   have c7b0 : decide (x10_1 < (l1.length : Int)) = true := dT_q c7
   clear c7
   by_cases c8 : 0 ≤ x10_1
   rotate_left
   ·rw [if_neg c8] at H
    exact absurd H (by simp)
   rw [if_pos c8] at H
   have c8b0 : decide (0 ≤ x10_1) = true := dT_q c8
   clear c8
   by_cases c9 : x10_1 < (l0.length : Int)
   rotate_left
   ·rw [if_neg c9] at H
    exact absurd H (by simp)
   rw [if_pos c9] at H
   have c9b0 : decide (x10_1 < (l0.length : Int)) = true := dT_q c9
   clear c9
   replace H := oB_q.mp H
   obtain ⟨t275, A100, H⟩ := H
   replace H : (if t275 = true then (if ((rd_T63 l0 x10_1).f2) > 0 then (if 0 ≤ (wrap64 (((rd_T63 l0 x10_1).f2) - 1)) then (if (wrap64 (((rd_T63 l0 x10_1).f2) - 1)) < (x9_1.length : Int) then (spec_l32Use.l0 k1 l0 l1 a2 (wrap64 (x8_1 + ((rd_T63 l0 x10_1).f1))) (x9_1.set ((wrap64 (((rd_T63 l0 x10_1).f2) - 1)) : Int).toNat (wrap64 ((rd x9_1 (wrap64 (((rd_T63 l0 x10_1).f2) - 1))) + 1))) (wrap64 (x10_1 + 1))) else (none)) else (none)) else (spec_l32Use.l0 k1 l0 l1 a2 (wrap64 (x8_1 + ((rd_T63 l0 x10_1).f1))) x9_1 (wrap64 (x10_1 + 1)))) else (spec_l32Use.l0 k1 l0 l1 a2 x8_1 x9_1 (wrap64 (x10_1 + 1)))) = some (r1, r2) := H
   have A10 := Ae_q A100
   clear A100
   by_cases c11 : t275 = true
   rotate_left
   ·replace c11 := fM_q.mpr c11
    subst c11
    have H1 : (spec_l32Use.l0 k1 l0 l1 a2 x8_1 x9_1 (wrap64 (x10_1 + 1))) = some (r1, r2) := by rw [if_neg (show ¬ (false = true) by decide)] at H; exact H
    clear H
    have H := H1
    clear H1
    have H' := Ae_q H
    clear H
    try go_wp2
    replace HO_9 := Ae_q (rD_q HO_9.out)
    replace HB := Ae_q (bD_q HB.out)
    have p273 : 0 ≤ (x10_1 : Int) := oD_q (by assumption)
    have q273 : x10_1 < (l0.length : Int) := oD_q (by assumption)
    obtain ⟨ad273, A273_3, c273_3, e273, hx273_0, hx273_1, hx273_2, hx273_3, hl273_3, hi273_3⟩ := at_T63 HR0.out x10_1 p273 q273
    have hw273_3 := hx273_3
    have hw273_2 := hx273_2
    have hw273_1 := hx273_1
    have hw273_0 := hx273_0
    cases e273
    replace hx273_0 := cel HB.out hx273_0
    replace hx273_1 := cel HB.out hx273_1
    replace hx273_2 := cel HB.out hx273_2
    replace hx273_3 := cel HB.out hx273_3
    have HR273_3 := Ae_q hi273_3
    have HC273_3 := Ae_q hl273_3
    clear hi273_3 hl273_3
    replace p273 := eq_true p273
    replace q273 := eq_true q273
    have p274 : 0 ≤ (x10_1 : Int) := oD_q (by assumption)
    have q274 : x10_1 < (l1.length : Int) := oD_q (by assumption)
    obtain ⟨ad274, e274, hx274_0⟩ := aI_q HR1.out x10_1 p274 q274
    have hw274_0 := hx274_0
    cases e274
    replace hx274_0 := cel HB.out hx274_0
    replace p274 := eq_true p274
    replace q274 := eq_true q274
    refine start_ (n := 10) (S := fun w' => w'.cell? (ad273.add ((x10_1).toNat * 4)) = some (.int .i64 ((rd_T63 l0 x10_1).f0)) ∧ w'.cell? ⟨(ad273.add ((x10_1).toNat * 4)).block, (ad273.add ((x10_1).toNat * 4)).off + 1, none⟩ = some (.int .i64 ((rd_T63 l0 x10_1).f1)) ∧ w'.cell? ⟨(ad273.add ((x10_1).toNat * 4)).block, (ad273.add ((x10_1).toNat * 4)).off + 2, none⟩ = some (.int .i64 ((rd_T63 l0 x10_1).f2)) ∧ w'.cell? ⟨(ad273.add ((x10_1).toNat * 4)).block, (ad273.add ((x10_1).toNat * 4)).off + 3, none⟩ = some (.slice A273_3 ((rd_T63 l0 x10_1).f3).length c273_3) ∧ w'.cell? (ad274.add (x10_1).toNat) = some (.int .i64 (rd l1 x10_1))) (ds := []) #[false, false, false, false, false, false, false, false, false, false] m7_q rfl rfl ⟨(cel HB.out hw273_0), (cel HB.out hw273_1), (cel HB.out hw273_2), (cel HB.out hw273_3), (cel HB.out hw274_0)⟩ (fun hHeld => ?_); refine with_tabW spec_l32Use.tab6 spec_l32Use.bits6 (fun HT_ HW_ => ?_)
    generalize wr.drew = w24 at HO_9 HB HR273_3 hx273_0 hx273_1 hx273_2 hx273_3 hx274_0 hHeld ⊢
    refine pJ HT_ 0 18 rfl rfl ?_
    refine pJ HT_ 1 19 rfl rfl ?_
    refine pJ HT_ 2 20 rfl rfl ?_
    refine pJ HT_ 4 22 rfl rfl ?_
    refine pJ HT_ 5 23 rfl rfl ?_
    refine pJ HT_ 6 24 rfl rfl ?_
    refine pJ HT_ 8 26 rfl rfl ?_
    refine take_ (i := 3) (N := some 21) (v := ?_) (a' := ?_) #[true, true, true, true, true, true, true, false, true, false] rfl rfl (take_ofW HT_.out HW_.out m7_q) (fun _ _ _ h => h) (Or.inl ⟨by rfl, ?_⟩) hHeld ?_ ?_
    rotate_left
    ·rintro w' ⟨s0, s1, s2, s3, s4⟩
     go_simp
     with_reducible rfl
    rotate_left
    ·simp only [pS_q]
     rfl
    refine take_ (i := 7) (N := some 25) (v := ?_) (a' := ?_) #[true, true, true, true, true, true, true, true, true, false] rfl rfl (take_ofW HT_.out HW_.out m7_q) (fun _ _ _ h => h) (Or.inl ⟨by rfl, ?_⟩) hHeld ?_ ?_
    rotate_left
    ·rintro w' ⟨s0, s1, s2, s3, s4⟩
     go_simp
     with_reducible rfl
    rotate_left
    ·simp only [pS_q]
     rfl
    refine one_ (i := 9) (N := some 27) #[true, true, true, true, true, true, true, true, true, true] rfl rfl (one_of HT_.out m7_q) (by decide) (fun K hK => ?_)
    refine goes_ Try.func73 m7_q rfl #[.agg #[.int .i64 ((rd_T63 l0 x10_1).f0), .int .i64 ((rd_T63 l0 x10_1).f1), .int .i64 ((rd_T63 l0 x10_1).f2), .slice A273_3 ((rd_T63 l0 x10_1).f3).length c273_3], .int .i64 (rd l1 x10_1), .int .i64 a2] (by rfl) rfl rfl m1_q ?_
    with_reducible refine (spec_l32On.calls ((rd_T63 l0 x10_1).f0) ((rd_T63 l0 x10_1).f1) ((rd_T63 l0 x10_1).f2) _ _ ((rd_T63 l0 x10_1).f3) (rd l1 x10_1) a2 false _ ?side1 ?side2 A10.out).mono ?_
    (case side1 => exact cup (cB_q HR273_3.out HB.out))
    (case side2 => exact HC273_3.out)
    rintro e w' ⟨rfl, hb⟩
    refine ⟨_, rfl, ?_⟩
    replace HO_9 := Ae_q (rO_q (rup HO_9.out) hb)
    replace HB := Ae_q (bT_q (bel HB.out) hb)
    (try clear hb)
    (try clear hb2)
    (try clear hk)
    (try clear hi)
    refine hK.out _ _ ⟨(cel HB.out hw273_0), (cel HB.out hw273_1), (cel HB.out hw273_2), (cel HB.out hw273_3), (cel HB.out hw274_0)⟩ (fun hHeld => ?_)
    clear hK K
    refine nJ_q ?_
    refine done_ (done_of HT_.out m7_q) ?_
    try go_wp2
    go_roundg k1
    case measure => have := HK1.out; omega
    case rel => exact ⟨(x8_1), (x9_1), (wrap64 (x10_1 + 1)), m5_q, m5_q, H', ⟨m74_q⟩, ⟨rup HO_9.out⟩, ⟨bel HB.out⟩⟩
   subst c11
   have H1 : (if ((rd_T63 l0 x10_1).f2) > 0 then (if 0 ≤ (wrap64 (((rd_T63 l0 x10_1).f2) - 1)) then (if (wrap64 (((rd_T63 l0 x10_1).f2) - 1)) < (x9_1.length : Int) then (spec_l32Use.l0 k1 l0 l1 a2 (wrap64 (x8_1 + ((rd_T63 l0 x10_1).f1))) (x9_1.set ((wrap64 (((rd_T63 l0 x10_1).f2) - 1)) : Int).toNat (wrap64 ((rd x9_1 (wrap64 (((rd_T63 l0 x10_1).f2) - 1))) + 1))) (wrap64 (x10_1 + 1))) else (none)) else (none)) else (spec_l32Use.l0 k1 l0 l1 a2 (wrap64 (x8_1 + ((rd_T63 l0 x10_1).f1))) x9_1 (wrap64 (x10_1 + 1)))) = some (r1, r2) := by rw [if_pos rfl] at H; exact H
   clear H
   have H := H1
   clear H1
   by_cases c12 : ((rd_T63 l0 x10_1).f2) > 0
   rotate_left
   ·rw [if_neg c12] at H
    have c12b0 : decide (0 < ((rd_T63 l0 x10_1).f2)) = false := dF_q c12
    clear c12
    have H' := Ae_q H
    clear H
    try go_wp2
    replace HO_9 := Ae_q (rD_q HO_9.out)
    replace HB := Ae_q (bD_q HB.out)
    have p273 : 0 ≤ (x10_1 : Int) := oD_q (by assumption)
    have q273 : x10_1 < (l0.length : Int) := oD_q (by assumption)
    obtain ⟨ad273, A273_3, c273_3, e273, hx273_0, hx273_1, hx273_2, hx273_3, hl273_3, hi273_3⟩ := at_T63 HR0.out x10_1 p273 q273
    have hw273_3 := hx273_3
    have hw273_2 := hx273_2
    have hw273_1 := hx273_1
    have hw273_0 := hx273_0
    cases e273
    replace hx273_0 := cel HB.out hx273_0
    replace hx273_1 := cel HB.out hx273_1
    replace hx273_2 := cel HB.out hx273_2
    replace hx273_3 := cel HB.out hx273_3
    have HR273_3 := Ae_q hi273_3
    have HC273_3 := Ae_q hl273_3
    clear hi273_3 hl273_3
    replace p273 := eq_true p273
    replace q273 := eq_true q273
    have p274 : 0 ≤ (x10_1 : Int) := oD_q (by assumption)
    have q274 : x10_1 < (l1.length : Int) := oD_q (by assumption)
    obtain ⟨ad274, e274, hx274_0⟩ := aI_q HR1.out x10_1 p274 q274
    have hw274_0 := hx274_0
    cases e274
    replace hx274_0 := cel HB.out hx274_0
    replace p274 := eq_true p274
    replace q274 := eq_true q274
    refine start_ (n := 10) (S := fun w' => w'.cell? (ad273.add ((x10_1).toNat * 4)) = some (.int .i64 ((rd_T63 l0 x10_1).f0)) ∧ w'.cell? ⟨(ad273.add ((x10_1).toNat * 4)).block, (ad273.add ((x10_1).toNat * 4)).off + 1, none⟩ = some (.int .i64 ((rd_T63 l0 x10_1).f1)) ∧ w'.cell? ⟨(ad273.add ((x10_1).toNat * 4)).block, (ad273.add ((x10_1).toNat * 4)).off + 2, none⟩ = some (.int .i64 ((rd_T63 l0 x10_1).f2)) ∧ w'.cell? ⟨(ad273.add ((x10_1).toNat * 4)).block, (ad273.add ((x10_1).toNat * 4)).off + 3, none⟩ = some (.slice A273_3 ((rd_T63 l0 x10_1).f3).length c273_3) ∧ w'.cell? (ad274.add (x10_1).toNat) = some (.int .i64 (rd l1 x10_1))) (ds := []) #[false, false, false, false, false, false, false, false, false, false] m7_q rfl rfl ⟨(cel HB.out hw273_0), (cel HB.out hw273_1), (cel HB.out hw273_2), (cel HB.out hw273_3), (cel HB.out hw274_0)⟩ (fun hHeld => ?_); refine with_tabW spec_l32Use.tab6 spec_l32Use.bits6 (fun HT_ HW_ => ?_)
    generalize wr.drew = w22 at HO_9 HB HR273_3 hx273_0 hx273_1 hx273_2 hx273_3 hx274_0 hHeld ⊢
    refine pJ HT_ 0 18 rfl rfl ?_
    refine pJ HT_ 1 19 rfl rfl ?_
    refine pJ HT_ 2 20 rfl rfl ?_
    refine pJ HT_ 4 22 rfl rfl ?_
    refine pJ HT_ 5 23 rfl rfl ?_
    refine pJ HT_ 6 24 rfl rfl ?_
    refine pJ HT_ 8 26 rfl rfl ?_
    refine take_ (i := 3) (N := some 21) (v := ?_) (a' := ?_) #[true, true, true, true, true, true, true, false, true, false] rfl rfl (take_ofW HT_.out HW_.out m7_q) (fun _ _ _ h => h) (Or.inl ⟨by rfl, ?_⟩) hHeld ?_ ?_
    rotate_left
    ·rintro w' ⟨s0, s1, s2, s3, s4⟩
     go_simp
     with_reducible rfl
    rotate_left
    ·simp only [pS_q]
     rfl
    refine take_ (i := 7) (N := some 25) (v := ?_) (a' := ?_) #[true, true, true, true, true, true, true, true, true, false] rfl rfl (take_ofW HT_.out HW_.out m7_q) (fun _ _ _ h => h) (Or.inl ⟨by rfl, ?_⟩) hHeld ?_ ?_
    rotate_left
    ·rintro w' ⟨s0, s1, s2, s3, s4⟩
     go_simp
     with_reducible rfl
    rotate_left
    ·simp only [pS_q]
     rfl
    refine one_ (i := 9) (N := some 27) #[true, true, true, true, true, true, true, true, true, true] rfl rfl (one_of HT_.out m7_q) (by decide) (fun K hK => ?_)
    refine goes_ Try.func73 m7_q rfl #[.agg #[.int .i64 ((rd_T63 l0 x10_1).f0), .int .i64 ((rd_T63 l0 x10_1).f1), .int .i64 ((rd_T63 l0 x10_1).f2), .slice A273_3 ((rd_T63 l0 x10_1).f3).length c273_3], .int .i64 (rd l1 x10_1), .int .i64 a2] (by rfl) rfl rfl m1_q ?_
    with_reducible refine (spec_l32On.calls ((rd_T63 l0 x10_1).f0) ((rd_T63 l0 x10_1).f1) ((rd_T63 l0 x10_1).f2) _ _ ((rd_T63 l0 x10_1).f3) (rd l1 x10_1) a2 true _ ?side1 ?side2 A10.out).mono ?_
    (case side1 => exact cup (cB_q HR273_3.out HB.out))
    (case side2 => exact HC273_3.out)
    rintro e w' ⟨rfl, hb⟩
    refine ⟨_, rfl, ?_⟩
    replace HO_9 := Ae_q (rO_q (rup HO_9.out) hb)
    replace HB := Ae_q (bT_q (bel HB.out) hb)
    (try clear hb)
    (try clear hb2)
    (try clear hk)
    (try clear hi)
    refine hK.out _ _ ⟨(cel HB.out hw273_0), (cel HB.out hw273_1), (cel HB.out hw273_2), (cel HB.out hw273_3), (cel HB.out hw274_0)⟩ (fun hHeld => ?_)
    clear hK K
    refine nJ_q ?_
    refine done_ (done_of HT_.out m7_q) ?_
    have p276 : 0 ≤ (x10_1 : Int) := oD_q (by assumption)
    have q276 : x10_1 < (l0.length : Int) := oD_q (by assumption)
    obtain ⟨ad276, A276_3, c276_3, e276, hx276_0, hx276_1, hx276_2, hx276_3, hl276_3, hi276_3⟩ := at_T63 HR0.out x10_1 p276 q276
    obtain rfl : ad273 = ad276 := (by injection e276)
    replace hx276_0 := cel HB.out hx276_0
    replace hx276_1 := cel HB.out hx276_1
    replace hx276_2 := cel HB.out hx276_2
    replace hx276_3 := cel HB.out hx276_3
    have HR276_3 := Ae_q hi276_3
    have HC276_3 := Ae_q hl276_3
    clear hi276_3 hl276_3
    replace p276 := eq_true p276
    replace q276 := eq_true q276
    have p277 : 0 ≤ (x10_1 : Int) := oD_q (by assumption)
    have q277 : x10_1 < (l0.length : Int) := oD_q (by assumption)
    obtain ⟨ad277, A277_3, c277_3, e277, hx277_0, hx277_1, hx277_2, hx277_3, hl277_3, hi277_3⟩ := at_T63 HR0.out x10_1 p277 q277
    obtain rfl : ad273 = ad277 := (by injection e277)
    replace hx277_0 := cel HB.out hx277_0
    replace hx277_1 := cel HB.out hx277_1
    replace hx277_2 := cel HB.out hx277_2
    replace hx277_3 := cel HB.out hx277_3
    have HR277_3 := Ae_q hi277_3
    have HC277_3 := Ae_q hl277_3
    clear hi277_3 hl277_3
    replace p277 := eq_true p277
    replace q277 := eq_true q277
    have ea_ := oI_q (hx276_3.symm.trans hx277_3)
    injection ea_ with ea_ en_ ec_
    subst ea_
    subst ec_
    clear en_
    try go_wp2
    go_roundg k1
    case measure => have := HK1.out; omega
    case rel => exact ⟨(wrap64 (x8_1 + ((rd_T63 l0 x10_1).f1))), (x9_1), (wrap64 (x10_1 + 1)), m5_q, m5_q, H', ⟨m74_q⟩, ⟨rup HO_9.out⟩, ⟨bel HB.out⟩⟩
   rw [if_pos c12] at H
   have c12b0 : decide (0 < ((rd_T63 l0 x10_1).f2)) = true := dT_q c12
   clear c12
   obtain ⟨ji13, hji13⟩ : ∃ j_ : Int, (wrap64 (((rd_T63 l0 x10_1).f2) - 1)) = j_ := ⟨_, rfl⟩
   replace H : (if 0 ≤ (ji13) then (if (ji13) < (x9_1.length : Int) then (spec_l32Use.l0 k1 l0 l1 a2 (wrap64 (x8_1 + ((rd_T63 l0 x10_1).f1))) (x9_1.set ((ji13) : Int).toNat (wrap64 ((rd x9_1 (ji13)) + 1))) (wrap64 (x10_1 + 1))) else (none)) else (none)) = some (r1, r2) := by first | (rw [hji13] at H; exact H) | (simp only [hji13] at H ⊢; exact H)
   (try rw [hji13] at A10)
   have hji13w : (IntKind.i64.wrap (((rd_T63 l0 x10_1).f2) - 1)) = ji13 := (i64_w _).trans hji13
   by_cases c14 : 0 ≤ (ji13)
   rotate_left
   ·rw [if_neg c14] at H
    exact absurd H (by simp)
   rw [if_pos c14] at H
   have c14b0 : decide (0 ≤ (ji13)) = true := dT_q c14
   clear c14
   by_cases c15 : (ji13) < (x9_1.length : Int)
   rotate_left
   ·rw [if_neg c15] at H
    exact absurd H (by simp)
   rw [if_pos c15] at H
   have c15b0 : decide ((ji13) < (x9_1.length : Int)) = true := dT_q c15
   clear c15
   obtain ⟨y281, hy281⟩ : ∃ y_ : List Int, y_ = (x9_1.set ((ji13) : Int).toNat (wrap64 ((rd x9_1 (ji13)) + 1))) := ⟨_, rfl⟩
   replace H : (spec_l32Use.l0 k1 l0 l1 a2 (wrap64 (x8_1 + ((rd_T63 l0 x10_1).f1))) y281 (wrap64 (x10_1 + 1))) = some (r1, r2) := by first | (rw [hy281]; with_reducible exact H) | (have H2_ := (oS_q _ _).symm.trans H; rw [hy281]; with_reducible exact H2_) | (have H2_ := (oS_q _ _).symm.trans H; with_reducible exact H2_) | with_reducible exact H | (rw [hy281]; exact H) | exact H
   have Ny281 := Ae_q hy281
   clear hy281
   have H' := Ae_q H
   clear H
   try go_wp2
   replace HO_9 := Ae_q (rD_q HO_9.out)
   replace HB := Ae_q (bD_q HB.out)
   have p273 : 0 ≤ (x10_1 : Int) := oD_q (by assumption)
   have q273 : x10_1 < (l0.length : Int) := oD_q (by assumption)
   obtain ⟨ad273, A273_3, c273_3, e273, hx273_0, hx273_1, hx273_2, hx273_3, hl273_3, hi273_3⟩ := at_T63 HR0.out x10_1 p273 q273
   have hw273_3 := hx273_3
   have hw273_2 := hx273_2
   have hw273_1 := hx273_1
   have hw273_0 := hx273_0
   cases e273
   replace hx273_0 := cel HB.out hx273_0
   replace hx273_1 := cel HB.out hx273_1
   replace hx273_2 := cel HB.out hx273_2
   replace hx273_3 := cel HB.out hx273_3
   have HR273_3 := Ae_q hi273_3
   have HC273_3 := Ae_q hl273_3
   clear hi273_3 hl273_3
   replace p273 := eq_true p273
   replace q273 := eq_true q273
   have p274 : 0 ≤ (x10_1 : Int) := oD_q (by assumption)
   have q274 : x10_1 < (l1.length : Int) := oD_q (by assumption)
   obtain ⟨ad274, e274, hx274_0⟩ := aI_q HR1.out x10_1 p274 q274
   have hw274_0 := hx274_0
   cases e274
   replace hx274_0 := cel HB.out hx274_0
   replace p274 := eq_true p274
   replace q274 := eq_true q274
   refine start_ (n := 10) (S := fun w' => w'.cell? (ad273.add ((x10_1).toNat * 4)) = some (.int .i64 ((rd_T63 l0 x10_1).f0)) ∧ w'.cell? ⟨(ad273.add ((x10_1).toNat * 4)).block, (ad273.add ((x10_1).toNat * 4)).off + 1, none⟩ = some (.int .i64 ((rd_T63 l0 x10_1).f1)) ∧ w'.cell? ⟨(ad273.add ((x10_1).toNat * 4)).block, (ad273.add ((x10_1).toNat * 4)).off + 2, none⟩ = some (.int .i64 ((rd_T63 l0 x10_1).f2)) ∧ w'.cell? ⟨(ad273.add ((x10_1).toNat * 4)).block, (ad273.add ((x10_1).toNat * 4)).off + 3, none⟩ = some (.slice A273_3 ((rd_T63 l0 x10_1).f3).length c273_3) ∧ w'.cell? (ad274.add (x10_1).toNat) = some (.int .i64 (rd l1 x10_1))) (ds := []) #[false, false, false, false, false, false, false, false, false, false] m7_q rfl rfl ⟨(cel HB.out hw273_0), (cel HB.out hw273_1), (cel HB.out hw273_2), (cel HB.out hw273_3), (cel HB.out hw274_0)⟩ (fun hHeld => ?_); refine with_tabW spec_l32Use.tab6 spec_l32Use.bits6 (fun HT_ HW_ => ?_)
   generalize wr.drew = w17 at HO_9 HB HR273_3 hx273_0 hx273_1 hx273_2 hx273_3 hx274_0 hHeld ⊢
   refine pJ HT_ 0 18 rfl rfl ?_
   refine pJ HT_ 1 19 rfl rfl ?_
   refine pJ HT_ 2 20 rfl rfl ?_
   refine pJ HT_ 4 22 rfl rfl ?_
   refine pJ HT_ 5 23 rfl rfl ?_
   refine pJ HT_ 6 24 rfl rfl ?_
   refine pJ HT_ 8 26 rfl rfl ?_
   refine take_ (i := 3) (N := some 21) (v := ?_) (a' := ?_) #[true, true, true, true, true, true, true, false, true, false] rfl rfl (take_ofW HT_.out HW_.out m7_q) (fun _ _ _ h => h) (Or.inl ⟨by rfl, ?_⟩) hHeld ?_ ?_
   rotate_left
   ·rintro w' ⟨s0, s1, s2, s3, s4⟩
    go_simp
    with_reducible rfl
   rotate_left
   ·simp only [pS_q]
    rfl
   refine take_ (i := 7) (N := some 25) (v := ?_) (a' := ?_) #[true, true, true, true, true, true, true, true, true, false] rfl rfl (take_ofW HT_.out HW_.out m7_q) (fun _ _ _ h => h) (Or.inl ⟨by rfl, ?_⟩) hHeld ?_ ?_
   rotate_left
   ·rintro w' ⟨s0, s1, s2, s3, s4⟩
    go_simp
    with_reducible rfl
   rotate_left
   ·simp only [pS_q]
    rfl
   refine one_ (i := 9) (N := some 27) #[true, true, true, true, true, true, true, true, true, true] rfl rfl (one_of HT_.out m7_q) (by decide) (fun K hK => ?_)
   refine goes_ Try.func73 m7_q rfl #[.agg #[.int .i64 ((rd_T63 l0 x10_1).f0), .int .i64 ((rd_T63 l0 x10_1).f1), .int .i64 ((rd_T63 l0 x10_1).f2), .slice A273_3 ((rd_T63 l0 x10_1).f3).length c273_3], .int .i64 (rd l1 x10_1), .int .i64 a2] (by rfl) rfl rfl m1_q ?_
   with_reducible refine (spec_l32On.calls ((rd_T63 l0 x10_1).f0) ((rd_T63 l0 x10_1).f1) ((rd_T63 l0 x10_1).f2) _ _ ((rd_T63 l0 x10_1).f3) (rd l1 x10_1) a2 true _ ?side1 ?side2 A10.out).mono ?_
   (case side1 => exact cup (cB_q HR273_3.out HB.out))
   (case side2 => exact HC273_3.out)
   rintro e w18 ⟨rfl, hb⟩
   refine ⟨_, rfl, ?_⟩
   replace HO_9 := Ae_q (rO_q (rup HO_9.out) hb)
   replace HB := Ae_q (bT_q (bel HB.out) hb)
   (try clear hb)
   (try clear hb2)
   (try clear hk)
   (try clear hi)
   refine hK.out _ _ ⟨(cel HB.out hw273_0), (cel HB.out hw273_1), (cel HB.out hw273_2), (cel HB.out hw273_3), (cel HB.out hw274_0)⟩ (fun hHeld => ?_)
   clear hK K
   refine nJ_q ?_
   refine done_ (done_of HT_.out m7_q) ?_
   have p276 : 0 ≤ (x10_1 : Int) := oD_q (by assumption)
   have q276 : x10_1 < (l0.length : Int) := oD_q (by assumption)
   obtain ⟨ad276, A276_3, c276_3, e276, hx276_0, hx276_1, hx276_2, hx276_3, hl276_3, hi276_3⟩ := at_T63 HR0.out x10_1 p276 q276
   obtain rfl : ad273 = ad276 := (by injection e276)
   replace hx276_0 := cel HB.out hx276_0
   replace hx276_1 := cel HB.out hx276_1
   replace hx276_2 := cel HB.out hx276_2
   replace hx276_3 := cel HB.out hx276_3
   have HR276_3 := Ae_q hi276_3
   have HC276_3 := Ae_q hl276_3
   clear hi276_3 hl276_3
   replace p276 := eq_true p276
   replace q276 := eq_true q276
   have p277 : 0 ≤ (x10_1 : Int) := oD_q (by assumption)
   have q277 : x10_1 < (l0.length : Int) := oD_q (by assumption)
   obtain ⟨ad277, A277_3, c277_3, e277, hx277_0, hx277_1, hx277_2, hx277_3, hl277_3, hi277_3⟩ := at_T63 HR0.out x10_1 p277 q277
   obtain rfl : ad273 = ad277 := (by injection e277)
   replace hx277_0 := cel HB.out hx277_0
   replace hx277_1 := cel HB.out hx277_1
   replace hx277_2 := cel HB.out hx277_2
   replace hx277_3 := cel HB.out hx277_3
   have HR277_3 := Ae_q hi277_3
   have HC277_3 := Ae_q hl277_3
   clear hi277_3 hl277_3
   replace p277 := eq_true p277
   replace q277 := eq_true q277
   have ea_ := oI_q (hx276_3.symm.trans hx277_3)
   injection ea_ with ea_ en_ ec_
   subst ea_
   subst ec_
   clear en_
   try go_wp2
   replace HO_9 := Ae_q (rD_q HO_9.out)
   replace HB := Ae_q (bD_q HB.out)
   have p278 : 0 ≤ (x10_1 : Int) := oD_q (by assumption)
   have q278 : x10_1 < (l0.length : Int) := oD_q (by assumption)
   obtain ⟨ad278, A278_3, c278_3, e278, hx278_0, hx278_1, hx278_2, hx278_3, hl278_3, hi278_3⟩ := at_T63 HR0.out x10_1 p278 q278
   have hw278_3 := hx278_3
   have hw278_2 := hx278_2
   have hw278_1 := hx278_1
   have hw278_0 := hx278_0
   obtain rfl : ad273 = ad278 := (by injection e278)
   replace hx278_0 := cel HB.out hx278_0
   replace hx278_1 := cel HB.out hx278_1
   replace hx278_2 := cel HB.out hx278_2
   replace hx278_3 := cel HB.out hx278_3
   have HR278_3 := Ae_q hi278_3
   have HC278_3 := Ae_q hl278_3
   clear hi278_3 hl278_3
   replace p278 := eq_true p278
   replace q278 := eq_true q278
   have p279 : 0 ≤ (x10_1 : Int) := oD_q (by assumption)
   have q279 : x10_1 < (l0.length : Int) := oD_q (by assumption)
   obtain ⟨ad279, A279_3, c279_3, e279, hx279_0, hx279_1, hx279_2, hx279_3, hl279_3, hi279_3⟩ := at_T63 HR0.out x10_1 p279 q279
   have hw279_3 := hx279_3
   have hw279_2 := hx279_2
   have hw279_1 := hx279_1
   have hw279_0 := hx279_0
   obtain rfl : ad273 = ad279 := (by injection e279)
   replace hx279_0 := cel HB.out hx279_0
   replace hx279_1 := cel HB.out hx279_1
   replace hx279_2 := cel HB.out hx279_2
   replace hx279_3 := cel HB.out hx279_3
   have HR279_3 := Ae_q hi279_3
   have HC279_3 := Ae_q hl279_3
   clear hi279_3 hl279_3
   replace p279 := eq_true p279
   replace q279 := eq_true q279
   have ea_ := oI_q (hx278_3.symm.trans hx279_3)
   injection ea_ with ea_ en_ ec_
   subst ea_
   subst ec_
   clear en_
   obtain ⟨Ao20, co20, eo20⟩ := rS_q HO_9.out
   (first | subst eo20 | (injection eo20 with f1_ f2_ f3_; have f4_ := f1_.symm; have f5_ := f3_.symm; clear f1_ f2_ f3_; subst f4_; subst f5_))
   have p280 : 0 ≤ ((ji13) : Int) := oD_q (by assumption)
   have q280 : (ji13) < (x9_1.length : Int) := oD_q (by assumption)
   obtain ⟨ad280, e280, hx280_0⟩ := aI_q (rR_q HO_9.out).2.2 (ji13) p280 q280
   cases e280
   replace p280 := eq_true p280
   replace q280 := eq_true q280
   have p16 : 0 ≤ ((ji13) : Int) := oD_q (by assumption)
   have q16 : ((ji13) : Int) < ((x9_1.length : Int) : Int) := oD_q (by assumption)
   obtain ⟨go16, co16, eo16, gb16, gl16, cl16, HG16⟩ := Kd.R_form HO_9.out (by omega)
   (first | cases eo16 | (injection eo16 with ea_ en_ ec_; (first | subst ea_ | (injection ea_ with ea_; subst ea_)); subst ec_; clear en_))
   have GB16 := Ae_q gb16
   have GG16 := Ae_q HG16
   clear gb16 gl16 HG16
   (first | simp only [add_plain] at hx280_0 | skip)
   obtain ⟨hx16_0, hf16_0⟩ := Kd.R_celln 0 HO_9.out ((ji13) : Int) p16 q16
   replace p16 := eq_true p16
   replace q16 := eq_true q16
   have HP21 := Kd.R_putn HO_9.out ((ji13) : Int) (wrap64 ((rd x9_1 (ji13)) + 1))
   rw [← Ny281.out] at HP21
   have HQ21 := Ae_q HP21
   clear HP21
   refine start_ (n := 19) (S := fun w' => w'.cell? (ad273.add ((x10_1).toNat * 4)) = some (.int .i64 ((rd_T63 l0 x10_1).f0)) ∧ w'.cell? ⟨(ad273.add ((x10_1).toNat * 4)).block, (ad273.add ((x10_1).toNat * 4)).off + 1, none⟩ = some (.int .i64 ((rd_T63 l0 x10_1).f1)) ∧ w'.cell? ⟨(ad273.add ((x10_1).toNat * 4)).block, (ad273.add ((x10_1).toNat * 4)).off + 2, none⟩ = some (.int .i64 ((rd_T63 l0 x10_1).f2)) ∧ w'.cell? ⟨(ad273.add ((x10_1).toNat * 4)).block, (ad273.add ((x10_1).toNat * 4)).off + 3, none⟩ = some (.slice A278_3 ((rd_T63 l0 x10_1).f3).length c278_3) ∧ w'.cell? (ad273.add ((x10_1).toNat * 4)) = some (.int .i64 ((rd_T63 l0 x10_1).f0)) ∧ w'.cell? ⟨(ad273.add ((x10_1).toNat * 4)).block, (ad273.add ((x10_1).toNat * 4)).off + 1, none⟩ = some (.int .i64 ((rd_T63 l0 x10_1).f1)) ∧ w'.cell? ⟨(ad273.add ((x10_1).toNat * 4)).block, (ad273.add ((x10_1).toNat * 4)).off + 2, none⟩ = some (.int .i64 ((rd_T63 l0 x10_1).f2)) ∧ w'.cell? ⟨(ad273.add ((x10_1).toNat * 4)).block, (ad273.add ((x10_1).toNat * 4)).off + 3, none⟩ = some (.slice A278_3 ((rd_T63 l0 x10_1).f3).length c278_3) ∧ w'.cell? ⟨go16, ((ji13)).toNat, none⟩ = some (.int .i64 (rd x9_1 (ji13)))) (ds := [18]) #[false, false, false, false, false, false, false, false, false, false, false, false, false, false, false, false, false, false, false] m7_q rfl rfl ⟨(cel HB.out hw278_0), (cel HB.out hw278_1), (cel HB.out hw278_2), (cel HB.out hw278_3), (cel HB.out hw279_0), (cel HB.out hw279_1), (cel HB.out hw279_2), (cel HB.out hw279_3), hx280_0⟩ (fun hHeld => ?_); refine with_tabW spec_l32Use.tab9 spec_l32Use.bits9 (fun HT_ HW_ => ?_)
   generalize w18.drew = w19 at HO_9 HB GG16 HQ21 HR278_3 HR279_3 hf16_0 hx16_0 hx278_0 hx278_1 hx278_2 hx278_3 hx279_0 hx279_1 hx279_2 hx279_3 hx280_0 hHeld ⊢
   refine pJ HT_ 0 41 rfl rfl ?_
   refine pJ HT_ 1 42 rfl rfl ?_
   refine pJ HT_ 2 43 rfl rfl ?_
   refine pJ HT_ 3 44 rfl rfl ?_
   refine pJ HT_ 4 45 rfl rfl ?_
   refine pJ HT_ 7 48 rfl rfl ?_
   refine pJ HT_ 8 49 rfl rfl ?_
   refine pJ HT_ 9 50 rfl rfl ?_
   refine pJ HT_ 10 51 rfl rfl ?_
   refine pJ HT_ 11 52 rfl rfl ?_
   refine take_ (i := 5) (N := some 46) (v := ?_) (a' := ?_) #[true, true, true, true, true, true, false, true, true, true, true, true, false, false, false, false, false, false, false] rfl rfl (take_ofW HT_.out HW_.out m7_q) (fun _ _ _ h => h) (Or.inl ⟨by rfl, ?_⟩) hHeld ?_ ?_
   rotate_left
   ·rintro w' ⟨s0, s1, s2, s3, s4, s5, s6, s7, s8⟩
    go_simp
    with_reducible rfl
   rotate_left
   ·simp only [pS_q]
    rfl
   refine pJ HT_ 6 47 rfl rfl ?_
   refine take_ (i := 12) (N := some 53) (v := ?_) (a' := ?_) #[true, true, true, true, true, true, true, true, true, true, true, true, true, false, false, false, false, false, false] rfl rfl (take_ofW HT_.out HW_.out m7_q) (fun _ _ _ h => h) (Or.inl ⟨by rfl, ?_⟩) hHeld ?_ ?_
   rotate_left
   ·rintro w' ⟨s0, s1, s2, s3, s4, s5, s6, s7, s8⟩
    go_simp
    with_reducible rfl
   rotate_left
   ·simp only [pS_q]
    rfl
   refine pJ HT_ 13 54 rfl rfl ?_
   refine pJ HT_ 14 55 rfl rfl ?_
   refine take_ (i := 15) (N := some 56) (v := ?_) (a' := ?_) #[true, true, true, true, true, true, true, true, true, true, true, true, true, true, true, true, false, false, false] rfl rfl (take_ofW HT_.out HW_.out m7_q) (fun _ _ _ h => h) (Or.inl ⟨by rfl, ?_⟩) hHeld ?_ ?_
   rotate_left
   ·rintro w' ⟨s0, s1, s2, s3, s4, s5, s6, s7, s8⟩
    go_simp
    with_reducible rfl
   rotate_left
   ·simp only [pS_q]
    rfl
   refine pJ HT_ 16 57 rfl rfl ?_
   refine pJ HT_ 17 58 rfl rfl ?_
   refine last_ (i := 18) (N := none) #[true, true, true, true, true, true, true, true, true, true, true, true, true, true, true, true, true, true, true] rfl rfl (one_of HT_.out m7_q) (by decide) (fun K hK => ?_)
   refine skip_ (w1 := ?_) (by rfl) rfl ?_ ?_
   rotate_left
   ·go_simp
    rfl
   refine hK.out _ _ ?_
   clear hK K
   refine done_ (done_of HT_.out m7_q) ?_
   try go_wp2
   go_roundg k1
   case measure => have := HK1.out; omega
   case rel => exact ⟨(wrap64 (x8_1 + ((rd_T63 l0 x10_1).f1))), (y281), (wrap64 (x10_1 + 1)), m5_q, m5_q, H', ⟨m74_q⟩, ⟨by (with_reducible repeat (first | apply rA_q | apply rN_q | apply rD_q)); exact HQ21.out⟩, ⟨by repeat (with_reducible first | exact HB.out | apply bA_q | apply pB_q | apply bD_q | refine bS_q ?_ GB16.out)⟩⟩

end Go.Proofs.Ytfnpiacmlahegaa.PRp
