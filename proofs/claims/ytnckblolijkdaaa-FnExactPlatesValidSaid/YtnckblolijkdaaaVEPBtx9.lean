import Derived.Test.YtnckblolijkdaaaVEPBtx0
import Derived.Test.YtnckblolijkdaaaVEPBtx8
namespace Go.Proofs.Ytnckblolijkdaaa.PBt
open Go.RowKit Go.Proofs.YtnckblolijkdaaaW.PrintWords Go.Proofs.YtnckblolijkdaaaW.PrintLast Go.Proofs.YtnckblolijkdaaaW.PrintMore
attribute [local go_sem] max2_int min2_int max_two min_two max_three min_three max_four min_four
set_option linter.unusedVariables false
set_option linter.unusedSimpArgs false

def laws_eqBatchS.l0 : Nat → List (S39) → List (S39) → Int → Option (Bool)
 | 0, _, _, _ => none
 | k + 1, x0, x1, x5 => if x5 < (x0.length : Int) then (if 0 ≤ x5 then (if x5 < (x1.length : Int) then ((laws_eqBatch.f k ((rd_T39 x0 x5).f0) ((rd_T39 x0 x5).f1) ((rd_T39 x0 x5).f2) ((rd_T39 x0 x5).f3) ((rd_T39 x1 x5).f0) ((rd_T39 x1 x5).f1) ((rd_T39 x1 x5).f2) ((rd_T39 x1 x5).f3)).bind fun t216 => (if t216 = true then (laws_eqBatchS.l0 k x0 x1 (wrap64 (x5 + 1))) else (some false))) else (none)) else (none)) else (some true)
def laws_eqBatchS.f (k : Nat) (l0 : List (S39)) (l1 : List (S39)) : Option (Bool) := if (l0.length : Int) = (l1.length : Int) then (laws_eqBatchS.l0 k l0 l1 0) else (some false)
def laws_eqBatchS.T6 : Bool × List (List Nat × List Nat) := (true, [([], []), ([], []), ([0, 1], [0, 1]), ([2], [2]), ([], []), ([], []), ([4, 5], [4, 5]), ([6], [6]), ([3, 7], [3, 7]), ([8], [8])])
def laws_eqBatchS.B6 : List Nat := [0, 0, 3, 7, 0, 0, 48, 112, 255, 511]
theorem laws_eqBatchS.tab6 : rtab .any (opsOf Try.f19 6) = laws_eqBatchS.T6 := by kernel_rfl
theorem laws_eqBatchS.bits6 : waitsOk laws_eqBatchS.T6.2 laws_eqBatchS.B6 = true := by kernel_rfl
set_option maxHeartbeats 8000000 in
set_option maxRecDepth 100000 in
theorem laws_eqBatchS.calls (k : Nat) (A0 : Option Addr) (c0 : Nat) (l0 : List (S39)) (A1 : Option Addr) (c1 : Nat) (l1 : List (S39)) (r : Bool) (w : World) (hr0 : Kd.C k39 w A0 l0.length l0) (hc0 : l0.length ≤ c0) (hr1 : Kd.C k39 w A1 l1.length l1) (hc1 : l1.length ≤ c1) (h : laws_eqBatchS.f k l0 l1 = some r) :
    Calls Try.prog 19 #[.slice A0 l0.length c0, .slice A1 l1.length c1] w fun e w' => e = .returned (.bool r) ∧ Below w.heap.size w w' := by
 have hu39 := Try.underlying39
 have HR0 := Ae_q hr0
 have HC0 := Ae_q hc0
 clear hr0 hc0
 have HR1 := Ae_q hr1
 have HC1 := Ae_q hc1
 clear hr1 hc1
 have HB := Ae_q (bR_q w.heap.size w)
 have H : (if (l0.length : Int) = (l1.length : Int) then (laws_eqBatchS.l0 k l0 l1 0) else (some false)) = some r := h
 clear h
 by_cases c3 : (l0.length : Int) = (l1.length : Int)
 rotate_left
 ·rw [if_neg c3] at H
  have c3b0 : ((l0.length : Int) == (l1.length : Int)) = false := fN_q.mpr c3
  have c3b1 : ((l0.length : Int) != (l1.length : Int)) = true := nI_q.mpr c3
  have c3b2 : (l0.length == l1.length) = false := by first | simpa using c3 | (simp at c3 ⊢; omega)
  obtain rfl := oI_q H
  go_enter Try.func19, Try.ntmps19
  go_wp2
  go_ret
  exact ⟨m2_q, bel HB.out⟩
 rw [if_pos c3] at H
 have c3b0 : ((l0.length : Int) == (l1.length : Int)) = true := beq_iff_eq.mpr c3
 have c3b1 : ((l0.length : Int) != (l1.length : Int)) = false := nE_q.mpr c3
 have c3b2 : (l0.length == l1.length) = true := by first | simpa using c3 | (simp at c3 ⊢; omega)
 clear c3
 have H' := Ae_q H
 clear H
 go_enter Try.func19, Try.ntmps19
 go_wp2
 go_loopg [5] k (fun kq v5 w' => ∃ (x5_1 : Int), v5 = .int .i64 x5_1 ∧ Aside0 (laws_eqBatchS.l0 kq l0 l1 x5_1 = some r) ∧ Aside0 (kq ≤ k) ∧ Aside0 (Below w.heap.size w w'))
 case atStart => exact ⟨(0), m4_q, H', ⟨nR_q _⟩, ⟨bel HB.out⟩⟩
 case round =>
  clear H'
  try clear c1
  try clear p2
  try clear c3
  try clear c3b0
  try clear c3b1
  try clear c3b2
  obtain ⟨x5_1, rfl, HA, HK1, HB⟩ := hrel
  cases gk with
  | zero => exact absurd HA.out (by simp [laws_eqBatchS.l0])
  | succ k1 =>
   have H := HA.out
   clear HA
   simp only [laws_eqBatchS.l0] at H
   by_cases c4 : x5_1 < (l0.length : Int)
   rotate_left
   ·rw [if_neg c4] at H
    have c4b0 : decide (x5_1 < (l0.length : Int)) = false := dF_q c4
    clear c4
    obtain rfl := oI_q H
    go_wp2
    go_ret
    exact ⟨m2_q, bel HB.out⟩
   rw [if_pos c4] at H
   have c4b0 : decide (x5_1 < (l0.length : Int)) = true := dT_q c4
   clear c4
   by_cases c5 : 0 ≤ x5_1
   rotate_left
   ·rw [if_neg c5] at H
    exact absurd H (by simp)
   rw [if_pos c5] at H
   have c5b0 : decide (0 ≤ x5_1) = true := dT_q c5
   clear c5
   by_cases c6 : x5_1 < (l1.length : Int)
   rotate_left
   ·rw [if_neg c6] at H
    exact absurd H (by simp)
   rw [if_pos c6] at H
   have c6b0 : decide (x5_1 < (l1.length : Int)) = true := dT_q c6
   clear c6
   replace H := oB_q.mp H
   obtain ⟨t216, A70, H⟩ := H
   replace H : (if t216 = true then (laws_eqBatchS.l0 k1 l0 l1 (wrap64 (x5_1 + 1))) else (some false)) = some r := H
   have A7 := Ae_q A70
   clear A70
   by_cases c8 : t216 = true
   ·subst c8
    have H1 : (laws_eqBatchS.l0 k1 l0 l1 (wrap64 (x5_1 + 1))) = some r := by rw [if_pos rfl] at H; exact H
    clear H
    have H := H1
    clear H1
    have H' := Ae_q H
    clear H
    try go_wp2
    replace HB := Ae_q (bD_q HB.out)
    have p214 : 0 ≤ (x5_1 : Int) := oD_q (by assumption)
    have q214 : x5_1 < (l0.length : Int) := oD_q (by assumption)
    obtain ⟨ad214, A214_1, c214_1, e214, hx214_0, hx214_1, hx214_2, hx214_3, hl214_1, hi214_1⟩ := at_T39 HR0.out x5_1 p214 q214
    have hw214_3 := hx214_3
    have hw214_2 := hx214_2
    have hw214_1 := hx214_1
    have hw214_0 := hx214_0
    cases e214
    replace hx214_0 := cel HB.out hx214_0
    replace hx214_1 := cel HB.out hx214_1
    replace hx214_2 := cel HB.out hx214_2
    replace hx214_3 := cel HB.out hx214_3
    have HR214_1 := Ae_q hi214_1
    have HC214_1 := Ae_q hl214_1
    clear hi214_1 hl214_1
    replace p214 := eq_true p214
    replace q214 := eq_true q214
    have p215 : 0 ≤ (x5_1 : Int) := oD_q (by assumption)
    have q215 : x5_1 < (l1.length : Int) := oD_q (by assumption)
    obtain ⟨ad215, A215_1, c215_1, e215, hx215_0, hx215_1, hx215_2, hx215_3, hl215_1, hi215_1⟩ := at_T39 HR1.out x5_1 p215 q215
    have hw215_3 := hx215_3
    have hw215_2 := hx215_2
    have hw215_1 := hx215_1
    have hw215_0 := hx215_0
    cases e215
    replace hx215_0 := cel HB.out hx215_0
    replace hx215_1 := cel HB.out hx215_1
    replace hx215_2 := cel HB.out hx215_2
    replace hx215_3 := cel HB.out hx215_3
    have HR215_1 := Ae_q hi215_1
    have HC215_1 := Ae_q hl215_1
    clear hi215_1 hl215_1
    replace p215 := eq_true p215
    replace q215 := eq_true q215
    refine start_ (n := 10) (S := fun w' => w'.cell? (ad214.add ((x5_1).toNat * 4)) = some (.int .i64 ((rd_T39 l0 x5_1).f0)) ∧ w'.cell? ⟨(ad214.add ((x5_1).toNat * 4)).block, (ad214.add ((x5_1).toNat * 4)).off + 1, none⟩ = some (.slice A214_1 ((rd_T39 l0 x5_1).f1).length c214_1) ∧ w'.cell? ⟨(ad214.add ((x5_1).toNat * 4)).block, (ad214.add ((x5_1).toNat * 4)).off + 2, none⟩ = some (.int .i64 ((rd_T39 l0 x5_1).f2)) ∧ w'.cell? ⟨(ad214.add ((x5_1).toNat * 4)).block, (ad214.add ((x5_1).toNat * 4)).off + 3, none⟩ = some (.int .i64 ((rd_T39 l0 x5_1).f3)) ∧ w'.cell? (ad215.add ((x5_1).toNat * 4)) = some (.int .i64 ((rd_T39 l1 x5_1).f0)) ∧ w'.cell? ⟨(ad215.add ((x5_1).toNat * 4)).block, (ad215.add ((x5_1).toNat * 4)).off + 1, none⟩ = some (.slice A215_1 ((rd_T39 l1 x5_1).f1).length c215_1) ∧ w'.cell? ⟨(ad215.add ((x5_1).toNat * 4)).block, (ad215.add ((x5_1).toNat * 4)).off + 2, none⟩ = some (.int .i64 ((rd_T39 l1 x5_1).f2)) ∧ w'.cell? ⟨(ad215.add ((x5_1).toNat * 4)).block, (ad215.add ((x5_1).toNat * 4)).off + 3, none⟩ = some (.int .i64 ((rd_T39 l1 x5_1).f3))) (ds := []) #[false, false, false, false, false, false, false, false, false, false] m6_q rfl rfl ⟨(cel HB.out hw214_0), (cel HB.out hw214_1), (cel HB.out hw214_2), (cel HB.out hw214_3), (cel HB.out hw215_0), (cel HB.out hw215_1), (cel HB.out hw215_2), (cel HB.out hw215_3)⟩ (fun hHeld => ?_); refine with_tabW laws_eqBatchS.tab6 laws_eqBatchS.bits6 (fun HT_ HW_ => ?_)
    generalize wr.drew = w9 at HB HR214_1 HR215_1 hx214_0 hx214_1 hx214_2 hx214_3 hx215_0 hx215_1 hx215_2 hx215_3 hHeld ⊢
    refine pJ HT_ 0 17 rfl rfl ?_
    refine pJ HT_ 1 18 rfl rfl ?_
    refine pJ HT_ 2 19 rfl rfl ?_
    refine pJ HT_ 4 21 rfl rfl ?_
    refine pJ HT_ 5 22 rfl rfl ?_
    refine pJ HT_ 6 23 rfl rfl ?_
    refine take_ (i := 3) (N := some 20) (v := ?_) (a' := ?_) #[true, true, true, true, true, true, true, false, false, false] rfl rfl (take_ofW HT_.out HW_.out m6_q) (fun _ _ _ h => h) (Or.inl ⟨by rfl, ?_⟩) hHeld ?_ ?_
    rotate_left
    ·rintro w' ⟨s0, s1, s2, s3, s4, s5, s6, s7⟩
     go_simp
     with_reducible rfl
    rotate_left
    ·simp only [pS_q]
     rfl
    refine take_ (i := 7) (N := some 24) (v := ?_) (a' := ?_) #[true, true, true, true, true, true, true, true, false, false] rfl rfl (take_ofW HT_.out HW_.out m6_q) (fun _ _ _ h => h) (Or.inl ⟨by rfl, ?_⟩) hHeld ?_ ?_
    rotate_left
    ·rintro w' ⟨s0, s1, s2, s3, s4, s5, s6, s7⟩
     go_simp
     with_reducible rfl
    rotate_left
    ·simp only [pS_q]
     rfl
    refine one_ (i := 8) (N := some 25) #[true, true, true, true, true, true, true, true, true, false] rfl rfl (one_of HT_.out m6_q) (by decide) (fun K hK => ?_)
    refine goes_ Try.func51 m6_q rfl #[.agg #[.int .i64 ((rd_T39 l0 x5_1).f0), .slice A214_1 ((rd_T39 l0 x5_1).f1).length c214_1, .int .i64 ((rd_T39 l0 x5_1).f2), .int .i64 ((rd_T39 l0 x5_1).f3)], .agg #[.int .i64 ((rd_T39 l1 x5_1).f0), .slice A215_1 ((rd_T39 l1 x5_1).f1).length c215_1, .int .i64 ((rd_T39 l1 x5_1).f2), .int .i64 ((rd_T39 l1 x5_1).f3)]] (by rfl) rfl rfl m0_q ?_
    with_reducible refine (laws_eqBatch.calls k1 ((rd_T39 l0 x5_1).f0) _ _ ((rd_T39 l0 x5_1).f1) ((rd_T39 l0 x5_1).f2) ((rd_T39 l0 x5_1).f3) ((rd_T39 l1 x5_1).f0) _ _ ((rd_T39 l1 x5_1).f1) ((rd_T39 l1 x5_1).f2) ((rd_T39 l1 x5_1).f3) true _ ?side1 ?side2 ?side3 ?side4 A7.out).mono ?_
    (case side1 => exact cup (cB_q HR214_1.out HB.out))
    (case side2 => exact HC214_1.out)
    (case side3 => exact cup (cB_q HR215_1.out HB.out))
    (case side4 => exact HC215_1.out)
    rintro e w' ⟨rfl, hb⟩
    refine ⟨_, rfl, ?_⟩
    replace HB := Ae_q (bT_q (bel HB.out) hb)
    (try clear hb)
    (try clear hb2)
    (try clear hk)
    (try clear hi)
    refine hK.out _ _ ⟨(cel (bel HB.out) hw214_0), (cel (bel HB.out) hw214_1), (cel (bel HB.out) hw214_2), (cel (bel HB.out) hw214_3), (cel (bel HB.out) hw215_0), (cel (bel HB.out) hw215_1), (cel (bel HB.out) hw215_2), (cel (bel HB.out) hw215_3)⟩ (fun hHeld => ?_)
    clear hK K
    refine nJ_q ?_
    refine pJ HT_ 9 26 rfl rfl ?_
    refine done_ (done_of HT_.out m6_q) ?_
    try go_wp2
    go_roundg k1
    case measure => have := HK1.out; omega
    case rel => exact ⟨(wrap64 (x5_1 + 1)), m4_q, H', ⟨m26_q⟩, ⟨bel HB.out⟩⟩
   replace c8 := fM_q.mpr c8
   subst c8
   have H1 : (some false) = some r := by rw [if_neg (show ¬ (false = true) by decide)] at H; exact H
   clear H
   have H := H1
   clear H1
   obtain rfl := oI_q H
   try go_wp2
   replace HB := Ae_q (bD_q HB.out)
   have p214 : 0 ≤ (x5_1 : Int) := oD_q (by assumption)
   have q214 : x5_1 < (l0.length : Int) := oD_q (by assumption)
   obtain ⟨ad214, A214_1, c214_1, e214, hx214_0, hx214_1, hx214_2, hx214_3, hl214_1, hi214_1⟩ := at_T39 HR0.out x5_1 p214 q214
   have hw214_3 := hx214_3
   have hw214_2 := hx214_2
   have hw214_1 := hx214_1
   have hw214_0 := hx214_0
   cases e214
   replace hx214_0 := cel HB.out hx214_0
   replace hx214_1 := cel HB.out hx214_1
   replace hx214_2 := cel HB.out hx214_2
   replace hx214_3 := cel HB.out hx214_3
   have HR214_1 := Ae_q hi214_1
   have HC214_1 := Ae_q hl214_1
   clear hi214_1 hl214_1
   replace p214 := eq_true p214
   replace q214 := eq_true q214
   have p215 : 0 ≤ (x5_1 : Int) := oD_q (by assumption)
   have q215 : x5_1 < (l1.length : Int) := oD_q (by assumption)
   obtain ⟨ad215, A215_1, c215_1, e215, hx215_0, hx215_1, hx215_2, hx215_3, hl215_1, hi215_1⟩ := at_T39 HR1.out x5_1 p215 q215
   have hw215_3 := hx215_3
   have hw215_2 := hx215_2
   have hw215_1 := hx215_1
   have hw215_0 := hx215_0
   cases e215
   replace hx215_0 := cel HB.out hx215_0
   replace hx215_1 := cel HB.out hx215_1
   replace hx215_2 := cel HB.out hx215_2
   replace hx215_3 := cel HB.out hx215_3
   have HR215_1 := Ae_q hi215_1
   have HC215_1 := Ae_q hl215_1
   clear hi215_1 hl215_1
   replace p215 := eq_true p215
   replace q215 := eq_true q215
   refine start_ (n := 10) (S := fun w' => w'.cell? (ad214.add ((x5_1).toNat * 4)) = some (.int .i64 ((rd_T39 l0 x5_1).f0)) ∧ w'.cell? ⟨(ad214.add ((x5_1).toNat * 4)).block, (ad214.add ((x5_1).toNat * 4)).off + 1, none⟩ = some (.slice A214_1 ((rd_T39 l0 x5_1).f1).length c214_1) ∧ w'.cell? ⟨(ad214.add ((x5_1).toNat * 4)).block, (ad214.add ((x5_1).toNat * 4)).off + 2, none⟩ = some (.int .i64 ((rd_T39 l0 x5_1).f2)) ∧ w'.cell? ⟨(ad214.add ((x5_1).toNat * 4)).block, (ad214.add ((x5_1).toNat * 4)).off + 3, none⟩ = some (.int .i64 ((rd_T39 l0 x5_1).f3)) ∧ w'.cell? (ad215.add ((x5_1).toNat * 4)) = some (.int .i64 ((rd_T39 l1 x5_1).f0)) ∧ w'.cell? ⟨(ad215.add ((x5_1).toNat * 4)).block, (ad215.add ((x5_1).toNat * 4)).off + 1, none⟩ = some (.slice A215_1 ((rd_T39 l1 x5_1).f1).length c215_1) ∧ w'.cell? ⟨(ad215.add ((x5_1).toNat * 4)).block, (ad215.add ((x5_1).toNat * 4)).off + 2, none⟩ = some (.int .i64 ((rd_T39 l1 x5_1).f2)) ∧ w'.cell? ⟨(ad215.add ((x5_1).toNat * 4)).block, (ad215.add ((x5_1).toNat * 4)).off + 3, none⟩ = some (.int .i64 ((rd_T39 l1 x5_1).f3))) (ds := []) #[false, false, false, false, false, false, false, false, false, false] m6_q rfl rfl ⟨(cel HB.out hw214_0), (cel HB.out hw214_1), (cel HB.out hw214_2), (cel HB.out hw214_3), (cel HB.out hw215_0), (cel HB.out hw215_1), (cel HB.out hw215_2), (cel HB.out hw215_3)⟩ (fun hHeld => ?_); refine with_tabW laws_eqBatchS.tab6 laws_eqBatchS.bits6 (fun HT_ HW_ => ?_)
   generalize wr.drew = w11 at HB HR214_1 HR215_1 hx214_0 hx214_1 hx214_2 hx214_3 hx215_0 hx215_1 hx215_2 hx215_3 hHeld ⊢
   refine pJ HT_ 0 17 rfl rfl ?_
   refine pJ HT_ 1 18 rfl rfl ?_
   refine pJ HT_ 2 19 rfl rfl ?_
   refine pJ HT_ 4 21 rfl rfl ?_
   refine pJ HT_ 5 22 rfl rfl ?_
   refine pJ HT_ 6 23 rfl rfl ?_
   refine take_ (i := 3) (N := some 20) (v := ?_) (a' := ?_) #[true, true, true, true, true, true, true, false, false, false] rfl rfl (take_ofW HT_.out HW_.out m6_q) (fun _ _ _ h => h) (Or.inl ⟨by rfl, ?_⟩) hHeld ?_ ?_
   rotate_left
   ·rintro w' ⟨s0, s1, s2, s3, s4, s5, s6, s7⟩
    go_simp
    with_reducible rfl
   rotate_left
   ·simp only [pS_q]
    rfl
   refine take_ (i := 7) (N := some 24) (v := ?_) (a' := ?_) #[true, true, true, true, true, true, true, true, false, false] rfl rfl (take_ofW HT_.out HW_.out m6_q) (fun _ _ _ h => h) (Or.inl ⟨by rfl, ?_⟩) hHeld ?_ ?_
   rotate_left
   ·rintro w' ⟨s0, s1, s2, s3, s4, s5, s6, s7⟩
    go_simp
    with_reducible rfl
   rotate_left
   ·simp only [pS_q]
    rfl
   refine one_ (i := 8) (N := some 25) #[true, true, true, true, true, true, true, true, true, false] rfl rfl (one_of HT_.out m6_q) (by decide) (fun K hK => ?_)
   refine goes_ Try.func51 m6_q rfl #[.agg #[.int .i64 ((rd_T39 l0 x5_1).f0), .slice A214_1 ((rd_T39 l0 x5_1).f1).length c214_1, .int .i64 ((rd_T39 l0 x5_1).f2), .int .i64 ((rd_T39 l0 x5_1).f3)], .agg #[.int .i64 ((rd_T39 l1 x5_1).f0), .slice A215_1 ((rd_T39 l1 x5_1).f1).length c215_1, .int .i64 ((rd_T39 l1 x5_1).f2), .int .i64 ((rd_T39 l1 x5_1).f3)]] (by rfl) rfl rfl m0_q ?_
   with_reducible refine (laws_eqBatch.calls k1 ((rd_T39 l0 x5_1).f0) _ _ ((rd_T39 l0 x5_1).f1) ((rd_T39 l0 x5_1).f2) ((rd_T39 l0 x5_1).f3) ((rd_T39 l1 x5_1).f0) _ _ ((rd_T39 l1 x5_1).f1) ((rd_T39 l1 x5_1).f2) ((rd_T39 l1 x5_1).f3) false _ ?side1 ?side2 ?side3 ?side4 A7.out).mono ?_
   (case side1 => exact cup (cB_q HR214_1.out HB.out))
   (case side2 => exact HC214_1.out)
   (case side3 => exact cup (cB_q HR215_1.out HB.out))
   (case side4 => exact HC215_1.out)
   rintro e w' ⟨rfl, hb⟩
   refine ⟨_, rfl, ?_⟩
   replace HB := Ae_q (bT_q (bel HB.out) hb)
   (try clear hb)
   (try clear hb2)
   (try clear hk)
   (try clear hi)
   refine hK.out _ _ ⟨(cel (bel HB.out) hw214_0), (cel (bel HB.out) hw214_1), (cel (bel HB.out) hw214_2), (cel (bel HB.out) hw214_3), (cel (bel HB.out) hw215_0), (cel (bel HB.out) hw215_1), (cel (bel HB.out) hw215_2), (cel (bel HB.out) hw215_3)⟩ (fun hHeld => ?_)
   clear hK K
   refine nJ_q ?_
   refine pJ HT_ 9 26 rfl rfl ?_
   refine done_ (done_of HT_.out m6_q) ?_
   try go_wp2
   go_ret
   exact ⟨m2_q, bel HB.out⟩

end Go.Proofs.Ytnckblolijkdaaa.PBt
