import Derived.Test.YtnckblolijkdaaaVJPBtx0
import Derived.Test.YtnckblolijkdaaaVJPBtx4
namespace Go.Proofs.Ytnckblolijkdaaa.PBt
open Go.RowKit Go.Proofs.YtnckblolijkdaaaW.PrintWords Go.Proofs.YtnckblolijkdaaaW.PrintLast Go.Proofs.YtnckblolijkdaaaW.PrintMore
attribute [local go_sem] max2_int min2_int max_two min_two max_three min_three max_four min_four
set_option linter.unusedVariables false
set_option linter.unusedSimpArgs false

def impl_BatchesValid.l0 : Nat → List (S39) → List (S39) → Int → Int → Option (Bool)
 | 0, _, _, _, _ => none
 | k + 1, x0, x5, x6, x7 => if x7 < x6 then (if 0 ≤ x7 then (if x7 < (x5.length : Int) then ((impl_isId.f ((rd_T39 x5 x7).f0)).bind fun t144 => (if t144 = true then ((impl_idsAscend.f k ((rd_T39 x5 x7).f1)).bind fun t145 => (if t145 = true then ((impl_isMinute.f ((rd_T39 x5 x7).f2)).bind fun t146 => (if t146 = true then ((impl_within.f ((rd_T39 x5 x7).f3) ((rd_T39 x5 x7).f2) 1439).bind fun t147 => (if t147 = true then (if x7 > 0 then (if 0 ≤ (wrap64 (x7 - 1)) then (if (wrap64 (x7 - 1)) < (x0.length : Int) then (if ((rd_T39 x0 (wrap64 (x7 - 1))).f0) ≥ ((rd_T39 x5 x7).f0) then (some false) else (impl_BatchesValid.l0 k x0 x5 x6 (wrap64 (x7 + 1)))) else (none)) else (none)) else (impl_BatchesValid.l0 k x0 x5 x6 (wrap64 (x7 + 1)))) else (some false))) else (some false))) else (some false))) else (some false))) else (none)) else (none)) else (some (decide ((x0.length : Int) ≤ 6)))
def impl_BatchesValid.f (k : Nat) (l0 : List (S39)) : Option (Bool) := impl_BatchesValid.l0 k l0 l0 (l0.length : Int) 0
def impl_BatchesValid.T4 : Bool × List (List Nat × List Nat) := (true, [([], []), ([0], [0]), ([1], [1]), ([2], [2]), ([3, 2], [3]), ([4], [4]), ([5, 4], [4, 5]), ([6, 4, 4], [4, 6]), ([7, 4], [4, 7]), ([4, 8], [4, 8]), ([9, 7], [9]), ([10], [10]), ([11, 10], [10, 11]), ([12, 10, 10], [10, 12]), ([13, 10], [10, 13]), ([10, 14], [10, 14]), ([15, 13], [15]), ([16], [16]), ([17, 16], [16, 17]), ([16], [16]), ([19, 16], [16, 19]), ([18, 20, 16, 16], [16, 18, 20]), ([21, 16], [16, 21]), ([16, 22], [16, 22]), ([23, 21], [23]), ([24], [24]), ([25, 24], [24, 25]), ([26, 24, 24], [24, 26]), ([27], [27]), ([27], [27]), ([29, 27], [27, 29]), ([28, 30, 27], [27, 28, 30]), ([31, 27], [27, 31]), ([32, 27], [27, 32]), ([27], [27]), ([34, 27], [27, 34]), ([33, 35, 27], [27, 33, 35]), ([27, 36, 24], [24, 27, 36]), ([24, 37], [24, 37])])
def impl_BatchesValid.B4 : List Nat := [0, 1, 3, 7, 15, 31, 63, 127, 255, 511, 1023, 2047, 4095, 8191, 16383, 32767, 65535, 131071, 262143, 131071, 655359, 2097151, 4194303, 8388607, 16777215, 33554431, 67108863, 134217727, 268435455, 268435455, 805306367, 2147483647, 4294967295, 8589934591, 268435455, 17448304639, 68719476735, 137438953471, 274877906943]
theorem impl_BatchesValid.tab4 : rtab .any (opsOf Try.f15 4) = impl_BatchesValid.T4 := by kernel_rfl
theorem impl_BatchesValid.bits4 : waitsOk impl_BatchesValid.T4.2 impl_BatchesValid.B4 = true := by kernel_rfl
set_option maxHeartbeats 8000000 in
set_option maxRecDepth 100000 in
theorem impl_BatchesValid.calls (k : Nat) (A0 : Option Addr) (c0 : Nat) (l0 : List (S39)) (r : Bool) (w : World) (hr0 : Kd.C k39 w A0 l0.length l0) (hc0 : l0.length ≤ c0) (h : impl_BatchesValid.f k l0 = some r) :
    Calls Try.prog 15 #[.slice A0 l0.length c0] w fun e w' => e = .returned (.bool r) ∧ Below w.heap.size w w' := by
 have hu39 := Try.underlying39
 have HR0 := Ae_q hr0
 have HC0 := Ae_q hc0
 clear hr0 hc0
 have HB := Ae_q (bR_q w.heap.size w)
 have H : (impl_BatchesValid.l0 k l0 l0 (l0.length : Int) 0) = some r := h
 clear h
 have H' := Ae_q H
 clear H
 go_enter Try.func15, Try.ntmps15
 go_wp2
 go_loopg [7] k (fun kq v7 w' => ∃ (x7_1 : Int), v7 = .int .i64 x7_1 ∧ Aside0 (impl_BatchesValid.l0 kq l0 l0 (l0.length : Int) x7_1 = some r) ∧ Aside0 (kq ≤ k) ∧ Aside0 (Below w.heap.size w w'))
 case atStart => exact ⟨(0), m3_q, H', ⟨nR_q _⟩, ⟨bel HB.out⟩⟩
 case round =>
  clear H'
  try clear c1
  obtain ⟨x7_1, rfl, HA, HK1, HB⟩ := hrel
  cases gk with
  | zero => exact absurd HA.out (by simp [impl_BatchesValid.l0])
  | succ k1 =>
   have H := HA.out
   clear HA
   simp only [impl_BatchesValid.l0] at H
   by_cases c2 : x7_1 < (l0.length : Int)
   rotate_left
   ·rw [if_neg c2] at H
    have c2b0 : decide (x7_1 < (l0.length : Int)) = false := dF_q c2
    clear c2
    obtain rfl := oI_q H
    go_wp2
    go_ret
    exact ⟨m2_q, bel HB.out⟩
   rw [if_pos c2] at H
   have c2b0 : decide (x7_1 < (l0.length : Int)) = true := dT_q c2
   clear c2
   by_cases c3 : 0 ≤ x7_1
   rotate_left
   ·rw [if_neg c3] at H
    exact absurd H (by simp)
   rw [if_pos c3] at H
   have c3b0 : decide (0 ≤ x7_1) = true := dT_q c3
   clear c3
   by_cases c4 : x7_1 < (l0.length : Int)
   rotate_left
   ·rw [if_neg c4] at H
    exact absurd H (by simp)
   rw [if_pos c4] at H
   have c4b0 : decide (x7_1 < (l0.length : Int)) = true := dT_q c4
   clear c4
   replace H := oB_q.mp H
   obtain ⟨t144, A50, H⟩ := H
   replace H : (if t144 = true then ((impl_idsAscend.f k1 ((rd_T39 l0 x7_1).f1)).bind fun t145 => (if t145 = true then ((impl_isMinute.f ((rd_T39 l0 x7_1).f2)).bind fun t146 => (if t146 = true then ((impl_within.f ((rd_T39 l0 x7_1).f3) ((rd_T39 l0 x7_1).f2) 1439).bind fun t147 => (if t147 = true then (if x7_1 > 0 then (if 0 ≤ (wrap64 (x7_1 - 1)) then (if (wrap64 (x7_1 - 1)) < (l0.length : Int) then (if ((rd_T39 l0 (wrap64 (x7_1 - 1))).f0) ≥ ((rd_T39 l0 x7_1).f0) then (some false) else (impl_BatchesValid.l0 k1 l0 l0 (l0.length : Int) (wrap64 (x7_1 + 1)))) else (none)) else (none)) else (impl_BatchesValid.l0 k1 l0 l0 (l0.length : Int) (wrap64 (x7_1 + 1)))) else (some false))) else (some false))) else (some false))) else (some false)) = some r := H
   have A5 := Ae_q A50
   clear A50
   by_cases c6 : t144 = true
   rotate_left
   ·replace c6 := fM_q.mpr c6
    subst c6
    have H1 : (some false) = some r := by rw [if_neg (show ¬ (false = true) by decide)] at H; exact H
    clear H
    have H := H1
    clear H1
    obtain rfl := oI_q H
    have p142 : 0 ≤ (x7_1 : Int) := oD_q (by assumption)
    have q142 : x7_1 < (l0.length : Int) := oD_q (by assumption)
    obtain ⟨ad142, A142_1, c142_1, e142, hx142_0, hx142_1, hx142_2, hx142_3, hl142_1, hi142_1⟩ := at_T39 HR0.out x7_1 p142 q142
    cases e142
    replace hx142_0 := cel HB.out hx142_0
    replace hx142_1 := cel HB.out hx142_1
    replace hx142_2 := cel HB.out hx142_2
    replace hx142_3 := cel HB.out hx142_3
    have HR142_1 := Ae_q hi142_1
    have HC142_1 := Ae_q hl142_1
    clear hi142_1 hl142_1
    replace p142 := eq_true p142
    replace q142 := eq_true q142
    try go_wp2_with (first | ((with_reducible refine gD_q (N := 4) rfl ?_); refine bE_q ?hg (N := 4) ?hd (cs := #[.int .i64 0, .slice none 0 0, .int .i64 0, .int .i64 0]) (t := 39) ?hr ?_; (case hd => rfl); (case hg => rfl); (case hr => exact m6_q); intro gb143 hg w42 hbox hb; have BK143 := Ae_q (hbox); have GW143 := Ae_q ((by rw [hg]; exact (bZ_q (bel HB.out)) : w.heap.size ≤ gb143)); have GE143 := Ae_q ((by rw [hg]; exact (bZ_q (bel HB.out)) : w.heap.size ≤ gb143)); replace HB := Ae_q (bT_q (bel HB.out) hb); clear hb hbox hg; have hcz43_0 : cI w42 gb143 0 0 := cZ BK143 0 rfl; have hcz43_1 : w42.cell? ⟨gb143, 1, none⟩ = some (.slice none 0 0) := (bC_q BK143.out 1).trans rfl; have hcz43_2 : cI w42 gb143 2 0 := cZ BK143 2 rfl; have hcz43_3 : cI w42 gb143 3 0 := cZ BK143 3 rfl; have hfz43_0 := bF_q BK143.out 0; have hfz43_1 := bF_q BK143.out 1; have hfz43_2 := bF_q BK143.out 2; have hfz43_3 := bF_q BK143.out 3))
    have n0_ : Aside0 (((((w42.setCell ⟨gb143, 0, none⟩ (.int .i64 ((rd_T39 l0 x7_1).f0))).setCell ⟨gb143, 1, none⟩ (.slice A142_1 ((rd_T39 l0 x7_1).f1).length c142_1)).setCell ⟨gb143, 2, none⟩ (.int .i64 ((rd_T39 l0 x7_1).f2))).setCell ⟨gb143, 3, none⟩ (.int .i64 ((rd_T39 l0 x7_1).f3))).heap[gb143]? = some (.cells #[.int .i64 ((rd_T39 l0 x7_1).f0), .slice A142_1 ((rd_T39 l0 x7_1).f1).length c142_1, .int .i64 ((rd_T39 l0 x7_1).f2), .int .i64 ((rd_T39 l0 x7_1).f3)] 39 (0, 0))) := ⟨m1_q⟩
    have n1_ : Aside0 (Below w.heap.size w ((((w42.setCell ⟨gb143, 0, none⟩ (.int .i64 ((rd_T39 l0 x7_1).f0))).setCell ⟨gb143, 1, none⟩ (.slice A142_1 ((rd_T39 l0 x7_1).f1).length c142_1)).setCell ⟨gb143, 2, none⟩ (.int .i64 ((rd_T39 l0 x7_1).f2))).setCell ⟨gb143, 3, none⟩ (.int .i64 ((rd_T39 l0 x7_1).f3)))) := ⟨m7_q⟩
    (try clear BK143)
    (try clear HB)
    generalize ((((w42.setCell ⟨gb143, 0, none⟩ (.int .i64 ((rd_T39 l0 x7_1).f0))).setCell ⟨gb143, 1, none⟩ (.slice A142_1 ((rd_T39 l0 x7_1).f1).length c142_1)).setCell ⟨gb143, 2, none⟩ (.int .i64 ((rd_T39 l0 x7_1).f2))).setCell ⟨gb143, 3, none⟩ (.int .i64 ((rd_T39 l0 x7_1).f3))) = w44 at n0_ n1_ ⊢
    have BK143 := n0_
    have HB := n1_
    clear n0_ n1_
    replace BK143 := Ae_q (bW_q BK143.out)
    replace HB := Ae_q (bD_q HB.out)
    refine start_ (n := 39) (S := fun w' => w'.cell? ⟨gb143, 0, none⟩ = some (.int .i64 ((rd_T39 l0 x7_1).f0)) ∧ w'.cell? ⟨gb143, 1, none⟩ = some (.slice A142_1 ((rd_T39 l0 x7_1).f1).length c142_1) ∧ w'.cell? ⟨gb143, 2, none⟩ = some (.int .i64 ((rd_T39 l0 x7_1).f2)) ∧ w'.cell? ⟨gb143, 3, none⟩ = some (.int .i64 ((rd_T39 l0 x7_1).f3))) (ds := []) #[false, false, false, false, false, false, false, false, false, false, false, false, false, false, false, false, false, false, false, false, false, false, false, false, false, false, false, false, false, false, false, false, false, false, false, false, false, false, false] m5_q rfl rfl ⟨(bC_q BK143.out 0).trans rfl, (bC_q BK143.out 1).trans rfl, (bC_q BK143.out 2).trans rfl, (bC_q BK143.out 3).trans rfl⟩ (fun hHeld => ?_); refine with_tabW impl_BatchesValid.tab4 impl_BatchesValid.bits4 (fun HT_ HW_ => ?_)
    generalize w44.drew = w45 at BK143 HB hHeld ⊢
    refine pJ HT_ 0 12 rfl rfl ?_
    refine take_ (i := 1) (N := some 13) (v := ?_) (a' := ?_) #[true, true, false, false, false, false, false, false, false, false, false, false, false, false, false, false, false, false, false, false, false, false, false, false, false, false, false, false, false, false, false, false, false, false, false, false, false, false, false] rfl rfl (take_ofW HT_.out HW_.out m5_q) (fun _ _ _ h => h) (Or.inl ⟨by rfl, ?_⟩) hHeld ?_ ?_
    rotate_left
    ·rintro w' ⟨s0, s1, s2, s3⟩
     go_simp
     with_reducible rfl
    rotate_left
    ·simp only [pS_q]
     rfl
    refine one_ (i := 2) (N := some 14) #[true, true, true, false, false, false, false, false, false, false, false, false, false, false, false, false, false, false, false, false, false, false, false, false, false, false, false, false, false, false, false, false, false, false, false, false, false, false, false] rfl rfl (one_of HT_.out m5_q) (by decide) (fun K hK => ?_)
    refine goes_ Try.func44 m5_q rfl #[.int .i64 ((rd_T39 l0 x7_1).f0)] (by rfl) rfl rfl m0_q ?_
    with_reducible refine (impl_isId.calls ((rd_T39 l0 x7_1).f0) false _ A5.out).mono ?_
    rintro e w' ⟨rfl, ⟨nd, rfl⟩⟩
    refine ⟨_, rfl, ?_⟩
    refine hK.out _ _ ⟨(bC_q BK143.out 0).trans rfl, (bC_q BK143.out 1).trans rfl, (bC_q BK143.out 2).trans rfl, (bC_q BK143.out 3).trans rfl⟩ (fun hHeld => ?_)
    clear hK K
    refine nJ_q ?_
    refine pJ HT_ 3 15 rfl rfl ?_
    refine pJ HT_ 4 16 rfl rfl ?_
    refine pV HT_ 5 17 rfl rfl ?_
    refine pV HT_ 6 18 rfl rfl ?_
    refine pV HT_ 7 19 rfl rfl ?_
    refine pV HT_ 8 20 rfl rfl ?_
    refine pJ HT_ 9 21 rfl rfl ?_
    refine pJ HT_ 10 22 rfl rfl ?_
    refine pV HT_ 11 23 rfl rfl ?_
    refine pV HT_ 12 24 rfl rfl ?_
    refine pV HT_ 13 25 rfl rfl ?_
    refine pV HT_ 14 26 rfl rfl ?_
    refine pJ HT_ 15 27 rfl rfl ?_
    refine pJ HT_ 16 28 rfl rfl ?_
    refine pV HT_ 17 29 rfl rfl ?_
    refine pV HT_ 18 30 rfl rfl ?_
    refine pV HT_ 19 31 rfl rfl ?_
    refine pV HT_ 20 32 rfl rfl ?_
    refine pV HT_ 21 33 rfl rfl ?_
    refine pV HT_ 22 34 rfl rfl ?_
    refine pJ HT_ 23 35 rfl rfl ?_
    refine pJ HT_ 24 36 rfl rfl ?_
    refine pV HT_ 25 37 rfl rfl ?_
    refine pV HT_ 26 38 rfl rfl ?_
    refine pV HT_ 27 39 rfl rfl ?_
    refine pV HT_ 28 40 rfl rfl ?_
    refine pV HT_ 29 41 rfl rfl ?_
    refine pV HT_ 30 42 rfl rfl ?_
    refine pV HT_ 31 43 rfl rfl ?_
    refine pV HT_ 32 44 rfl rfl ?_
    refine pV HT_ 33 45 rfl rfl ?_
    refine pV HT_ 34 46 rfl rfl ?_
    refine pV HT_ 35 47 rfl rfl ?_
    refine pV HT_ 36 48 rfl rfl ?_
    refine pV HT_ 37 49 rfl rfl ?_
    refine pJ HT_ 38 50 rfl rfl ?_
    refine done_ (done_of HT_.out m5_q) ?_
    try go_wp2
    go_ret
    exact ⟨m2_q, m7_q⟩
   subst c6
   have H1 : ((impl_idsAscend.f k1 ((rd_T39 l0 x7_1).f1)).bind fun t145 => (if t145 = true then ((impl_isMinute.f ((rd_T39 l0 x7_1).f2)).bind fun t146 => (if t146 = true then ((impl_within.f ((rd_T39 l0 x7_1).f3) ((rd_T39 l0 x7_1).f2) 1439).bind fun t147 => (if t147 = true then (if x7_1 > 0 then (if 0 ≤ (wrap64 (x7_1 - 1)) then (if (wrap64 (x7_1 - 1)) < (l0.length : Int) then (if ((rd_T39 l0 (wrap64 (x7_1 - 1))).f0) ≥ ((rd_T39 l0 x7_1).f0) then (some false) else (impl_BatchesValid.l0 k1 l0 l0 (l0.length : Int) (wrap64 (x7_1 + 1)))) else (none)) else (none)) else (impl_BatchesValid.l0 k1 l0 l0 (l0.length : Int) (wrap64 (x7_1 + 1)))) else (some false))) else (some false))) else (some false))) = some r := by rw [if_pos rfl] at H; exact H
   clear H
   have H := H1
   clear H1
   replace H := oB_q.mp H
   obtain ⟨t145, A70, H⟩ := H
   replace H : (if t145 = true then ((impl_isMinute.f ((rd_T39 l0 x7_1).f2)).bind fun t146 => (if t146 = true then ((impl_within.f ((rd_T39 l0 x7_1).f3) ((rd_T39 l0 x7_1).f2) 1439).bind fun t147 => (if t147 = true then (if x7_1 > 0 then (if 0 ≤ (wrap64 (x7_1 - 1)) then (if (wrap64 (x7_1 - 1)) < (l0.length : Int) then (if ((rd_T39 l0 (wrap64 (x7_1 - 1))).f0) ≥ ((rd_T39 l0 x7_1).f0) then (some false) else (impl_BatchesValid.l0 k1 l0 l0 (l0.length : Int) (wrap64 (x7_1 + 1)))) else (none)) else (none)) else (impl_BatchesValid.l0 k1 l0 l0 (l0.length : Int) (wrap64 (x7_1 + 1)))) else (some false))) else (some false))) else (some false)) = some r := H
   have A7 := Ae_q A70
   clear A70
   by_cases c8 : t145 = true
   rotate_left
   ·replace c8 := fM_q.mpr c8
    subst c8
    have H1 : (some false) = some r := by rw [if_neg (show ¬ (false = true) by decide)] at H; exact H
    clear H
    have H := H1
    clear H1
    obtain rfl := oI_q H
    have p142 : 0 ≤ (x7_1 : Int) := oD_q (by assumption)
    have q142 : x7_1 < (l0.length : Int) := oD_q (by assumption)
    obtain ⟨ad142, A142_1, c142_1, e142, hx142_0, hx142_1, hx142_2, hx142_3, hl142_1, hi142_1⟩ := at_T39 HR0.out x7_1 p142 q142
    cases e142
    replace hx142_0 := cel HB.out hx142_0
    replace hx142_1 := cel HB.out hx142_1
    replace hx142_2 := cel HB.out hx142_2
    replace hx142_3 := cel HB.out hx142_3
    have HR142_1 := Ae_q hi142_1
    have HC142_1 := Ae_q hl142_1
    clear hi142_1 hl142_1
    replace p142 := eq_true p142
    replace q142 := eq_true q142
    try go_wp2_with (first | ((with_reducible refine gD_q (N := 4) rfl ?_); refine bE_q ?hg (N := 4) ?hd (cs := #[.int .i64 0, .slice none 0 0, .int .i64 0, .int .i64 0]) (t := 39) ?hr ?_; (case hd => rfl); (case hg => rfl); (case hr => exact m6_q); intro gb143 hg w38 hbox hb; have BK143 := Ae_q (hbox); have GW143 := Ae_q ((by rw [hg]; exact (bZ_q (bel HB.out)) : w.heap.size ≤ gb143)); have GE143 := Ae_q ((by rw [hg]; exact (bZ_q (bel HB.out)) : w.heap.size ≤ gb143)); replace HB := Ae_q (bT_q (bel HB.out) hb); clear hb hbox hg; have hcz39_0 : cI w38 gb143 0 0 := cZ BK143 0 rfl; have hcz39_1 : w38.cell? ⟨gb143, 1, none⟩ = some (.slice none 0 0) := (bC_q BK143.out 1).trans rfl; have hcz39_2 : cI w38 gb143 2 0 := cZ BK143 2 rfl; have hcz39_3 : cI w38 gb143 3 0 := cZ BK143 3 rfl; have hfz39_0 := bF_q BK143.out 0; have hfz39_1 := bF_q BK143.out 1; have hfz39_2 := bF_q BK143.out 2; have hfz39_3 := bF_q BK143.out 3))
    have n0_ : Aside0 (((((w38.setCell ⟨gb143, 0, none⟩ (.int .i64 ((rd_T39 l0 x7_1).f0))).setCell ⟨gb143, 1, none⟩ (.slice A142_1 ((rd_T39 l0 x7_1).f1).length c142_1)).setCell ⟨gb143, 2, none⟩ (.int .i64 ((rd_T39 l0 x7_1).f2))).setCell ⟨gb143, 3, none⟩ (.int .i64 ((rd_T39 l0 x7_1).f3))).heap[gb143]? = some (.cells #[.int .i64 ((rd_T39 l0 x7_1).f0), .slice A142_1 ((rd_T39 l0 x7_1).f1).length c142_1, .int .i64 ((rd_T39 l0 x7_1).f2), .int .i64 ((rd_T39 l0 x7_1).f3)] 39 (0, 0))) := ⟨m1_q⟩
    have n1_ : Aside0 (Below w.heap.size w ((((w38.setCell ⟨gb143, 0, none⟩ (.int .i64 ((rd_T39 l0 x7_1).f0))).setCell ⟨gb143, 1, none⟩ (.slice A142_1 ((rd_T39 l0 x7_1).f1).length c142_1)).setCell ⟨gb143, 2, none⟩ (.int .i64 ((rd_T39 l0 x7_1).f2))).setCell ⟨gb143, 3, none⟩ (.int .i64 ((rd_T39 l0 x7_1).f3)))) := ⟨m7_q⟩
    (try clear BK143)
    (try clear HB)
    generalize ((((w38.setCell ⟨gb143, 0, none⟩ (.int .i64 ((rd_T39 l0 x7_1).f0))).setCell ⟨gb143, 1, none⟩ (.slice A142_1 ((rd_T39 l0 x7_1).f1).length c142_1)).setCell ⟨gb143, 2, none⟩ (.int .i64 ((rd_T39 l0 x7_1).f2))).setCell ⟨gb143, 3, none⟩ (.int .i64 ((rd_T39 l0 x7_1).f3))) = w40 at n0_ n1_ ⊢
    have BK143 := n0_
    have HB := n1_
    clear n0_ n1_
    replace BK143 := Ae_q (bW_q BK143.out)
    replace HB := Ae_q (bD_q HB.out)
    refine start_ (n := 39) (S := fun w' => w'.cell? ⟨gb143, 0, none⟩ = some (.int .i64 ((rd_T39 l0 x7_1).f0)) ∧ w'.cell? ⟨gb143, 1, none⟩ = some (.slice A142_1 ((rd_T39 l0 x7_1).f1).length c142_1) ∧ w'.cell? ⟨gb143, 2, none⟩ = some (.int .i64 ((rd_T39 l0 x7_1).f2)) ∧ w'.cell? ⟨gb143, 3, none⟩ = some (.int .i64 ((rd_T39 l0 x7_1).f3))) (ds := []) #[false, false, false, false, false, false, false, false, false, false, false, false, false, false, false, false, false, false, false, false, false, false, false, false, false, false, false, false, false, false, false, false, false, false, false, false, false, false, false] m5_q rfl rfl ⟨(bC_q BK143.out 0).trans rfl, (bC_q BK143.out 1).trans rfl, (bC_q BK143.out 2).trans rfl, (bC_q BK143.out 3).trans rfl⟩ (fun hHeld => ?_); refine with_tabW impl_BatchesValid.tab4 impl_BatchesValid.bits4 (fun HT_ HW_ => ?_)
    generalize w40.drew = w41 at BK143 HB hHeld ⊢
    refine pJ HT_ 0 12 rfl rfl ?_
    refine take_ (i := 1) (N := some 13) (v := ?_) (a' := ?_) #[true, true, false, false, false, false, false, false, false, false, false, false, false, false, false, false, false, false, false, false, false, false, false, false, false, false, false, false, false, false, false, false, false, false, false, false, false, false, false] rfl rfl (take_ofW HT_.out HW_.out m5_q) (fun _ _ _ h => h) (Or.inl ⟨by rfl, ?_⟩) hHeld ?_ ?_
    rotate_left
    ·rintro w' ⟨s0, s1, s2, s3⟩
     go_simp
     with_reducible rfl
    rotate_left
    ·simp only [pS_q]
     rfl
    refine one_ (i := 2) (N := some 14) #[true, true, true, false, false, false, false, false, false, false, false, false, false, false, false, false, false, false, false, false, false, false, false, false, false, false, false, false, false, false, false, false, false, false, false, false, false, false, false] rfl rfl (one_of HT_.out m5_q) (by decide) (fun K hK => ?_)
    refine goes_ Try.func44 m5_q rfl #[.int .i64 ((rd_T39 l0 x7_1).f0)] (by rfl) rfl rfl m0_q ?_
    with_reducible refine (impl_isId.calls ((rd_T39 l0 x7_1).f0) true _ A5.out).mono ?_
    rintro e w' ⟨rfl, ⟨nd, rfl⟩⟩
    refine ⟨_, rfl, ?_⟩
    refine hK.out _ _ ⟨(bC_q BK143.out 0).trans rfl, (bC_q BK143.out 1).trans rfl, (bC_q BK143.out 2).trans rfl, (bC_q BK143.out 3).trans rfl⟩ (fun hHeld => ?_)
    clear hK K
    refine nJ_q ?_
    refine pJ HT_ 3 15 rfl rfl ?_
    refine pJ HT_ 4 16 rfl rfl ?_
    refine pJ HT_ 5 17 rfl rfl ?_
    refine take_ (i := 6) (N := some 18) (v := ?_) (a' := ?_) #[true, true, true, true, true, true, true, false, false, false, false, false, false, false, false, false, false, false, false, false, false, false, false, false, false, false, false, false, false, false, false, false, false, false, false, false, false, false, false] rfl rfl (take_ofW HT_.out HW_.out m5_q) (fun _ _ _ h => h) (Or.inl ⟨by rfl, ?_⟩) hHeld ?_ ?_
    rotate_left
    ·rintro w' ⟨s0, s1, s2, s3⟩
     go_simp
     with_reducible rfl
    rotate_left
    ·simp only [pS_q]
     rfl
    refine one_ (i := 7) (N := some 19) #[true, true, true, true, true, true, true, true, false, false, false, false, false, false, false, false, false, false, false, false, false, false, false, false, false, false, false, false, false, false, false, false, false, false, false, false, false, false, false] rfl rfl (one_of HT_.out m5_q) (by decide) (fun K hK => ?_)
    refine goes_ Try.func45 m5_q rfl #[.slice A142_1 ((rd_T39 l0 x7_1).f1).length c142_1] (by rfl) rfl rfl m0_q ?_
    with_reducible refine (impl_idsAscend.calls k1 _ _ ((rd_T39 l0 x7_1).f1) false _ ?side1 ?side2 A7.out).mono ?_
    (case side1 => exact m66_q)
    (case side2 => exact HC142_1.out)
    rintro e w' ⟨rfl, ⟨nd, rfl⟩⟩
    refine ⟨_, rfl, ?_⟩
    refine hK.out _ _ ⟨(bC_q BK143.out 0).trans rfl, (bC_q BK143.out 1).trans rfl, (bC_q BK143.out 2).trans rfl, (bC_q BK143.out 3).trans rfl⟩ (fun hHeld => ?_)
    clear hK K
    refine nJ_q ?_
    refine pJ HT_ 8 20 rfl rfl ?_
    refine pJ HT_ 9 21 rfl rfl ?_
    refine pJ HT_ 10 22 rfl rfl ?_
    refine pV HT_ 11 23 rfl rfl ?_
    refine pV HT_ 12 24 rfl rfl ?_
    refine pV HT_ 13 25 rfl rfl ?_
    refine pV HT_ 14 26 rfl rfl ?_
    refine pJ HT_ 15 27 rfl rfl ?_
    refine pJ HT_ 16 28 rfl rfl ?_
    refine pV HT_ 17 29 rfl rfl ?_
    refine pV HT_ 18 30 rfl rfl ?_
    refine pV HT_ 19 31 rfl rfl ?_
    refine pV HT_ 20 32 rfl rfl ?_
    refine pV HT_ 21 33 rfl rfl ?_
    refine pV HT_ 22 34 rfl rfl ?_
    refine pJ HT_ 23 35 rfl rfl ?_
    refine pJ HT_ 24 36 rfl rfl ?_
    refine pV HT_ 25 37 rfl rfl ?_
    refine pV HT_ 26 38 rfl rfl ?_
    refine pV HT_ 27 39 rfl rfl ?_
    refine pV HT_ 28 40 rfl rfl ?_
    refine pV HT_ 29 41 rfl rfl ?_
    refine pV HT_ 30 42 rfl rfl ?_
    refine pV HT_ 31 43 rfl rfl ?_
    refine pV HT_ 32 44 rfl rfl ?_
    refine pV HT_ 33 45 rfl rfl ?_
    refine pV HT_ 34 46 rfl rfl ?_
    refine pV HT_ 35 47 rfl rfl ?_
    refine pV HT_ 36 48 rfl rfl ?_
    refine pV HT_ 37 49 rfl rfl ?_
    refine pJ HT_ 38 50 rfl rfl ?_
    refine done_ (done_of HT_.out m5_q) ?_
    try go_wp2
    go_ret
    exact ⟨m2_q, m7_q⟩
   subst c8
   have H1 : ((impl_isMinute.f ((rd_T39 l0 x7_1).f2)).bind fun t146 => (if t146 = true then ((impl_within.f ((rd_T39 l0 x7_1).f3) ((rd_T39 l0 x7_1).f2) 1439).bind fun t147 => (if t147 = true then (if x7_1 > 0 then (if 0 ≤ (wrap64 (x7_1 - 1)) then (if (wrap64 (x7_1 - 1)) < (l0.length : Int) then (if ((rd_T39 l0 (wrap64 (x7_1 - 1))).f0) ≥ ((rd_T39 l0 x7_1).f0) then (some false) else (impl_BatchesValid.l0 k1 l0 l0 (l0.length : Int) (wrap64 (x7_1 + 1)))) else (none)) else (none)) else (impl_BatchesValid.l0 k1 l0 l0 (l0.length : Int) (wrap64 (x7_1 + 1)))) else (some false))) else (some false))) = some r := by rw [if_pos rfl] at H; exact H
   clear H
   have H := H1
   clear H1
   replace H := oB_q.mp H
   obtain ⟨t146, A90, H⟩ := H
   replace H : (if t146 = true then ((impl_within.f ((rd_T39 l0 x7_1).f3) ((rd_T39 l0 x7_1).f2) 1439).bind fun t147 => (if t147 = true then (if x7_1 > 0 then (if 0 ≤ (wrap64 (x7_1 - 1)) then (if (wrap64 (x7_1 - 1)) < (l0.length : Int) then (if ((rd_T39 l0 (wrap64 (x7_1 - 1))).f0) ≥ ((rd_T39 l0 x7_1).f0) then (some false) else (impl_BatchesValid.l0 k1 l0 l0 (l0.length : Int) (wrap64 (x7_1 + 1)))) else (none)) else (none)) else (impl_BatchesValid.l0 k1 l0 l0 (l0.length : Int) (wrap64 (x7_1 + 1)))) else (some false))) else (some false)) = some r := H
   have A9 := Ae_q A90
   clear A90
   by_cases c10 : t146 = true
   rotate_left
   ·replace c10 := fM_q.mpr c10
    subst c10
    have H1 : (some false) = some r := by rw [if_neg (show ¬ (false = true) by decide)] at H; exact H
    clear H
    have H := H1
    clear H1
    obtain rfl := oI_q H
    have p142 : 0 ≤ (x7_1 : Int) := oD_q (by assumption)
    have q142 : x7_1 < (l0.length : Int) := oD_q (by assumption)
    obtain ⟨ad142, A142_1, c142_1, e142, hx142_0, hx142_1, hx142_2, hx142_3, hl142_1, hi142_1⟩ := at_T39 HR0.out x7_1 p142 q142
    cases e142
    replace hx142_0 := cel HB.out hx142_0
    replace hx142_1 := cel HB.out hx142_1
    replace hx142_2 := cel HB.out hx142_2
    replace hx142_3 := cel HB.out hx142_3
    have HR142_1 := Ae_q hi142_1
    have HC142_1 := Ae_q hl142_1
    clear hi142_1 hl142_1
    replace p142 := eq_true p142
    replace q142 := eq_true q142
    try go_wp2_with (first | ((with_reducible refine gD_q (N := 4) rfl ?_); refine bE_q ?hg (N := 4) ?hd (cs := #[.int .i64 0, .slice none 0 0, .int .i64 0, .int .i64 0]) (t := 39) ?hr ?_; (case hd => rfl); (case hg => rfl); (case hr => exact m6_q); intro gb143 hg w34 hbox hb; have BK143 := Ae_q (hbox); have GW143 := Ae_q ((by rw [hg]; exact (bZ_q (bel HB.out)) : w.heap.size ≤ gb143)); have GE143 := Ae_q ((by rw [hg]; exact (bZ_q (bel HB.out)) : w.heap.size ≤ gb143)); replace HB := Ae_q (bT_q (bel HB.out) hb); clear hb hbox hg; have hcz35_0 : cI w34 gb143 0 0 := cZ BK143 0 rfl; have hcz35_1 : w34.cell? ⟨gb143, 1, none⟩ = some (.slice none 0 0) := (bC_q BK143.out 1).trans rfl; have hcz35_2 : cI w34 gb143 2 0 := cZ BK143 2 rfl; have hcz35_3 : cI w34 gb143 3 0 := cZ BK143 3 rfl; have hfz35_0 := bF_q BK143.out 0; have hfz35_1 := bF_q BK143.out 1; have hfz35_2 := bF_q BK143.out 2; have hfz35_3 := bF_q BK143.out 3))
    have n0_ : Aside0 (((((w34.setCell ⟨gb143, 0, none⟩ (.int .i64 ((rd_T39 l0 x7_1).f0))).setCell ⟨gb143, 1, none⟩ (.slice A142_1 ((rd_T39 l0 x7_1).f1).length c142_1)).setCell ⟨gb143, 2, none⟩ (.int .i64 ((rd_T39 l0 x7_1).f2))).setCell ⟨gb143, 3, none⟩ (.int .i64 ((rd_T39 l0 x7_1).f3))).heap[gb143]? = some (.cells #[.int .i64 ((rd_T39 l0 x7_1).f0), .slice A142_1 ((rd_T39 l0 x7_1).f1).length c142_1, .int .i64 ((rd_T39 l0 x7_1).f2), .int .i64 ((rd_T39 l0 x7_1).f3)] 39 (0, 0))) := ⟨m1_q⟩
    have n1_ : Aside0 (Below w.heap.size w ((((w34.setCell ⟨gb143, 0, none⟩ (.int .i64 ((rd_T39 l0 x7_1).f0))).setCell ⟨gb143, 1, none⟩ (.slice A142_1 ((rd_T39 l0 x7_1).f1).length c142_1)).setCell ⟨gb143, 2, none⟩ (.int .i64 ((rd_T39 l0 x7_1).f2))).setCell ⟨gb143, 3, none⟩ (.int .i64 ((rd_T39 l0 x7_1).f3)))) := ⟨m7_q⟩
    (try clear BK143)
    (try clear HB)
    generalize ((((w34.setCell ⟨gb143, 0, none⟩ (.int .i64 ((rd_T39 l0 x7_1).f0))).setCell ⟨gb143, 1, none⟩ (.slice A142_1 ((rd_T39 l0 x7_1).f1).length c142_1)).setCell ⟨gb143, 2, none⟩ (.int .i64 ((rd_T39 l0 x7_1).f2))).setCell ⟨gb143, 3, none⟩ (.int .i64 ((rd_T39 l0 x7_1).f3))) = w36 at n0_ n1_ ⊢
    have BK143 := n0_
    have HB := n1_
    clear n0_ n1_
    replace BK143 := Ae_q (bW_q BK143.out)
    replace HB := Ae_q (bD_q HB.out)
    refine start_ (n := 39) (S := fun w' => w'.cell? ⟨gb143, 0, none⟩ = some (.int .i64 ((rd_T39 l0 x7_1).f0)) ∧ w'.cell? ⟨gb143, 1, none⟩ = some (.slice A142_1 ((rd_T39 l0 x7_1).f1).length c142_1) ∧ w'.cell? ⟨gb143, 2, none⟩ = some (.int .i64 ((rd_T39 l0 x7_1).f2)) ∧ w'.cell? ⟨gb143, 3, none⟩ = some (.int .i64 ((rd_T39 l0 x7_1).f3))) (ds := []) #[false, false, false, false, false, false, false, false, false, false, false, false, false, false, false, false, false, false, false, false, false, false, false, false, false, false, false, false, false, false, false, false, false, false, false, false, false, false, false] m5_q rfl rfl ⟨(bC_q BK143.out 0).trans rfl, (bC_q BK143.out 1).trans rfl, (bC_q BK143.out 2).trans rfl, (bC_q BK143.out 3).trans rfl⟩ (fun hHeld => ?_); refine with_tabW impl_BatchesValid.tab4 impl_BatchesValid.bits4 (fun HT_ HW_ => ?_)
    generalize w36.drew = w37 at BK143 HB hHeld ⊢
    refine pJ HT_ 0 12 rfl rfl ?_
    refine take_ (i := 1) (N := some 13) (v := ?_) (a' := ?_) #[true, true, false, false, false, false, false, false, false, false, false, false, false, false, false, false, false, false, false, false, false, false, false, false, false, false, false, false, false, false, false, false, false, false, false, false, false, false, false] rfl rfl (take_ofW HT_.out HW_.out m5_q) (fun _ _ _ h => h) (Or.inl ⟨by rfl, ?_⟩) hHeld ?_ ?_
    rotate_left
    ·rintro w' ⟨s0, s1, s2, s3⟩
     go_simp
     with_reducible rfl
    rotate_left
    ·simp only [pS_q]
     rfl
    refine one_ (i := 2) (N := some 14) #[true, true, true, false, false, false, false, false, false, false, false, false, false, false, false, false, false, false, false, false, false, false, false, false, false, false, false, false, false, false, false, false, false, false, false, false, false, false, false] rfl rfl (one_of HT_.out m5_q) (by decide) (fun K hK => ?_)
    refine goes_ Try.func44 m5_q rfl #[.int .i64 ((rd_T39 l0 x7_1).f0)] (by rfl) rfl rfl m0_q ?_
    with_reducible refine (impl_isId.calls ((rd_T39 l0 x7_1).f0) true _ A5.out).mono ?_
    rintro e w' ⟨rfl, ⟨nd, rfl⟩⟩
    refine ⟨_, rfl, ?_⟩
    refine hK.out _ _ ⟨(bC_q BK143.out 0).trans rfl, (bC_q BK143.out 1).trans rfl, (bC_q BK143.out 2).trans rfl, (bC_q BK143.out 3).trans rfl⟩ (fun hHeld => ?_)
    clear hK K
    refine nJ_q ?_
    refine pJ HT_ 3 15 rfl rfl ?_
    refine pJ HT_ 4 16 rfl rfl ?_
    refine pJ HT_ 5 17 rfl rfl ?_
    refine take_ (i := 6) (N := some 18) (v := ?_) (a' := ?_) #[true, true, true, true, true, true, true, false, false, false, false, false, false, false, false, false, false, false, false, false, false, false, false, false, false, false, false, false, false, false, false, false, false, false, false, false, false, false, false] rfl rfl (take_ofW HT_.out HW_.out m5_q) (fun _ _ _ h => h) (Or.inl ⟨by rfl, ?_⟩) hHeld ?_ ?_
    rotate_left
    ·rintro w' ⟨s0, s1, s2, s3⟩
     go_simp
     with_reducible rfl
    rotate_left
    ·simp only [pS_q]
     rfl
    refine one_ (i := 7) (N := some 19) #[true, true, true, true, true, true, true, true, false, false, false, false, false, false, false, false, false, false, false, false, false, false, false, false, false, false, false, false, false, false, false, false, false, false, false, false, false, false, false] rfl rfl (one_of HT_.out m5_q) (by decide) (fun K hK => ?_)
    refine goes_ Try.func45 m5_q rfl #[.slice A142_1 ((rd_T39 l0 x7_1).f1).length c142_1] (by rfl) rfl rfl m0_q ?_
    with_reducible refine (impl_idsAscend.calls k1 _ _ ((rd_T39 l0 x7_1).f1) true _ ?side1 ?side2 A7.out).mono ?_
    (case side1 => exact m66_q)
    (case side2 => exact HC142_1.out)
    rintro e w' ⟨rfl, ⟨nd, rfl⟩⟩
    refine ⟨_, rfl, ?_⟩
    refine hK.out _ _ ⟨(bC_q BK143.out 0).trans rfl, (bC_q BK143.out 1).trans rfl, (bC_q BK143.out 2).trans rfl, (bC_q BK143.out 3).trans rfl⟩ (fun hHeld => ?_)
    clear hK K
    refine nJ_q ?_
    refine pJ HT_ 8 20 rfl rfl ?_
    refine pJ HT_ 9 21 rfl rfl ?_
    refine pJ HT_ 10 22 rfl rfl ?_
    refine pJ HT_ 11 23 rfl rfl ?_
    refine take_ (i := 12) (N := some 24) (v := ?_) (a' := ?_) #[true, true, true, true, true, true, true, true, true, true, true, true, true, false, false, false, false, false, false, false, false, false, false, false, false, false, false, false, false, false, false, false, false, false, false, false, false, false, false] rfl rfl (take_ofW HT_.out HW_.out m5_q) (fun _ _ _ h => h) (Or.inl ⟨by rfl, ?_⟩) hHeld ?_ ?_
    rotate_left
    ·rintro w' ⟨s0, s1, s2, s3⟩
     go_simp
     with_reducible rfl
    rotate_left
    ·simp only [pS_q]
     rfl
    refine one_ (i := 13) (N := some 25) #[true, true, true, true, true, true, true, true, true, true, true, true, true, true, false, false, false, false, false, false, false, false, false, false, false, false, false, false, false, false, false, false, false, false, false, false, false, false, false] rfl rfl (one_of HT_.out m5_q) (by decide) (fun K hK => ?_)
    refine goes_ Try.func46 m5_q rfl #[.int .i64 ((rd_T39 l0 x7_1).f2)] (by rfl) rfl rfl m0_q ?_
    with_reducible refine (impl_isMinute.calls ((rd_T39 l0 x7_1).f2) false _ A9.out).mono ?_
    rintro e w' ⟨rfl, ⟨nd, rfl⟩⟩
    refine ⟨_, rfl, ?_⟩
    refine hK.out _ _ ⟨(bC_q BK143.out 0).trans rfl, (bC_q BK143.out 1).trans rfl, (bC_q BK143.out 2).trans rfl, (bC_q BK143.out 3).trans rfl⟩ (fun hHeld => ?_)
    clear hK K
    refine nJ_q ?_
    refine pJ HT_ 14 26 rfl rfl ?_
    refine pJ HT_ 15 27 rfl rfl ?_
    refine pJ HT_ 16 28 rfl rfl ?_
    refine pV HT_ 17 29 rfl rfl ?_
    refine pV HT_ 18 30 rfl rfl ?_
    refine pV HT_ 19 31 rfl rfl ?_
    refine pV HT_ 20 32 rfl rfl ?_
    refine pV HT_ 21 33 rfl rfl ?_
    refine pV HT_ 22 34 rfl rfl ?_
    refine pJ HT_ 23 35 rfl rfl ?_
    refine pJ HT_ 24 36 rfl rfl ?_
    refine pV HT_ 25 37 rfl rfl ?_
    refine pV HT_ 26 38 rfl rfl ?_
    refine pV HT_ 27 39 rfl rfl ?_
    refine pV HT_ 28 40 rfl rfl ?_
    refine pV HT_ 29 41 rfl rfl ?_
    refine pV HT_ 30 42 rfl rfl ?_
    refine pV HT_ 31 43 rfl rfl ?_
    refine pV HT_ 32 44 rfl rfl ?_
    refine pV HT_ 33 45 rfl rfl ?_
    refine pV HT_ 34 46 rfl rfl ?_
    refine pV HT_ 35 47 rfl rfl ?_
    refine pV HT_ 36 48 rfl rfl ?_
    refine pV HT_ 37 49 rfl rfl ?_
    refine pJ HT_ 38 50 rfl rfl ?_
    refine done_ (done_of HT_.out m5_q) ?_
    try go_wp2
    go_ret
    exact ⟨m2_q, m7_q⟩
   subst c10
   have H1 : ((impl_within.f ((rd_T39 l0 x7_1).f3) ((rd_T39 l0 x7_1).f2) 1439).bind fun t147 => (if t147 = true then (if x7_1 > 0 then (if 0 ≤ (wrap64 (x7_1 - 1)) then (if (wrap64 (x7_1 - 1)) < (l0.length : Int) then (if ((rd_T39 l0 (wrap64 (x7_1 - 1))).f0) ≥ ((rd_T39 l0 x7_1).f0) then (some false) else (impl_BatchesValid.l0 k1 l0 l0 (l0.length : Int) (wrap64 (x7_1 + 1)))) else (none)) else (none)) else (impl_BatchesValid.l0 k1 l0 l0 (l0.length : Int) (wrap64 (x7_1 + 1)))) else (some false))) = some r := by rw [if_pos rfl] at H; exact H
   clear H
   have H := H1
   clear H1
   replace H := oB_q.mp H
   obtain ⟨t147, A110, H⟩ := H
   replace H : (if t147 = true then (if x7_1 > 0 then (if 0 ≤ (wrap64 (x7_1 - 1)) then (if (wrap64 (x7_1 - 1)) < (l0.length : Int) then (if ((rd_T39 l0 (wrap64 (x7_1 - 1))).f0) ≥ ((rd_T39 l0 x7_1).f0) then (some false) else (impl_BatchesValid.l0 k1 l0 l0 (l0.length : Int) (wrap64 (x7_1 + 1)))) else (none)) else (none)) else (impl_BatchesValid.l0 k1 l0 l0 (l0.length : Int) (wrap64 (x7_1 + 1)))) else (some false)) = some r := H
   have A11 := Ae_q A110
   clear A110
   by_cases c12 : t147 = true
   rotate_left
   ·replace c12 := fM_q.mpr c12
    subst c12
    have H1 : (some false) = some r := by rw [if_neg (show ¬ (false = true) by decide)] at H; exact H
    clear H
    have H := H1
    clear H1
    obtain rfl := oI_q H
    have p142 : 0 ≤ (x7_1 : Int) := oD_q (by assumption)
    have q142 : x7_1 < (l0.length : Int) := oD_q (by assumption)
    obtain ⟨ad142, A142_1, c142_1, e142, hx142_0, hx142_1, hx142_2, hx142_3, hl142_1, hi142_1⟩ := at_T39 HR0.out x7_1 p142 q142
    cases e142
    replace hx142_0 := cel HB.out hx142_0
    replace hx142_1 := cel HB.out hx142_1
    replace hx142_2 := cel HB.out hx142_2
    replace hx142_3 := cel HB.out hx142_3
    have HR142_1 := Ae_q hi142_1
    have HC142_1 := Ae_q hl142_1
    clear hi142_1 hl142_1
    replace p142 := eq_true p142
    replace q142 := eq_true q142
    try go_wp2_with (first | ((with_reducible refine gD_q (N := 4) rfl ?_); refine bE_q ?hg (N := 4) ?hd (cs := #[.int .i64 0, .slice none 0 0, .int .i64 0, .int .i64 0]) (t := 39) ?hr ?_; (case hd => rfl); (case hg => rfl); (case hr => exact m6_q); intro gb143 hg w30 hbox hb; have BK143 := Ae_q (hbox); have GW143 := Ae_q ((by rw [hg]; exact (bZ_q (bel HB.out)) : w.heap.size ≤ gb143)); have GE143 := Ae_q ((by rw [hg]; exact (bZ_q (bel HB.out)) : w.heap.size ≤ gb143)); replace HB := Ae_q (bT_q (bel HB.out) hb); clear hb hbox hg; have hcz31_0 : cI w30 gb143 0 0 := cZ BK143 0 rfl; have hcz31_1 : w30.cell? ⟨gb143, 1, none⟩ = some (.slice none 0 0) := (bC_q BK143.out 1).trans rfl; have hcz31_2 : cI w30 gb143 2 0 := cZ BK143 2 rfl; have hcz31_3 : cI w30 gb143 3 0 := cZ BK143 3 rfl; have hfz31_0 := bF_q BK143.out 0; have hfz31_1 := bF_q BK143.out 1; have hfz31_2 := bF_q BK143.out 2; have hfz31_3 := bF_q BK143.out 3))
    have n0_ : Aside0 (((((w30.setCell ⟨gb143, 0, none⟩ (.int .i64 ((rd_T39 l0 x7_1).f0))).setCell ⟨gb143, 1, none⟩ (.slice A142_1 ((rd_T39 l0 x7_1).f1).length c142_1)).setCell ⟨gb143, 2, none⟩ (.int .i64 ((rd_T39 l0 x7_1).f2))).setCell ⟨gb143, 3, none⟩ (.int .i64 ((rd_T39 l0 x7_1).f3))).heap[gb143]? = some (.cells #[.int .i64 ((rd_T39 l0 x7_1).f0), .slice A142_1 ((rd_T39 l0 x7_1).f1).length c142_1, .int .i64 ((rd_T39 l0 x7_1).f2), .int .i64 ((rd_T39 l0 x7_1).f3)] 39 (0, 0))) := ⟨m1_q⟩
    have n1_ : Aside0 (Below w.heap.size w ((((w30.setCell ⟨gb143, 0, none⟩ (.int .i64 ((rd_T39 l0 x7_1).f0))).setCell ⟨gb143, 1, none⟩ (.slice A142_1 ((rd_T39 l0 x7_1).f1).length c142_1)).setCell ⟨gb143, 2, none⟩ (.int .i64 ((rd_T39 l0 x7_1).f2))).setCell ⟨gb143, 3, none⟩ (.int .i64 ((rd_T39 l0 x7_1).f3)))) := ⟨m7_q⟩
    (try clear BK143)
    (try clear HB)
    generalize ((((w30.setCell ⟨gb143, 0, none⟩ (.int .i64 ((rd_T39 l0 x7_1).f0))).setCell ⟨gb143, 1, none⟩ (.slice A142_1 ((rd_T39 l0 x7_1).f1).length c142_1)).setCell ⟨gb143, 2, none⟩ (.int .i64 ((rd_T39 l0 x7_1).f2))).setCell ⟨gb143, 3, none⟩ (.int .i64 ((rd_T39 l0 x7_1).f3))) = w32 at n0_ n1_ ⊢
    have BK143 := n0_
    have HB := n1_
    clear n0_ n1_
    replace BK143 := Ae_q (bW_q BK143.out)
    replace HB := Ae_q (bD_q HB.out)
    refine start_ (n := 39) (S := fun w' => w'.cell? ⟨gb143, 0, none⟩ = some (.int .i64 ((rd_T39 l0 x7_1).f0)) ∧ w'.cell? ⟨gb143, 1, none⟩ = some (.slice A142_1 ((rd_T39 l0 x7_1).f1).length c142_1) ∧ w'.cell? ⟨gb143, 2, none⟩ = some (.int .i64 ((rd_T39 l0 x7_1).f2)) ∧ w'.cell? ⟨gb143, 3, none⟩ = some (.int .i64 ((rd_T39 l0 x7_1).f3))) (ds := []) #[false, false, false, false, false, false, false, false, false, false, false, false, false, false, false, false, false, false, false, false, false, false, false, false, false, false, false, false, false, false, false, false, false, false, false, false, false, false, false] m5_q rfl rfl ⟨(bC_q BK143.out 0).trans rfl, (bC_q BK143.out 1).trans rfl, (bC_q BK143.out 2).trans rfl, (bC_q BK143.out 3).trans rfl⟩ (fun hHeld => ?_); refine with_tabW impl_BatchesValid.tab4 impl_BatchesValid.bits4 (fun HT_ HW_ => ?_)
    generalize w32.drew = w33 at BK143 HB hHeld ⊢
    refine pJ HT_ 0 12 rfl rfl ?_
    refine take_ (i := 1) (N := some 13) (v := ?_) (a' := ?_) #[true, true, false, false, false, false, false, false, false, false, false, false, false, false, false, false, false, false, false, false, false, false, false, false, false, false, false, false, false, false, false, false, false, false, false, false, false, false, false] rfl rfl (take_ofW HT_.out HW_.out m5_q) (fun _ _ _ h => h) (Or.inl ⟨by rfl, ?_⟩) hHeld ?_ ?_
    rotate_left
    ·rintro w' ⟨s0, s1, s2, s3⟩
     go_simp
     with_reducible rfl
    rotate_left
    ·simp only [pS_q]
     rfl
    refine one_ (i := 2) (N := some 14) #[true, true, true, false, false, false, false, false, false, false, false, false, false, false, false, false, false, false, false, false, false, false, false, false, false, false, false, false, false, false, false, false, false, false, false, false, false, false, false] rfl rfl (one_of HT_.out m5_q) (by decide) (fun K hK => ?_)
    refine goes_ Try.func44 m5_q rfl #[.int .i64 ((rd_T39 l0 x7_1).f0)] (by rfl) rfl rfl m0_q ?_
    with_reducible refine (impl_isId.calls ((rd_T39 l0 x7_1).f0) true _ A5.out).mono ?_
    rintro e w' ⟨rfl, ⟨nd, rfl⟩⟩
    refine ⟨_, rfl, ?_⟩
    refine hK.out _ _ ⟨(bC_q BK143.out 0).trans rfl, (bC_q BK143.out 1).trans rfl, (bC_q BK143.out 2).trans rfl, (bC_q BK143.out 3).trans rfl⟩ (fun hHeld => ?_)
    clear hK K
    refine nJ_q ?_
    refine pJ HT_ 3 15 rfl rfl ?_
    refine pJ HT_ 4 16 rfl rfl ?_
    refine pJ HT_ 5 17 rfl rfl ?_
    refine take_ (i := 6) (N := some 18) (v := ?_) (a' := ?_) #[true, true, true, true, true, true, true, false, false, false, false, false, false, false, false, false, false, false, false, false, false, false, false, false, false, false, false, false, false, false, false, false, false, false, false, false, false, false, false] rfl rfl (take_ofW HT_.out HW_.out m5_q) (fun _ _ _ h => h) (Or.inl ⟨by rfl, ?_⟩) hHeld ?_ ?_
    rotate_left
    ·rintro w' ⟨s0, s1, s2, s3⟩
     go_simp
     with_reducible rfl
    rotate_left
    ·simp only [pS_q]
     rfl
    refine one_ (i := 7) (N := some 19) #[true, true, true, true, true, true, true, true, false, false, false, false, false, false, false, false, false, false, false, false, false, false, false, false, false, false, false, false, false, false, false, false, false, false, false, false, false, false, false] rfl rfl (one_of HT_.out m5_q) (by decide) (fun K hK => ?_)
    refine goes_ Try.func45 m5_q rfl #[.slice A142_1 ((rd_T39 l0 x7_1).f1).length c142_1] (by rfl) rfl rfl m0_q ?_
    with_reducible refine (impl_idsAscend.calls k1 _ _ ((rd_T39 l0 x7_1).f1) true _ ?side1 ?side2 A7.out).mono ?_
    (case side1 => exact m66_q)
    (case side2 => exact HC142_1.out)
    rintro e w' ⟨rfl, ⟨nd, rfl⟩⟩
    refine ⟨_, rfl, ?_⟩
    refine hK.out _ _ ⟨(bC_q BK143.out 0).trans rfl, (bC_q BK143.out 1).trans rfl, (bC_q BK143.out 2).trans rfl, (bC_q BK143.out 3).trans rfl⟩ (fun hHeld => ?_)
    clear hK K
    refine nJ_q ?_
    refine pJ HT_ 8 20 rfl rfl ?_
    refine pJ HT_ 9 21 rfl rfl ?_
    refine pJ HT_ 10 22 rfl rfl ?_
    refine pJ HT_ 11 23 rfl rfl ?_
    refine take_ (i := 12) (N := some 24) (v := ?_) (a' := ?_) #[true, true, true, true, true, true, true, true, true, true, true, true, true, false, false, false, false, false, false, false, false, false, false, false, false, false, false, false, false, false, false, false, false, false, false, false, false, false, false] rfl rfl (take_ofW HT_.out HW_.out m5_q) (fun _ _ _ h => h) (Or.inl ⟨by rfl, ?_⟩) hHeld ?_ ?_
    rotate_left
    ·rintro w' ⟨s0, s1, s2, s3⟩
     go_simp
     with_reducible rfl
    rotate_left
    ·simp only [pS_q]
     rfl
    refine one_ (i := 13) (N := some 25) #[true, true, true, true, true, true, true, true, true, true, true, true, true, true, false, false, false, false, false, false, false, false, false, false, false, false, false, false, false, false, false, false, false, false, false, false, false, false, false] rfl rfl (one_of HT_.out m5_q) (by decide) (fun K hK => ?_)
    refine goes_ Try.func46 m5_q rfl #[.int .i64 ((rd_T39 l0 x7_1).f2)] (by rfl) rfl rfl m0_q ?_
    with_reducible refine (impl_isMinute.calls ((rd_T39 l0 x7_1).f2) true _ A9.out).mono ?_
    rintro e w' ⟨rfl, ⟨nd, rfl⟩⟩
    refine ⟨_, rfl, ?_⟩
    refine hK.out _ _ ⟨(bC_q BK143.out 0).trans rfl, (bC_q BK143.out 1).trans rfl, (bC_q BK143.out 2).trans rfl, (bC_q BK143.out 3).trans rfl⟩ (fun hHeld => ?_)
    clear hK K
    refine nJ_q ?_
    refine pJ HT_ 14 26 rfl rfl ?_
    refine pJ HT_ 15 27 rfl rfl ?_
    refine pJ HT_ 16 28 rfl rfl ?_
    refine pJ HT_ 17 29 rfl rfl ?_
    refine pJ HT_ 19 31 rfl rfl ?_
    refine take_ (i := 18) (N := some 30) (v := ?_) (a' := ?_) #[true, true, true, true, true, true, true, true, true, true, true, true, true, true, true, true, true, true, true, true, false, false, false, false, false, false, false, false, false, false, false, false, false, false, false, false, false, false, false] rfl rfl (take_ofW HT_.out HW_.out m5_q) (fun _ _ _ h => h) (Or.inl ⟨by rfl, ?_⟩) hHeld ?_ ?_
    rotate_left
    ·rintro w' ⟨s0, s1, s2, s3⟩
     go_simp
     with_reducible rfl
    rotate_left
    ·simp only [pS_q]
     rfl
    refine take_ (i := 20) (N := some 32) (v := ?_) (a' := ?_) #[true, true, true, true, true, true, true, true, true, true, true, true, true, true, true, true, true, true, true, true, true, false, false, false, false, false, false, false, false, false, false, false, false, false, false, false, false, false, false] rfl rfl (take_ofW HT_.out HW_.out m5_q) (fun _ _ _ h => h) (Or.inl ⟨by rfl, ?_⟩) hHeld ?_ ?_
    rotate_left
    ·rintro w' ⟨s0, s1, s2, s3⟩
     go_simp
     with_reducible rfl
    rotate_left
    ·simp only [pS_q]
     rfl
    refine one_ (i := 21) (N := some 33) #[true, true, true, true, true, true, true, true, true, true, true, true, true, true, true, true, true, true, true, true, true, true, false, false, false, false, false, false, false, false, false, false, false, false, false, false, false, false, false] rfl rfl (one_of HT_.out m5_q) (by decide) (fun K hK => ?_)
    refine goes_ Try.func47 m5_q rfl #[.int .i64 ((rd_T39 l0 x7_1).f3), .int .i64 ((rd_T39 l0 x7_1).f2), .int .i64 1439] (by rfl) rfl rfl m0_q ?_
    with_reducible refine (impl_within.calls ((rd_T39 l0 x7_1).f3) ((rd_T39 l0 x7_1).f2) 1439 false _ A11.out).mono ?_
    rintro e w' ⟨rfl, ⟨nd, rfl⟩⟩
    refine ⟨_, rfl, ?_⟩
    refine hK.out _ _ ⟨(bC_q BK143.out 0).trans rfl, (bC_q BK143.out 1).trans rfl, (bC_q BK143.out 2).trans rfl, (bC_q BK143.out 3).trans rfl⟩ (fun hHeld => ?_)
    clear hK K
    refine nJ_q ?_
    refine pJ HT_ 22 34 rfl rfl ?_
    refine pJ HT_ 23 35 rfl rfl ?_
    refine pJ HT_ 24 36 rfl rfl ?_
    refine pV HT_ 25 37 rfl rfl ?_
    refine pV HT_ 26 38 rfl rfl ?_
    refine pV HT_ 27 39 rfl rfl ?_
    refine pV HT_ 28 40 rfl rfl ?_
    refine pV HT_ 29 41 rfl rfl ?_
    refine pV HT_ 30 42 rfl rfl ?_
    refine pV HT_ 31 43 rfl rfl ?_
    refine pV HT_ 32 44 rfl rfl ?_
    refine pV HT_ 33 45 rfl rfl ?_
    refine pV HT_ 34 46 rfl rfl ?_
    refine pV HT_ 35 47 rfl rfl ?_
    refine pV HT_ 36 48 rfl rfl ?_
    refine pV HT_ 37 49 rfl rfl ?_
    refine pJ HT_ 38 50 rfl rfl ?_
    refine done_ (done_of HT_.out m5_q) ?_
    try go_wp2
    go_ret
    exact ⟨m2_q, m7_q⟩
   subst c12
   have H1 : (if x7_1 > 0 then (if 0 ≤ (wrap64 (x7_1 - 1)) then (if (wrap64 (x7_1 - 1)) < (l0.length : Int) then (if ((rd_T39 l0 (wrap64 (x7_1 - 1))).f0) ≥ ((rd_T39 l0 x7_1).f0) then (some false) else (impl_BatchesValid.l0 k1 l0 l0 (l0.length : Int) (wrap64 (x7_1 + 1)))) else (none)) else (none)) else (impl_BatchesValid.l0 k1 l0 l0 (l0.length : Int) (wrap64 (x7_1 + 1)))) = some r := by rw [if_pos rfl] at H; exact H
   clear H
   have H := H1
   clear H1
   by_cases c13 : x7_1 > 0
   rotate_left
   ·rw [if_neg c13] at H
    have c13b0 : decide (0 < x7_1) = false := dF_q c13
    clear c13
    have H' := Ae_q H
    clear H
    have p142 : 0 ≤ (x7_1 : Int) := oD_q (by assumption)
    have q142 : x7_1 < (l0.length : Int) := oD_q (by assumption)
    obtain ⟨ad142, A142_1, c142_1, e142, hx142_0, hx142_1, hx142_2, hx142_3, hl142_1, hi142_1⟩ := at_T39 HR0.out x7_1 p142 q142
    cases e142
    replace hx142_0 := cel HB.out hx142_0
    replace hx142_1 := cel HB.out hx142_1
    replace hx142_2 := cel HB.out hx142_2
    replace hx142_3 := cel HB.out hx142_3
    have HR142_1 := Ae_q hi142_1
    have HC142_1 := Ae_q hl142_1
    clear hi142_1 hl142_1
    replace p142 := eq_true p142
    replace q142 := eq_true q142
    try go_wp2_with (first | ((with_reducible refine gD_q (N := 4) rfl ?_); refine bE_q ?hg (N := 4) ?hd (cs := #[.int .i64 0, .slice none 0 0, .int .i64 0, .int .i64 0]) (t := 39) ?hr ?_; (case hd => rfl); (case hg => rfl); (case hr => exact m6_q); intro gb143 hg w26 hbox hb; have BK143 := Ae_q (hbox); have GW143 := Ae_q ((by rw [hg]; exact (bZ_q (bel HB.out)) : w.heap.size ≤ gb143)); have GE143 := Ae_q ((by rw [hg]; exact (bZ_q (bel HB.out)) : w.heap.size ≤ gb143)); replace HB := Ae_q (bT_q (bel HB.out) hb); clear hb hbox hg; have hcz27_0 : cI w26 gb143 0 0 := cZ BK143 0 rfl; have hcz27_1 : w26.cell? ⟨gb143, 1, none⟩ = some (.slice none 0 0) := (bC_q BK143.out 1).trans rfl; have hcz27_2 : cI w26 gb143 2 0 := cZ BK143 2 rfl; have hcz27_3 : cI w26 gb143 3 0 := cZ BK143 3 rfl; have hfz27_0 := bF_q BK143.out 0; have hfz27_1 := bF_q BK143.out 1; have hfz27_2 := bF_q BK143.out 2; have hfz27_3 := bF_q BK143.out 3))
    have n0_ : Aside0 (((((w26.setCell ⟨gb143, 0, none⟩ (.int .i64 ((rd_T39 l0 x7_1).f0))).setCell ⟨gb143, 1, none⟩ (.slice A142_1 ((rd_T39 l0 x7_1).f1).length c142_1)).setCell ⟨gb143, 2, none⟩ (.int .i64 ((rd_T39 l0 x7_1).f2))).setCell ⟨gb143, 3, none⟩ (.int .i64 ((rd_T39 l0 x7_1).f3))).heap[gb143]? = some (.cells #[.int .i64 ((rd_T39 l0 x7_1).f0), .slice A142_1 ((rd_T39 l0 x7_1).f1).length c142_1, .int .i64 ((rd_T39 l0 x7_1).f2), .int .i64 ((rd_T39 l0 x7_1).f3)] 39 (0, 0))) := ⟨m1_q⟩
    have n1_ : Aside0 (Below w.heap.size w ((((w26.setCell ⟨gb143, 0, none⟩ (.int .i64 ((rd_T39 l0 x7_1).f0))).setCell ⟨gb143, 1, none⟩ (.slice A142_1 ((rd_T39 l0 x7_1).f1).length c142_1)).setCell ⟨gb143, 2, none⟩ (.int .i64 ((rd_T39 l0 x7_1).f2))).setCell ⟨gb143, 3, none⟩ (.int .i64 ((rd_T39 l0 x7_1).f3)))) := ⟨m7_q⟩
    (try clear BK143)
    (try clear HB)
    generalize ((((w26.setCell ⟨gb143, 0, none⟩ (.int .i64 ((rd_T39 l0 x7_1).f0))).setCell ⟨gb143, 1, none⟩ (.slice A142_1 ((rd_T39 l0 x7_1).f1).length c142_1)).setCell ⟨gb143, 2, none⟩ (.int .i64 ((rd_T39 l0 x7_1).f2))).setCell ⟨gb143, 3, none⟩ (.int .i64 ((rd_T39 l0 x7_1).f3))) = w28 at n0_ n1_ ⊢
    have BK143 := n0_
    have HB := n1_
    clear n0_ n1_
    replace BK143 := Ae_q (bW_q BK143.out)
    replace HB := Ae_q (bD_q HB.out)
    refine start_ (n := 39) (S := fun w' => w'.cell? ⟨gb143, 0, none⟩ = some (.int .i64 ((rd_T39 l0 x7_1).f0)) ∧ w'.cell? ⟨gb143, 1, none⟩ = some (.slice A142_1 ((rd_T39 l0 x7_1).f1).length c142_1) ∧ w'.cell? ⟨gb143, 2, none⟩ = some (.int .i64 ((rd_T39 l0 x7_1).f2)) ∧ w'.cell? ⟨gb143, 3, none⟩ = some (.int .i64 ((rd_T39 l0 x7_1).f3))) (ds := []) #[false, false, false, false, false, false, false, false, false, false, false, false, false, false, false, false, false, false, false, false, false, false, false, false, false, false, false, false, false, false, false, false, false, false, false, false, false, false, false] m5_q rfl rfl ⟨(bC_q BK143.out 0).trans rfl, (bC_q BK143.out 1).trans rfl, (bC_q BK143.out 2).trans rfl, (bC_q BK143.out 3).trans rfl⟩ (fun hHeld => ?_); refine with_tabW impl_BatchesValid.tab4 impl_BatchesValid.bits4 (fun HT_ HW_ => ?_)
    generalize w28.drew = w29 at BK143 HB hHeld ⊢
    refine pJ HT_ 0 12 rfl rfl ?_
    refine take_ (i := 1) (N := some 13) (v := ?_) (a' := ?_) #[true, true, false, false, false, false, false, false, false, false, false, false, false, false, false, false, false, false, false, false, false, false, false, false, false, false, false, false, false, false, false, false, false, false, false, false, false, false, false] rfl rfl (take_ofW HT_.out HW_.out m5_q) (fun _ _ _ h => h) (Or.inl ⟨by rfl, ?_⟩) hHeld ?_ ?_
    rotate_left
    ·rintro w' ⟨s0, s1, s2, s3⟩
     go_simp
     with_reducible rfl
    rotate_left
    ·simp only [pS_q]
     rfl
    refine one_ (i := 2) (N := some 14) #[true, true, true, false, false, false, false, false, false, false, false, false, false, false, false, false, false, false, false, false, false, false, false, false, false, false, false, false, false, false, false, false, false, false, false, false, false, false, false] rfl rfl (one_of HT_.out m5_q) (by decide) (fun K hK => ?_)
    refine goes_ Try.func44 m5_q rfl #[.int .i64 ((rd_T39 l0 x7_1).f0)] (by rfl) rfl rfl m0_q ?_
    with_reducible refine (impl_isId.calls ((rd_T39 l0 x7_1).f0) true _ A5.out).mono ?_
    rintro e w' ⟨rfl, ⟨nd, rfl⟩⟩
    refine ⟨_, rfl, ?_⟩
    refine hK.out _ _ ⟨(bC_q BK143.out 0).trans rfl, (bC_q BK143.out 1).trans rfl, (bC_q BK143.out 2).trans rfl, (bC_q BK143.out 3).trans rfl⟩ (fun hHeld => ?_)
    clear hK K
    refine nJ_q ?_
    refine pJ HT_ 3 15 rfl rfl ?_
    refine pJ HT_ 4 16 rfl rfl ?_
    refine pJ HT_ 5 17 rfl rfl ?_
    refine take_ (i := 6) (N := some 18) (v := ?_) (a' := ?_) #[true, true, true, true, true, true, true, false, false, false, false, false, false, false, false, false, false, false, false, false, false, false, false, false, false, false, false, false, false, false, false, false, false, false, false, false, false, false, false] rfl rfl (take_ofW HT_.out HW_.out m5_q) (fun _ _ _ h => h) (Or.inl ⟨by rfl, ?_⟩) hHeld ?_ ?_
    rotate_left
    ·rintro w' ⟨s0, s1, s2, s3⟩
     go_simp
     with_reducible rfl
    rotate_left
    ·simp only [pS_q]
     rfl
    refine one_ (i := 7) (N := some 19) #[true, true, true, true, true, true, true, true, false, false, false, false, false, false, false, false, false, false, false, false, false, false, false, false, false, false, false, false, false, false, false, false, false, false, false, false, false, false, false] rfl rfl (one_of HT_.out m5_q) (by decide) (fun K hK => ?_)
    refine goes_ Try.func45 m5_q rfl #[.slice A142_1 ((rd_T39 l0 x7_1).f1).length c142_1] (by rfl) rfl rfl m0_q ?_
    with_reducible refine (impl_idsAscend.calls k1 _ _ ((rd_T39 l0 x7_1).f1) true _ ?side1 ?side2 A7.out).mono ?_
    (case side1 => exact m66_q)
    (case side2 => exact HC142_1.out)
    rintro e w' ⟨rfl, ⟨nd, rfl⟩⟩
    refine ⟨_, rfl, ?_⟩
    refine hK.out _ _ ⟨(bC_q BK143.out 0).trans rfl, (bC_q BK143.out 1).trans rfl, (bC_q BK143.out 2).trans rfl, (bC_q BK143.out 3).trans rfl⟩ (fun hHeld => ?_)
    clear hK K
    refine nJ_q ?_
    refine pJ HT_ 8 20 rfl rfl ?_
    refine pJ HT_ 9 21 rfl rfl ?_
    refine pJ HT_ 10 22 rfl rfl ?_
    refine pJ HT_ 11 23 rfl rfl ?_
    refine take_ (i := 12) (N := some 24) (v := ?_) (a' := ?_) #[true, true, true, true, true, true, true, true, true, true, true, true, true, false, false, false, false, false, false, false, false, false, false, false, false, false, false, false, false, false, false, false, false, false, false, false, false, false, false] rfl rfl (take_ofW HT_.out HW_.out m5_q) (fun _ _ _ h => h) (Or.inl ⟨by rfl, ?_⟩) hHeld ?_ ?_
    rotate_left
    ·rintro w' ⟨s0, s1, s2, s3⟩
     go_simp
     with_reducible rfl
    rotate_left
    ·simp only [pS_q]
     rfl
    refine one_ (i := 13) (N := some 25) #[true, true, true, true, true, true, true, true, true, true, true, true, true, true, false, false, false, false, false, false, false, false, false, false, false, false, false, false, false, false, false, false, false, false, false, false, false, false, false] rfl rfl (one_of HT_.out m5_q) (by decide) (fun K hK => ?_)
    refine goes_ Try.func46 m5_q rfl #[.int .i64 ((rd_T39 l0 x7_1).f2)] (by rfl) rfl rfl m0_q ?_
    with_reducible refine (impl_isMinute.calls ((rd_T39 l0 x7_1).f2) true _ A9.out).mono ?_
    rintro e w' ⟨rfl, ⟨nd, rfl⟩⟩
    refine ⟨_, rfl, ?_⟩
    refine hK.out _ _ ⟨(bC_q BK143.out 0).trans rfl, (bC_q BK143.out 1).trans rfl, (bC_q BK143.out 2).trans rfl, (bC_q BK143.out 3).trans rfl⟩ (fun hHeld => ?_)
    clear hK K
    refine nJ_q ?_
    refine pJ HT_ 14 26 rfl rfl ?_
    refine pJ HT_ 15 27 rfl rfl ?_
    refine pJ HT_ 16 28 rfl rfl ?_
    refine pJ HT_ 17 29 rfl rfl ?_
    refine pJ HT_ 19 31 rfl rfl ?_
    refine take_ (i := 18) (N := some 30) (v := ?_) (a' := ?_) #[true, true, true, true, true, true, true, true, true, true, true, true, true, true, true, true, true, true, true, true, false, false, false, false, false, false, false, false, false, false, false, false, false, false, false, false, false, false, false] rfl rfl (take_ofW HT_.out HW_.out m5_q) (fun _ _ _ h => h) (Or.inl ⟨by rfl, ?_⟩) hHeld ?_ ?_
    rotate_left
    ·rintro w' ⟨s0, s1, s2, s3⟩
     go_simp
     with_reducible rfl
    rotate_left
    ·simp only [pS_q]
     rfl
    refine take_ (i := 20) (N := some 32) (v := ?_) (a' := ?_) #[true, true, true, true, true, true, true, true, true, true, true, true, true, true, true, true, true, true, true, true, true, false, false, false, false, false, false, false, false, false, false, false, false, false, false, false, false, false, false] rfl rfl (take_ofW HT_.out HW_.out m5_q) (fun _ _ _ h => h) (Or.inl ⟨by rfl, ?_⟩) hHeld ?_ ?_
    rotate_left
    ·rintro w' ⟨s0, s1, s2, s3⟩
     go_simp
     with_reducible rfl
    rotate_left
    ·simp only [pS_q]
     rfl
    refine one_ (i := 21) (N := some 33) #[true, true, true, true, true, true, true, true, true, true, true, true, true, true, true, true, true, true, true, true, true, true, false, false, false, false, false, false, false, false, false, false, false, false, false, false, false, false, false] rfl rfl (one_of HT_.out m5_q) (by decide) (fun K hK => ?_)
    refine goes_ Try.func47 m5_q rfl #[.int .i64 ((rd_T39 l0 x7_1).f3), .int .i64 ((rd_T39 l0 x7_1).f2), .int .i64 1439] (by rfl) rfl rfl m0_q ?_
    with_reducible refine (impl_within.calls ((rd_T39 l0 x7_1).f3) ((rd_T39 l0 x7_1).f2) 1439 true _ A11.out).mono ?_
    rintro e w' ⟨rfl, ⟨nd, rfl⟩⟩
    refine ⟨_, rfl, ?_⟩
    refine hK.out _ _ ⟨(bC_q BK143.out 0).trans rfl, (bC_q BK143.out 1).trans rfl, (bC_q BK143.out 2).trans rfl, (bC_q BK143.out 3).trans rfl⟩ (fun hHeld => ?_)
    clear hK K
    refine nJ_q ?_
    refine pJ HT_ 22 34 rfl rfl ?_
    refine pJ HT_ 23 35 rfl rfl ?_
    refine pJ HT_ 24 36 rfl rfl ?_
    refine pJ HT_ 25 37 rfl rfl ?_
    refine pJ HT_ 26 38 rfl rfl ?_
    refine pJ HT_ 27 39 rfl rfl ?_
    refine pV HT_ 28 40 rfl rfl ?_
    refine pV HT_ 29 41 rfl rfl ?_
    refine pV HT_ 30 42 rfl rfl ?_
    refine pV HT_ 31 43 rfl rfl ?_
    refine pV HT_ 32 44 rfl rfl ?_
    refine pV HT_ 33 45 rfl rfl ?_
    refine pV HT_ 34 46 rfl rfl ?_
    refine pV HT_ 35 47 rfl rfl ?_
    refine pV HT_ 36 48 rfl rfl ?_
    refine pJ HT_ 37 49 rfl rfl ?_
    refine pJ HT_ 38 50 rfl rfl ?_
    refine done_ (done_of HT_.out m5_q) ?_
    try go_wp2
    go_roundg k1
    case measure => have := HK1.out; omega
    case rel => exact ⟨(wrap64 (x7_1 + 1)), m3_q, H', ⟨m28_q⟩, ⟨m7_q⟩⟩
   rw [if_pos c13] at H
   have c13b0 : decide (0 < x7_1) = true := dT_q c13
   clear c13
   obtain ⟨ji14, hji14⟩ : ∃ j_ : Int, (wrap64 (x7_1 - 1)) = j_ := ⟨_, rfl⟩
   replace H : (if 0 ≤ (ji14) then (if (ji14) < (l0.length : Int) then (if ((rd_T39 l0 (ji14)).f0) ≥ ((rd_T39 l0 x7_1).f0) then (some false) else (impl_BatchesValid.l0 k1 l0 l0 (l0.length : Int) (wrap64 (x7_1 + 1)))) else (none)) else (none)) = some r := by first | (rw [hji14] at H; exact H) | (simp only [hji14] at H ⊢; exact H)
   (try rw [hji14] at A5)
   (try rw [hji14] at A7)
   (try rw [hji14] at A9)
   (try rw [hji14] at A11)
   have hji14w : (IntKind.i64.wrap (x7_1 - 1)) = ji14 := (i64_w _).trans hji14
   by_cases c15 : 0 ≤ (ji14)
   rotate_left
   ·rw [if_neg c15] at H
    exact absurd H (by simp)
   rw [if_pos c15] at H
   have c15b0 : decide (0 ≤ (ji14)) = true := dT_q c15
   clear c15
   by_cases c16 : (ji14) < (l0.length : Int)
   rotate_left
   ·rw [if_neg c16] at H
    exact absurd H (by simp)
   rw [if_pos c16] at H
   have c16b0 : decide ((ji14) < (l0.length : Int)) = true := dT_q c16
   clear c16
   by_cases c17 : ((rd_T39 l0 (ji14)).f0) ≥ ((rd_T39 l0 x7_1).f0)
   ·rw [if_pos c17] at H
    have c17b0 : decide (((rd_T39 l0 x7_1).f0) ≤ ((rd_T39 l0 (ji14)).f0)) = true := dT_q c17
    clear c17
    obtain rfl := oI_q H
    have p142 : 0 ≤ (x7_1 : Int) := oD_q (by assumption)
    have q142 : x7_1 < (l0.length : Int) := oD_q (by assumption)
    obtain ⟨ad142, A142_1, c142_1, e142, hx142_0, hx142_1, hx142_2, hx142_3, hl142_1, hi142_1⟩ := at_T39 HR0.out x7_1 p142 q142
    cases e142
    replace hx142_0 := cel HB.out hx142_0
    replace hx142_1 := cel HB.out hx142_1
    replace hx142_2 := cel HB.out hx142_2
    replace hx142_3 := cel HB.out hx142_3
    have HR142_1 := Ae_q hi142_1
    have HC142_1 := Ae_q hl142_1
    clear hi142_1 hl142_1
    replace p142 := eq_true p142
    replace q142 := eq_true q142
    try go_wp2_with (first | ((with_reducible refine gD_q (N := 4) rfl ?_); refine bE_q ?hg (N := 4) ?hd (cs := #[.int .i64 0, .slice none 0 0, .int .i64 0, .int .i64 0]) (t := 39) ?hr ?_; (case hd => rfl); (case hg => rfl); (case hr => exact m6_q); intro gb143 hg w18 hbox hb; have BK143 := Ae_q (hbox); have GW143 := Ae_q ((by rw [hg]; exact (bZ_q (bel HB.out)) : w.heap.size ≤ gb143)); have GE143 := Ae_q ((by rw [hg]; exact (bZ_q (bel HB.out)) : w.heap.size ≤ gb143)); replace HB := Ae_q (bT_q (bel HB.out) hb); clear hb hbox hg; have hcz19_0 : cI w18 gb143 0 0 := cZ BK143 0 rfl; have hcz19_1 : w18.cell? ⟨gb143, 1, none⟩ = some (.slice none 0 0) := (bC_q BK143.out 1).trans rfl; have hcz19_2 : cI w18 gb143 2 0 := cZ BK143 2 rfl; have hcz19_3 : cI w18 gb143 3 0 := cZ BK143 3 rfl; have hfz19_0 := bF_q BK143.out 0; have hfz19_1 := bF_q BK143.out 1; have hfz19_2 := bF_q BK143.out 2; have hfz19_3 := bF_q BK143.out 3))
    have n0_ : Aside0 (((((w18.setCell ⟨gb143, 0, none⟩ (.int .i64 ((rd_T39 l0 x7_1).f0))).setCell ⟨gb143, 1, none⟩ (.slice A142_1 ((rd_T39 l0 x7_1).f1).length c142_1)).setCell ⟨gb143, 2, none⟩ (.int .i64 ((rd_T39 l0 x7_1).f2))).setCell ⟨gb143, 3, none⟩ (.int .i64 ((rd_T39 l0 x7_1).f3))).heap[gb143]? = some (.cells #[.int .i64 ((rd_T39 l0 x7_1).f0), .slice A142_1 ((rd_T39 l0 x7_1).f1).length c142_1, .int .i64 ((rd_T39 l0 x7_1).f2), .int .i64 ((rd_T39 l0 x7_1).f3)] 39 (0, 0))) := ⟨m1_q⟩
    have n1_ : Aside0 (Below w.heap.size w ((((w18.setCell ⟨gb143, 0, none⟩ (.int .i64 ((rd_T39 l0 x7_1).f0))).setCell ⟨gb143, 1, none⟩ (.slice A142_1 ((rd_T39 l0 x7_1).f1).length c142_1)).setCell ⟨gb143, 2, none⟩ (.int .i64 ((rd_T39 l0 x7_1).f2))).setCell ⟨gb143, 3, none⟩ (.int .i64 ((rd_T39 l0 x7_1).f3)))) := ⟨m7_q⟩
    (try clear BK143)
    (try clear HB)
    generalize ((((w18.setCell ⟨gb143, 0, none⟩ (.int .i64 ((rd_T39 l0 x7_1).f0))).setCell ⟨gb143, 1, none⟩ (.slice A142_1 ((rd_T39 l0 x7_1).f1).length c142_1)).setCell ⟨gb143, 2, none⟩ (.int .i64 ((rd_T39 l0 x7_1).f2))).setCell ⟨gb143, 3, none⟩ (.int .i64 ((rd_T39 l0 x7_1).f3))) = w20 at n0_ n1_ ⊢
    have BK143 := n0_
    have HB := n1_
    clear n0_ n1_
    replace BK143 := Ae_q (bW_q BK143.out)
    replace HB := Ae_q (bD_q HB.out)
    have p148 : 0 ≤ ((ji14) : Int) := oD_q (by assumption)
    have q148 : (ji14) < (l0.length : Int) := oD_q (by assumption)
    obtain ⟨ad148, A148_1, c148_1, e148, hx148_0, hx148_1, hx148_2, hx148_3, hl148_1, hi148_1⟩ := at_T39 HR0.out (ji14) p148 q148
    have hw148_3 := hx148_3
    have hw148_2 := hx148_2
    have hw148_1 := hx148_1
    have hw148_0 := hx148_0
    obtain rfl : ad142 = ad148 := (by injection e148)
    replace hx148_0 := cel HB.out hx148_0
    replace hx148_1 := cel HB.out hx148_1
    replace hx148_2 := cel HB.out hx148_2
    replace hx148_3 := cel HB.out hx148_3
    have HR148_1 := Ae_q hi148_1
    have HC148_1 := Ae_q hl148_1
    clear hi148_1 hl148_1
    replace p148 := eq_true p148
    replace q148 := eq_true q148
    refine start_ (n := 39) (S := fun w' => w'.cell? ⟨gb143, 0, none⟩ = some (.int .i64 ((rd_T39 l0 x7_1).f0)) ∧ w'.cell? ⟨gb143, 1, none⟩ = some (.slice A142_1 ((rd_T39 l0 x7_1).f1).length c142_1) ∧ w'.cell? ⟨gb143, 2, none⟩ = some (.int .i64 ((rd_T39 l0 x7_1).f2)) ∧ w'.cell? ⟨gb143, 3, none⟩ = some (.int .i64 ((rd_T39 l0 x7_1).f3)) ∧ w'.cell? (ad142.add (((ji14)).toNat * 4)) = some (.int .i64 ((rd_T39 l0 (ji14)).f0)) ∧ w'.cell? ⟨(ad142.add (((ji14)).toNat * 4)).block, (ad142.add (((ji14)).toNat * 4)).off + 1, none⟩ = some (.slice A148_1 ((rd_T39 l0 (ji14)).f1).length c148_1) ∧ w'.cell? ⟨(ad142.add (((ji14)).toNat * 4)).block, (ad142.add (((ji14)).toNat * 4)).off + 2, none⟩ = some (.int .i64 ((rd_T39 l0 (ji14)).f2)) ∧ w'.cell? ⟨(ad142.add (((ji14)).toNat * 4)).block, (ad142.add (((ji14)).toNat * 4)).off + 3, none⟩ = some (.int .i64 ((rd_T39 l0 (ji14)).f3))) (ds := []) #[false, false, false, false, false, false, false, false, false, false, false, false, false, false, false, false, false, false, false, false, false, false, false, false, false, false, false, false, false, false, false, false, false, false, false, false, false, false, false] m5_q rfl rfl ⟨(bC_q BK143.out 0).trans rfl, (bC_q BK143.out 1).trans rfl, (bC_q BK143.out 2).trans rfl, (bC_q BK143.out 3).trans rfl, (cel HB.out hw148_0), (cel HB.out hw148_1), (cel HB.out hw148_2), (cel HB.out hw148_3)⟩ (fun hHeld => ?_); refine with_tabW impl_BatchesValid.tab4 impl_BatchesValid.bits4 (fun HT_ HW_ => ?_)
    generalize w20.drew = w21 at BK143 HB HR148_1 hx148_0 hx148_1 hx148_2 hx148_3 hHeld ⊢
    refine pJ HT_ 0 12 rfl rfl ?_
    refine take_ (i := 1) (N := some 13) (v := ?_) (a' := ?_) #[true, true, false, false, false, false, false, false, false, false, false, false, false, false, false, false, false, false, false, false, false, false, false, false, false, false, false, false, false, false, false, false, false, false, false, false, false, false, false] rfl rfl (take_ofW HT_.out HW_.out m5_q) (fun _ _ _ h => h) (Or.inl ⟨by rfl, ?_⟩) hHeld ?_ ?_
    rotate_left
    ·rintro w' ⟨s0, s1, s2, s3, s4, s5, s6, s7⟩
     go_simp
     with_reducible rfl
    rotate_left
    ·simp only [pS_q]
     rfl
    refine one_ (i := 2) (N := some 14) #[true, true, true, false, false, false, false, false, false, false, false, false, false, false, false, false, false, false, false, false, false, false, false, false, false, false, false, false, false, false, false, false, false, false, false, false, false, false, false] rfl rfl (one_of HT_.out m5_q) (by decide) (fun K hK => ?_)
    refine goes_ Try.func44 m5_q rfl #[.int .i64 ((rd_T39 l0 x7_1).f0)] (by rfl) rfl rfl m0_q ?_
    with_reducible refine (impl_isId.calls ((rd_T39 l0 x7_1).f0) true _ A5.out).mono ?_
    rintro e w' ⟨rfl, ⟨nd, rfl⟩⟩
    refine ⟨_, rfl, ?_⟩
    refine hK.out _ _ ⟨(bC_q BK143.out 0).trans rfl, (bC_q BK143.out 1).trans rfl, (bC_q BK143.out 2).trans rfl, (bC_q BK143.out 3).trans rfl, (cel (bel HB.out) hw148_0), (cel (bel HB.out) hw148_1), (cel (bel HB.out) hw148_2), (cel (bel HB.out) hw148_3)⟩ (fun hHeld => ?_)
    clear hK K
    refine nJ_q ?_
    refine pJ HT_ 3 15 rfl rfl ?_
    refine pJ HT_ 4 16 rfl rfl ?_
    refine pJ HT_ 5 17 rfl rfl ?_
    refine take_ (i := 6) (N := some 18) (v := ?_) (a' := ?_) #[true, true, true, true, true, true, true, false, false, false, false, false, false, false, false, false, false, false, false, false, false, false, false, false, false, false, false, false, false, false, false, false, false, false, false, false, false, false, false] rfl rfl (take_ofW HT_.out HW_.out m5_q) (fun _ _ _ h => h) (Or.inl ⟨by rfl, ?_⟩) hHeld ?_ ?_
    rotate_left
    ·rintro w' ⟨s0, s1, s2, s3, s4, s5, s6, s7⟩
     go_simp
     with_reducible rfl
    rotate_left
    ·simp only [pS_q]
     rfl
    refine one_ (i := 7) (N := some 19) #[true, true, true, true, true, true, true, true, false, false, false, false, false, false, false, false, false, false, false, false, false, false, false, false, false, false, false, false, false, false, false, false, false, false, false, false, false, false, false] rfl rfl (one_of HT_.out m5_q) (by decide) (fun K hK => ?_)
    refine goes_ Try.func45 m5_q rfl #[.slice A142_1 ((rd_T39 l0 x7_1).f1).length c142_1] (by rfl) rfl rfl m0_q ?_
    with_reducible refine (impl_idsAscend.calls k1 _ _ ((rd_T39 l0 x7_1).f1) true _ ?side1 ?side2 A7.out).mono ?_
    (case side1 => exact m66_q)
    (case side2 => exact HC142_1.out)
    rintro e w' ⟨rfl, ⟨nd, rfl⟩⟩
    refine ⟨_, rfl, ?_⟩
    refine hK.out _ _ ⟨(bC_q BK143.out 0).trans rfl, (bC_q BK143.out 1).trans rfl, (bC_q BK143.out 2).trans rfl, (bC_q BK143.out 3).trans rfl, (cel (bel HB.out) hw148_0), (cel (bel HB.out) hw148_1), (cel (bel HB.out) hw148_2), (cel (bel HB.out) hw148_3)⟩ (fun hHeld => ?_)
    clear hK K
    refine nJ_q ?_
    refine pJ HT_ 8 20 rfl rfl ?_
    refine pJ HT_ 9 21 rfl rfl ?_
    refine pJ HT_ 10 22 rfl rfl ?_
    refine pJ HT_ 11 23 rfl rfl ?_
    refine take_ (i := 12) (N := some 24) (v := ?_) (a' := ?_) #[true, true, true, true, true, true, true, true, true, true, true, true, true, false, false, false, false, false, false, false, false, false, false, false, false, false, false, false, false, false, false, false, false, false, false, false, false, false, false] rfl rfl (take_ofW HT_.out HW_.out m5_q) (fun _ _ _ h => h) (Or.inl ⟨by rfl, ?_⟩) hHeld ?_ ?_
    rotate_left
    ·rintro w' ⟨s0, s1, s2, s3, s4, s5, s6, s7⟩
     go_simp
     with_reducible rfl
    rotate_left
    ·simp only [pS_q]
     rfl
    refine one_ (i := 13) (N := some 25) #[true, true, true, true, true, true, true, true, true, true, true, true, true, true, false, false, false, false, false, false, false, false, false, false, false, false, false, false, false, false, false, false, false, false, false, false, false, false, false] rfl rfl (one_of HT_.out m5_q) (by decide) (fun K hK => ?_)
    refine goes_ Try.func46 m5_q rfl #[.int .i64 ((rd_T39 l0 x7_1).f2)] (by rfl) rfl rfl m0_q ?_
    with_reducible refine (impl_isMinute.calls ((rd_T39 l0 x7_1).f2) true _ A9.out).mono ?_
    rintro e w' ⟨rfl, ⟨nd, rfl⟩⟩
    refine ⟨_, rfl, ?_⟩
    refine hK.out _ _ ⟨(bC_q BK143.out 0).trans rfl, (bC_q BK143.out 1).trans rfl, (bC_q BK143.out 2).trans rfl, (bC_q BK143.out 3).trans rfl, (cel (bel HB.out) hw148_0), (cel (bel HB.out) hw148_1), (cel (bel HB.out) hw148_2), (cel (bel HB.out) hw148_3)⟩ (fun hHeld => ?_)
    clear hK K
    refine nJ_q ?_
    refine pJ HT_ 14 26 rfl rfl ?_
    refine pJ HT_ 15 27 rfl rfl ?_
    refine pJ HT_ 16 28 rfl rfl ?_
    refine pJ HT_ 17 29 rfl rfl ?_
    refine pJ HT_ 19 31 rfl rfl ?_
    refine take_ (i := 18) (N := some 30) (v := ?_) (a' := ?_) #[true, true, true, true, true, true, true, true, true, true, true, true, true, true, true, true, true, true, true, true, false, false, false, false, false, false, false, false, false, false, false, false, false, false, false, false, false, false, false] rfl rfl (take_ofW HT_.out HW_.out m5_q) (fun _ _ _ h => h) (Or.inl ⟨by rfl, ?_⟩) hHeld ?_ ?_
    rotate_left
    ·rintro w' ⟨s0, s1, s2, s3, s4, s5, s6, s7⟩
     go_simp
     with_reducible rfl
    rotate_left
    ·simp only [pS_q]
     rfl
    refine take_ (i := 20) (N := some 32) (v := ?_) (a' := ?_) #[true, true, true, true, true, true, true, true, true, true, true, true, true, true, true, true, true, true, true, true, true, false, false, false, false, false, false, false, false, false, false, false, false, false, false, false, false, false, false] rfl rfl (take_ofW HT_.out HW_.out m5_q) (fun _ _ _ h => h) (Or.inl ⟨by rfl, ?_⟩) hHeld ?_ ?_
    rotate_left
    ·rintro w' ⟨s0, s1, s2, s3, s4, s5, s6, s7⟩
     go_simp
     with_reducible rfl
    rotate_left
    ·simp only [pS_q]
     rfl
    refine one_ (i := 21) (N := some 33) #[true, true, true, true, true, true, true, true, true, true, true, true, true, true, true, true, true, true, true, true, true, true, false, false, false, false, false, false, false, false, false, false, false, false, false, false, false, false, false] rfl rfl (one_of HT_.out m5_q) (by decide) (fun K hK => ?_)
    refine goes_ Try.func47 m5_q rfl #[.int .i64 ((rd_T39 l0 x7_1).f3), .int .i64 ((rd_T39 l0 x7_1).f2), .int .i64 1439] (by rfl) rfl rfl m0_q ?_
    with_reducible refine (impl_within.calls ((rd_T39 l0 x7_1).f3) ((rd_T39 l0 x7_1).f2) 1439 true _ A11.out).mono ?_
    rintro e w' ⟨rfl, ⟨nd, rfl⟩⟩
    refine ⟨_, rfl, ?_⟩
    refine hK.out _ _ ⟨(bC_q BK143.out 0).trans rfl, (bC_q BK143.out 1).trans rfl, (bC_q BK143.out 2).trans rfl, (bC_q BK143.out 3).trans rfl, (cel (bel HB.out) hw148_0), (cel (bel HB.out) hw148_1), (cel (bel HB.out) hw148_2), (cel (bel HB.out) hw148_3)⟩ (fun hHeld => ?_)
    clear hK K
    refine nJ_q ?_
    refine pJ HT_ 22 34 rfl rfl ?_
    refine pJ HT_ 23 35 rfl rfl ?_
    refine pJ HT_ 24 36 rfl rfl ?_
    refine pJ HT_ 25 37 rfl rfl ?_
    refine pJ HT_ 26 38 rfl rfl ?_
    refine pJ HT_ 27 39 rfl rfl ?_
    refine pJ HT_ 28 40 rfl rfl ?_
    refine pJ HT_ 29 41 rfl rfl ?_
    refine pJ HT_ 30 42 rfl rfl ?_
    refine pJ HT_ 31 43 rfl rfl ?_
    refine pJ HT_ 32 44 rfl rfl ?_
    refine pJ HT_ 34 46 rfl rfl ?_
    refine take_ (i := 33) (N := some 45) (v := ?_) (a' := ?_) #[true, true, true, true, true, true, true, true, true, true, true, true, true, true, true, true, true, true, true, true, true, true, true, true, true, true, true, true, true, true, true, true, true, true, true, false, false, false, false] rfl rfl (take_ofW HT_.out HW_.out m5_q) (fun _ _ _ h => h) (Or.inl ⟨by rfl, ?_⟩) hHeld ?_ ?_
    rotate_left
    ·rintro w' ⟨s0, s1, s2, s3, s4, s5, s6, s7⟩
     go_simp
     with_reducible rfl
    rotate_left
    ·simp only [pS_q]
     rfl
    refine take_ (i := 35) (N := some 47) (v := ?_) (a' := ?_) #[true, true, true, true, true, true, true, true, true, true, true, true, true, true, true, true, true, true, true, true, true, true, true, true, true, true, true, true, true, true, true, true, true, true, true, true, false, false, false] rfl rfl (take_ofW HT_.out HW_.out m5_q) (fun _ _ _ h => h) (Or.inl ⟨by rfl, ?_⟩) hHeld ?_ ?_
    rotate_left
    ·rintro w' ⟨s0, s1, s2, s3, s4, s5, s6, s7⟩
     go_simp
     with_reducible rfl
    rotate_left
    ·simp only [pS_q]
     rfl
    refine pJ HT_ 36 48 rfl rfl ?_
    refine pJ HT_ 37 49 rfl rfl ?_
    refine pJ HT_ 38 50 rfl rfl ?_
    refine done_ (done_of HT_.out m5_q) ?_
    try go_wp2
    go_ret
    exact ⟨by first | rfl | (simp [eN_q, eS_q] <;> rfl) | (simp only [← hji14]; first | rfl | (simp [eN_q, eS_q] <;> rfl)) | (simp [*, eN_q, eS_q] <;> rfl), m7_q⟩
   rw [if_neg c17] at H
   have c17b0 : decide (((rd_T39 l0 x7_1).f0) ≤ ((rd_T39 l0 (ji14)).f0)) = false := dF_q c17
   clear c17
   have H' := Ae_q H
   clear H
   have p142 : 0 ≤ (x7_1 : Int) := oD_q (by assumption)
   have q142 : x7_1 < (l0.length : Int) := oD_q (by assumption)
   obtain ⟨ad142, A142_1, c142_1, e142, hx142_0, hx142_1, hx142_2, hx142_3, hl142_1, hi142_1⟩ := at_T39 HR0.out x7_1 p142 q142
   cases e142
   replace hx142_0 := cel HB.out hx142_0
   replace hx142_1 := cel HB.out hx142_1
   replace hx142_2 := cel HB.out hx142_2
   replace hx142_3 := cel HB.out hx142_3
   have HR142_1 := Ae_q hi142_1
   have HC142_1 := Ae_q hl142_1
   clear hi142_1 hl142_1
   replace p142 := eq_true p142
   replace q142 := eq_true q142
   try go_wp2_with (first | ((with_reducible refine gD_q (N := 4) rfl ?_); refine bE_q ?hg (N := 4) ?hd (cs := #[.int .i64 0, .slice none 0 0, .int .i64 0, .int .i64 0]) (t := 39) ?hr ?_; (case hd => rfl); (case hg => rfl); (case hr => exact m6_q); intro gb143 hg w22 hbox hb; have BK143 := Ae_q (hbox); have GW143 := Ae_q ((by rw [hg]; exact (bZ_q (bel HB.out)) : w.heap.size ≤ gb143)); have GE143 := Ae_q ((by rw [hg]; exact (bZ_q (bel HB.out)) : w.heap.size ≤ gb143)); replace HB := Ae_q (bT_q (bel HB.out) hb); clear hb hbox hg; have hcz23_0 : cI w22 gb143 0 0 := cZ BK143 0 rfl; have hcz23_1 : w22.cell? ⟨gb143, 1, none⟩ = some (.slice none 0 0) := (bC_q BK143.out 1).trans rfl; have hcz23_2 : cI w22 gb143 2 0 := cZ BK143 2 rfl; have hcz23_3 : cI w22 gb143 3 0 := cZ BK143 3 rfl; have hfz23_0 := bF_q BK143.out 0; have hfz23_1 := bF_q BK143.out 1; have hfz23_2 := bF_q BK143.out 2; have hfz23_3 := bF_q BK143.out 3))
   have n0_ : Aside0 (((((w22.setCell ⟨gb143, 0, none⟩ (.int .i64 ((rd_T39 l0 x7_1).f0))).setCell ⟨gb143, 1, none⟩ (.slice A142_1 ((rd_T39 l0 x7_1).f1).length c142_1)).setCell ⟨gb143, 2, none⟩ (.int .i64 ((rd_T39 l0 x7_1).f2))).setCell ⟨gb143, 3, none⟩ (.int .i64 ((rd_T39 l0 x7_1).f3))).heap[gb143]? = some (.cells #[.int .i64 ((rd_T39 l0 x7_1).f0), .slice A142_1 ((rd_T39 l0 x7_1).f1).length c142_1, .int .i64 ((rd_T39 l0 x7_1).f2), .int .i64 ((rd_T39 l0 x7_1).f3)] 39 (0, 0))) := ⟨m1_q⟩
   have n1_ : Aside0 (Below w.heap.size w ((((w22.setCell ⟨gb143, 0, none⟩ (.int .i64 ((rd_T39 l0 x7_1).f0))).setCell ⟨gb143, 1, none⟩ (.slice A142_1 ((rd_T39 l0 x7_1).f1).length c142_1)).setCell ⟨gb143, 2, none⟩ (.int .i64 ((rd_T39 l0 x7_1).f2))).setCell ⟨gb143, 3, none⟩ (.int .i64 ((rd_T39 l0 x7_1).f3)))) := ⟨m7_q⟩
   (try clear BK143)
   (try clear HB)
   generalize ((((w22.setCell ⟨gb143, 0, none⟩ (.int .i64 ((rd_T39 l0 x7_1).f0))).setCell ⟨gb143, 1, none⟩ (.slice A142_1 ((rd_T39 l0 x7_1).f1).length c142_1)).setCell ⟨gb143, 2, none⟩ (.int .i64 ((rd_T39 l0 x7_1).f2))).setCell ⟨gb143, 3, none⟩ (.int .i64 ((rd_T39 l0 x7_1).f3))) = w24 at n0_ n1_ ⊢
   have BK143 := n0_
   have HB := n1_
   clear n0_ n1_
   replace BK143 := Ae_q (bW_q BK143.out)
   replace HB := Ae_q (bD_q HB.out)
   have p148 : 0 ≤ ((ji14) : Int) := oD_q (by assumption)
   have q148 : (ji14) < (l0.length : Int) := oD_q (by assumption)
   obtain ⟨ad148, A148_1, c148_1, e148, hx148_0, hx148_1, hx148_2, hx148_3, hl148_1, hi148_1⟩ := at_T39 HR0.out (ji14) p148 q148
   have hw148_3 := hx148_3
   have hw148_2 := hx148_2
   have hw148_1 := hx148_1
   have hw148_0 := hx148_0
   obtain rfl : ad142 = ad148 := (by injection e148)
   replace hx148_0 := cel HB.out hx148_0
   replace hx148_1 := cel HB.out hx148_1
   replace hx148_2 := cel HB.out hx148_2
   replace hx148_3 := cel HB.out hx148_3
   have HR148_1 := Ae_q hi148_1
   have HC148_1 := Ae_q hl148_1
   clear hi148_1 hl148_1
   replace p148 := eq_true p148
   replace q148 := eq_true q148
   refine start_ (n := 39) (S := fun w' => w'.cell? ⟨gb143, 0, none⟩ = some (.int .i64 ((rd_T39 l0 x7_1).f0)) ∧ w'.cell? ⟨gb143, 1, none⟩ = some (.slice A142_1 ((rd_T39 l0 x7_1).f1).length c142_1) ∧ w'.cell? ⟨gb143, 2, none⟩ = some (.int .i64 ((rd_T39 l0 x7_1).f2)) ∧ w'.cell? ⟨gb143, 3, none⟩ = some (.int .i64 ((rd_T39 l0 x7_1).f3)) ∧ w'.cell? (ad142.add (((ji14)).toNat * 4)) = some (.int .i64 ((rd_T39 l0 (ji14)).f0)) ∧ w'.cell? ⟨(ad142.add (((ji14)).toNat * 4)).block, (ad142.add (((ji14)).toNat * 4)).off + 1, none⟩ = some (.slice A148_1 ((rd_T39 l0 (ji14)).f1).length c148_1) ∧ w'.cell? ⟨(ad142.add (((ji14)).toNat * 4)).block, (ad142.add (((ji14)).toNat * 4)).off + 2, none⟩ = some (.int .i64 ((rd_T39 l0 (ji14)).f2)) ∧ w'.cell? ⟨(ad142.add (((ji14)).toNat * 4)).block, (ad142.add (((ji14)).toNat * 4)).off + 3, none⟩ = some (.int .i64 ((rd_T39 l0 (ji14)).f3))) (ds := []) #[false, false, false, false, false, false, false, false, false, false, false, false, false, false, false, false, false, false, false, false, false, false, false, false, false, false, false, false, false, false, false, false, false, false, false, false, false, false, false] m5_q rfl rfl ⟨(bC_q BK143.out 0).trans rfl, (bC_q BK143.out 1).trans rfl, (bC_q BK143.out 2).trans rfl, (bC_q BK143.out 3).trans rfl, (cel HB.out hw148_0), (cel HB.out hw148_1), (cel HB.out hw148_2), (cel HB.out hw148_3)⟩ (fun hHeld => ?_); refine with_tabW impl_BatchesValid.tab4 impl_BatchesValid.bits4 (fun HT_ HW_ => ?_)
   generalize w24.drew = w25 at BK143 HB HR148_1 hx148_0 hx148_1 hx148_2 hx148_3 hHeld ⊢
   refine pJ HT_ 0 12 rfl rfl ?_
   refine take_ (i := 1) (N := some 13) (v := ?_) (a' := ?_) #[true, true, false, false, false, false, false, false, false, false, false, false, false, false, false, false, false, false, false, false, false, false, false, false, false, false, false, false, false, false, false, false, false, false, false, false, false, false, false] rfl rfl (take_ofW HT_.out HW_.out m5_q) (fun _ _ _ h => h) (Or.inl ⟨by rfl, ?_⟩) hHeld ?_ ?_
   rotate_left
   ·rintro w' ⟨s0, s1, s2, s3, s4, s5, s6, s7⟩
    go_simp
    with_reducible rfl
   rotate_left
   ·simp only [pS_q]
    rfl
   refine one_ (i := 2) (N := some 14) #[true, true, true, false, false, false, false, false, false, false, false, false, false, false, false, false, false, false, false, false, false, false, false, false, false, false, false, false, false, false, false, false, false, false, false, false, false, false, false] rfl rfl (one_of HT_.out m5_q) (by decide) (fun K hK => ?_)
   refine goes_ Try.func44 m5_q rfl #[.int .i64 ((rd_T39 l0 x7_1).f0)] (by rfl) rfl rfl m0_q ?_
   with_reducible refine (impl_isId.calls ((rd_T39 l0 x7_1).f0) true _ A5.out).mono ?_
   rintro e w' ⟨rfl, ⟨nd, rfl⟩⟩
   refine ⟨_, rfl, ?_⟩
   refine hK.out _ _ ⟨(bC_q BK143.out 0).trans rfl, (bC_q BK143.out 1).trans rfl, (bC_q BK143.out 2).trans rfl, (bC_q BK143.out 3).trans rfl, (cel (bel HB.out) hw148_0), (cel (bel HB.out) hw148_1), (cel (bel HB.out) hw148_2), (cel (bel HB.out) hw148_3)⟩ (fun hHeld => ?_)
   clear hK K
   refine nJ_q ?_
   refine pJ HT_ 3 15 rfl rfl ?_
   refine pJ HT_ 4 16 rfl rfl ?_
   refine pJ HT_ 5 17 rfl rfl ?_
   refine take_ (i := 6) (N := some 18) (v := ?_) (a' := ?_) #[true, true, true, true, true, true, true, false, false, false, false, false, false, false, false, false, false, false, false, false, false, false, false, false, false, false, false, false, false, false, false, false, false, false, false, false, false, false, false] rfl rfl (take_ofW HT_.out HW_.out m5_q) (fun _ _ _ h => h) (Or.inl ⟨by rfl, ?_⟩) hHeld ?_ ?_
   rotate_left
   ·rintro w' ⟨s0, s1, s2, s3, s4, s5, s6, s7⟩
    go_simp
    with_reducible rfl
   rotate_left
   ·simp only [pS_q]
    rfl
   refine one_ (i := 7) (N := some 19) #[true, true, true, true, true, true, true, true, false, false, false, false, false, false, false, false, false, false, false, false, false, false, false, false, false, false, false, false, false, false, false, false, false, false, false, false, false, false, false] rfl rfl (one_of HT_.out m5_q) (by decide) (fun K hK => ?_)
   refine goes_ Try.func45 m5_q rfl #[.slice A142_1 ((rd_T39 l0 x7_1).f1).length c142_1] (by rfl) rfl rfl m0_q ?_
   with_reducible refine (impl_idsAscend.calls k1 _ _ ((rd_T39 l0 x7_1).f1) true _ ?side1 ?side2 A7.out).mono ?_
   (case side1 => exact m66_q)
   (case side2 => exact HC142_1.out)
   rintro e w' ⟨rfl, ⟨nd, rfl⟩⟩
   refine ⟨_, rfl, ?_⟩
   refine hK.out _ _ ⟨(bC_q BK143.out 0).trans rfl, (bC_q BK143.out 1).trans rfl, (bC_q BK143.out 2).trans rfl, (bC_q BK143.out 3).trans rfl, (cel (bel HB.out) hw148_0), (cel (bel HB.out) hw148_1), (cel (bel HB.out) hw148_2), (cel (bel HB.out) hw148_3)⟩ (fun hHeld => ?_)
   clear hK K
   refine nJ_q ?_
   refine pJ HT_ 8 20 rfl rfl ?_
   refine pJ HT_ 9 21 rfl rfl ?_
   refine pJ HT_ 10 22 rfl rfl ?_
   refine pJ HT_ 11 23 rfl rfl ?_
   refine take_ (i := 12) (N := some 24) (v := ?_) (a' := ?_) #[true, true, true, true, true, true, true, true, true, true, true, true, true, false, false, false, false, false, false, false, false, false, false, false, false, false, false, false, false, false, false, false, false, false, false, false, false, false, false] rfl rfl (take_ofW HT_.out HW_.out m5_q) (fun _ _ _ h => h) (Or.inl ⟨by rfl, ?_⟩) hHeld ?_ ?_
   rotate_left
   ·rintro w' ⟨s0, s1, s2, s3, s4, s5, s6, s7⟩
    go_simp
    with_reducible rfl
   rotate_left
   ·simp only [pS_q]
    rfl
   refine one_ (i := 13) (N := some 25) #[true, true, true, true, true, true, true, true, true, true, true, true, true, true, false, false, false, false, false, false, false, false, false, false, false, false, false, false, false, false, false, false, false, false, false, false, false, false, false] rfl rfl (one_of HT_.out m5_q) (by decide) (fun K hK => ?_)
   refine goes_ Try.func46 m5_q rfl #[.int .i64 ((rd_T39 l0 x7_1).f2)] (by rfl) rfl rfl m0_q ?_
   with_reducible refine (impl_isMinute.calls ((rd_T39 l0 x7_1).f2) true _ A9.out).mono ?_
   rintro e w' ⟨rfl, ⟨nd, rfl⟩⟩
   refine ⟨_, rfl, ?_⟩
   refine hK.out _ _ ⟨(bC_q BK143.out 0).trans rfl, (bC_q BK143.out 1).trans rfl, (bC_q BK143.out 2).trans rfl, (bC_q BK143.out 3).trans rfl, (cel (bel HB.out) hw148_0), (cel (bel HB.out) hw148_1), (cel (bel HB.out) hw148_2), (cel (bel HB.out) hw148_3)⟩ (fun hHeld => ?_)
   clear hK K
   refine nJ_q ?_
   refine pJ HT_ 14 26 rfl rfl ?_
   refine pJ HT_ 15 27 rfl rfl ?_
   refine pJ HT_ 16 28 rfl rfl ?_
   refine pJ HT_ 17 29 rfl rfl ?_
   refine pJ HT_ 19 31 rfl rfl ?_
   refine take_ (i := 18) (N := some 30) (v := ?_) (a' := ?_) #[true, true, true, true, true, true, true, true, true, true, true, true, true, true, true, true, true, true, true, true, false, false, false, false, false, false, false, false, false, false, false, false, false, false, false, false, false, false, false] rfl rfl (take_ofW HT_.out HW_.out m5_q) (fun _ _ _ h => h) (Or.inl ⟨by rfl, ?_⟩) hHeld ?_ ?_
   rotate_left
   ·rintro w' ⟨s0, s1, s2, s3, s4, s5, s6, s7⟩
    go_simp
    with_reducible rfl
   rotate_left
   ·simp only [pS_q]
    rfl
   refine take_ (i := 20) (N := some 32) (v := ?_) (a' := ?_) #[true, true, true, true, true, true, true, true, true, true, true, true, true, true, true, true, true, true, true, true, true, false, false, false, false, false, false, false, false, false, false, false, false, false, false, false, false, false, false] rfl rfl (take_ofW HT_.out HW_.out m5_q) (fun _ _ _ h => h) (Or.inl ⟨by rfl, ?_⟩) hHeld ?_ ?_
   rotate_left
   ·rintro w' ⟨s0, s1, s2, s3, s4, s5, s6, s7⟩
    go_simp
    with_reducible rfl
   rotate_left
   ·simp only [pS_q]
    rfl
   refine one_ (i := 21) (N := some 33) #[true, true, true, true, true, true, true, true, true, true, true, true, true, true, true, true, true, true, true, true, true, true, false, false, false, false, false, false, false, false, false, false, false, false, false, false, false, false, false] rfl rfl (one_of HT_.out m5_q) (by decide) (fun K hK => ?_)
   refine goes_ Try.func47 m5_q rfl #[.int .i64 ((rd_T39 l0 x7_1).f3), .int .i64 ((rd_T39 l0 x7_1).f2), .int .i64 1439] (by rfl) rfl rfl m0_q ?_
   with_reducible refine (impl_within.calls ((rd_T39 l0 x7_1).f3) ((rd_T39 l0 x7_1).f2) 1439 true _ A11.out).mono ?_
   rintro e w' ⟨rfl, ⟨nd, rfl⟩⟩
   refine ⟨_, rfl, ?_⟩
   refine hK.out _ _ ⟨(bC_q BK143.out 0).trans rfl, (bC_q BK143.out 1).trans rfl, (bC_q BK143.out 2).trans rfl, (bC_q BK143.out 3).trans rfl, (cel (bel HB.out) hw148_0), (cel (bel HB.out) hw148_1), (cel (bel HB.out) hw148_2), (cel (bel HB.out) hw148_3)⟩ (fun hHeld => ?_)
   clear hK K
   refine nJ_q ?_
   refine pJ HT_ 22 34 rfl rfl ?_
   refine pJ HT_ 23 35 rfl rfl ?_
   refine pJ HT_ 24 36 rfl rfl ?_
   refine pJ HT_ 25 37 rfl rfl ?_
   refine pJ HT_ 26 38 rfl rfl ?_
   refine pJ HT_ 27 39 rfl rfl ?_
   refine pJ HT_ 28 40 rfl rfl ?_
   refine pJ HT_ 29 41 rfl rfl ?_
   refine pJ HT_ 30 42 rfl rfl ?_
   refine pJ HT_ 31 43 rfl rfl ?_
   refine pJ HT_ 32 44 rfl rfl ?_
   refine pJ HT_ 34 46 rfl rfl ?_
   refine take_ (i := 33) (N := some 45) (v := ?_) (a' := ?_) #[true, true, true, true, true, true, true, true, true, true, true, true, true, true, true, true, true, true, true, true, true, true, true, true, true, true, true, true, true, true, true, true, true, true, true, false, false, false, false] rfl rfl (take_ofW HT_.out HW_.out m5_q) (fun _ _ _ h => h) (Or.inl ⟨by rfl, ?_⟩) hHeld ?_ ?_
   rotate_left
   ·rintro w' ⟨s0, s1, s2, s3, s4, s5, s6, s7⟩
    go_simp
    with_reducible rfl
   rotate_left
   ·simp only [pS_q]
    rfl
   refine take_ (i := 35) (N := some 47) (v := ?_) (a' := ?_) #[true, true, true, true, true, true, true, true, true, true, true, true, true, true, true, true, true, true, true, true, true, true, true, true, true, true, true, true, true, true, true, true, true, true, true, true, false, false, false] rfl rfl (take_ofW HT_.out HW_.out m5_q) (fun _ _ _ h => h) (Or.inl ⟨by rfl, ?_⟩) hHeld ?_ ?_
   rotate_left
   ·rintro w' ⟨s0, s1, s2, s3, s4, s5, s6, s7⟩
    go_simp
    with_reducible rfl
   rotate_left
   ·simp only [pS_q]
    rfl
   refine pJ HT_ 36 48 rfl rfl ?_
   refine pJ HT_ 37 49 rfl rfl ?_
   refine pJ HT_ 38 50 rfl rfl ?_
   refine done_ (done_of HT_.out m5_q) ?_
   try go_wp2
   go_roundg k1
   case measure => have := HK1.out; omega
   case rel => exact ⟨(wrap64 (x7_1 + 1)), m3_q, H', ⟨m28_q⟩, ⟨m7_q⟩⟩

end Go.Proofs.Ytnckblolijkdaaa.PBt
