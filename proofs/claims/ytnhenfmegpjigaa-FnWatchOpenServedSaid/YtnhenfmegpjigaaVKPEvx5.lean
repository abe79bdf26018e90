import Derived.Test.YtnhenfmegpjigaaVKPEvx0
import Derived.Test.YtnhenfmegpjigaaVKPEvx4
namespace Go.Proofs.Ytnhenfmegpjigaa.PEv
open Go.RowKit Go.Proofs.YtnhenfmegpjigaaW.PrintWords Go.Proofs.YtnhenfmegpjigaaW.PrintLast Go.Proofs.YtnhenfmegpjigaaW.PrintMore
attribute [local go_sem] max2_int min2_int max_two min_two max_three min_three max_four min_four
set_option linter.unusedVariables false
set_option linter.unusedSimpArgs false

def impl_EventsValid.l0 : Nat → List (S27) → List (S27) → Int → Int → Option (Bool)
 | 0, _, _, _, _ => none
 | k + 1, x0, x5, x6, x7 => if x7 < x6 then (if 0 ≤ x7 then (if x7 < (x5.length : Int) then ((impl_eventValid.f k ((rd_T27 x5 x7).f0) ((rd_T27 x5 x7).f1) ((rd_T27 x5 x7).f2) ((rd_T27 x5 x7).f3) ((rd_T27 x5 x7).f4) ((rd_T27 x5 x7).f5)).bind fun t186 => (if t186 = true then (if x7 > 0 then (if 0 ≤ (wrap64 (x7 - 1)) then (if (wrap64 (x7 - 1)) < (x0.length : Int) then (if ((rd_T27 x0 (wrap64 (x7 - 1))).f1) > ((rd_T27 x5 x7).f1) then (some false) else (impl_EventsValid.l0 k x0 x5 x6 (wrap64 (x7 + 1)))) else (none)) else (none)) else (impl_EventsValid.l0 k x0 x5 x6 (wrap64 (x7 + 1)))) else (some false))) else (none)) else (none)) else (some (decide ((x0.length : Int) ≤ 24)))
def impl_EventsValid.f (k : Nat) (l0 : List (S27)) : Option (Bool) := impl_EventsValid.l0 k l0 l0 (l0.length : Int) 0
def impl_EventsValid.T4 : Bool × List (List Nat × List Nat) := (true, [([], []), ([0], [0]), ([1], [1]), ([2, 1], [2]), ([3], [3]), ([4, 3], [3, 4]), ([5, 3, 3], [3, 5]), ([6], [6]), ([6], [6]), ([8, 6], [6, 8]), ([7, 9, 6], [6, 7, 9]), ([10, 6], [6, 10]), ([11, 6], [6, 11]), ([6], [6]), ([13, 6], [6, 13]), ([12, 14, 6], [6, 12, 14]), ([6, 15, 3], [3, 6, 15]), ([3, 16], [3, 16])])
def impl_EventsValid.B4 : List Nat := [0, 1, 3, 7, 15, 31, 63, 127, 127, 383, 1023, 2047, 4095, 127, 8319, 32767, 65535, 131071]
theorem impl_EventsValid.tab4 : rtab .any (opsOf Try.f16 4) = impl_EventsValid.T4 := by kernel_rfl
theorem impl_EventsValid.bits4 : waitsOk impl_EventsValid.T4.2 impl_EventsValid.B4 = true := by kernel_rfl
set_option maxHeartbeats 8000000 in
set_option maxRecDepth 100000 in
theorem impl_EventsValid.calls (k : Nat) (A0 : Option Addr) (c0 : Nat) (l0 : List (S27)) (r : Bool) (w : World) (hr0 : Kd.C k27 w A0 l0.length l0) (hc0 : l0.length ≤ c0) (h : impl_EventsValid.f k l0 = some r) :
    Calls Try.prog 16 #[.slice A0 l0.length c0] w fun e w' => e = .returned (.bool r) ∧ Below w.heap.size w w' := by
 have hu27 := Try.underlying27
 have HR0 := Ae_q hr0
 have HC0 := Ae_q hc0
 clear hr0 hc0
 have HB := Ae_q (bR_q w.heap.size w)
 have H : (impl_EventsValid.l0 k l0 l0 (l0.length : Int) 0) = some r := h
 clear h
 have H' := Ae_q H
 clear H
 go_enter Try.func16, Try.ntmps16
 go_wp2
 go_loopg [7] k (fun kq v7 w' => ∃ (x7_1 : Int), v7 = .int .i64 x7_1 ∧ Aside0 (impl_EventsValid.l0 kq l0 l0 (l0.length : Int) x7_1 = some r) ∧ Aside0 (kq ≤ k) ∧ Aside0 (Below w.heap.size w w'))
 case atStart => exact ⟨(0), (by first | rfl | (simp; done) | (simp [*]; done)), H', ⟨nR_q _⟩, ⟨bel HB.out⟩⟩
 case round =>
  clear H'
  try clear c1
  obtain ⟨x7_1, rfl, HA, HK1, HB⟩ := hrel
  cases gk with
  | zero => exact absurd HA.out (by simp [impl_EventsValid.l0])
  | succ k1 =>
   have H := HA.out
   clear HA
   simp only [impl_EventsValid.l0] at H
   by_cases c2 : x7_1 < (l0.length : Int)
   rotate_left
   ·rw [if_neg c2] at H
    have c2b0 : decide (x7_1 < (l0.length : Int)) = false := dF_q c2
    clear c2
    obtain rfl := oI_q H
    go_wp2
    go_ret
    exact ⟨by first | rfl | (simp [eN_q, eS_q] <;> rfl) | (simp [*, eN_q, eS_q] <;> rfl), bel HB.out⟩
   rw [if_pos c2] at H
   have c2b0 : decide (x7_1 < (l0.length : Int)) = true := dT_q c2
   clear c2
   by_cases c3 : 0 ≤ x7_1
   rotate_left
   ·rw [if_neg c3] at H
    exact absurd H (by simp)
   rw [if_pos c3] at H
   have c3b0 : decide (0 ≤ x7_1) = true := dT_q c3
   clear c3
   by_cases c4 : x7_1 < (l0.length : Int)
   rotate_left
   ·rw [if_neg c4] at H
    exact absurd H (by simp)
   rw [if_pos c4] at H
   have c4b0 : decide (x7_1 < (l0.length : Int)) = true := dT_q c4
   clear c4
   replace H := oB_q.mp H
   obtain ⟨t186, A50, H⟩ := H
   replace H : (if t186 = true then (if x7_1 > 0 then (if 0 ≤ (wrap64 (x7_1 - 1)) then (if (wrap64 (x7_1 - 1)) < (l0.length : Int) then (if ((rd_T27 l0 (wrap64 (x7_1 - 1))).f1) > ((rd_T27 l0 x7_1).f1) then (some false) else (impl_EventsValid.l0 k1 l0 l0 (l0.length : Int) (wrap64 (x7_1 + 1)))) else (none)) else (none)) else (impl_EventsValid.l0 k1 l0 l0 (l0.length : Int) (wrap64 (x7_1 + 1)))) else (some false)) = some r := H
   have A5 := Ae_q A50
   clear A50
   by_cases c6 : t186 = true
   rotate_left
   ·replace c6 := fM_q.mpr c6
    subst c6
    have H1 : (some false) = some r := by rw [if_neg (show ¬ (false = true) by decide)] at H; exact H
    clear H
    have H := H1
    clear H1
    obtain rfl := oI_q H
    have p184 : 0 ≤ (x7_1 : Int) := oD_q (by assumption)
    have q184 : x7_1 < (l0.length : Int) := oD_q (by assumption)
    obtain ⟨ad184, e184, hx184_0, hx184_1, hx184_2, hx184_3, hx184_4, hx184_5⟩ := at_T27 HR0.out x7_1 p184 q184
    cases e184
    replace hx184_0 := cel HB.out hx184_0
    replace hx184_1 := cel HB.out hx184_1
    replace hx184_2 := cel HB.out hx184_2
    replace hx184_3 := cel HB.out hx184_3
    replace hx184_4 := cel HB.out hx184_4
    replace hx184_5 := cel HB.out hx184_5
    replace p184 := eq_true p184
    replace q184 := eq_true q184
    try go_wp2_with (first | ((with_reducible refine gD_q (N := 4) rfl ?_); refine bE_q ?hg (N := 4) ?hd (cs := #[.int .i64 0, .int .i64 0, .int .i64 0, .int .i64 0, .int .i64 0, .int .i64 0]) (t := 27) ?hr ?_; (case hd => rfl); (case hg => rfl); (case hr => first | (go_simp; done) | (go_simp; rfl)); intro gb185 hg w27 hbox hb; have n0_ := Ae_q (bT_q (bel HB.out) hb); have n1_ := Ae_q (hbox); have n2_ := Ae_q ((by rw [hg]; exact (bZ_q (bel HB.out)) : w.heap.size ≤ gb185)); have n3_ := Ae_q ((by rw [hg]; exact (bZ_q (bel HB.out)) : w.heap.size ≤ gb185)); clear HB; have HB := n0_; have BK185 := n1_; have GW185 := n2_; have GE185 := n3_; clear n0_ n1_ n2_ n3_; clear hb hbox hg; have hcz28_0 : cI w27 gb185 0 0 := cZ BK185 0 rfl; have hcz28_1 : cI w27 gb185 1 0 := cZ BK185 1 rfl; have hcz28_2 : cI w27 gb185 2 0 := cZ BK185 2 rfl; have hcz28_3 : cI w27 gb185 3 0 := cZ BK185 3 rfl; have hcz28_4 : cI w27 gb185 4 0 := cZ BK185 4 rfl; have hcz28_5 : cI w27 gb185 5 0 := cZ BK185 5 rfl; have hfz28_0 := bF_q BK185.out 0; have hfz28_1 := bF_q BK185.out 1; have hfz28_2 := bF_q BK185.out 2; have hfz28_3 := bF_q BK185.out 3; have hfz28_4 := bF_q BK185.out 4; have hfz28_5 := bF_q BK185.out 5))
    have n0_ : Aside0 (((((((w27.setCell ⟨gb185, 0, none⟩ (.int .i64 ((rd_T27 l0 x7_1).f0))).setCell ⟨gb185, 1, none⟩ (.int .i64 ((rd_T27 l0 x7_1).f1))).setCell ⟨gb185, 2, none⟩ (.int .i64 ((rd_T27 l0 x7_1).f2))).setCell ⟨gb185, 3, none⟩ (.int .i64 ((rd_T27 l0 x7_1).f3))).setCell ⟨gb185, 4, none⟩ (.int .i64 ((rd_T27 l0 x7_1).f4))).setCell ⟨gb185, 5, none⟩ (.int .i64 ((rd_T27 l0 x7_1).f5))).heap[gb185]? = some (.cells #[.int .i64 ((rd_T27 l0 x7_1).f0), .int .i64 ((rd_T27 l0 x7_1).f1), .int .i64 ((rd_T27 l0 x7_1).f2), .int .i64 ((rd_T27 l0 x7_1).f3), .int .i64 ((rd_T27 l0 x7_1).f4), .int .i64 ((rd_T27 l0 x7_1).f5)] 27 (0, 0))) := ⟨by (with_reducible repeat (first | refine bN_q ?_ _ | refine bW_q ?_ | refine bL_q ?_ _)); refine blk_put (cs := #[.int .i64 ((rd_T27 l0 x7_1).f0), .int .i64 ((rd_T27 l0 x7_1).f1), .int .i64 ((rd_T27 l0 x7_1).f2), .int .i64 ((rd_T27 l0 x7_1).f3), .int .i64 ((rd_T27 l0 x7_1).f4), .int .i64 0]) ?_ 5 _ rfl; (with_reducible repeat (first | refine bN_q ?_ _ | refine bW_q ?_ | refine bL_q ?_ _)); refine blk_put (cs := #[.int .i64 ((rd_T27 l0 x7_1).f0), .int .i64 ((rd_T27 l0 x7_1).f1), .int .i64 ((rd_T27 l0 x7_1).f2), .int .i64 ((rd_T27 l0 x7_1).f3), .int .i64 0, .int .i64 0]) ?_ 4 _ rfl; (with_reducible repeat (first | refine bN_q ?_ _ | refine bW_q ?_ | refine bL_q ?_ _)); refine blk_put (cs := #[.int .i64 ((rd_T27 l0 x7_1).f0), .int .i64 ((rd_T27 l0 x7_1).f1), .int .i64 ((rd_T27 l0 x7_1).f2), .int .i64 0, .int .i64 0, .int .i64 0]) ?_ 3 _ rfl; (with_reducible repeat (first | refine bN_q ?_ _ | refine bW_q ?_ | refine bL_q ?_ _)); refine blk_put (cs := #[.int .i64 ((rd_T27 l0 x7_1).f0), .int .i64 ((rd_T27 l0 x7_1).f1), .int .i64 0, .int .i64 0, .int .i64 0, .int .i64 0]) ?_ 2 _ rfl; (with_reducible repeat (first | refine bN_q ?_ _ | refine bW_q ?_ | refine bL_q ?_ _)); refine blk_put (cs := #[.int .i64 ((rd_T27 l0 x7_1).f0), .int .i64 0, .int .i64 0, .int .i64 0, .int .i64 0, .int .i64 0]) ?_ 1 _ rfl; (with_reducible repeat (first | refine bN_q ?_ _ | refine bW_q ?_ | refine bL_q ?_ _)); refine blk_put (cs := #[.int .i64 0, .int .i64 0, .int .i64 0, .int .i64 0, .int .i64 0, .int .i64 0]) ?_ 0 _ rfl; (with_reducible repeat (first | refine bN_q ?_ _ | refine bW_q ?_ | refine bL_q ?_ _)); exact BK185.out⟩
    have n1_ : Aside0 (Below w.heap.size w ((((((w27.setCell ⟨gb185, 0, none⟩ (.int .i64 ((rd_T27 l0 x7_1).f0))).setCell ⟨gb185, 1, none⟩ (.int .i64 ((rd_T27 l0 x7_1).f1))).setCell ⟨gb185, 2, none⟩ (.int .i64 ((rd_T27 l0 x7_1).f2))).setCell ⟨gb185, 3, none⟩ (.int .i64 ((rd_T27 l0 x7_1).f3))).setCell ⟨gb185, 4, none⟩ (.int .i64 ((rd_T27 l0 x7_1).f4))).setCell ⟨gb185, 5, none⟩ (.int .i64 ((rd_T27 l0 x7_1).f5)))) := ⟨by repeat (with_reducible first | exact HB.out | apply bA_q | apply pB_q | apply bD_q | refine bS_q ?_ GE185.out)⟩
    (try clear BK185)
    (try clear HB)
    generalize ((((((w27.setCell ⟨gb185, 0, none⟩ (.int .i64 ((rd_T27 l0 x7_1).f0))).setCell ⟨gb185, 1, none⟩ (.int .i64 ((rd_T27 l0 x7_1).f1))).setCell ⟨gb185, 2, none⟩ (.int .i64 ((rd_T27 l0 x7_1).f2))).setCell ⟨gb185, 3, none⟩ (.int .i64 ((rd_T27 l0 x7_1).f3))).setCell ⟨gb185, 4, none⟩ (.int .i64 ((rd_T27 l0 x7_1).f4))).setCell ⟨gb185, 5, none⟩ (.int .i64 ((rd_T27 l0 x7_1).f5))) = w29 at n0_ n1_ ⊢
    have BK185 := n0_
    have HB := n1_
    clear n0_ n1_
    have n0_ := Ae_q (bW_q BK185.out)
    have n1_ := Ae_q (bD_q HB.out)
    clear BK185
    clear HB
    have BK185 := n0_
    have HB := n1_
    clear n0_ n1_
    refine start_ (n := 18) (S := fun w' => w'.cell? ⟨gb185, 0, none⟩ = some (.int .i64 ((rd_T27 l0 x7_1).f0)) ∧ w'.cell? ⟨gb185, 1, none⟩ = some (.int .i64 ((rd_T27 l0 x7_1).f1)) ∧ w'.cell? ⟨gb185, 2, none⟩ = some (.int .i64 ((rd_T27 l0 x7_1).f2)) ∧ w'.cell? ⟨gb185, 3, none⟩ = some (.int .i64 ((rd_T27 l0 x7_1).f3)) ∧ w'.cell? ⟨gb185, 4, none⟩ = some (.int .i64 ((rd_T27 l0 x7_1).f4)) ∧ w'.cell? ⟨gb185, 5, none⟩ = some (.int .i64 ((rd_T27 l0 x7_1).f5))) (ds := []) #[false, false, false, false, false, false, false, false, false, false, false, false, false, false, false, false, false, false] (by kernel_rfl) rfl rfl ⟨(bC_q BK185.out 0).trans rfl, (bC_q BK185.out 1).trans rfl, (bC_q BK185.out 2).trans rfl, (bC_q BK185.out 3).trans rfl, (bC_q BK185.out 4).trans rfl, (bC_q BK185.out 5).trans rfl⟩ (fun hHeld => ?_); refine with_tabW impl_EventsValid.tab4 impl_EventsValid.bits4 (fun HT_ HW_ => ?_)
    generalize w29.drew = w30 at BK185 HB hHeld ⊢
    refine take_ (i := 0) (N := some 12) (v := ?_) (a' := ?_) #[true, false, false, false, false, false, false, false, false, false, false, false, false, false, false, false, false, false] rfl rfl (take_ofW HT_.out HW_.out (by kernel_rfl)) (fun _ _ _ h => h) (Or.inl ⟨by rfl, ?_⟩) hHeld ?_ ?_
    rotate_left
    ·rintro w' ⟨s0, s1, s2, s3, s4, s5⟩
     go_simp
     with_reducible rfl
    rotate_left
    ·simp only [pS_q]
     rfl
    refine one_ (i := 1) (N := some 13) #[true, true, false, false, false, false, false, false, false, false, false, false, false, false, false, false, false, false] rfl rfl (one_of HT_.out (by kernel_rfl)) (by decide) (fun K hK => ?_)
    refine goes_ Try.func44 (by kernel_rfl) rfl #[.agg #[.int .i64 ((rd_T27 l0 x7_1).f0), .int .i64 ((rd_T27 l0 x7_1).f1), .int .i64 ((rd_T27 l0 x7_1).f2), .int .i64 ((rd_T27 l0 x7_1).f3), .int .i64 ((rd_T27 l0 x7_1).f4), .int .i64 ((rd_T27 l0 x7_1).f5)]] (by rfl) rfl rfl (by (try simp only [lM_q, lC_q, lN_q]); first | done | rfl | (simp only [lD_q, lT_q]; rfl)) ?_
    with_reducible refine (impl_eventValid.calls k1 ((rd_T27 l0 x7_1).f0) ((rd_T27 l0 x7_1).f1) ((rd_T27 l0 x7_1).f2) ((rd_T27 l0 x7_1).f3) ((rd_T27 l0 x7_1).f4) ((rd_T27 l0 x7_1).f5) false _ A5.out).mono ?_
    rintro e w31 ⟨rfl, hb⟩
    refine ⟨_, rfl, ?_⟩
    have n0_ := Ae_q (bB_q (g := gb185) (o := .cells #[.int .i64 ((rd_T27 l0 x7_1).f0), .int .i64 ((rd_T27 l0 x7_1).f1), .int .i64 ((rd_T27 l0 x7_1).f2), .int .i64 ((rd_T27 l0 x7_1).f3), .int .i64 ((rd_T27 l0 x7_1).f4), .int .i64 ((rd_T27 l0 x7_1).f5)] 27 (0, 0)) (bup BK185.out) hb)
    have n1_ := Ae_q (bT_q (by repeat (with_reducible first | exact HB.out | apply bA_q | apply pB_q | apply bD_q | refine bS_q ?_ GE185.out)) hb)
    clear BK185
    clear HB
    have BK185 := n0_
    have HB := n1_
    clear n0_ n1_
    (try clear hb)
    (try clear hb2)
    (try clear hk)
    (try clear hi)
    refine hK.out _ _ ⟨(bC_q BK185.out 0).trans rfl, (bC_q BK185.out 1).trans rfl, (bC_q BK185.out 2).trans rfl, (bC_q BK185.out 3).trans rfl, (bC_q BK185.out 4).trans rfl, (bC_q BK185.out 5).trans rfl⟩ (fun hHeld => ?_)
    clear hK K
    refine norm_ (a' := ?_) ?_ ?_
    rotate_left
    ·show Act.put _ (some 13) _ = _
     simp only [pS_q]
     rfl
    refine pI (v := ?_) (a' := ?_) HT_ 2 14 rfl rfl (by kernel_rfl) (fun _ _ _ h => h) (by rfl) ?_ ?_ ?_
    rotate_left
    ·intro w'
     go_simp
     with_reducible rfl
    rotate_left
    ·simp only [pS_q]
     rfl
    refine pI (v := ?_) (a' := ?_) HT_ 3 15 rfl rfl (by kernel_rfl) (fun _ _ _ h => h) (by rfl) ?_ ?_ ?_
    rotate_left
    ·intro w'
     go_simp
     with_reducible rfl
    rotate_left
    ·simp only [pS_q]
     rfl
    refine pU (a' := ?_) HT_ 4 16 rfl rfl (by kernel_rfl) (fun _ _ _ h => h) (by rfl) ?_ ?_
    rotate_left
    ·simp only [pS_q]
     rfl
    refine pU (a' := ?_) HT_ 5 17 rfl rfl (by kernel_rfl) (fun _ _ _ h => h) (by rfl) ?_ ?_
    rotate_left
    ·simp only [pS_q]
     rfl
    refine pU (a' := ?_) HT_ 6 18 rfl rfl (by kernel_rfl) (fun _ _ _ h => h) (by rfl) ?_ ?_
    rotate_left
    ·simp only [pS_q]
     rfl
    refine pU (a' := ?_) HT_ 7 19 rfl rfl (by kernel_rfl) (fun _ _ _ h => h) (by rfl) ?_ ?_
    rotate_left
    ·simp only [pS_q]
     rfl
    refine pU (a' := ?_) HT_ 8 20 rfl rfl (by kernel_rfl) (fun _ _ _ h => h) (by rfl) ?_ ?_
    rotate_left
    ·simp only [pS_q]
     rfl
    refine pU (a' := ?_) HT_ 9 21 rfl rfl (by kernel_rfl) (fun _ _ _ h => h) (by rfl) ?_ ?_
    rotate_left
    ·simp only [pS_q]
     rfl
    refine pU (a' := ?_) HT_ 10 22 rfl rfl (by kernel_rfl) (fun _ _ _ h => h) (by rfl) ?_ ?_
    rotate_left
    ·simp only [pS_q]
     rfl
    refine pU (a' := ?_) HT_ 11 23 rfl rfl (by kernel_rfl) (fun _ _ _ h => h) (by rfl) ?_ ?_
    rotate_left
    ·simp only [pS_q]
     rfl
    refine pU (a' := ?_) HT_ 12 24 rfl rfl (by kernel_rfl) (fun _ _ _ h => h) (by rfl) ?_ ?_
    rotate_left
    ·simp only [pS_q]
     rfl
    refine pU (a' := ?_) HT_ 13 25 rfl rfl (by kernel_rfl) (fun _ _ _ h => h) (by rfl) ?_ ?_
    rotate_left
    ·simp only [pS_q]
     rfl
    refine pU (a' := ?_) HT_ 14 26 rfl rfl (by kernel_rfl) (fun _ _ _ h => h) (by rfl) ?_ ?_
    rotate_left
    ·simp only [pS_q]
     rfl
    refine pU (a' := ?_) HT_ 15 27 rfl rfl (by kernel_rfl) (fun _ _ _ h => h) (by rfl) ?_ ?_
    rotate_left
    ·simp only [pS_q]
     rfl
    refine pU (a' := ?_) HT_ 16 28 rfl rfl (by kernel_rfl) (fun _ _ _ h => h) (by rfl) ?_ ?_
    rotate_left
    ·simp only [pS_q]
     rfl
    refine pI (v := ?_) (a' := ?_) HT_ 17 29 rfl rfl (by kernel_rfl) (fun _ _ _ h => h) (by rfl) ?_ ?_ ?_
    rotate_left
    ·intro w'
     go_simp
     with_reducible rfl
    rotate_left
    ·simp only [pS_q]
     rfl
    refine done_ (done_of HT_.out (by kernel_rfl)) ?_
    try go_wp2
    go_ret
    exact ⟨by first | rfl | (simp [eN_q, eS_q] <;> rfl) | (simp [*, eN_q, eS_q] <;> rfl), by repeat (with_reducible first | exact HB.out | apply bA_q | apply pB_q | apply bD_q | refine bS_q ?_ GE185.out)⟩
   subst c6
   have H1 : (if x7_1 > 0 then (if 0 ≤ (wrap64 (x7_1 - 1)) then (if (wrap64 (x7_1 - 1)) < (l0.length : Int) then (if ((rd_T27 l0 (wrap64 (x7_1 - 1))).f1) > ((rd_T27 l0 x7_1).f1) then (some false) else (impl_EventsValid.l0 k1 l0 l0 (l0.length : Int) (wrap64 (x7_1 + 1)))) else (none)) else (none)) else (impl_EventsValid.l0 k1 l0 l0 (l0.length : Int) (wrap64 (x7_1 + 1)))) = some r := by rw [if_pos rfl] at H; exact H
   clear H
   have H := H1
   clear H1
   by_cases c7 : x7_1 > 0
   rotate_left
   ·rw [if_neg c7] at H
    have c7b0 : decide (0 < x7_1) = false := dF_q c7
    clear c7
    have H' := Ae_q H
    clear H
    have p184 : 0 ≤ (x7_1 : Int) := oD_q (by assumption)
    have q184 : x7_1 < (l0.length : Int) := oD_q (by assumption)
    obtain ⟨ad184, e184, hx184_0, hx184_1, hx184_2, hx184_3, hx184_4, hx184_5⟩ := at_T27 HR0.out x7_1 p184 q184
    cases e184
    replace hx184_0 := cel HB.out hx184_0
    replace hx184_1 := cel HB.out hx184_1
    replace hx184_2 := cel HB.out hx184_2
    replace hx184_3 := cel HB.out hx184_3
    replace hx184_4 := cel HB.out hx184_4
    replace hx184_5 := cel HB.out hx184_5
    replace p184 := eq_true p184
    replace q184 := eq_true q184
    try go_wp2_with (first | ((with_reducible refine gD_q (N := 4) rfl ?_); refine bE_q ?hg (N := 4) ?hd (cs := #[.int .i64 0, .int .i64 0, .int .i64 0, .int .i64 0, .int .i64 0, .int .i64 0]) (t := 27) ?hr ?_; (case hd => rfl); (case hg => rfl); (case hr => first | (go_simp; done) | (go_simp; rfl)); intro gb185 hg w22 hbox hb; have n0_ := Ae_q (bT_q (bel HB.out) hb); have n1_ := Ae_q (hbox); have n2_ := Ae_q ((by rw [hg]; exact (bZ_q (bel HB.out)) : w.heap.size ≤ gb185)); have n3_ := Ae_q ((by rw [hg]; exact (bZ_q (bel HB.out)) : w.heap.size ≤ gb185)); clear HB; have HB := n0_; have BK185 := n1_; have GW185 := n2_; have GE185 := n3_; clear n0_ n1_ n2_ n3_; clear hb hbox hg; have hcz23_0 : cI w22 gb185 0 0 := cZ BK185 0 rfl; have hcz23_1 : cI w22 gb185 1 0 := cZ BK185 1 rfl; have hcz23_2 : cI w22 gb185 2 0 := cZ BK185 2 rfl; have hcz23_3 : cI w22 gb185 3 0 := cZ BK185 3 rfl; have hcz23_4 : cI w22 gb185 4 0 := cZ BK185 4 rfl; have hcz23_5 : cI w22 gb185 5 0 := cZ BK185 5 rfl; have hfz23_0 := bF_q BK185.out 0; have hfz23_1 := bF_q BK185.out 1; have hfz23_2 := bF_q BK185.out 2; have hfz23_3 := bF_q BK185.out 3; have hfz23_4 := bF_q BK185.out 4; have hfz23_5 := bF_q BK185.out 5))
    have n0_ : Aside0 (((((((w22.setCell ⟨gb185, 0, none⟩ (.int .i64 ((rd_T27 l0 x7_1).f0))).setCell ⟨gb185, 1, none⟩ (.int .i64 ((rd_T27 l0 x7_1).f1))).setCell ⟨gb185, 2, none⟩ (.int .i64 ((rd_T27 l0 x7_1).f2))).setCell ⟨gb185, 3, none⟩ (.int .i64 ((rd_T27 l0 x7_1).f3))).setCell ⟨gb185, 4, none⟩ (.int .i64 ((rd_T27 l0 x7_1).f4))).setCell ⟨gb185, 5, none⟩ (.int .i64 ((rd_T27 l0 x7_1).f5))).heap[gb185]? = some (.cells #[.int .i64 ((rd_T27 l0 x7_1).f0), .int .i64 ((rd_T27 l0 x7_1).f1), .int .i64 ((rd_T27 l0 x7_1).f2), .int .i64 ((rd_T27 l0 x7_1).f3), .int .i64 ((rd_T27 l0 x7_1).f4), .int .i64 ((rd_T27 l0 x7_1).f5)] 27 (0, 0))) := ⟨by (with_reducible repeat (first | refine bN_q ?_ _ | refine bW_q ?_ | refine bL_q ?_ _)); refine blk_put (cs := #[.int .i64 ((rd_T27 l0 x7_1).f0), .int .i64 ((rd_T27 l0 x7_1).f1), .int .i64 ((rd_T27 l0 x7_1).f2), .int .i64 ((rd_T27 l0 x7_1).f3), .int .i64 ((rd_T27 l0 x7_1).f4), .int .i64 0]) ?_ 5 _ rfl; (with_reducible repeat (first | refine bN_q ?_ _ | refine bW_q ?_ | refine bL_q ?_ _)); refine blk_put (cs := #[.int .i64 ((rd_T27 l0 x7_1).f0), .int .i64 ((rd_T27 l0 x7_1).f1), .int .i64 ((rd_T27 l0 x7_1).f2), .int .i64 ((rd_T27 l0 x7_1).f3), .int .i64 0, .int .i64 0]) ?_ 4 _ rfl; (with_reducible repeat (first | refine bN_q ?_ _ | refine bW_q ?_ | refine bL_q ?_ _)); refine blk_put (cs := #[.int .i64 ((rd_T27 l0 x7_1).f0), .int .i64 ((rd_T27 l0 x7_1).f1), .int .i64 ((rd_T27 l0 x7_1).f2), .int .i64 0, .int .i64 0, .int .i64 0]) ?_ 3 _ rfl; (with_reducible repeat (first | refine bN_q ?_ _ | refine bW_q ?_ | refine bL_q ?_ _)); refine blk_put (cs := #[.int .i64 ((rd_T27 l0 x7_1).f0), .int .i64 ((rd_T27 l0 x7_1).f1), .int .i64 0, .int .i64 0, .int .i64 0, .int .i64 0]) ?_ 2 _ rfl; (with_reducible repeat (first | refine bN_q ?_ _ | refine bW_q ?_ | refine bL_q ?_ _)); refine blk_put (cs := #[.int .i64 ((rd_T27 l0 x7_1).f0), .int .i64 0, .int .i64 0, .int .i64 0, .int .i64 0, .int .i64 0]) ?_ 1 _ rfl; (with_reducible repeat (first | refine bN_q ?_ _ | refine bW_q ?_ | refine bL_q ?_ _)); refine blk_put (cs := #[.int .i64 0, .int .i64 0, .int .i64 0, .int .i64 0, .int .i64 0, .int .i64 0]) ?_ 0 _ rfl; (with_reducible repeat (first | refine bN_q ?_ _ | refine bW_q ?_ | refine bL_q ?_ _)); exact BK185.out⟩
    have n1_ : Aside0 (Below w.heap.size w ((((((w22.setCell ⟨gb185, 0, none⟩ (.int .i64 ((rd_T27 l0 x7_1).f0))).setCell ⟨gb185, 1, none⟩ (.int .i64 ((rd_T27 l0 x7_1).f1))).setCell ⟨gb185, 2, none⟩ (.int .i64 ((rd_T27 l0 x7_1).f2))).setCell ⟨gb185, 3, none⟩ (.int .i64 ((rd_T27 l0 x7_1).f3))).setCell ⟨gb185, 4, none⟩ (.int .i64 ((rd_T27 l0 x7_1).f4))).setCell ⟨gb185, 5, none⟩ (.int .i64 ((rd_T27 l0 x7_1).f5)))) := ⟨by repeat (with_reducible first | exact HB.out | apply bA_q | apply pB_q | apply bD_q | refine bS_q ?_ GE185.out)⟩
    (try clear BK185)
    (try clear HB)
    generalize ((((((w22.setCell ⟨gb185, 0, none⟩ (.int .i64 ((rd_T27 l0 x7_1).f0))).setCell ⟨gb185, 1, none⟩ (.int .i64 ((rd_T27 l0 x7_1).f1))).setCell ⟨gb185, 2, none⟩ (.int .i64 ((rd_T27 l0 x7_1).f2))).setCell ⟨gb185, 3, none⟩ (.int .i64 ((rd_T27 l0 x7_1).f3))).setCell ⟨gb185, 4, none⟩ (.int .i64 ((rd_T27 l0 x7_1).f4))).setCell ⟨gb185, 5, none⟩ (.int .i64 ((rd_T27 l0 x7_1).f5))) = w24 at n0_ n1_ ⊢
    have BK185 := n0_
    have HB := n1_
    clear n0_ n1_
    have n0_ := Ae_q (bW_q BK185.out)
    have n1_ := Ae_q (bD_q HB.out)
    clear BK185
    clear HB
    have BK185 := n0_
    have HB := n1_
    clear n0_ n1_
    refine start_ (n := 18) (S := fun w' => w'.cell? ⟨gb185, 0, none⟩ = some (.int .i64 ((rd_T27 l0 x7_1).f0)) ∧ w'.cell? ⟨gb185, 1, none⟩ = some (.int .i64 ((rd_T27 l0 x7_1).f1)) ∧ w'.cell? ⟨gb185, 2, none⟩ = some (.int .i64 ((rd_T27 l0 x7_1).f2)) ∧ w'.cell? ⟨gb185, 3, none⟩ = some (.int .i64 ((rd_T27 l0 x7_1).f3)) ∧ w'.cell? ⟨gb185, 4, none⟩ = some (.int .i64 ((rd_T27 l0 x7_1).f4)) ∧ w'.cell? ⟨gb185, 5, none⟩ = some (.int .i64 ((rd_T27 l0 x7_1).f5))) (ds := []) #[false, false, false, false, false, false, false, false, false, false, false, false, false, false, false, false, false, false] (by kernel_rfl) rfl rfl ⟨(bC_q BK185.out 0).trans rfl, (bC_q BK185.out 1).trans rfl, (bC_q BK185.out 2).trans rfl, (bC_q BK185.out 3).trans rfl, (bC_q BK185.out 4).trans rfl, (bC_q BK185.out 5).trans rfl⟩ (fun hHeld => ?_); refine with_tabW impl_EventsValid.tab4 impl_EventsValid.bits4 (fun HT_ HW_ => ?_)
    generalize w24.drew = w25 at BK185 HB hHeld ⊢
    refine take_ (i := 0) (N := some 12) (v := ?_) (a' := ?_) #[true, false, false, false, false, false, false, false, false, false, false, false, false, false, false, false, false, false] rfl rfl (take_ofW HT_.out HW_.out (by kernel_rfl)) (fun _ _ _ h => h) (Or.inl ⟨by rfl, ?_⟩) hHeld ?_ ?_
    rotate_left
    ·rintro w' ⟨s0, s1, s2, s3, s4, s5⟩
     go_simp
     with_reducible rfl
    rotate_left
    ·simp only [pS_q]
     rfl
    refine one_ (i := 1) (N := some 13) #[true, true, false, false, false, false, false, false, false, false, false, false, false, false, false, false, false, false] rfl rfl (one_of HT_.out (by kernel_rfl)) (by decide) (fun K hK => ?_)
    refine goes_ Try.func44 (by kernel_rfl) rfl #[.agg #[.int .i64 ((rd_T27 l0 x7_1).f0), .int .i64 ((rd_T27 l0 x7_1).f1), .int .i64 ((rd_T27 l0 x7_1).f2), .int .i64 ((rd_T27 l0 x7_1).f3), .int .i64 ((rd_T27 l0 x7_1).f4), .int .i64 ((rd_T27 l0 x7_1).f5)]] (by rfl) rfl rfl (by (try simp only [lM_q, lC_q, lN_q]); first | done | rfl | (simp only [lD_q, lT_q]; rfl)) ?_
    with_reducible refine (impl_eventValid.calls k1 ((rd_T27 l0 x7_1).f0) ((rd_T27 l0 x7_1).f1) ((rd_T27 l0 x7_1).f2) ((rd_T27 l0 x7_1).f3) ((rd_T27 l0 x7_1).f4) ((rd_T27 l0 x7_1).f5) true _ A5.out).mono ?_
    rintro e w26 ⟨rfl, hb⟩
    refine ⟨_, rfl, ?_⟩
    have n0_ := Ae_q (bB_q (g := gb185) (o := .cells #[.int .i64 ((rd_T27 l0 x7_1).f0), .int .i64 ((rd_T27 l0 x7_1).f1), .int .i64 ((rd_T27 l0 x7_1).f2), .int .i64 ((rd_T27 l0 x7_1).f3), .int .i64 ((rd_T27 l0 x7_1).f4), .int .i64 ((rd_T27 l0 x7_1).f5)] 27 (0, 0)) (bup BK185.out) hb)
    have n1_ := Ae_q (bT_q (by repeat (with_reducible first | exact HB.out | apply bA_q | apply pB_q | apply bD_q | refine bS_q ?_ GE185.out)) hb)
    clear BK185
    clear HB
    have BK185 := n0_
    have HB := n1_
    clear n0_ n1_
    (try clear hb)
    (try clear hb2)
    (try clear hk)
    (try clear hi)
    refine hK.out _ _ ⟨(bC_q BK185.out 0).trans rfl, (bC_q BK185.out 1).trans rfl, (bC_q BK185.out 2).trans rfl, (bC_q BK185.out 3).trans rfl, (bC_q BK185.out 4).trans rfl, (bC_q BK185.out 5).trans rfl⟩ (fun hHeld => ?_)
    clear hK K
    refine norm_ (a' := ?_) ?_ ?_
    rotate_left
    ·show Act.put _ (some 13) _ = _
     simp only [pS_q]
     rfl
    refine pI (v := ?_) (a' := ?_) HT_ 2 14 rfl rfl (by kernel_rfl) (fun _ _ _ h => h) (by rfl) ?_ ?_ ?_
    rotate_left
    ·intro w'
     go_simp
     with_reducible rfl
    rotate_left
    ·simp only [pS_q]
     rfl
    refine pI (v := ?_) (a' := ?_) HT_ 3 15 rfl rfl (by kernel_rfl) (fun _ _ _ h => h) (by rfl) ?_ ?_ ?_
    rotate_left
    ·intro w'
     go_simp
     with_reducible rfl
    rotate_left
    ·simp only [pS_q]
     rfl
    refine pI (v := ?_) (a' := ?_) HT_ 4 16 rfl rfl (by kernel_rfl) (fun _ _ _ h => h) (by rfl) ?_ ?_ ?_
    rotate_left
    ·intro w'
     go_simp
     with_reducible rfl
    rotate_left
    ·simp only [pS_q]
     rfl
    refine pI (v := ?_) (a' := ?_) HT_ 5 17 rfl rfl (by kernel_rfl) (fun _ _ _ h => h) (by rfl) ?_ ?_ ?_
    rotate_left
    ·intro w'
     go_simp
     with_reducible rfl
    rotate_left
    ·simp only [pS_q]
     rfl
    refine pI (v := ?_) (a' := ?_) HT_ 6 18 rfl rfl (by kernel_rfl) (fun _ _ _ h => h) (by rfl) ?_ ?_ ?_
    rotate_left
    ·intro w'
     go_simp
     with_reducible rfl
    rotate_left
    ·simp only [pS_q]
     rfl
    refine pU (a' := ?_) HT_ 7 19 rfl rfl (by kernel_rfl) (fun _ _ _ h => h) (by rfl) ?_ ?_
    rotate_left
    ·simp only [pS_q]
     rfl
    refine pU (a' := ?_) HT_ 8 20 rfl rfl (by kernel_rfl) (fun _ _ _ h => h) (by rfl) ?_ ?_
    rotate_left
    ·simp only [pS_q]
     rfl
    refine pU (a' := ?_) HT_ 9 21 rfl rfl (by kernel_rfl) (fun _ _ _ h => h) (by rfl) ?_ ?_
    rotate_left
    ·simp only [pS_q]
     rfl
    refine pU (a' := ?_) HT_ 10 22 rfl rfl (by kernel_rfl) (fun _ _ _ h => h) (by rfl) ?_ ?_
    rotate_left
    ·simp only [pS_q]
     rfl
    refine pU (a' := ?_) HT_ 11 23 rfl rfl (by kernel_rfl) (fun _ _ _ h => h) (by rfl) ?_ ?_
    rotate_left
    ·simp only [pS_q]
     rfl
    refine pU (a' := ?_) HT_ 12 24 rfl rfl (by kernel_rfl) (fun _ _ _ h => h) (by rfl) ?_ ?_
    rotate_left
    ·simp only [pS_q]
     rfl
    refine pU (a' := ?_) HT_ 13 25 rfl rfl (by kernel_rfl) (fun _ _ _ h => h) (by rfl) ?_ ?_
    rotate_left
    ·simp only [pS_q]
     rfl
    refine pU (a' := ?_) HT_ 14 26 rfl rfl (by kernel_rfl) (fun _ _ _ h => h) (by rfl) ?_ ?_
    rotate_left
    ·simp only [pS_q]
     rfl
    refine pU (a' := ?_) HT_ 15 27 rfl rfl (by kernel_rfl) (fun _ _ _ h => h) (by rfl) ?_ ?_
    rotate_left
    ·simp only [pS_q]
     rfl
    refine pI (v := ?_) (a' := ?_) HT_ 16 28 rfl rfl (by kernel_rfl) (fun _ _ _ h => h) (by rfl) ?_ ?_ ?_
    rotate_left
    ·intro w'
     go_simp
     with_reducible rfl
    rotate_left
    ·simp only [pS_q]
     rfl
    refine pI (v := ?_) (a' := ?_) HT_ 17 29 rfl rfl (by kernel_rfl) (fun _ _ _ h => h) (by rfl) ?_ ?_ ?_
    rotate_left
    ·intro w'
     go_simp
     with_reducible rfl
    rotate_left
    ·simp only [pS_q]
     rfl
    refine done_ (done_of HT_.out (by kernel_rfl)) ?_
    try go_wp2
    go_roundg k1
    case measure => have := HK1.out; omega
    case rel => exact ⟨(wrap64 (x7_1 + 1)), (by first | rfl | (simp; done) | (simp [*]; done)), H', ⟨by have := HK1.out; omega⟩, ⟨by repeat (with_reducible first | exact HB.out | apply bA_q | apply pB_q | apply bD_q | refine bS_q ?_ GE185.out)⟩⟩
   rw [if_pos c7] at H
   have c7b0 : decide (0 < x7_1) = true := dT_q c7
   clear c7
   obtain ⟨ji8, hji8⟩ : ∃ j_ : Int, (wrap64 (x7_1 - 1)) = j_ := ⟨_, rfl⟩
   replace H : (if 0 ≤ (ji8) then (if (ji8) < (l0.length : Int) then (if ((rd_T27 l0 (ji8)).f1) > ((rd_T27 l0 x7_1).f1) then (some false) else (impl_EventsValid.l0 k1 l0 l0 (l0.length : Int) (wrap64 (x7_1 + 1)))) else (none)) else (none)) = some r := by first | (rw [hji8] at H; exact H) | (simp only [hji8] at H ⊢; exact H)
   (try rw [hji8] at A5)
   have hji8w : (IntKind.i64.wrap (x7_1 - 1)) = ji8 := (i64_w _).trans hji8
   by_cases c9 : 0 ≤ (ji8)
   rotate_left
   ·rw [if_neg c9] at H
    exact absurd H (by simp)
   rw [if_pos c9] at H
   have c9b0 : decide (0 ≤ (ji8)) = true := dT_q c9
   clear c9
   by_cases c10 : (ji8) < (l0.length : Int)
   rotate_left
   ·rw [if_neg c10] at H
    exact absurd H (by simp)
   rw [if_pos c10] at H
   have c10b0 : decide ((ji8) < (l0.length : Int)) = true := dT_q c10
   clear c10
   by_cases c11 : ((rd_T27 l0 (ji8)).f1) > ((rd_T27 l0 x7_1).f1)
   ·rw [if_pos c11] at H
    have c11b0 : decide (((rd_T27 l0 x7_1).f1) < ((rd_T27 l0 (ji8)).f1)) = true := dT_q c11
    clear c11
    obtain rfl := oI_q H
    have p184 : 0 ≤ (x7_1 : Int) := oD_q (by assumption)
    have q184 : x7_1 < (l0.length : Int) := oD_q (by assumption)
    obtain ⟨ad184, e184, hx184_0, hx184_1, hx184_2, hx184_3, hx184_4, hx184_5⟩ := at_T27 HR0.out x7_1 p184 q184
    cases e184
    replace hx184_0 := cel HB.out hx184_0
    replace hx184_1 := cel HB.out hx184_1
    replace hx184_2 := cel HB.out hx184_2
    replace hx184_3 := cel HB.out hx184_3
    replace hx184_4 := cel HB.out hx184_4
    replace hx184_5 := cel HB.out hx184_5
    replace p184 := eq_true p184
    replace q184 := eq_true q184
    try go_wp2_with (first | ((with_reducible refine gD_q (N := 4) rfl ?_); refine bE_q ?hg (N := 4) ?hd (cs := #[.int .i64 0, .int .i64 0, .int .i64 0, .int .i64 0, .int .i64 0, .int .i64 0]) (t := 27) ?hr ?_; (case hd => rfl); (case hg => rfl); (case hr => first | (go_simp; done) | (go_simp; rfl)); intro gb185 hg w12 hbox hb; have n0_ := Ae_q (bT_q (bel HB.out) hb); have n1_ := Ae_q (hbox); have n2_ := Ae_q ((by rw [hg]; exact (bZ_q (bel HB.out)) : w.heap.size ≤ gb185)); have n3_ := Ae_q ((by rw [hg]; exact (bZ_q (bel HB.out)) : w.heap.size ≤ gb185)); clear HB; have HB := n0_; have BK185 := n1_; have GW185 := n2_; have GE185 := n3_; clear n0_ n1_ n2_ n3_; clear hb hbox hg; have hcz13_0 : cI w12 gb185 0 0 := cZ BK185 0 rfl; have hcz13_1 : cI w12 gb185 1 0 := cZ BK185 1 rfl; have hcz13_2 : cI w12 gb185 2 0 := cZ BK185 2 rfl; have hcz13_3 : cI w12 gb185 3 0 := cZ BK185 3 rfl; have hcz13_4 : cI w12 gb185 4 0 := cZ BK185 4 rfl; have hcz13_5 : cI w12 gb185 5 0 := cZ BK185 5 rfl; have hfz13_0 := bF_q BK185.out 0; have hfz13_1 := bF_q BK185.out 1; have hfz13_2 := bF_q BK185.out 2; have hfz13_3 := bF_q BK185.out 3; have hfz13_4 := bF_q BK185.out 4; have hfz13_5 := bF_q BK185.out 5))
    have n0_ : Aside0 (((((((w12.setCell ⟨gb185, 0, none⟩ (.int .i64 ((rd_T27 l0 x7_1).f0))).setCell ⟨gb185, 1, none⟩ (.int .i64 ((rd_T27 l0 x7_1).f1))).setCell ⟨gb185, 2, none⟩ (.int .i64 ((rd_T27 l0 x7_1).f2))).setCell ⟨gb185, 3, none⟩ (.int .i64 ((rd_T27 l0 x7_1).f3))).setCell ⟨gb185, 4, none⟩ (.int .i64 ((rd_T27 l0 x7_1).f4))).setCell ⟨gb185, 5, none⟩ (.int .i64 ((rd_T27 l0 x7_1).f5))).heap[gb185]? = some (.cells #[.int .i64 ((rd_T27 l0 x7_1).f0), .int .i64 ((rd_T27 l0 x7_1).f1), .int .i64 ((rd_T27 l0 x7_1).f2), .int .i64 ((rd_T27 l0 x7_1).f3), .int .i64 ((rd_T27 l0 x7_1).f4), .int .i64 ((rd_T27 l0 x7_1).f5)] 27 (0, 0))) := ⟨by (with_reducible repeat (first | refine bN_q ?_ _ | refine bW_q ?_ | refine bL_q ?_ _)); refine blk_put (cs := #[.int .i64 ((rd_T27 l0 x7_1).f0), .int .i64 ((rd_T27 l0 x7_1).f1), .int .i64 ((rd_T27 l0 x7_1).f2), .int .i64 ((rd_T27 l0 x7_1).f3), .int .i64 ((rd_T27 l0 x7_1).f4), .int .i64 0]) ?_ 5 _ rfl; (with_reducible repeat (first | refine bN_q ?_ _ | refine bW_q ?_ | refine bL_q ?_ _)); refine blk_put (cs := #[.int .i64 ((rd_T27 l0 x7_1).f0), .int .i64 ((rd_T27 l0 x7_1).f1), .int .i64 ((rd_T27 l0 x7_1).f2), .int .i64 ((rd_T27 l0 x7_1).f3), .int .i64 0, .int .i64 0]) ?_ 4 _ rfl; (with_reducible repeat (first | refine bN_q ?_ _ | refine bW_q ?_ | refine bL_q ?_ _)); refine blk_put (cs := #[.int .i64 ((rd_T27 l0 x7_1).f0), .int .i64 ((rd_T27 l0 x7_1).f1), .int .i64 ((rd_T27 l0 x7_1).f2), .int .i64 0, .int .i64 0, .int .i64 0]) ?_ 3 _ rfl; (with_reducible repeat (first | refine bN_q ?_ _ | refine bW_q ?_ | refine bL_q ?_ _)); refine blk_put (cs := #[.int .i64 ((rd_T27 l0 x7_1).f0), .int .i64 ((rd_T27 l0 x7_1).f1), .int .i64 0, .int .i64 0, .int .i64 0, .int .i64 0]) ?_ 2 _ rfl; (with_reducible repeat (first | refine bN_q ?_ _ | refine bW_q ?_ | refine bL_q ?_ _)); refine blk_put (cs := #[.int .i64 ((rd_T27 l0 x7_1).f0), .int .i64 0, .int .i64 0, .int .i64 0, .int .i64 0, .int .i64 0]) ?_ 1 _ rfl; (with_reducible repeat (first | refine bN_q ?_ _ | refine bW_q ?_ | refine bL_q ?_ _)); refine blk_put (cs := #[.int .i64 0, .int .i64 0, .int .i64 0, .int .i64 0, .int .i64 0, .int .i64 0]) ?_ 0 _ rfl; (with_reducible repeat (first | refine bN_q ?_ _ | refine bW_q ?_ | refine bL_q ?_ _)); exact BK185.out⟩
    have n1_ : Aside0 (Below w.heap.size w ((((((w12.setCell ⟨gb185, 0, none⟩ (.int .i64 ((rd_T27 l0 x7_1).f0))).setCell ⟨gb185, 1, none⟩ (.int .i64 ((rd_T27 l0 x7_1).f1))).setCell ⟨gb185, 2, none⟩ (.int .i64 ((rd_T27 l0 x7_1).f2))).setCell ⟨gb185, 3, none⟩ (.int .i64 ((rd_T27 l0 x7_1).f3))).setCell ⟨gb185, 4, none⟩ (.int .i64 ((rd_T27 l0 x7_1).f4))).setCell ⟨gb185, 5, none⟩ (.int .i64 ((rd_T27 l0 x7_1).f5)))) := ⟨by repeat (with_reducible first | exact HB.out | apply bA_q | apply pB_q | apply bD_q | refine bS_q ?_ GE185.out)⟩
    (try clear BK185)
    (try clear HB)
    generalize ((((((w12.setCell ⟨gb185, 0, none⟩ (.int .i64 ((rd_T27 l0 x7_1).f0))).setCell ⟨gb185, 1, none⟩ (.int .i64 ((rd_T27 l0 x7_1).f1))).setCell ⟨gb185, 2, none⟩ (.int .i64 ((rd_T27 l0 x7_1).f2))).setCell ⟨gb185, 3, none⟩ (.int .i64 ((rd_T27 l0 x7_1).f3))).setCell ⟨gb185, 4, none⟩ (.int .i64 ((rd_T27 l0 x7_1).f4))).setCell ⟨gb185, 5, none⟩ (.int .i64 ((rd_T27 l0 x7_1).f5))) = w14 at n0_ n1_ ⊢
    have BK185 := n0_
    have HB := n1_
    clear n0_ n1_
    have n0_ := Ae_q (bW_q BK185.out)
    have n1_ := Ae_q (bD_q HB.out)
    clear BK185
    clear HB
    have BK185 := n0_
    have HB := n1_
    clear n0_ n1_
    have p187 : 0 ≤ ((ji8) : Int) := oD_q (by assumption)
    have q187 : (ji8) < (l0.length : Int) := oD_q (by assumption)
    obtain ⟨ad187, e187, hx187_0, hx187_1, hx187_2, hx187_3, hx187_4, hx187_5⟩ := at_T27 HR0.out (ji8) p187 q187
    have hw187_5 := hx187_5
    have hw187_4 := hx187_4
    have hw187_3 := hx187_3
    have hw187_2 := hx187_2
    have hw187_1 := hx187_1
    have hw187_0 := hx187_0
    obtain rfl : ad184 = ad187 := (by injection e187)
    replace hx187_0 := cel HB.out hx187_0
    replace hx187_1 := cel HB.out hx187_1
    replace hx187_2 := cel HB.out hx187_2
    replace hx187_3 := cel HB.out hx187_3
    replace hx187_4 := cel HB.out hx187_4
    replace hx187_5 := cel HB.out hx187_5
    replace p187 := eq_true p187
    replace q187 := eq_true q187
    refine start_ (n := 18) (S := fun w' => w'.cell? ⟨gb185, 0, none⟩ = some (.int .i64 ((rd_T27 l0 x7_1).f0)) ∧ w'.cell? ⟨gb185, 1, none⟩ = some (.int .i64 ((rd_T27 l0 x7_1).f1)) ∧ w'.cell? ⟨gb185, 2, none⟩ = some (.int .i64 ((rd_T27 l0 x7_1).f2)) ∧ w'.cell? ⟨gb185, 3, none⟩ = some (.int .i64 ((rd_T27 l0 x7_1).f3)) ∧ w'.cell? ⟨gb185, 4, none⟩ = some (.int .i64 ((rd_T27 l0 x7_1).f4)) ∧ w'.cell? ⟨gb185, 5, none⟩ = some (.int .i64 ((rd_T27 l0 x7_1).f5)) ∧ w'.cell? (ad184.add (((ji8)).toNat * 6)) = some (.int .i64 ((rd_T27 l0 (ji8)).f0)) ∧ w'.cell? ⟨(ad184.add (((ji8)).toNat * 6)).block, (ad184.add (((ji8)).toNat * 6)).off + 1, none⟩ = some (.int .i64 ((rd_T27 l0 (ji8)).f1)) ∧ w'.cell? ⟨(ad184.add (((ji8)).toNat * 6)).block, (ad184.add (((ji8)).toNat * 6)).off + 2, none⟩ = some (.int .i64 ((rd_T27 l0 (ji8)).f2)) ∧ w'.cell? ⟨(ad184.add (((ji8)).toNat * 6)).block, (ad184.add (((ji8)).toNat * 6)).off + 3, none⟩ = some (.int .i64 ((rd_T27 l0 (ji8)).f3)) ∧ w'.cell? ⟨(ad184.add (((ji8)).toNat * 6)).block, (ad184.add (((ji8)).toNat * 6)).off + 4, none⟩ = some (.int .i64 ((rd_T27 l0 (ji8)).f4)) ∧ w'.cell? ⟨(ad184.add (((ji8)).toNat * 6)).block, (ad184.add (((ji8)).toNat * 6)).off + 5, none⟩ = some (.int .i64 ((rd_T27 l0 (ji8)).f5))) (ds := []) #[false, false, false, false, false, false, false, false, false, false, false, false, false, false, false, false, false, false] (by kernel_rfl) rfl rfl ⟨(bC_q BK185.out 0).trans rfl, (bC_q BK185.out 1).trans rfl, (bC_q BK185.out 2).trans rfl, (bC_q BK185.out 3).trans rfl, (bC_q BK185.out 4).trans rfl, (bC_q BK185.out 5).trans rfl, (cel HB.out hw187_0), (cel HB.out hw187_1), (cel HB.out hw187_2), (cel HB.out hw187_3), (cel HB.out hw187_4), (cel HB.out hw187_5)⟩ (fun hHeld => ?_); refine with_tabW impl_EventsValid.tab4 impl_EventsValid.bits4 (fun HT_ HW_ => ?_)
    generalize w14.drew = w15 at BK185 HB hx187_0 hx187_1 hx187_2 hx187_3 hx187_4 hx187_5 hHeld ⊢
    refine take_ (i := 0) (N := some 12) (v := ?_) (a' := ?_) #[true, false, false, false, false, false, false, false, false, false, false, false, false, false, false, false, false, false] rfl rfl (take_ofW HT_.out HW_.out (by kernel_rfl)) (fun _ _ _ h => h) (Or.inl ⟨by rfl, ?_⟩) hHeld ?_ ?_
    rotate_left
    ·rintro w' ⟨s0, s1, s2, s3, s4, s5, s6, s7, s8, s9, s10, s11⟩
     go_simp
     with_reducible rfl
    rotate_left
    ·simp only [pS_q]
     rfl
    refine one_ (i := 1) (N := some 13) #[true, true, false, false, false, false, false, false, false, false, false, false, false, false, false, false, false, false] rfl rfl (one_of HT_.out (by kernel_rfl)) (by decide) (fun K hK => ?_)
    refine goes_ Try.func44 (by kernel_rfl) rfl #[.agg #[.int .i64 ((rd_T27 l0 x7_1).f0), .int .i64 ((rd_T27 l0 x7_1).f1), .int .i64 ((rd_T27 l0 x7_1).f2), .int .i64 ((rd_T27 l0 x7_1).f3), .int .i64 ((rd_T27 l0 x7_1).f4), .int .i64 ((rd_T27 l0 x7_1).f5)]] (by rfl) rfl rfl (by (try simp only [lM_q, lC_q, lN_q]); first | done | rfl | (simp only [lD_q, lT_q]; rfl)) ?_
    with_reducible refine (impl_eventValid.calls k1 ((rd_T27 l0 x7_1).f0) ((rd_T27 l0 x7_1).f1) ((rd_T27 l0 x7_1).f2) ((rd_T27 l0 x7_1).f3) ((rd_T27 l0 x7_1).f4) ((rd_T27 l0 x7_1).f5) true _ A5.out).mono ?_
    rintro e w16 ⟨rfl, hb⟩
    refine ⟨_, rfl, ?_⟩
    have n0_ := Ae_q (bB_q (g := gb185) (o := .cells #[.int .i64 ((rd_T27 l0 x7_1).f0), .int .i64 ((rd_T27 l0 x7_1).f1), .int .i64 ((rd_T27 l0 x7_1).f2), .int .i64 ((rd_T27 l0 x7_1).f3), .int .i64 ((rd_T27 l0 x7_1).f4), .int .i64 ((rd_T27 l0 x7_1).f5)] 27 (0, 0)) (bup BK185.out) hb)
    have n1_ := Ae_q (bT_q (by repeat (with_reducible first | exact HB.out | apply bA_q | apply pB_q | apply bD_q | refine bS_q ?_ GE185.out)) hb)
    clear BK185
    clear HB
    have BK185 := n0_
    have HB := n1_
    clear n0_ n1_
    (try clear hb)
    (try clear hb2)
    (try clear hk)
    (try clear hi)
    refine hK.out _ _ ⟨(bC_q BK185.out 0).trans rfl, (bC_q BK185.out 1).trans rfl, (bC_q BK185.out 2).trans rfl, (bC_q BK185.out 3).trans rfl, (bC_q BK185.out 4).trans rfl, (bC_q BK185.out 5).trans rfl, (cel HB.out hw187_0), (cel HB.out hw187_1), (cel HB.out hw187_2), (cel HB.out hw187_3), (cel HB.out hw187_4), (cel HB.out hw187_5)⟩ (fun hHeld => ?_)
    clear hK K
    refine norm_ (a' := ?_) ?_ ?_
    rotate_left
    ·show Act.put _ (some 13) _ = _
     simp only [pS_q]
     rfl
    refine pI (v := ?_) (a' := ?_) HT_ 2 14 rfl rfl (by kernel_rfl) (fun _ _ _ h => h) (by rfl) ?_ ?_ ?_
    rotate_left
    ·intro w'
     go_simp
     with_reducible rfl
    rotate_left
    ·simp only [pS_q]
     rfl
    refine pI (v := ?_) (a' := ?_) HT_ 3 15 rfl rfl (by kernel_rfl) (fun _ _ _ h => h) (by rfl) ?_ ?_ ?_
    rotate_left
    ·intro w'
     go_simp
     with_reducible rfl
    rotate_left
    ·simp only [pS_q]
     rfl
    refine pI (v := ?_) (a' := ?_) HT_ 4 16 rfl rfl (by kernel_rfl) (fun _ _ _ h => h) (by rfl) ?_ ?_ ?_
    rotate_left
    ·intro w'
     go_simp
     with_reducible rfl
    rotate_left
    ·simp only [pS_q]
     rfl
    refine pI (v := ?_) (a' := ?_) HT_ 5 17 rfl rfl (by kernel_rfl) (fun _ _ _ h => h) (by rfl) ?_ ?_ ?_
    rotate_left
    ·intro w'
     go_simp
     with_reducible rfl
    rotate_left
    ·simp only [pS_q]
     rfl
    refine pI (v := ?_) (a' := ?_) HT_ 6 18 rfl rfl (by kernel_rfl) (fun _ _ _ h => h) (by rfl) ?_ ?_ ?_
    rotate_left
    ·intro w'
     go_simp
     with_reducible rfl
    rotate_left
    ·simp only [pS_q]
     rfl
    refine pI (v := ?_) (a' := ?_) HT_ 7 19 rfl rfl (by kernel_rfl) (fun _ _ _ h => h) (by rfl) ?_ ?_ ?_
    rotate_left
    ·intro w'
     go_simp
     with_reducible rfl
    rotate_left
    ·simp only [pS_q]
     rfl
    refine pI (v := ?_) (a' := ?_) HT_ 8 20 rfl rfl (by kernel_rfl) (fun _ _ _ h => h) (by rfl) ?_ ?_ ?_
    rotate_left
    ·intro w'
     go_simp
     with_reducible rfl
    rotate_left
    ·simp only [pS_q]
     rfl
    refine pI (v := ?_) (a' := ?_) HT_ 9 21 rfl rfl (by kernel_rfl) (fun _ _ _ h => h) (by rfl) ?_ ?_ ?_
    rotate_left
    ·intro w'
     go_simp
     with_reducible rfl
    rotate_left
    ·simp only [pS_q]
     rfl
    refine pI (v := ?_) (a' := ?_) HT_ 10 22 rfl rfl (by kernel_rfl) (fun _ _ _ h => h) (by rfl) ?_ ?_ ?_
    rotate_left
    ·intro w'
     go_simp
     with_reducible rfl
    rotate_left
    ·simp only [pS_q]
     rfl
    refine pI (v := ?_) (a' := ?_) HT_ 11 23 rfl rfl (by kernel_rfl) (fun _ _ _ h => h) (by rfl) ?_ ?_ ?_
    rotate_left
    ·intro w'
     go_simp
     with_reducible rfl
    rotate_left
    ·simp only [pS_q]
     rfl
    refine pI (v := ?_) (a' := ?_) HT_ 13 25 rfl rfl (by kernel_rfl) (fun _ _ _ h => h) (by rfl) ?_ ?_ ?_
    rotate_left
    ·intro w'
     go_simp
     with_reducible rfl
    rotate_left
    ·simp only [pS_q]
     rfl
    refine take_ (i := 12) (N := some 24) (v := ?_) (a' := ?_) #[true, true, true, true, true, true, true, true, true, true, true, true, true, true, false, false, false, false] rfl rfl (take_ofW HT_.out HW_.out (by kernel_rfl)) (fun _ _ _ h => h) (Or.inl ⟨by rfl, ?_⟩) hHeld ?_ ?_
    rotate_left
    ·rintro w' ⟨s0, s1, s2, s3, s4, s5, s6, s7, s8, s9, s10, s11⟩
     go_simp
     with_reducible rfl
    rotate_left
    ·simp only [pS_q]
     rfl
    refine take_ (i := 14) (N := some 26) (v := ?_) (a' := ?_) #[true, true, true, true, true, true, true, true, true, true, true, true, true, true, true, false, false, false] rfl rfl (take_ofW HT_.out HW_.out (by kernel_rfl)) (fun _ _ _ h => h) (Or.inl ⟨by rfl, ?_⟩) hHeld ?_ ?_
    rotate_left
    ·rintro w' ⟨s0, s1, s2, s3, s4, s5, s6, s7, s8, s9, s10, s11⟩
     go_simp
     with_reducible rfl
    rotate_left
    ·simp only [pS_q]
     rfl
    refine pI (v := ?_) (a' := ?_) HT_ 15 27 rfl rfl (by kernel_rfl) (fun _ _ _ h => h) (by rfl) ?_ ?_ ?_
    rotate_left
    ·intro w'
     go_simp
     with_reducible rfl
    rotate_left
    ·simp only [pS_q]
     rfl
    refine pI (v := ?_) (a' := ?_) HT_ 16 28 rfl rfl (by kernel_rfl) (fun _ _ _ h => h) (by rfl) ?_ ?_ ?_
    rotate_left
    ·intro w'
     go_simp
     with_reducible rfl
    rotate_left
    ·simp only [pS_q]
     rfl
    refine pI (v := ?_) (a' := ?_) HT_ 17 29 rfl rfl (by kernel_rfl) (fun _ _ _ h => h) (by rfl) ?_ ?_ ?_
    rotate_left
    ·intro w'
     go_simp
     with_reducible rfl
    rotate_left
    ·simp only [pS_q]
     rfl
    refine done_ (done_of HT_.out (by kernel_rfl)) ?_
    try go_wp2
    go_ret
    exact ⟨by first | rfl | (simp [eN_q, eS_q] <;> rfl) | (simp only [← hji8]; first | rfl | (simp [eN_q, eS_q] <;> rfl)) | (simp [*, eN_q, eS_q] <;> rfl), by repeat (with_reducible first | exact HB.out | apply bA_q | apply pB_q | apply bD_q | refine bS_q ?_ GE185.out)⟩
   rw [if_neg c11] at H
   have c11b0 : decide (((rd_T27 l0 x7_1).f1) < ((rd_T27 l0 (ji8)).f1)) = false := dF_q c11
   clear c11
   have H' := Ae_q H
   clear H
   have p184 : 0 ≤ (x7_1 : Int) := oD_q (by assumption)
   have q184 : x7_1 < (l0.length : Int) := oD_q (by assumption)
   obtain ⟨ad184, e184, hx184_0, hx184_1, hx184_2, hx184_3, hx184_4, hx184_5⟩ := at_T27 HR0.out x7_1 p184 q184
   cases e184
   replace hx184_0 := cel HB.out hx184_0
   replace hx184_1 := cel HB.out hx184_1
   replace hx184_2 := cel HB.out hx184_2
   replace hx184_3 := cel HB.out hx184_3
   replace hx184_4 := cel HB.out hx184_4
   replace hx184_5 := cel HB.out hx184_5
   replace p184 := eq_true p184
   replace q184 := eq_true q184
   try go_wp2_with (first | ((with_reducible refine gD_q (N := 4) rfl ?_); refine bE_q ?hg (N := 4) ?hd (cs := #[.int .i64 0, .int .i64 0, .int .i64 0, .int .i64 0, .int .i64 0, .int .i64 0]) (t := 27) ?hr ?_; (case hd => rfl); (case hg => rfl); (case hr => first | (go_simp; done) | (go_simp; rfl)); intro gb185 hg w17 hbox hb; have n0_ := Ae_q (bT_q (bel HB.out) hb); have n1_ := Ae_q (hbox); have n2_ := Ae_q ((by rw [hg]; exact (bZ_q (bel HB.out)) : w.heap.size ≤ gb185)); have n3_ := Ae_q ((by rw [hg]; exact (bZ_q (bel HB.out)) : w.heap.size ≤ gb185)); clear HB; have HB := n0_; have BK185 := n1_; have GW185 := n2_; have GE185 := n3_; clear n0_ n1_ n2_ n3_; clear hb hbox hg; have hcz18_0 : cI w17 gb185 0 0 := cZ BK185 0 rfl; have hcz18_1 : cI w17 gb185 1 0 := cZ BK185 1 rfl; have hcz18_2 : cI w17 gb185 2 0 := cZ BK185 2 rfl; have hcz18_3 : cI w17 gb185 3 0 := cZ BK185 3 rfl; have hcz18_4 : cI w17 gb185 4 0 := cZ BK185 4 rfl; have hcz18_5 : cI w17 gb185 5 0 := cZ BK185 5 rfl; have hfz18_0 := bF_q BK185.out 0; have hfz18_1 := bF_q BK185.out 1; have hfz18_2 := bF_q BK185.out 2; have hfz18_3 := bF_q BK185.out 3; have hfz18_4 := bF_q BK185.out 4; have hfz18_5 := bF_q BK185.out 5))
   have n0_ : Aside0 (((((((w17.setCell ⟨gb185, 0, none⟩ (.int .i64 ((rd_T27 l0 x7_1).f0))).setCell ⟨gb185, 1, none⟩ (.int .i64 ((rd_T27 l0 x7_1).f1))).setCell ⟨gb185, 2, none⟩ (.int .i64 ((rd_T27 l0 x7_1).f2))).setCell ⟨gb185, 3, none⟩ (.int .i64 ((rd_T27 l0 x7_1).f3))).setCell ⟨gb185, 4, none⟩ (.int .i64 ((rd_T27 l0 x7_1).f4))).setCell ⟨gb185, 5, none⟩ (.int .i64 ((rd_T27 l0 x7_1).f5))).heap[gb185]? = some (.cells #[.int .i64 ((rd_T27 l0 x7_1).f0), .int .i64 ((rd_T27 l0 x7_1).f1), .int .i64 ((rd_T27 l0 x7_1).f2), .int .i64 ((rd_T27 l0 x7_1).f3), .int .i64 ((rd_T27 l0 x7_1).f4), .int .i64 ((rd_T27 l0 x7_1).f5)] 27 (0, 0))) := ⟨by (with_reducible repeat (first | refine bN_q ?_ _ | refine bW_q ?_ | refine bL_q ?_ _)); refine blk_put (cs := #[.int .i64 ((rd_T27 l0 x7_1).f0), .int .i64 ((rd_T27 l0 x7_1).f1), .int .i64 ((rd_T27 l0 x7_1).f2), .int .i64 ((rd_T27 l0 x7_1).f3), .int .i64 ((rd_T27 l0 x7_1).f4), .int .i64 0]) ?_ 5 _ rfl; (with_reducible repeat (first | refine bN_q ?_ _ | refine bW_q ?_ | refine bL_q ?_ _)); refine blk_put (cs := #[.int .i64 ((rd_T27 l0 x7_1).f0), .int .i64 ((rd_T27 l0 x7_1).f1), .int .i64 ((rd_T27 l0 x7_1).f2), .int .i64 ((rd_T27 l0 x7_1).f3), .int .i64 0, .int .i64 0]) ?_ 4 _ rfl; (with_reducible repeat (first | refine bN_q ?_ _ | refine bW_q ?_ | refine bL_q ?_ _)); refine blk_put (cs := #[.int .i64 ((rd_T27 l0 x7_1).f0), .int .i64 ((rd_T27 l0 x7_1).f1), .int .i64 ((rd_T27 l0 x7_1).f2), .int .i64 0, .int .i64 0, .int .i64 0]) ?_ 3 _ rfl; (with_reducible repeat (first | refine bN_q ?_ _ | refine bW_q ?_ | refine bL_q ?_ _)); refine blk_put (cs := #[.int .i64 ((rd_T27 l0 x7_1).f0), .int .i64 ((rd_T27 l0 x7_1).f1), .int .i64 0, .int .i64 0, .int .i64 0, .int .i64 0]) ?_ 2 _ rfl; (with_reducible repeat (first | refine bN_q ?_ _ | refine bW_q ?_ | refine bL_q ?_ _)); refine blk_put (cs := #[.int .i64 ((rd_T27 l0 x7_1).f0), .int .i64 0, .int .i64 0, .int .i64 0, .int .i64 0, .int .i64 0]) ?_ 1 _ rfl; (with_reducible repeat (first | refine bN_q ?_ _ | refine bW_q ?_ | refine bL_q ?_ _)); refine blk_put (cs := #[.int .i64 0, .int .i64 0, .int .i64 0, .int .i64 0, .int .i64 0, .int .i64 0]) ?_ 0 _ rfl; (with_reducible repeat (first | refine bN_q ?_ _ | refine bW_q ?_ | refine bL_q ?_ _)); exact BK185.out⟩
   have n1_ : Aside0 (Below w.heap.size w ((((((w17.setCell ⟨gb185, 0, none⟩ (.int .i64 ((rd_T27 l0 x7_1).f0))).setCell ⟨gb185, 1, none⟩ (.int .i64 ((rd_T27 l0 x7_1).f1))).setCell ⟨gb185, 2, none⟩ (.int .i64 ((rd_T27 l0 x7_1).f2))).setCell ⟨gb185, 3, none⟩ (.int .i64 ((rd_T27 l0 x7_1).f3))).setCell ⟨gb185, 4, none⟩ (.int .i64 ((rd_T27 l0 x7_1).f4))).setCell ⟨gb185, 5, none⟩ (.int .i64 ((rd_T27 l0 x7_1).f5)))) := ⟨by repeat (with_reducible first | exact HB.out | apply bA_q | apply pB_q | apply bD_q | refine bS_q ?_ GE185.out)⟩
   (try clear BK185)
   (try clear HB)
   generalize ((((((w17.setCell ⟨gb185, 0, none⟩ (.int .i64 ((rd_T27 l0 x7_1).f0))).setCell ⟨gb185, 1, none⟩ (.int .i64 ((rd_T27 l0 x7_1).f1))).setCell ⟨gb185, 2, none⟩ (.int .i64 ((rd_T27 l0 x7_1).f2))).setCell ⟨gb185, 3, none⟩ (.int .i64 ((rd_T27 l0 x7_1).f3))).setCell ⟨gb185, 4, none⟩ (.int .i64 ((rd_T27 l0 x7_1).f4))).setCell ⟨gb185, 5, none⟩ (.int .i64 ((rd_T27 l0 x7_1).f5))) = w19 at n0_ n1_ ⊢
   have BK185 := n0_
   have HB := n1_
   clear n0_ n1_
   have n0_ := Ae_q (bW_q BK185.out)
   have n1_ := Ae_q (bD_q HB.out)
   clear BK185
   clear HB
   have BK185 := n0_
   have HB := n1_
   clear n0_ n1_
   have p187 : 0 ≤ ((ji8) : Int) := oD_q (by assumption)
   have q187 : (ji8) < (l0.length : Int) := oD_q (by assumption)
   obtain ⟨ad187, e187, hx187_0, hx187_1, hx187_2, hx187_3, hx187_4, hx187_5⟩ := at_T27 HR0.out (ji8) p187 q187
   have hw187_5 := hx187_5
   have hw187_4 := hx187_4
   have hw187_3 := hx187_3
   have hw187_2 := hx187_2
   have hw187_1 := hx187_1
   have hw187_0 := hx187_0
   obtain rfl : ad184 = ad187 := (by injection e187)
   replace hx187_0 := cel HB.out hx187_0
   replace hx187_1 := cel HB.out hx187_1
   replace hx187_2 := cel HB.out hx187_2
   replace hx187_3 := cel HB.out hx187_3
   replace hx187_4 := cel HB.out hx187_4
   replace hx187_5 := cel HB.out hx187_5
   replace p187 := eq_true p187
   replace q187 := eq_true q187
   refine start_ (n := 18) (S := fun w' => w'.cell? ⟨gb185, 0, none⟩ = some (.int .i64 ((rd_T27 l0 x7_1).f0)) ∧ w'.cell? ⟨gb185, 1, none⟩ = some (.int .i64 ((rd_T27 l0 x7_1).f1)) ∧ w'.cell? ⟨gb185, 2, none⟩ = some (.int .i64 ((rd_T27 l0 x7_1).f2)) ∧ w'.cell? ⟨gb185, 3, none⟩ = some (.int .i64 ((rd_T27 l0 x7_1).f3)) ∧ w'.cell? ⟨gb185, 4, none⟩ = some (.int .i64 ((rd_T27 l0 x7_1).f4)) ∧ w'.cell? ⟨gb185, 5, none⟩ = some (.int .i64 ((rd_T27 l0 x7_1).f5)) ∧ w'.cell? (ad184.add (((ji8)).toNat * 6)) = some (.int .i64 ((rd_T27 l0 (ji8)).f0)) ∧ w'.cell? ⟨(ad184.add (((ji8)).toNat * 6)).block, (ad184.add (((ji8)).toNat * 6)).off + 1, none⟩ = some (.int .i64 ((rd_T27 l0 (ji8)).f1)) ∧ w'.cell? ⟨(ad184.add (((ji8)).toNat * 6)).block, (ad184.add (((ji8)).toNat * 6)).off + 2, none⟩ = some (.int .i64 ((rd_T27 l0 (ji8)).f2)) ∧ w'.cell? ⟨(ad184.add (((ji8)).toNat * 6)).block, (ad184.add (((ji8)).toNat * 6)).off + 3, none⟩ = some (.int .i64 ((rd_T27 l0 (ji8)).f3)) ∧ w'.cell? ⟨(ad184.add (((ji8)).toNat * 6)).block, (ad184.add (((ji8)).toNat * 6)).off + 4, none⟩ = some (.int .i64 ((rd_T27 l0 (ji8)).f4)) ∧ w'.cell? ⟨(ad184.add (((ji8)).toNat * 6)).block, (ad184.add (((ji8)).toNat * 6)).off + 5, none⟩ = some (.int .i64 ((rd_T27 l0 (ji8)).f5))) (ds := []) #[false, false, false, false, false, false, false, false, false, false, false, false, false, false, false, false, false, false] (by kernel_rfl) rfl rfl ⟨(bC_q BK185.out 0).trans rfl, (bC_q BK185.out 1).trans rfl, (bC_q BK185.out 2).trans rfl, (bC_q BK185.out 3).trans rfl, (bC_q BK185.out 4).trans rfl, (bC_q BK185.out 5).trans rfl, (cel HB.out hw187_0), (cel HB.out hw187_1), (cel HB.out hw187_2), (cel HB.out hw187_3), (cel HB.out hw187_4), (cel HB.out hw187_5)⟩ (fun hHeld => ?_); refine with_tabW impl_EventsValid.tab4 impl_EventsValid.bits4 (fun HT_ HW_ => ?_)
   generalize w19.drew = w20 at BK185 HB hx187_0 hx187_1 hx187_2 hx187_3 hx187_4 hx187_5 hHeld ⊢
   refine take_ (i := 0) (N := some 12) (v := ?_) (a' := ?_) #[true, false, false, false, false, false, false, false, false, false, false, false, false, false, false, false, false, false] rfl rfl (take_ofW HT_.out HW_.out (by kernel_rfl)) (fun _ _ _ h => h) (Or.inl ⟨by rfl, ?_⟩) hHeld ?_ ?_
   rotate_left
   ·rintro w' ⟨s0, s1, s2, s3, s4, s5, s6, s7, s8, s9, s10, s11⟩
    go_simp
    with_reducible rfl
   rotate_left
   ·simp only [pS_q]
    rfl
   refine one_ (i := 1) (N := some 13) #[true, true, false, false, false, false, false, false, false, false, false, false, false, false, false, false, false, false] rfl rfl (one_of HT_.out (by kernel_rfl)) (by decide) (fun K hK => ?_)
   refine goes_ Try.func44 (by kernel_rfl) rfl #[.agg #[.int .i64 ((rd_T27 l0 x7_1).f0), .int .i64 ((rd_T27 l0 x7_1).f1), .int .i64 ((rd_T27 l0 x7_1).f2), .int .i64 ((rd_T27 l0 x7_1).f3), .int .i64 ((rd_T27 l0 x7_1).f4), .int .i64 ((rd_T27 l0 x7_1).f5)]] (by rfl) rfl rfl (by (try simp only [lM_q, lC_q, lN_q]); first | done | rfl | (simp only [lD_q, lT_q]; rfl)) ?_
   with_reducible refine (impl_eventValid.calls k1 ((rd_T27 l0 x7_1).f0) ((rd_T27 l0 x7_1).f1) ((rd_T27 l0 x7_1).f2) ((rd_T27 l0 x7_1).f3) ((rd_T27 l0 x7_1).f4) ((rd_T27 l0 x7_1).f5) true _ A5.out).mono ?_
   rintro e w21 ⟨rfl, hb⟩
   refine ⟨_, rfl, ?_⟩
   have n0_ := Ae_q (bB_q (g := gb185) (o := .cells #[.int .i64 ((rd_T27 l0 x7_1).f0), .int .i64 ((rd_T27 l0 x7_1).f1), .int .i64 ((rd_T27 l0 x7_1).f2), .int .i64 ((rd_T27 l0 x7_1).f3), .int .i64 ((rd_T27 l0 x7_1).f4), .int .i64 ((rd_T27 l0 x7_1).f5)] 27 (0, 0)) (bup BK185.out) hb)
   have n1_ := Ae_q (bT_q (by repeat (with_reducible first | exact HB.out | apply bA_q | apply pB_q | apply bD_q | refine bS_q ?_ GE185.out)) hb)
   clear BK185
   clear HB
   have BK185 := n0_
   have HB := n1_
   clear n0_ n1_
   (try clear hb)
   (try clear hb2)
   (try clear hk)
   (try clear hi)
   refine hK.out _ _ ⟨(bC_q BK185.out 0).trans rfl, (bC_q BK185.out 1).trans rfl, (bC_q BK185.out 2).trans rfl, (bC_q BK185.out 3).trans rfl, (bC_q BK185.out 4).trans rfl, (bC_q BK185.out 5).trans rfl, (cel HB.out hw187_0), (cel HB.out hw187_1), (cel HB.out hw187_2), (cel HB.out hw187_3), (cel HB.out hw187_4), (cel HB.out hw187_5)⟩ (fun hHeld => ?_)
   clear hK K
   refine norm_ (a' := ?_) ?_ ?_
   rotate_left
   ·show Act.put _ (some 13) _ = _
    simp only [pS_q]
    rfl
   refine pI (v := ?_) (a' := ?_) HT_ 2 14 rfl rfl (by kernel_rfl) (fun _ _ _ h => h) (by rfl) ?_ ?_ ?_
   rotate_left
   ·intro w'
    go_simp
    with_reducible rfl
   rotate_left
   ·simp only [pS_q]
    rfl
   refine pI (v := ?_) (a' := ?_) HT_ 3 15 rfl rfl (by kernel_rfl) (fun _ _ _ h => h) (by rfl) ?_ ?_ ?_
   rotate_left
   ·intro w'
    go_simp
    with_reducible rfl
   rotate_left
   ·simp only [pS_q]
    rfl
   refine pI (v := ?_) (a' := ?_) HT_ 4 16 rfl rfl (by kernel_rfl) (fun _ _ _ h => h) (by rfl) ?_ ?_ ?_
   rotate_left
   ·intro w'
    go_simp
    with_reducible rfl
   rotate_left
   ·simp only [pS_q]
    rfl
   refine pI (v := ?_) (a' := ?_) HT_ 5 17 rfl rfl (by kernel_rfl) (fun _ _ _ h => h) (by rfl) ?_ ?_ ?_
   rotate_left
   ·intro w'
    go_simp
    with_reducible rfl
   rotate_left
   ·simp only [pS_q]
    rfl
   refine pI (v := ?_) (a' := ?_) HT_ 6 18 rfl rfl (by kernel_rfl) (fun _ _ _ h => h) (by rfl) ?_ ?_ ?_
   rotate_left
   ·intro w'
    go_simp
    with_reducible rfl
   rotate_left
   ·simp only [pS_q]
    rfl
   refine pI (v := ?_) (a' := ?_) HT_ 7 19 rfl rfl (by kernel_rfl) (fun _ _ _ h => h) (by rfl) ?_ ?_ ?_
   rotate_left
   ·intro w'
    go_simp
    with_reducible rfl
   rotate_left
   ·simp only [pS_q]
    rfl
   refine pI (v := ?_) (a' := ?_) HT_ 8 20 rfl rfl (by kernel_rfl) (fun _ _ _ h => h) (by rfl) ?_ ?_ ?_
   rotate_left
   ·intro w'
    go_simp
    with_reducible rfl
   rotate_left
   ·simp only [pS_q]
    rfl
   refine pI (v := ?_) (a' := ?_) HT_ 9 21 rfl rfl (by kernel_rfl) (fun _ _ _ h => h) (by rfl) ?_ ?_ ?_
   rotate_left
   ·intro w'
    go_simp
    with_reducible rfl
   rotate_left
   ·simp only [pS_q]
    rfl
   refine pI (v := ?_) (a' := ?_) HT_ 10 22 rfl rfl (by kernel_rfl) (fun _ _ _ h => h) (by rfl) ?_ ?_ ?_
   rotate_left
   ·intro w'
    go_simp
    with_reducible rfl
   rotate_left
   ·simp only [pS_q]
    rfl
   refine pI (v := ?_) (a' := ?_) HT_ 11 23 rfl rfl (by kernel_rfl) (fun _ _ _ h => h) (by rfl) ?_ ?_ ?_
   rotate_left
   ·intro w'
    go_simp
    with_reducible rfl
   rotate_left
   ·simp only [pS_q]
    rfl
   refine pI (v := ?_) (a' := ?_) HT_ 13 25 rfl rfl (by kernel_rfl) (fun _ _ _ h => h) (by rfl) ?_ ?_ ?_
   rotate_left
   ·intro w'
    go_simp
    with_reducible rfl
   rotate_left
   ·simp only [pS_q]
    rfl
   refine take_ (i := 12) (N := some 24) (v := ?_) (a' := ?_) #[true, true, true, true, true, true, true, true, true, true, true, true, true, true, false, false, false, false] rfl rfl (take_ofW HT_.out HW_.out (by kernel_rfl)) (fun _ _ _ h => h) (Or.inl ⟨by rfl, ?_⟩) hHeld ?_ ?_
   rotate_left
   ·rintro w' ⟨s0, s1, s2, s3, s4, s5, s6, s7, s8, s9, s10, s11⟩
    go_simp
    with_reducible rfl
   rotate_left
   ·simp only [pS_q]
    rfl
   refine take_ (i := 14) (N := some 26) (v := ?_) (a' := ?_) #[true, true, true, true, true, true, true, true, true, true, true, true, true, true, true, false, false, false] rfl rfl (take_ofW HT_.out HW_.out (by kernel_rfl)) (fun _ _ _ h => h) (Or.inl ⟨by rfl, ?_⟩) hHeld ?_ ?_
   rotate_left
   ·rintro w' ⟨s0, s1, s2, s3, s4, s5, s6, s7, s8, s9, s10, s11⟩
    go_simp
    with_reducible rfl
   rotate_left
   ·simp only [pS_q]
    rfl
   refine pI (v := ?_) (a' := ?_) HT_ 15 27 rfl rfl (by kernel_rfl) (fun _ _ _ h => h) (by rfl) ?_ ?_ ?_
   rotate_left
   ·intro w'
    go_simp
    with_reducible rfl
   rotate_left
   ·simp only [pS_q]
    rfl
   refine pI (v := ?_) (a' := ?_) HT_ 16 28 rfl rfl (by kernel_rfl) (fun _ _ _ h => h) (by rfl) ?_ ?_ ?_
   rotate_left
   ·intro w'
    go_simp
    with_reducible rfl
   rotate_left
   ·simp only [pS_q]
    rfl
   refine pI (v := ?_) (a' := ?_) HT_ 17 29 rfl rfl (by kernel_rfl) (fun _ _ _ h => h) (by rfl) ?_ ?_ ?_
   rotate_left
   ·intro w'
    go_simp
    with_reducible rfl
   rotate_left
   ·simp only [pS_q]
    rfl
   refine done_ (done_of HT_.out (by kernel_rfl)) ?_
   try go_wp2
   go_roundg k1
   case measure => have := HK1.out; omega
   case rel => exact ⟨(wrap64 (x7_1 + 1)), (by first | rfl | (simp; done) | (simp [*]; done)), H', ⟨by have := HK1.out; omega⟩, ⟨by repeat (with_reducible first | exact HB.out | apply bA_q | apply pB_q | apply bD_q | refine bS_q ?_ GE185.out)⟩⟩

def spec_l6In.f (a0 : Int) (a1 : Int) (a2 : Int) : Option (Bool) := if a0 ≥ a1 then (some (decide (a0 ≤ a2))) else (some false)
set_option maxHeartbeats 8000000 in
set_option maxRecDepth 100000 in
theorem spec_l6In.calls (a0 : Int) (a1 : Int) (a2 : Int) (r : Bool) (w : World) (h : spec_l6In.f a0 a1 a2 = some r) :
    Calls Try.prog 45 #[.int .i64 a0, .int .i64 a1, .int .i64 a2] w fun e w' => e = .returned (.bool r) ∧ Drawn0 w w' := by
 have H : (if a0 ≥ a1 then (some (decide (a0 ≤ a2))) else (some false)) = some r := h
 clear h
 by_cases c4 : a0 ≥ a1
 ·rw [if_pos c4] at H
  have c4b0 : decide (a1 ≤ a0) = true := dT_q c4
  clear c4
  obtain rfl := oI_q H
  go_enter Try.func45, Try.ntmps45
  go_wp2
  go_ret
  exact ⟨by first | rfl | (simp; done) | (simp [*]; done), by repeat (first | exact Drawn0.refl _ | apply Drawn0.step)⟩
 rw [if_neg c4] at H
 have c4b0 : decide (a1 ≤ a0) = false := dF_q c4
 clear c4
 obtain rfl := oI_q H
 go_enter Try.func45, Try.ntmps45
 go_wp2
 go_ret
 exact ⟨by first | rfl | (simp; done) | (simp [*]; done), by repeat (first | exact Drawn0.refl _ | apply Drawn0.step)⟩

end Go.Proofs.Ytnhenfmegpjigaa.PEv
