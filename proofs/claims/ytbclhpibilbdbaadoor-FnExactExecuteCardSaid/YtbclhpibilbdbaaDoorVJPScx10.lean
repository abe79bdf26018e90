import Derived.Test.YtbclhpibilbdbaaDoorVJPScx0
import Derived.Test.YtbclhpibilbdbaaDoorVJPScx9
namespace Go.Proofs.YtbclhpibilbdbaaDoor.PSc
open Go.RowKit Go.Proofs.YtbclhpibilbdbaaDoorW.PrintWords Go.Proofs.YtbclhpibilbdbaaDoorW.PrintLast Go.Proofs.YtbclhpibilbdbaaDoorW.PrintMore
attribute [local go_sem] max2_int min2_int max_two min_two max_three min_three max_four min_four
set_option linter.unusedVariables false
set_option linter.unusedSimpArgs false

def impl_StoreValid.l0 : Nat → List (S49) → List (S49) → Int → Int → Option (Bool)
 | 0, _, _, _, _ => none
 | k + 1, x0, x5, x6, x7 => if x7 < x6 then (if 0 ≤ x7 then (if x7 < (x5.length : Int) then ((impl_lotValid.f ((rd_T49 x5 x7).f0) ((rd_T49 x5 x7).f1) ((rd_T49 x5 x7).f2)).bind fun t160 => (if t160 = true then (if x7 > 0 then (if 0 ≤ (wrap64 (x7 - 1)) then (if (wrap64 (x7 - 1)) < (x0.length : Int) then ((impl_compareLots.f k ((rd_T49 x0 (wrap64 (x7 - 1))).f0) ((rd_T49 x0 (wrap64 (x7 - 1))).f1) ((rd_T49 x0 (wrap64 (x7 - 1))).f2) ((rd_T49 x5 x7).f0) ((rd_T49 x5 x7).f1) ((rd_T49 x5 x7).f2)).bind fun t162 => (if t162 ≥ 0 then (some false) else (impl_StoreValid.l0 k x0 x5 x6 (wrap64 (x7 + 1))))) else (none)) else (none)) else (impl_StoreValid.l0 k x0 x5 x6 (wrap64 (x7 + 1)))) else (some false))) else (none)) else (none)) else (some (decide ((x0.length : Int) ≤ 12)))
def impl_StoreValid.f (k : Nat) (l0 : List (S49)) : Option (Bool) := impl_StoreValid.l0 k l0 l0 (l0.length : Int) 0
def impl_StoreValid.T4 : Bool × List (List Nat × List Nat) := (true, [([], []), ([0], [0]), ([1], [1]), ([2, 1], [2]), ([3], [3]), ([4, 3], [3, 4]), ([5, 3, 3], [3, 5]), ([6], [6]), ([6], [6]), ([8, 6], [6, 8]), ([7, 9, 6], [6, 7, 9]), ([10, 6], [6, 10]), ([6], [6]), ([11, 12, 6, 6], [6, 11, 12]), ([13, 6], [6, 13]), ([6, 14, 3], [3, 6, 14]), ([3, 15], [3, 15])])
def impl_StoreValid.B4 : List Nat := [0, 1, 3, 7, 15, 31, 63, 127, 127, 383, 1023, 2047, 127, 8191, 16383, 32767, 65535]
theorem impl_StoreValid.tab4 : rtab .any (opsOf Tryd.f45 4) = impl_StoreValid.T4 := by kernel_rfl
theorem impl_StoreValid.bits4 : waitsOk impl_StoreValid.T4.2 impl_StoreValid.B4 = true := by kernel_rfl
set_option maxHeartbeats 8000000 in
set_option maxRecDepth 100000 in
theorem impl_StoreValid.calls (k : Nat) (A0 : Option Addr) (c0 : Nat) (l0 : List (S49)) (r : Bool) (w : World) (hr0 : Kd.C k49 w A0 l0.length l0) (hc0 : l0.length ≤ c0) (h : impl_StoreValid.f k l0 = some r) :
    Calls Tryd.prog 45 #[.slice A0 l0.length c0] w fun e w' => e = .returned (.bool r) ∧ Below w.heap.size w w' := by
 have hu49 := Tryd.underlying49
 have HR0 := Ae_q hr0
 have HC0 := Ae_q hc0
 clear hr0 hc0
 have HB := Ae_q (bR_q w.heap.size w)
 have H : (impl_StoreValid.l0 k l0 l0 (l0.length : Int) 0) = some r := h
 clear h
 have H' := Ae_q H
 clear H
 go_enter Tryd.func45, Tryd.ntmps45
 go_wp2
 go_loopg [7] k (fun kq v7 w' => ∃ (x7_1 : Int), v7 = .int .i64 x7_1 ∧ Aside0 (impl_StoreValid.l0 kq l0 l0 (l0.length : Int) x7_1 = some r) ∧ Aside0 (kq ≤ k) ∧ Aside0 (Below w.heap.size w w'))
 case atStart => exact ⟨(0), m2_q, H', ⟨nR_q _⟩, ⟨bel HB.out⟩⟩
 case round =>
  clear H'
  obtain ⟨x7_1, rfl, HA, HK1, HB⟩ := hrel
  cases gk with
  | zero => exact absurd HA.out (by simp [impl_StoreValid.l0])
  | succ k1 =>
   have H := HA.out
   clear HA
   simp only [impl_StoreValid.l0] at H
   by_cases c2 : x7_1 < (l0.length : Int)
   rotate_left
   ·rw [if_neg c2] at H
    have c2b0 : decide (x7_1 < (l0.length : Int)) = false := dF_q c2
    clear c2
    obtain rfl := oI_q H
    go_wp2
    go_ret
    exact ⟨m3_q, bel HB.out⟩
   rw [if_pos c2] at H
   have c2b0 : decide (x7_1 < (l0.length : Int)) = true := dT_q c2
   clear c2
   by_cases c3 : 0 ≤ x7_1
   rotate_left
   ·rw [if_neg c3] at H
    exact absurd H (by simp)
   rw [if_pos c3] at H
   have c3b0 : decide (0 ≤ x7_1) = true := dT_q c3
   clear c3
   by_cases c4 : x7_1 < (l0.length : Int)
   rotate_left
   ·rw [if_neg c4] at H
    exact absurd H (by simp)
   rw [if_pos c4] at H
   have c4b0 : decide (x7_1 < (l0.length : Int)) = true := dT_q c4
   clear c4
   replace H := oB_q.mp H
   obtain ⟨t160, A50, H⟩ := H
   replace H : (if t160 = true then (if x7_1 > 0 then (if 0 ≤ (wrap64 (x7_1 - 1)) then (if (wrap64 (x7_1 - 1)) < (l0.length : Int) then ((impl_compareLots.f k1 ((rd_T49 l0 (wrap64 (x7_1 - 1))).f0) ((rd_T49 l0 (wrap64 (x7_1 - 1))).f1) ((rd_T49 l0 (wrap64 (x7_1 - 1))).f2) ((rd_T49 l0 x7_1).f0) ((rd_T49 l0 x7_1).f1) ((rd_T49 l0 x7_1).f2)).bind fun t162 => (if t162 ≥ 0 then (some false) else (impl_StoreValid.l0 k1 l0 l0 (l0.length : Int) (wrap64 (x7_1 + 1))))) else (none)) else (none)) else (impl_StoreValid.l0 k1 l0 l0 (l0.length : Int) (wrap64 (x7_1 + 1)))) else (some false)) = some r := H
   have A5 := Ae_q A50
   clear A50
   by_cases c6 : t160 = true
   rotate_left
   ·replace c6 := fM_q.mpr c6
    subst c6
    have H1 : (some false) = some r := by rw [if_neg (show ¬ (false = true) by decide)] at H; exact H
    clear H
    have H := H1
    clear H1
    obtain rfl := oI_q H
    have p158 : 0 ≤ (x7_1 : Int) := oD_q (by assumption)
    have q158 : x7_1 < (l0.length : Int) := oD_q (by assumption)
    obtain ⟨ad158, e158, hx158_0, hx158_1, hx158_2⟩ := at_T49 HR0.out x7_1 p158 q158
    cases e158
    replace hx158_0 := cel HB.out hx158_0
    replace hx158_1 := cel HB.out hx158_1
    replace hx158_2 := cel HB.out hx158_2
    replace p158 := eq_true p158
    replace q158 := eq_true q158
    try go_wp2_with (first | ((with_reducible refine gD_q (N := 4) rfl ?_); refine bE_q ?hg (N := 4) ?hd (cs := #[.int .i64 0, .int .i64 0, .int .i64 0]) (t := 49) ?hr ?_; (case hd => rfl); (case hg => rfl); (case hr => exact m10_q); intro gb159 hg w30 hbox hb; have BK159 := Ae_q (hbox); have GW159 := Ae_q ((by rw [hg]; exact (bZ_q (bel HB.out)) : w.heap.size ≤ gb159)); have GE159 := Ae_q ((by rw [hg]; exact (bZ_q (bel HB.out)) : w.heap.size ≤ gb159)); replace HB := Ae_q (bT_q (bel HB.out) hb); clear hb hbox hg; have hcz31_0 : cI w30 gb159 0 0 := cZ BK159 0 rfl; have hcz31_1 : cI w30 gb159 1 0 := cZ BK159 1 rfl; have hcz31_2 : cI w30 gb159 2 0 := cZ BK159 2 rfl; have hfz31_0 := bF_q BK159.out 0; have hfz31_1 := bF_q BK159.out 1; have hfz31_2 := bF_q BK159.out 2))
    have n0_ : Aside0 ((((w30.setCell ⟨gb159, 0, none⟩ (.int .i64 ((rd_T49 l0 x7_1).f0))).setCell ⟨gb159, 1, none⟩ (.int .i64 ((rd_T49 l0 x7_1).f1))).setCell ⟨gb159, 2, none⟩ (.int .i64 ((rd_T49 l0 x7_1).f2))).heap[gb159]? = some (.cells #[.int .i64 ((rd_T49 l0 x7_1).f0), .int .i64 ((rd_T49 l0 x7_1).f1), .int .i64 ((rd_T49 l0 x7_1).f2)] 49 (0, 0))) := ⟨m8_q⟩
    have n1_ : Aside0 (Below w.heap.size w (((w30.setCell ⟨gb159, 0, none⟩ (.int .i64 ((rd_T49 l0 x7_1).f0))).setCell ⟨gb159, 1, none⟩ (.int .i64 ((rd_T49 l0 x7_1).f1))).setCell ⟨gb159, 2, none⟩ (.int .i64 ((rd_T49 l0 x7_1).f2)))) := ⟨m16_q⟩
    (try clear BK159)
    (try clear HB)
    generalize (((w30.setCell ⟨gb159, 0, none⟩ (.int .i64 ((rd_T49 l0 x7_1).f0))).setCell ⟨gb159, 1, none⟩ (.int .i64 ((rd_T49 l0 x7_1).f1))).setCell ⟨gb159, 2, none⟩ (.int .i64 ((rd_T49 l0 x7_1).f2))) = w32 at n0_ n1_ ⊢
    have BK159 := n0_
    have HB := n1_
    clear n0_ n1_
    replace BK159 := Ae_q (bW_q BK159.out)
    replace HB := Ae_q (bD_q HB.out)
    refine start_ (n := 17) (S := fun w' => w'.cell? ⟨gb159, 0, none⟩ = some (.int .i64 ((rd_T49 l0 x7_1).f0)) ∧ w'.cell? ⟨gb159, 1, none⟩ = some (.int .i64 ((rd_T49 l0 x7_1).f1)) ∧ w'.cell? ⟨gb159, 2, none⟩ = some (.int .i64 ((rd_T49 l0 x7_1).f2))) (ds := []) #[false, false, false, false, false, false, false, false, false, false, false, false, false, false, false, false, false] m6_q rfl rfl ⟨(bC_q BK159.out 0).trans rfl, (bC_q BK159.out 1).trans rfl, (bC_q BK159.out 2).trans rfl⟩ (fun hHeld => ?_); refine with_tabW impl_StoreValid.tab4 impl_StoreValid.bits4 (fun HT_ HW_ => ?_)
    generalize w32.drew = w33 at BK159 HB hHeld ⊢
    refine take_ (i := 0) (N := some 12) (v := ?_) (a' := ?_) #[true, false, false, false, false, false, false, false, false, false, false, false, false, false, false, false, false] rfl rfl (take_ofW HT_.out HW_.out m6_q) (fun _ _ _ h => h) (Or.inl ⟨by rfl, ?_⟩) hHeld ?_ ?_
    rotate_left
    ·rintro w' ⟨s0, s1, s2⟩
     go_simp
     with_reducible rfl
    rotate_left
    ·simp only [pS_q]
     rfl
    refine one_ (i := 1) (N := some 13) #[true, true, false, false, false, false, false, false, false, false, false, false, false, false, false, false, false] rfl rfl (one_of HT_.out m6_q) (by decide) (fun K hK => ?_)
    refine goes_ Tryd.func46 m6_q rfl #[.agg #[.int .i64 ((rd_T49 l0 x7_1).f0), .int .i64 ((rd_T49 l0 x7_1).f1), .int .i64 ((rd_T49 l0 x7_1).f2)]] (by rfl) rfl rfl m0_q ?_
    with_reducible refine (impl_lotValid.calls ((rd_T49 l0 x7_1).f0) ((rd_T49 l0 x7_1).f1) ((rd_T49 l0 x7_1).f2) false _ A5.out).mono ?_
    rintro e w' ⟨rfl, hb⟩
    refine ⟨_, rfl, ?_⟩
    replace BK159 := Ae_q (bB_q (g := gb159) (o := .cells #[.int .i64 ((rd_T49 l0 x7_1).f0), .int .i64 ((rd_T49 l0 x7_1).f1), .int .i64 ((rd_T49 l0 x7_1).f2)] 49 (0, 0)) (bup BK159.out) hb)
    replace HB := Ae_q (bT_q m16_q hb)
    (try clear hb)
    (try clear hb2)
    (try clear hk)
    (try clear hi)
    refine hK.out _ _ ⟨(bC_q BK159.out 0).trans rfl, (bC_q BK159.out 1).trans rfl, (bC_q BK159.out 2).trans rfl⟩ (fun hHeld => ?_)
    clear hK K
    refine nJ_q ?_
    refine pJ HT_ 2 14 rfl rfl ?_
    refine pJ HT_ 3 15 rfl rfl ?_
    refine pV HT_ 4 16 rfl rfl ?_
    refine pV HT_ 5 17 rfl rfl ?_
    refine pV HT_ 6 18 rfl rfl ?_
    refine pV HT_ 7 19 rfl rfl ?_
    refine pV HT_ 8 20 rfl rfl ?_
    refine pV HT_ 9 21 rfl rfl ?_
    refine pV HT_ 10 22 rfl rfl ?_
    refine pV HT_ 11 23 rfl rfl ?_
    refine pV HT_ 12 24 rfl rfl ?_
    refine pV HT_ 13 25 rfl rfl ?_
    refine pV HT_ 14 26 rfl rfl ?_
    refine pV HT_ 15 27 rfl rfl ?_
    refine pJ HT_ 16 28 rfl rfl ?_
    refine done_ (done_of HT_.out m6_q) ?_
    try go_wp2
    go_ret
    exact ⟨m3_q, m16_q⟩
   subst c6
   have H1 : (if x7_1 > 0 then (if 0 ≤ (wrap64 (x7_1 - 1)) then (if (wrap64 (x7_1 - 1)) < (l0.length : Int) then ((impl_compareLots.f k1 ((rd_T49 l0 (wrap64 (x7_1 - 1))).f0) ((rd_T49 l0 (wrap64 (x7_1 - 1))).f1) ((rd_T49 l0 (wrap64 (x7_1 - 1))).f2) ((rd_T49 l0 x7_1).f0) ((rd_T49 l0 x7_1).f1) ((rd_T49 l0 x7_1).f2)).bind fun t162 => (if t162 ≥ 0 then (some false) else (impl_StoreValid.l0 k1 l0 l0 (l0.length : Int) (wrap64 (x7_1 + 1))))) else (none)) else (none)) else (impl_StoreValid.l0 k1 l0 l0 (l0.length : Int) (wrap64 (x7_1 + 1)))) = some r := by rw [if_pos rfl] at H; exact H
   clear H
   have H := H1
   clear H1
   by_cases c7 : x7_1 > 0
   rotate_left
   ·rw [if_neg c7] at H
    have c7b0 : decide (0 < x7_1) = false := dF_q c7
    clear c7
    have H' := Ae_q H
    clear H
    have p158 : 0 ≤ (x7_1 : Int) := oD_q (by assumption)
    have q158 : x7_1 < (l0.length : Int) := oD_q (by assumption)
    obtain ⟨ad158, e158, hx158_0, hx158_1, hx158_2⟩ := at_T49 HR0.out x7_1 p158 q158
    cases e158
    replace hx158_0 := cel HB.out hx158_0
    replace hx158_1 := cel HB.out hx158_1
    replace hx158_2 := cel HB.out hx158_2
    replace p158 := eq_true p158
    replace q158 := eq_true q158
    try go_wp2_with (first | ((with_reducible refine gD_q (N := 4) rfl ?_); refine bE_q ?hg (N := 4) ?hd (cs := #[.int .i64 0, .int .i64 0, .int .i64 0]) (t := 49) ?hr ?_; (case hd => rfl); (case hg => rfl); (case hr => exact m10_q); intro gb159 hg w25 hbox hb; have BK159 := Ae_q (hbox); have GW159 := Ae_q ((by rw [hg]; exact (bZ_q (bel HB.out)) : w.heap.size ≤ gb159)); have GE159 := Ae_q ((by rw [hg]; exact (bZ_q (bel HB.out)) : w.heap.size ≤ gb159)); replace HB := Ae_q (bT_q (bel HB.out) hb); clear hb hbox hg; have hcz26_0 : cI w25 gb159 0 0 := cZ BK159 0 rfl; have hcz26_1 : cI w25 gb159 1 0 := cZ BK159 1 rfl; have hcz26_2 : cI w25 gb159 2 0 := cZ BK159 2 rfl; have hfz26_0 := bF_q BK159.out 0; have hfz26_1 := bF_q BK159.out 1; have hfz26_2 := bF_q BK159.out 2))
    have n0_ : Aside0 ((((w25.setCell ⟨gb159, 0, none⟩ (.int .i64 ((rd_T49 l0 x7_1).f0))).setCell ⟨gb159, 1, none⟩ (.int .i64 ((rd_T49 l0 x7_1).f1))).setCell ⟨gb159, 2, none⟩ (.int .i64 ((rd_T49 l0 x7_1).f2))).heap[gb159]? = some (.cells #[.int .i64 ((rd_T49 l0 x7_1).f0), .int .i64 ((rd_T49 l0 x7_1).f1), .int .i64 ((rd_T49 l0 x7_1).f2)] 49 (0, 0))) := ⟨m8_q⟩
    have n1_ : Aside0 (Below w.heap.size w (((w25.setCell ⟨gb159, 0, none⟩ (.int .i64 ((rd_T49 l0 x7_1).f0))).setCell ⟨gb159, 1, none⟩ (.int .i64 ((rd_T49 l0 x7_1).f1))).setCell ⟨gb159, 2, none⟩ (.int .i64 ((rd_T49 l0 x7_1).f2)))) := ⟨m16_q⟩
    (try clear BK159)
    (try clear HB)
    generalize (((w25.setCell ⟨gb159, 0, none⟩ (.int .i64 ((rd_T49 l0 x7_1).f0))).setCell ⟨gb159, 1, none⟩ (.int .i64 ((rd_T49 l0 x7_1).f1))).setCell ⟨gb159, 2, none⟩ (.int .i64 ((rd_T49 l0 x7_1).f2))) = w27 at n0_ n1_ ⊢
    have BK159 := n0_
    have HB := n1_
    clear n0_ n1_
    replace BK159 := Ae_q (bW_q BK159.out)
    replace HB := Ae_q (bD_q HB.out)
    refine start_ (n := 17) (S := fun w' => w'.cell? ⟨gb159, 0, none⟩ = some (.int .i64 ((rd_T49 l0 x7_1).f0)) ∧ w'.cell? ⟨gb159, 1, none⟩ = some (.int .i64 ((rd_T49 l0 x7_1).f1)) ∧ w'.cell? ⟨gb159, 2, none⟩ = some (.int .i64 ((rd_T49 l0 x7_1).f2))) (ds := []) #[false, false, false, false, false, false, false, false, false, false, false, false, false, false, false, false, false] m6_q rfl rfl ⟨(bC_q BK159.out 0).trans rfl, (bC_q BK159.out 1).trans rfl, (bC_q BK159.out 2).trans rfl⟩ (fun hHeld => ?_); refine with_tabW impl_StoreValid.tab4 impl_StoreValid.bits4 (fun HT_ HW_ => ?_)
    generalize w27.drew = w28 at BK159 HB hHeld ⊢
    refine take_ (i := 0) (N := some 12) (v := ?_) (a' := ?_) #[true, false, false, false, false, false, false, false, false, false, false, false, false, false, false, false, false] rfl rfl (take_ofW HT_.out HW_.out m6_q) (fun _ _ _ h => h) (Or.inl ⟨by rfl, ?_⟩) hHeld ?_ ?_
    rotate_left
    ·rintro w' ⟨s0, s1, s2⟩
     go_simp
     with_reducible rfl
    rotate_left
    ·simp only [pS_q]
     rfl
    refine one_ (i := 1) (N := some 13) #[true, true, false, false, false, false, false, false, false, false, false, false, false, false, false, false, false] rfl rfl (one_of HT_.out m6_q) (by decide) (fun K hK => ?_)
    refine goes_ Tryd.func46 m6_q rfl #[.agg #[.int .i64 ((rd_T49 l0 x7_1).f0), .int .i64 ((rd_T49 l0 x7_1).f1), .int .i64 ((rd_T49 l0 x7_1).f2)]] (by rfl) rfl rfl m0_q ?_
    with_reducible refine (impl_lotValid.calls ((rd_T49 l0 x7_1).f0) ((rd_T49 l0 x7_1).f1) ((rd_T49 l0 x7_1).f2) true _ A5.out).mono ?_
    rintro e w' ⟨rfl, hb⟩
    refine ⟨_, rfl, ?_⟩
    replace BK159 := Ae_q (bB_q (g := gb159) (o := .cells #[.int .i64 ((rd_T49 l0 x7_1).f0), .int .i64 ((rd_T49 l0 x7_1).f1), .int .i64 ((rd_T49 l0 x7_1).f2)] 49 (0, 0)) (bup BK159.out) hb)
    replace HB := Ae_q (bT_q m16_q hb)
    (try clear hb)
    (try clear hb2)
    (try clear hk)
    (try clear hi)
    refine hK.out _ _ ⟨(bC_q BK159.out 0).trans rfl, (bC_q BK159.out 1).trans rfl, (bC_q BK159.out 2).trans rfl⟩ (fun hHeld => ?_)
    clear hK K
    refine nJ_q ?_
    refine pJ HT_ 2 14 rfl rfl ?_
    refine pJ HT_ 3 15 rfl rfl ?_
    refine pJ HT_ 4 16 rfl rfl ?_
    refine pJ HT_ 5 17 rfl rfl ?_
    refine pJ HT_ 6 18 rfl rfl ?_
    refine pV HT_ 7 19 rfl rfl ?_
    refine pV HT_ 8 20 rfl rfl ?_
    refine pV HT_ 9 21 rfl rfl ?_
    refine pV HT_ 10 22 rfl rfl ?_
    refine pV HT_ 11 23 rfl rfl ?_
    refine pV HT_ 12 24 rfl rfl ?_
    refine pV HT_ 13 25 rfl rfl ?_
    refine pV HT_ 14 26 rfl rfl ?_
    refine pJ HT_ 15 27 rfl rfl ?_
    refine pJ HT_ 16 28 rfl rfl ?_
    refine done_ (done_of HT_.out m6_q) ?_
    try go_wp2
    go_roundg k1
    case measure => have := HK1.out; omega
    case rel => exact ⟨(wrap64 (x7_1 + 1)), m2_q, H', ⟨m38_q⟩, ⟨m16_q⟩⟩
   rw [if_pos c7] at H
   have c7b0 : decide (0 < x7_1) = true := dT_q c7
   clear c7
   obtain ⟨ji8, hji8⟩ : ∃ j_ : Int, (wrap64 (x7_1 - 1)) = j_ := ⟨_, rfl⟩
   replace H : (if 0 ≤ (ji8) then (if (ji8) < (l0.length : Int) then ((impl_compareLots.f k1 ((rd_T49 l0 (ji8)).f0) ((rd_T49 l0 (ji8)).f1) ((rd_T49 l0 (ji8)).f2) ((rd_T49 l0 x7_1).f0) ((rd_T49 l0 x7_1).f1) ((rd_T49 l0 x7_1).f2)).bind fun t162 => (if t162 ≥ 0 then (some false) else (impl_StoreValid.l0 k1 l0 l0 (l0.length : Int) (wrap64 (x7_1 + 1))))) else (none)) else (none)) = some r := by first | (rw [hji8] at H; exact H) | (simp only [hji8] at H ⊢; exact H)
   (try rw [hji8] at A5)
   have hji8w : (IntKind.i64.wrap (x7_1 - 1)) = ji8 := (i64_w _).trans hji8
   by_cases c9 : 0 ≤ (ji8)
   rotate_left
   ·rw [if_neg c9] at H
    exact absurd H (by simp)
   rw [if_pos c9] at H
   have c9b0 : decide (0 ≤ (ji8)) = true := dT_q c9
   clear c9
   by_cases c10 : (ji8) < (l0.length : Int)
   rotate_left
   ·rw [if_neg c10] at H
    exact absurd H (by simp)
   rw [if_pos c10] at H
   have c10b0 : decide ((ji8) < (l0.length : Int)) = true := dT_q c10
   clear c10
   replace H := oB_q.mp H
   obtain ⟨t162, A110, H⟩ := H
   replace H : (if t162 ≥ 0 then (some false) else (impl_StoreValid.l0 k1 l0 l0 (l0.length : Int) (wrap64 (x7_1 + 1)))) = some r := H
   have A11 := Ae_q A110
   clear A110
   by_cases c12 : t162 ≥ 0
   ·rw [if_pos c12] at H
    have c12b0 : decide (0 ≤ t162) = true := dT_q c12
    clear c12
    obtain rfl := oI_q H
    have p158 : 0 ≤ (x7_1 : Int) := oD_q (by assumption)
    have q158 : x7_1 < (l0.length : Int) := oD_q (by assumption)
    obtain ⟨ad158, e158, hx158_0, hx158_1, hx158_2⟩ := at_T49 HR0.out x7_1 p158 q158
    cases e158
    replace hx158_0 := cel HB.out hx158_0
    replace hx158_1 := cel HB.out hx158_1
    replace hx158_2 := cel HB.out hx158_2
    replace p158 := eq_true p158
    replace q158 := eq_true q158
    try go_wp2_with (first | ((with_reducible refine gD_q (N := 4) rfl ?_); refine bE_q ?hg (N := 4) ?hd (cs := #[.int .i64 0, .int .i64 0, .int .i64 0]) (t := 49) ?hr ?_; (case hd => rfl); (case hg => rfl); (case hr => exact m10_q); intro gb159 hg w13 hbox hb; have BK159 := Ae_q (hbox); have GW159 := Ae_q ((by rw [hg]; exact (bZ_q (bel HB.out)) : w.heap.size ≤ gb159)); have GE159 := Ae_q ((by rw [hg]; exact (bZ_q (bel HB.out)) : w.heap.size ≤ gb159)); replace HB := Ae_q (bT_q (bel HB.out) hb); clear hb hbox hg; have hcz14_0 : cI w13 gb159 0 0 := cZ BK159 0 rfl; have hcz14_1 : cI w13 gb159 1 0 := cZ BK159 1 rfl; have hcz14_2 : cI w13 gb159 2 0 := cZ BK159 2 rfl; have hfz14_0 := bF_q BK159.out 0; have hfz14_1 := bF_q BK159.out 1; have hfz14_2 := bF_q BK159.out 2))
    have n0_ : Aside0 ((((w13.setCell ⟨gb159, 0, none⟩ (.int .i64 ((rd_T49 l0 x7_1).f0))).setCell ⟨gb159, 1, none⟩ (.int .i64 ((rd_T49 l0 x7_1).f1))).setCell ⟨gb159, 2, none⟩ (.int .i64 ((rd_T49 l0 x7_1).f2))).heap[gb159]? = some (.cells #[.int .i64 ((rd_T49 l0 x7_1).f0), .int .i64 ((rd_T49 l0 x7_1).f1), .int .i64 ((rd_T49 l0 x7_1).f2)] 49 (0, 0))) := ⟨m8_q⟩
    have n1_ : Aside0 (Below w.heap.size w (((w13.setCell ⟨gb159, 0, none⟩ (.int .i64 ((rd_T49 l0 x7_1).f0))).setCell ⟨gb159, 1, none⟩ (.int .i64 ((rd_T49 l0 x7_1).f1))).setCell ⟨gb159, 2, none⟩ (.int .i64 ((rd_T49 l0 x7_1).f2)))) := ⟨m16_q⟩
    (try clear BK159)
    (try clear HB)
    generalize (((w13.setCell ⟨gb159, 0, none⟩ (.int .i64 ((rd_T49 l0 x7_1).f0))).setCell ⟨gb159, 1, none⟩ (.int .i64 ((rd_T49 l0 x7_1).f1))).setCell ⟨gb159, 2, none⟩ (.int .i64 ((rd_T49 l0 x7_1).f2))) = w15 at n0_ n1_ ⊢
    have BK159 := n0_
    have HB := n1_
    clear n0_ n1_
    replace BK159 := Ae_q (bW_q BK159.out)
    replace HB := Ae_q (bD_q HB.out)
    have p161 : 0 ≤ ((ji8) : Int) := oD_q (by assumption)
    have q161 : (ji8) < (l0.length : Int) := oD_q (by assumption)
    obtain ⟨ad161, e161, hx161_0, hx161_1, hx161_2⟩ := at_T49 HR0.out (ji8) p161 q161
    have hw161_2 := hx161_2
    have hw161_1 := hx161_1
    have hw161_0 := hx161_0
    obtain rfl : ad158 = ad161 := (by injection e161)
    replace hx161_0 := cel HB.out hx161_0
    replace hx161_1 := cel HB.out hx161_1
    replace hx161_2 := cel HB.out hx161_2
    replace p161 := eq_true p161
    replace q161 := eq_true q161
    refine start_ (n := 17) (S := fun w' => w'.cell? ⟨gb159, 0, none⟩ = some (.int .i64 ((rd_T49 l0 x7_1).f0)) ∧ w'.cell? ⟨gb159, 1, none⟩ = some (.int .i64 ((rd_T49 l0 x7_1).f1)) ∧ w'.cell? ⟨gb159, 2, none⟩ = some (.int .i64 ((rd_T49 l0 x7_1).f2)) ∧ w'.cell? (ad158.add (((ji8)).toNat * 3)) = some (.int .i64 ((rd_T49 l0 (ji8)).f0)) ∧ w'.cell? ⟨(ad158.add (((ji8)).toNat * 3)).block, (ad158.add (((ji8)).toNat * 3)).off + 1, none⟩ = some (.int .i64 ((rd_T49 l0 (ji8)).f1)) ∧ w'.cell? ⟨(ad158.add (((ji8)).toNat * 3)).block, (ad158.add (((ji8)).toNat * 3)).off + 2, none⟩ = some (.int .i64 ((rd_T49 l0 (ji8)).f2))) (ds := []) #[false, false, false, false, false, false, false, false, false, false, false, false, false, false, false, false, false] m6_q rfl rfl ⟨(bC_q BK159.out 0).trans rfl, (bC_q BK159.out 1).trans rfl, (bC_q BK159.out 2).trans rfl, (cel HB.out hw161_0), (cel HB.out hw161_1), (cel HB.out hw161_2)⟩ (fun hHeld => ?_); refine with_tabW impl_StoreValid.tab4 impl_StoreValid.bits4 (fun HT_ HW_ => ?_)
    generalize w15.drew = w16 at BK159 HB hx161_0 hx161_1 hx161_2 hHeld ⊢
    refine take_ (i := 0) (N := some 12) (v := ?_) (a' := ?_) #[true, false, false, false, false, false, false, false, false, false, false, false, false, false, false, false, false] rfl rfl (take_ofW HT_.out HW_.out m6_q) (fun _ _ _ h => h) (Or.inl ⟨by rfl, ?_⟩) hHeld ?_ ?_
    rotate_left
    ·rintro w' ⟨s0, s1, s2, s3, s4, s5⟩
     go_simp
     with_reducible rfl
    rotate_left
    ·simp only [pS_q]
     rfl
    refine one_ (i := 1) (N := some 13) #[true, true, false, false, false, false, false, false, false, false, false, false, false, false, false, false, false] rfl rfl (one_of HT_.out m6_q) (by decide) (fun K hK => ?_)
    refine goes_ Tryd.func46 m6_q rfl #[.agg #[.int .i64 ((rd_T49 l0 x7_1).f0), .int .i64 ((rd_T49 l0 x7_1).f1), .int .i64 ((rd_T49 l0 x7_1).f2)]] (by rfl) rfl rfl m0_q ?_
    with_reducible refine (impl_lotValid.calls ((rd_T49 l0 x7_1).f0) ((rd_T49 l0 x7_1).f1) ((rd_T49 l0 x7_1).f2) true _ A5.out).mono ?_
    rintro e w' ⟨rfl, hb⟩
    refine ⟨_, rfl, ?_⟩
    replace BK159 := Ae_q (bB_q (g := gb159) (o := .cells #[.int .i64 ((rd_T49 l0 x7_1).f0), .int .i64 ((rd_T49 l0 x7_1).f1), .int .i64 ((rd_T49 l0 x7_1).f2)] 49 (0, 0)) (bup BK159.out) hb)
    replace HB := Ae_q (bT_q m16_q hb)
    (try clear hb)
    (try clear hb2)
    (try clear hk)
    (try clear hi)
    refine hK.out _ _ ⟨(bC_q BK159.out 0).trans rfl, (bC_q BK159.out 1).trans rfl, (bC_q BK159.out 2).trans rfl, (cel HB.out hw161_0), (cel HB.out hw161_1), (cel HB.out hw161_2)⟩ (fun hHeld => ?_)
    clear hK K
    refine nJ_q ?_
    refine pJ HT_ 2 14 rfl rfl ?_
    refine pJ HT_ 3 15 rfl rfl ?_
    refine pJ HT_ 4 16 rfl rfl ?_
    refine pJ HT_ 5 17 rfl rfl ?_
    refine pJ HT_ 6 18 rfl rfl ?_
    refine pJ HT_ 7 19 rfl rfl ?_
    refine pJ HT_ 8 20 rfl rfl ?_
    refine pJ HT_ 9 21 rfl rfl ?_
    refine pJ HT_ 10 22 rfl rfl ?_
    refine take_ (i := 11) (N := some 23) (v := ?_) (a' := ?_) #[true, true, true, true, true, true, true, true, true, true, true, true, false, false, false, false, false] rfl rfl (take_ofW HT_.out HW_.out m6_q) (fun _ _ _ h => h) (Or.inl ⟨by rfl, ?_⟩) hHeld ?_ ?_
    rotate_left
    ·rintro w' ⟨s0, s1, s2, s3, s4, s5⟩
     go_simp
     with_reducible rfl
    rotate_left
    ·simp only [pS_q]
     rfl
    refine take_ (i := 12) (N := some 24) (v := ?_) (a' := ?_) #[true, true, true, true, true, true, true, true, true, true, true, true, true, false, false, false, false] rfl rfl (take_ofW HT_.out HW_.out m6_q) (fun _ _ _ h => h) (Or.inl ⟨by rfl, ?_⟩) hHeld ?_ ?_
    rotate_left
    ·rintro w' ⟨s0, s1, s2, s3, s4, s5⟩
     go_simp
     with_reducible rfl
    rotate_left
    ·simp only [pS_q]
     rfl
    refine one_ (i := 13) (N := some 25) #[true, true, true, true, true, true, true, true, true, true, true, true, true, true, false, false, false] rfl rfl (one_of HT_.out m6_q) (by decide) (fun K hK => ?_)
    refine goes_ Tryd.func49 m6_q rfl #[.agg #[.int .i64 ((rd_T49 l0 (ji8)).f0), .int .i64 ((rd_T49 l0 (ji8)).f1), .int .i64 ((rd_T49 l0 (ji8)).f2)], .agg #[.int .i64 ((rd_T49 l0 x7_1).f0), .int .i64 ((rd_T49 l0 x7_1).f1), .int .i64 ((rd_T49 l0 x7_1).f2)]] (by rfl) rfl rfl m67_q ?_
    with_reducible refine (impl_compareLots.calls k1 ((rd_T49 l0 (ji8)).f0) ((rd_T49 l0 (ji8)).f1) ((rd_T49 l0 (ji8)).f2) ((rd_T49 l0 x7_1).f0) ((rd_T49 l0 x7_1).f1) ((rd_T49 l0 x7_1).f2) t162 _ A11.out).mono ?_
    rintro e w' ⟨rfl, hb⟩
    refine ⟨_, rfl, ?_⟩
    replace BK159 := Ae_q (bB_q (g := gb159) (o := .cells #[.int .i64 ((rd_T49 l0 x7_1).f0), .int .i64 ((rd_T49 l0 x7_1).f1), .int .i64 ((rd_T49 l0 x7_1).f2)] 49 (0, 0)) (bup BK159.out) hb)
    replace HB := Ae_q (bT_q m16_q hb)
    (try clear hb)
    (try clear hb2)
    (try clear hk)
    (try clear hi)
    refine hK.out _ _ ⟨(bC_q BK159.out 0).trans rfl, (bC_q BK159.out 1).trans rfl, (bC_q BK159.out 2).trans rfl, (cel HB.out hw161_0), (cel HB.out hw161_1), (cel HB.out hw161_2)⟩ (fun hHeld => ?_)
    clear hK K
    refine nJ_q ?_
    refine pJ HT_ 14 26 rfl rfl ?_
    refine pJ HT_ 15 27 rfl rfl ?_
    refine pJ HT_ 16 28 rfl rfl ?_
    refine done_ (done_of HT_.out m6_q) ?_
    try go_wp2
    go_ret
    exact ⟨by first | rfl | (simp [eN_q, eS_q] <;> rfl) | (simp only [← hji8]; first | rfl | (simp [eN_q, eS_q] <;> rfl)) | (simp [*, eN_q, eS_q] <;> rfl), m16_q⟩
   rw [if_neg c12] at H
   have c12b0 : decide (0 ≤ t162) = false := dF_q c12
   clear c12
   have H' := Ae_q H
   clear H
   have p158 : 0 ≤ (x7_1 : Int) := oD_q (by assumption)
   have q158 : x7_1 < (l0.length : Int) := oD_q (by assumption)
   obtain ⟨ad158, e158, hx158_0, hx158_1, hx158_2⟩ := at_T49 HR0.out x7_1 p158 q158
   cases e158
   replace hx158_0 := cel HB.out hx158_0
   replace hx158_1 := cel HB.out hx158_1
   replace hx158_2 := cel HB.out hx158_2
   replace p158 := eq_true p158
   replace q158 := eq_true q158
   try go_wp2_with (first | ((with_reducible refine gD_q (N := 4) rfl ?_); refine bE_q ?hg (N := 4) ?hd (cs := #[.int .i64 0, .int .i64 0, .int .i64 0]) (t := 49) ?hr ?_; (case hd => rfl); (case hg => rfl); (case hr => exact m10_q); intro gb159 hg w19 hbox hb; have BK159 := Ae_q (hbox); have GW159 := Ae_q ((by rw [hg]; exact (bZ_q (bel HB.out)) : w.heap.size ≤ gb159)); have GE159 := Ae_q ((by rw [hg]; exact (bZ_q (bel HB.out)) : w.heap.size ≤ gb159)); replace HB := Ae_q (bT_q (bel HB.out) hb); clear hb hbox hg; have hcz20_0 : cI w19 gb159 0 0 := cZ BK159 0 rfl; have hcz20_1 : cI w19 gb159 1 0 := cZ BK159 1 rfl; have hcz20_2 : cI w19 gb159 2 0 := cZ BK159 2 rfl; have hfz20_0 := bF_q BK159.out 0; have hfz20_1 := bF_q BK159.out 1; have hfz20_2 := bF_q BK159.out 2))
   have n0_ : Aside0 ((((w19.setCell ⟨gb159, 0, none⟩ (.int .i64 ((rd_T49 l0 x7_1).f0))).setCell ⟨gb159, 1, none⟩ (.int .i64 ((rd_T49 l0 x7_1).f1))).setCell ⟨gb159, 2, none⟩ (.int .i64 ((rd_T49 l0 x7_1).f2))).heap[gb159]? = some (.cells #[.int .i64 ((rd_T49 l0 x7_1).f0), .int .i64 ((rd_T49 l0 x7_1).f1), .int .i64 ((rd_T49 l0 x7_1).f2)] 49 (0, 0))) := ⟨m8_q⟩
   have n1_ : Aside0 (Below w.heap.size w (((w19.setCell ⟨gb159, 0, none⟩ (.int .i64 ((rd_T49 l0 x7_1).f0))).setCell ⟨gb159, 1, none⟩ (.int .i64 ((rd_T49 l0 x7_1).f1))).setCell ⟨gb159, 2, none⟩ (.int .i64 ((rd_T49 l0 x7_1).f2)))) := ⟨m16_q⟩
   (try clear BK159)
   (try clear HB)
   generalize (((w19.setCell ⟨gb159, 0, none⟩ (.int .i64 ((rd_T49 l0 x7_1).f0))).setCell ⟨gb159, 1, none⟩ (.int .i64 ((rd_T49 l0 x7_1).f1))).setCell ⟨gb159, 2, none⟩ (.int .i64 ((rd_T49 l0 x7_1).f2))) = w21 at n0_ n1_ ⊢
   have BK159 := n0_
   have HB := n1_
   clear n0_ n1_
   replace BK159 := Ae_q (bW_q BK159.out)
   replace HB := Ae_q (bD_q HB.out)
   have p161 : 0 ≤ ((ji8) : Int) := oD_q (by assumption)
   have q161 : (ji8) < (l0.length : Int) := oD_q (by assumption)
   obtain ⟨ad161, e161, hx161_0, hx161_1, hx161_2⟩ := at_T49 HR0.out (ji8) p161 q161
   have hw161_2 := hx161_2
   have hw161_1 := hx161_1
   have hw161_0 := hx161_0
   obtain rfl : ad158 = ad161 := (by injection e161)
   replace hx161_0 := cel HB.out hx161_0
   replace hx161_1 := cel HB.out hx161_1
   replace hx161_2 := cel HB.out hx161_2
   replace p161 := eq_true p161
   replace q161 := eq_true q161
   refine start_ (n := 17) (S := fun w' => w'.cell? ⟨gb159, 0, none⟩ = some (.int .i64 ((rd_T49 l0 x7_1).f0)) ∧ w'.cell? ⟨gb159, 1, none⟩ = some (.int .i64 ((rd_T49 l0 x7_1).f1)) ∧ w'.cell? ⟨gb159, 2, none⟩ = some (.int .i64 ((rd_T49 l0 x7_1).f2)) ∧ w'.cell? (ad158.add (((ji8)).toNat * 3)) = some (.int .i64 ((rd_T49 l0 (ji8)).f0)) ∧ w'.cell? ⟨(ad158.add (((ji8)).toNat * 3)).block, (ad158.add (((ji8)).toNat * 3)).off + 1, none⟩ = some (.int .i64 ((rd_T49 l0 (ji8)).f1)) ∧ w'.cell? ⟨(ad158.add (((ji8)).toNat * 3)).block, (ad158.add (((ji8)).toNat * 3)).off + 2, none⟩ = some (.int .i64 ((rd_T49 l0 (ji8)).f2))) (ds := []) #[false, false, false, false, false, false, false, false, false, false, false, false, false, false, false, false, false] m6_q rfl rfl ⟨(bC_q BK159.out 0).trans rfl, (bC_q BK159.out 1).trans rfl, (bC_q BK159.out 2).trans rfl, (cel HB.out hw161_0), (cel HB.out hw161_1), (cel HB.out hw161_2)⟩ (fun hHeld => ?_); refine with_tabW impl_StoreValid.tab4 impl_StoreValid.bits4 (fun HT_ HW_ => ?_)
   generalize w21.drew = w22 at BK159 HB hx161_0 hx161_1 hx161_2 hHeld ⊢
   refine take_ (i := 0) (N := some 12) (v := ?_) (a' := ?_) #[true, false, false, false, false, false, false, false, false, false, false, false, false, false, false, false, false] rfl rfl (take_ofW HT_.out HW_.out m6_q) (fun _ _ _ h => h) (Or.inl ⟨by rfl, ?_⟩) hHeld ?_ ?_
   rotate_left
   ·rintro w' ⟨s0, s1, s2, s3, s4, s5⟩
    go_simp
    with_reducible rfl
   rotate_left
   ·simp only [pS_q]
    rfl
   refine one_ (i := 1) (N := some 13) #[true, true, false, false, false, false, false, false, false, false, false, false, false, false, false, false, false] rfl rfl (one_of HT_.out m6_q) (by decide) (fun K hK => ?_)
   refine goes_ Tryd.func46 m6_q rfl #[.agg #[.int .i64 ((rd_T49 l0 x7_1).f0), .int .i64 ((rd_T49 l0 x7_1).f1), .int .i64 ((rd_T49 l0 x7_1).f2)]] (by rfl) rfl rfl m0_q ?_
   with_reducible refine (impl_lotValid.calls ((rd_T49 l0 x7_1).f0) ((rd_T49 l0 x7_1).f1) ((rd_T49 l0 x7_1).f2) true _ A5.out).mono ?_
   rintro e w' ⟨rfl, hb⟩
   refine ⟨_, rfl, ?_⟩
   replace BK159 := Ae_q (bB_q (g := gb159) (o := .cells #[.int .i64 ((rd_T49 l0 x7_1).f0), .int .i64 ((rd_T49 l0 x7_1).f1), .int .i64 ((rd_T49 l0 x7_1).f2)] 49 (0, 0)) (bup BK159.out) hb)
   replace HB := Ae_q (bT_q m16_q hb)
   (try clear hb)
   (try clear hb2)
   (try clear hk)
   (try clear hi)
   refine hK.out _ _ ⟨(bC_q BK159.out 0).trans rfl, (bC_q BK159.out 1).trans rfl, (bC_q BK159.out 2).trans rfl, (cel HB.out hw161_0), (cel HB.out hw161_1), (cel HB.out hw161_2)⟩ (fun hHeld => ?_)
   clear hK K
   refine nJ_q ?_
   refine pJ HT_ 2 14 rfl rfl ?_
   refine pJ HT_ 3 15 rfl rfl ?_
   refine pJ HT_ 4 16 rfl rfl ?_
   refine pJ HT_ 5 17 rfl rfl ?_
   refine pJ HT_ 6 18 rfl rfl ?_
   refine pJ HT_ 7 19 rfl rfl ?_
   refine pJ HT_ 8 20 rfl rfl ?_
   refine pJ HT_ 9 21 rfl rfl ?_
   refine pJ HT_ 10 22 rfl rfl ?_
   refine take_ (i := 11) (N := some 23) (v := ?_) (a' := ?_) #[true, true, true, true, true, true, true, true, true, true, true, true, false, false, false, false, false] rfl rfl (take_ofW HT_.out HW_.out m6_q) (fun _ _ _ h => h) (Or.inl ⟨by rfl, ?_⟩) hHeld ?_ ?_
   rotate_left
   ·rintro w' ⟨s0, s1, s2, s3, s4, s5⟩
    go_simp
    with_reducible rfl
   rotate_left
   ·simp only [pS_q]
    rfl
   refine take_ (i := 12) (N := some 24) (v := ?_) (a' := ?_) #[true, true, true, true, true, true, true, true, true, true, true, true, true, false, false, false, false] rfl rfl (take_ofW HT_.out HW_.out m6_q) (fun _ _ _ h => h) (Or.inl ⟨by rfl, ?_⟩) hHeld ?_ ?_
   rotate_left
   ·rintro w' ⟨s0, s1, s2, s3, s4, s5⟩
    go_simp
    with_reducible rfl
   rotate_left
   ·simp only [pS_q]
    rfl
   refine one_ (i := 13) (N := some 25) #[true, true, true, true, true, true, true, true, true, true, true, true, true, true, false, false, false] rfl rfl (one_of HT_.out m6_q) (by decide) (fun K hK => ?_)
   refine goes_ Tryd.func49 m6_q rfl #[.agg #[.int .i64 ((rd_T49 l0 (ji8)).f0), .int .i64 ((rd_T49 l0 (ji8)).f1), .int .i64 ((rd_T49 l0 (ji8)).f2)], .agg #[.int .i64 ((rd_T49 l0 x7_1).f0), .int .i64 ((rd_T49 l0 x7_1).f1), .int .i64 ((rd_T49 l0 x7_1).f2)]] (by rfl) rfl rfl m67_q ?_
   with_reducible refine (impl_compareLots.calls k1 ((rd_T49 l0 (ji8)).f0) ((rd_T49 l0 (ji8)).f1) ((rd_T49 l0 (ji8)).f2) ((rd_T49 l0 x7_1).f0) ((rd_T49 l0 x7_1).f1) ((rd_T49 l0 x7_1).f2) t162 _ A11.out).mono ?_
   rintro e w' ⟨rfl, hb⟩
   refine ⟨_, rfl, ?_⟩
   replace BK159 := Ae_q (bB_q (g := gb159) (o := .cells #[.int .i64 ((rd_T49 l0 x7_1).f0), .int .i64 ((rd_T49 l0 x7_1).f1), .int .i64 ((rd_T49 l0 x7_1).f2)] 49 (0, 0)) (bup BK159.out) hb)
   replace HB := Ae_q (bT_q m16_q hb)
   (try clear hb)
   (try clear hb2)
   (try clear hk)
   (try clear hi)
   refine hK.out _ _ ⟨(bC_q BK159.out 0).trans rfl, (bC_q BK159.out 1).trans rfl, (bC_q BK159.out 2).trans rfl, (cel HB.out hw161_0), (cel HB.out hw161_1), (cel HB.out hw161_2)⟩ (fun hHeld => ?_)
   clear hK K
   refine nJ_q ?_
   refine pJ HT_ 14 26 rfl rfl ?_
   refine pJ HT_ 15 27 rfl rfl ?_
   refine pJ HT_ 16 28 rfl rfl ?_
   refine done_ (done_of HT_.out m6_q) ?_
   try go_wp2
   go_roundg k1
   case measure => have := HK1.out; omega
   case rel => exact ⟨(wrap64 (x7_1 + 1)), m2_q, H', ⟨m38_q⟩, ⟨m16_q⟩⟩

end Go.Proofs.YtbclhpibilbdbaaDoor.PSc
