import Derived.Test.YtfnpiacmlahegaaVSPRpx0
import Derived.Test.YtfnpiacmlahegaaVSPRpx2
import Derived.Test.YtfnpiacmlahegaaVSPRpx10
import Derived.Test.YtfnpiacmlahegaaVSPRpx12
namespace Go.Proofs.Ytfnpiacmlahegaa.PRp
open Go.RowKit Go.Proofs.YtfnpiacmlahegaaW.PrintWords Go.Proofs.YtfnpiacmlahegaaW.PrintLast Go.Proofs.YtfnpiacmlahegaaW.PrintMore
attribute [local go_sem] max2_int min2_int max_two min_two max_three min_three max_four min_four
set_option linter.unusedVariables false
set_option linter.unusedSimpArgs false

mutual
def spec_PlanValid.j0 : Nat → List (S63) → List Int → Bool → Int → List Int → Option (Bool)
 | 0, _, _, _, _, _ => none
 | k + 1, x0, x2, x16, x458000, x458001 => if x16 = true then (some false) else (spec_PlanValid.l0 k x0 x2 0 x458000 x458001)
def spec_PlanValid.l0 : Nat → List (S63) → List Int → Int → Int → List Int → Option (Bool)
 | 0, _, _, _, _, _ => none
 | k + 1, x0, x2, x7, x458000, x458001 => if x7 < (x0.length : Int) then (if 0 ≤ x7 then (if x7 < (x2.length : Int) then ((spec_l32After.f k x0 x2 x7).bind fun t461 => (if (rd x2 x7) < t461 then (some false) else (if 0 ≤ (wrap64 (x7 + 1)) then (if (wrap64 (x7 + 1)) ≤ (x2.length : Int) then ((spec_l32Room.f k x0 x458000 x458001 (x2.take ((wrap64 (x7 + 1)) : Int).toNat)).bind fun t463 => (if t463 = true then (spec_PlanValid.l0 k x0 x2 (wrap64 (x7 + 1)) x458000 x458001) else (some false))) else (none)) else (none)))) else (none)) else (none)) else (some true)
end
def spec_PlanValid.f (k : Nat) (l0 : List (S63)) (a1_0 : Int) (l1_1 : List Int) (l2 : List Int) : Option (Bool) := (spec_KitchenValid.f k a1_0 l1_1).bind fun t458 => (if t458 = true then ((spec_l32Starts.f k l0 l2).bind fun t459 => (spec_PlanValid.j0 k l0 l2 (!t459) a1_0 l1_1)) else (spec_PlanValid.j0 k l0 l2 true a1_0 l1_1))
def spec_PlanValid.T6 : Bool × List (List Nat × List Nat) := (true, [([], []), ([], []), ([0, 1], [0, 1]), ([2], [2]), ([], []), ([], []), ([], []), ([4, 5, 6], [4, 5, 6]), ([3, 7], [3, 7]), ([8, 7], [8]), ([9], [9]), ([9], [9]), ([9], [9]), ([9], [9]), ([13, 9], [9, 13]), ([12, 14, 9], [9, 12, 14]), ([10, 11, 15, 9, 9], [9, 10, 11, 15]), ([16, 9], [9, 16]), ([9, 17], [9, 17])])
def spec_PlanValid.B6 : List Nat := [0, 0, 3, 7, 0, 0, 0, 112, 255, 511, 1023, 1023, 1023, 1023, 9215, 29695, 65535, 131071, 262143]
theorem spec_PlanValid.tab6 : rtab .any (opsOf Try.f56 6) = spec_PlanValid.T6 := by kernel_rfl
theorem spec_PlanValid.bits6 : waitsOk spec_PlanValid.T6.2 spec_PlanValid.B6 = true := by kernel_rfl
set_option maxHeartbeats 8000000 in
set_option maxRecDepth 100000 in
theorem spec_PlanValid.calls (k : Nat) (A0 : Option Addr) (c0 : Nat) (l0 : List (S63)) (a1_0 : Int) (A1_1 : Option Addr) (c1_1 : Nat) (l1_1 : List Int) (A2 : Option Addr) (c2 : Nat) (l2 : List Int) (r : Bool) (w : World) (hr0 : Kd.C k63 w A0 l0.length l0) (hc0 : l0.length ≤ c0) (hr1_1 : Kd.C kI_q w A1_1 l1_1.length l1_1) (hc1_1 : l1_1.length ≤ c1_1) (hr2 : Kd.C kI_q w A2 l2.length l2) (hc2 : l2.length ≤ c2) (h : spec_PlanValid.f k l0 a1_0 l1_1 l2 = some r) :
    Calls Try.prog 56 #[.slice A0 l0.length c0, .agg #[.int .i64 a1_0, .slice A1_1 l1_1.length c1_1], .slice A2 l2.length c2] w fun e w' => e = .returned (.bool r) ∧ Below w.heap.size w w' := by
 have hu43 := Try.underlying43
 have HR0 := Ae_q hr0
 have HC0 := Ae_q hc0
 clear hr0 hc0
 have HR1_1 := Ae_q hr1_1
 have HC1_1 := Ae_q hc1_1
 clear hr1_1 hc1_1
 have HR2 := Ae_q hr2
 have HC2 := Ae_q hc2
 clear hr2 hc2
 have HB := Ae_q (bR_q w.heap.size w)
 have H : ((spec_KitchenValid.f k a1_0 l1_1).bind fun t458 => (if t458 = true then ((spec_l32Starts.f k l0 l2).bind fun t459 => (spec_PlanValid.j0 k l0 l2 (!t459) a1_0 l1_1)) else (spec_PlanValid.j0 k l0 l2 true a1_0 l1_1))) = some r := h
 clear h
 have HC4 := Ae_q H
 clear H
 go_enter Try.func56, Try.ntmps56
 go_upto_region 1 with (first | ((with_reducible refine gD_q (N := 4) rfl ?_); refine bE_q ?hg (N := 4) ?hd (cs := #[.int .i64 a1_0, .slice A1_1 l1_1.length c1_1]) (t := 43) ?hr ?_; (case hd => rfl); (case hg => rfl); (case hr => exact m6_q); intro gb457 hg w5 hbox hb; have BK457 := Ae_q (hbox); have GW457 := Ae_q ((by rw [hg]; exact (bZ_q (bel HB.out)) : w.heap.size ≤ gb457)); have GE457 := Ae_q ((by rw [hg]; exact (bZ_q (bel HB.out)) : w.heap.size ≤ gb457)); replace HB := Ae_q (bT_q (bel HB.out) hb); clear hb hbox hg))
 (try simp only [Act.put, sA_q, sZ_q, sS_q])
 go_cut [16] (fun v16 wc => ∃ (kq : Nat) (x16_3 : Bool), v16 = .bool x16_3 ∧ Aside0 (spec_PlanValid.j0 kq l0 l2 x16_3 a1_0 l1_1 = some r) ∧ Aside0 (kq ≤ k) ∧ Aside0 (wc.heap[gb457]? = some (.cells #[.int .i64 a1_0, (.slice A1_1 l1_1.length c1_1)] 43 (0, 0))) ∧ Aside0 (Below w.heap.size w wc))
 case first =>
  have H := HC4.out
  clear HC4
  replace H := oB_q.mp H
  obtain ⟨t458, A60, H⟩ := H
  replace H : (if t458 = true then ((spec_l32Starts.f k l0 l2).bind fun t459 => (spec_PlanValid.j0 k l0 l2 (!t459) a1_0 l1_1)) else (spec_PlanValid.j0 k l0 l2 true a1_0 l1_1)) = some r := H
  have A6 := Ae_q A60
  clear A60
  by_cases c7 : t458 = true
  rotate_left
  ·replace c7 := fM_q.mpr c7
   subst c7
   have H1 : (spec_PlanValid.j0 k l0 l2 true a1_0 l1_1) = some r := by rw [if_neg (show ¬ (false = true) by decide)] at H; exact H
   clear H
   have H := H1
   clear H1
   have H' := Ae_q H
   clear H
   have hcz12_0 : cI w5 gb457 0 a1_0 := cZ BK457 0 rfl
   have hcz12_1 : w5.cell? ⟨gb457, 1, none⟩ = some (.slice A1_1 l1_1.length c1_1) := (bC_q BK457.out 1).trans rfl
   have hfz12_0 := bF_q BK457.out 0
   have hfz12_1 := bF_q BK457.out 1
   go_wp2_with (first | ((with_reducible refine gC_q (f := 43) rfl ?_); refine gL_q (some 9) rfl rfl Try.func43 m7_q rfl #[.agg #[.int .i64 a1_0, .slice A1_1 l1_1.length c1_1]] rfl m1_q ?_; (with_reducible refine (spec_KitchenValid.calls k a1_0 _ _ l1_1 false _ ?side1 ?side2 A6.out).mono ?_); (case side1 => exact m32_q); (case side2 => exact m64_q); rintro e w' ⟨rfl, hb⟩; refine ⟨_, rfl, ?_⟩; replace BK457 := Ae_q (bB_q (g := gb457) (o := .cells #[.int .i64 a1_0, .slice A1_1 l1_1.length c1_1] 43 (0, 0)) (bup BK457.out) hb); replace HB := Ae_q (bT_q m18_q hb); (try clear hb); (try clear hb2); (try clear hk); (try clear hi)))
   go_meet
   case rel => exact ⟨_, (true), m5_q, H', ⟨m106_q⟩, ⟨bup BK457.out⟩, ⟨m18_q⟩⟩
  subst c7
  have H1 : ((spec_l32Starts.f k l0 l2).bind fun t459 => (spec_PlanValid.j0 k l0 l2 (!t459) a1_0 l1_1)) = some r := by rw [if_pos rfl] at H; exact H
  clear H
  have H := H1
  clear H1
  replace H := oB_q.mp H
  obtain ⟨t459, A80, H⟩ := H
  replace H : (spec_PlanValid.j0 k l0 l2 (!t459) a1_0 l1_1) = some r := H
  have A8 := Ae_q A80
  clear A80
  have H' := Ae_q H
  clear H
  have hcz9_0 : cI w5 gb457 0 a1_0 := cZ BK457 0 rfl
  have hcz9_1 : w5.cell? ⟨gb457, 1, none⟩ = some (.slice A1_1 l1_1.length c1_1) := (bC_q BK457.out 1).trans rfl
  have hfz9_0 := bF_q BK457.out 0
  have hfz9_1 := bF_q BK457.out 1
  go_wp2_with (first | ((first | ((with_reducible refine gC_q (f := 43) rfl ?_); refine gL_q (some 9) rfl rfl Try.func43 m7_q rfl #[.agg #[.int .i64 a1_0, .slice A1_1 l1_1.length c1_1]] rfl m1_q ?_; (with_reducible refine (spec_KitchenValid.calls k a1_0 _ _ l1_1 true _ ?side1 ?side2 A6.out).mono ?_); (case side1 => exact m32_q); (case side2 => exact m64_q); rintro e w' ⟨rfl, hb⟩; refine ⟨_, rfl, ?_⟩) | (go_at_call 34; (with_reducible refine (spec_l32Starts.calls k _ _ l0 _ _ l2 t459 _ ?side1 ?side2 ?side3 ?side4 A8.out).mono ?_); (case side1 => exact m20_q); (case side2 => exact m57_q); (case side3 => exact m28_q); (case side4 => exact m63_q); rintro e w' ⟨rfl, hb⟩)); replace BK457 := Ae_q (bB_q (g := gb457) (o := .cells #[.int .i64 a1_0, .slice A1_1 l1_1.length c1_1] 43 (0, 0)) (bup BK457.out) hb); replace HB := Ae_q (bT_q m18_q hb); (try clear hb); (try clear hb2); (try clear hk); (try clear hi)))
  go_meet
  case rel => exact ⟨_, (!t459), m5_q, H', ⟨m106_q⟩, ⟨bup BK457.out⟩, ⟨m18_q⟩⟩
 case rest =>
  clear HC4
  try clear c1
  try clear c2
  try clear p2
  try clear c4
  try clear c5
  try clear c7
  try clear hcz12_0
  try clear hcz12_1
  try clear hcz9_0
  try clear hcz9_1
  try clear hfz12_0
  try clear hfz12_1
  try clear hfz9_0
  try clear hfz9_1
  obtain ⟨kq, x16_3, rfl, HA, HJ3, BK457, HB⟩ := hcut
  cases kq with
  | zero => exact absurd HA.out (by simp [spec_PlanValid.j0])
  | succ kj3 =>
   have H := HA.out
   clear HA
   simp only [spec_PlanValid.j0] at H
   by_cases c14 : x16_3 = true
   ·subst c14
    have H1 : (some false) = some r := by rw [if_pos rfl] at H; exact H
    clear H
    have H := H1
    clear H1
    obtain rfl := oI_q H
    go_wp2
    go_ret
    exact ⟨m4_q, m18_q⟩
   replace c14 := fM_q.mpr c14
   subst c14
   have H1 : (spec_PlanValid.l0 kj3 l0 l2 0 a1_0 l1_1) = some r := by rw [if_neg (show ¬ (false = true) by decide)] at H; exact H
   clear H
   have H := H1
   clear H1
   have H' := Ae_q H
   clear H
   go_wp2
   go_loopg [7] kj3 (fun kq v7 w' => ∃ (x7_2 : Int), v7 = .int .i64 x7_2 ∧ Aside0 (spec_PlanValid.l0 kq l0 l2 x7_2 a1_0 l1_1 = some r) ∧ Aside0 (kq ≤ kj3) ∧ Aside0 (w'.heap[gb457]? = some (.cells #[.int .i64 a1_0, (.slice A1_1 l1_1.length c1_1)] 43 (0, 0))) ∧ Aside0 (Below w.heap.size w w'))
   case atStart => exact ⟨(0), m5_q, H', ⟨nR_q _⟩, ⟨bup BK457.out⟩, ⟨m18_q⟩⟩
   case round =>
    clear H'
    try clear c1
    try clear c2
    try clear p2
    try clear c4
    try clear c5
    try clear c7
    try clear c14
    try clear hcz12_0
    try clear hcz12_1
    try clear hcz9_0
    try clear hcz9_1
    try clear hfz12_0
    try clear hfz12_1
    try clear hfz9_0
    try clear hfz9_1
    try clear p2
    obtain ⟨x7_2, rfl, HA, HK2, BK457, HB⟩ := hrel
    cases gk with
    | zero => exact absurd HA.out (by simp [spec_PlanValid.l0])
    | succ k2 =>
     have H := HA.out
     clear HA
     simp only [spec_PlanValid.l0] at H
     by_cases c15 : x7_2 < (l0.length : Int)
     rotate_left
     ·rw [if_neg c15] at H
      have c15b0 : decide (x7_2 < (l0.length : Int)) = false := dF_q c15
      clear c15
      obtain rfl := oI_q H
      go_wp2
      go_ret
      exact ⟨m4_q, m18_q⟩
     rw [if_pos c15] at H
     have c15b0 : decide (x7_2 < (l0.length : Int)) = true := dT_q c15
     clear c15
     by_cases c16 : 0 ≤ x7_2
     rotate_left
     ·rw [if_neg c16] at H
      exact absurd H (by simp)
     rw [if_pos c16] at H
     have c16b0 : decide (0 ≤ x7_2) = true := dT_q c16
     clear c16
     by_cases c17 : x7_2 < (l2.length : Int)
     rotate_left
     ·rw [if_neg c17] at H
      exact absurd H (by simp)
     rw [if_pos c17] at H
     have c17b0 : decide (x7_2 < (l2.length : Int)) = true := dT_q c17
     clear c17
     replace H := oB_q.mp H
     obtain ⟨t461, A180, H⟩ := H
     replace H : (if (rd l2 x7_2) < t461 then (some false) else (if 0 ≤ (wrap64 (x7_2 + 1)) then (if (wrap64 (x7_2 + 1)) ≤ (l2.length : Int) then ((spec_l32Room.f k2 l0 a1_0 l1_1 (l2.take ((wrap64 (x7_2 + 1)) : Int).toNat)).bind fun t463 => (if t463 = true then (spec_PlanValid.l0 k2 l0 l2 (wrap64 (x7_2 + 1)) a1_0 l1_1) else (some false))) else (none)) else (none))) = some r := H
     have A18 := Ae_q A180
     clear A180
     by_cases c19 : (rd l2 x7_2) < t461
     ·rw [if_pos c19] at H
      have c19b0 : decide ((rd l2 x7_2) < t461) = true := dT_q c19
      clear c19
      obtain rfl := oI_q H
      try go_wp2
      replace BK457 := Ae_q (bW_q BK457.out)
      replace HB := Ae_q (bD_q HB.out)
      have p460 : 0 ≤ (x7_2 : Int) := oD_q (by assumption)
      have q460 : x7_2 < (l2.length : Int) := oD_q (by assumption)
      obtain ⟨ad460, e460, hx460_0⟩ := aI_q HR2.out x7_2 p460 q460
      have hw460_0 := hx460_0
      cases e460
      replace hx460_0 := cel HB.out hx460_0
      replace p460 := eq_true p460
      replace q460 := eq_true q460
      refine start_ (n := 19) (S := fun w' => w'.cell? (ad460.add (x7_2).toNat) = some (.int .i64 (rd l2 x7_2))) (ds := []) #[false, false, false, false, false, false, false, false, false, false, false, false, false, false, false, false, false, false, false] m7_q rfl rfl ((cel HB.out hw460_0)) (fun hHeld => ?_); refine with_tabW spec_PlanValid.tab6 spec_PlanValid.bits6 (fun HT_ HW_ => ?_)
      generalize wr.drew = w20 at BK457 HB hx460_0 hHeld ⊢
      refine pJ HT_ 0 23 rfl rfl ?_
      refine pJ HT_ 1 24 rfl rfl ?_
      refine pJ HT_ 2 25 rfl rfl ?_
      refine pJ HT_ 4 27 rfl rfl ?_
      refine pJ HT_ 5 28 rfl rfl ?_
      refine pJ HT_ 6 29 rfl rfl ?_
      refine take_ (i := 3) (N := some 26) (v := ?_) (a' := ?_) #[true, true, true, true, true, true, true, false, false, false, false, false, false, false, false, false, false, false, false] rfl rfl (take_ofW HT_.out HW_.out m7_q) (fun _ _ _ h => h) (Or.inl ⟨by rfl, ?_⟩) hHeld ?_ ?_
      rotate_left
      ·intro w' s0
       go_simp
       with_reducible rfl
      rotate_left
      ·simp only [pS_q]
       rfl
      refine one_ (i := 7) (N := some 30) #[true, true, true, true, true, true, true, true, false, false, false, false, false, false, false, false, false, false, false] rfl rfl (one_of HT_.out m7_q) (by decide) (fun K hK => ?_)
      refine goes_ Try.func46 m7_q rfl #[.slice A0 l0.length c0, .slice (some ad460) l2.length c2, .int .i64 x7_2] (by rfl) rfl rfl m1_q ?_
      with_reducible refine (spec_l32After.calls k2 _ _ l0 _ _ l2 x7_2 t461 _ ?side1 ?side2 ?side3 ?side4 A18.out).mono ?_
      (case side1 => exact m20_q)
      (case side2 => exact m57_q)
      (case side3 => exact m28_q)
      (case side4 => exact m63_q)
      rintro e w' ⟨rfl, hb⟩
      refine ⟨_, rfl, ?_⟩
      replace BK457 := Ae_q (bB_q (g := gb457) (o := .cells #[.int .i64 a1_0, .slice A1_1 l1_1.length c1_1] 43 (0, 0)) (bup BK457.out) hb)
      replace HB := Ae_q (bT_q m18_q hb)
      (try clear hb)
      (try clear hb2)
      (try clear hk)
      (try clear hi)
      refine hK.out _ _ ((cel HB.out hw460_0)) (fun hHeld => ?_)
      clear hK K
      refine nJ_q ?_
      refine pJ HT_ 8 31 rfl rfl ?_
      refine pJ HT_ 9 32 rfl rfl ?_
      refine pV HT_ 10 33 rfl rfl ?_
      refine pV HT_ 11 34 rfl rfl ?_
      refine pV HT_ 12 35 rfl rfl ?_
      refine pV HT_ 13 36 rfl rfl ?_
      refine pV HT_ 14 37 rfl rfl ?_
      refine pV HT_ 15 38 rfl rfl ?_
      refine pV HT_ 16 39 rfl rfl ?_
      refine pV HT_ 17 40 rfl rfl ?_
      refine pJ HT_ 18 41 rfl rfl ?_
      refine done_ (done_of HT_.out m7_q) ?_
      try go_wp2
      go_ret
      exact ⟨m4_q, m18_q⟩
     rw [if_neg c19] at H
     have c19b0 : decide ((rd l2 x7_2) < t461) = false := dF_q c19
     clear c19
     obtain ⟨ji22, hji22⟩ : ∃ j_ : Int, (wrap64 (x7_2 + 1)) = j_ := ⟨_, rfl⟩
     replace H : (if 0 ≤ (ji22) then (if (ji22) ≤ (l2.length : Int) then ((spec_l32Room.f k2 l0 a1_0 l1_1 (l2.take ((ji22) : Int).toNat)).bind fun t463 => (if t463 = true then (spec_PlanValid.l0 k2 l0 l2 ji22 a1_0 l1_1) else (some false))) else (none)) else (none)) = some r := by first | (rw [hji22] at H; exact H) | (simp only [hji22] at H ⊢; exact H)
     (try rw [hji22] at A18)
     have hji22w : (IntKind.i64.wrap (x7_2 + 1)) = ji22 := (i64_w _).trans hji22
     by_cases c23 : 0 ≤ (ji22)
     rotate_left
     ·rw [if_neg c23] at H
      exact absurd H (by simp)
     rw [if_pos c23] at H
     have c23b0 := eq_true c23
     have c23b1 : decide (0 ≤ (ji22)) = true := dT_q c23
     clear c23
     by_cases c24 : (ji22) ≤ (l2.length : Int)
     rotate_left
     ·rw [if_neg c24] at H
      exact absurd H (by simp)
     rw [if_pos c24] at H
     have c24b0 := eq_true c24
     have c24b1 : decide ((ji22) ≤ (l2.length : Int)) = true := dT_q c24
     clear c24
     replace H := oB_q.mp H
     obtain ⟨t463, A250, H⟩ := H
     replace H : (if t463 = true then (spec_PlanValid.l0 k2 l0 l2 ji22 a1_0 l1_1) else (some false)) = some r := H
     have A25 := Ae_q A250
     clear A250
     by_cases c26 : t463 = true
     rotate_left
     ·replace c26 := fM_q.mpr c26
      subst c26
      have H1 : (some false) = some r := by rw [if_neg (show ¬ (false = true) by decide)] at H; exact H
      clear H
      have H := H1
      clear H1
      obtain rfl := oI_q H
      try go_wp2
      replace BK457 := Ae_q (bW_q BK457.out)
      replace HB := Ae_q (bD_q HB.out)
      have p460 : 0 ≤ (x7_2 : Int) := oD_q (by assumption)
      have q460 : x7_2 < (l2.length : Int) := oD_q (by assumption)
      obtain ⟨ad460, e460, hx460_0⟩ := aI_q HR2.out x7_2 p460 q460
      have hw460_0 := hx460_0
      cases e460
      replace hx460_0 := cel HB.out hx460_0
      replace p460 := eq_true p460
      replace q460 := eq_true q460
      refine start_ (n := 19) (S := fun w' => w'.cell? ⟨gb457, 0, none⟩ = some (.int .i64 a1_0) ∧ w'.cell? ⟨gb457, 1, none⟩ = some (.slice A1_1 l1_1.length c1_1) ∧ w'.cell? (ad460.add (x7_2).toNat) = some (.int .i64 (rd l2 x7_2))) (ds := []) #[false, false, false, false, false, false, false, false, false, false, false, false, false, false, false, false, false, false, false] m7_q rfl rfl ⟨(bC_q BK457.out 0).trans rfl, (bC_q BK457.out 1).trans rfl, (cel HB.out hw460_0)⟩ (fun hHeld => ?_); refine with_tabW spec_PlanValid.tab6 spec_PlanValid.bits6 (fun HT_ HW_ => ?_)
      generalize wr.drew = w31 at BK457 HB hx460_0 hHeld ⊢
      refine pJ HT_ 0 23 rfl rfl ?_
      refine pJ HT_ 1 24 rfl rfl ?_
      refine pJ HT_ 2 25 rfl rfl ?_
      refine pJ HT_ 4 27 rfl rfl ?_
      refine pJ HT_ 5 28 rfl rfl ?_
      refine pJ HT_ 6 29 rfl rfl ?_
      refine take_ (i := 3) (N := some 26) (v := ?_) (a' := ?_) #[true, true, true, true, true, true, true, false, false, false, false, false, false, false, false, false, false, false, false] rfl rfl (take_ofW HT_.out HW_.out m7_q) (fun _ _ _ h => h) (Or.inl ⟨by rfl, ?_⟩) hHeld ?_ ?_
      rotate_left
      ·rintro w' ⟨s0, s1, s2⟩
       go_simp
       with_reducible rfl
      rotate_left
      ·simp only [pS_q]
       rfl
      refine one_ (i := 7) (N := some 30) #[true, true, true, true, true, true, true, true, false, false, false, false, false, false, false, false, false, false, false] rfl rfl (one_of HT_.out m7_q) (by decide) (fun K hK => ?_)
      refine goes_ Try.func46 m7_q rfl #[.slice A0 l0.length c0, .slice (some ad460) l2.length c2, .int .i64 x7_2] (by rfl) rfl rfl m1_q ?_
      with_reducible refine (spec_l32After.calls k2 _ _ l0 _ _ l2 x7_2 t461 _ ?side1 ?side2 ?side3 ?side4 A18.out).mono ?_
      (case side1 => exact m20_q)
      (case side2 => exact m57_q)
      (case side3 => exact m28_q)
      (case side4 => exact m63_q)
      rintro e w' ⟨rfl, hb⟩
      refine ⟨_, rfl, ?_⟩
      replace BK457 := Ae_q (bB_q (g := gb457) (o := .cells #[.int .i64 a1_0, .slice A1_1 l1_1.length c1_1] 43 (0, 0)) (bup BK457.out) hb)
      replace HB := Ae_q (bT_q m18_q hb)
      (try clear hb)
      (try clear hb2)
      (try clear hk)
      (try clear hi)
      obtain ⟨i033, hi033, _, hsz33, _⟩ := info_parts info3
      obtain ⟨hcut33, hA33, hC33⟩ := print_take_of (P := Try.prog) (Value.int .i64) 0 23 3 .i64 Try.underlying23 hi033 hsz33 (some ad460) c2 l2 (ji22) (oD_q (by assumption)) (oD_q (by assumption)) HC2.out
      have HR462 := Ae_q (Kd.C_of_reads (h1 := fun _ => rfl) (hA33 _ (Kd.reads_of_C HR2.out)))
      have HC462 := Ae_q hC33
      clear hA33 hC33 hi033 hsz33
      refine hK.out _ _ ⟨(bC_q BK457.out 0).trans rfl, (bC_q BK457.out 1).trans rfl, (cel HB.out hw460_0)⟩ (fun hHeld => ?_)
      clear hK K
      refine nJ_q ?_
      refine pJ HT_ 8 31 rfl rfl ?_
      refine pJ HT_ 9 32 rfl rfl ?_
      refine pJ HT_ 10 33 rfl rfl ?_
      refine pJ HT_ 12 35 rfl rfl ?_
      refine pJ HT_ 13 36 rfl rfl ?_
      refine pJ HT_ 14 37 rfl rfl ?_
      refine pJ HT_ 15 38 rfl rfl ?_
      refine take_ (i := 11) (N := some 34) (v := ?_) (a' := ?_) #[true, true, true, true, true, true, true, true, true, true, true, true, true, true, true, true, false, false, false] rfl rfl (take_ofW HT_.out HW_.out m7_q) (fun _ _ _ h => h) (Or.inl ⟨by rfl, ?_⟩) hHeld ?_ ?_
      rotate_left
      ·rintro w' ⟨s0, s1, s2⟩
       go_simp
       with_reducible rfl
      rotate_left
      ·simp only [pS_q]
       rfl
      refine one_ (i := 16) (N := some 39) #[true, true, true, true, true, true, true, true, true, true, true, true, true, true, true, true, true, false, false] rfl rfl (one_of HT_.out m7_q) (by decide) (fun K hK => ?_)
      refine goes_ Try.func47 m7_q rfl #[.slice A0 l0.length c0, .agg #[.int .i64 a1_0, .slice A1_1 l1_1.length c1_1], .slice (some ad460) (l2.take ((ji22) : Int).toNat).length c2] (by rfl) rfl rfl (by (try simp only [lM_q, lC_q, lN_q]); first | done | (rw [show (l2.take ((ji22) : Int).toNat).length = (ji22).toNat from (by rw [lT_q]; have h_ : ((ji22) : Int) ≤ (l2.length : Int) := oD_q (by assumption); omega)] <;> rfl) | (simp only [hji22]; rfl) | rfl | (simp only [lD_q, lT_q]; rfl)) ?_
      with_reducible refine (spec_l32Room.calls k2 _ _ l0 a1_0 _ _ l1_1 _ _ (l2.take ((ji22) : Int).toNat) false _ ?side1 ?side2 ?side3 ?side4 ?side5 ?side6 A25.out).mono ?_
      (case side1 => exact m20_q)
      (case side2 => exact m57_q)
      (case side3 => exact m32_q)
      (case side4 => exact m64_q)
      (case side5 => exact cup (cB_q HR462.out HB.out))
      (case side6 => exact HC462.out)
      rintro e w' ⟨rfl, hb⟩
      refine ⟨_, rfl, ?_⟩
      replace BK457 := Ae_q (bB_q (g := gb457) (o := .cells #[.int .i64 a1_0, .slice A1_1 l1_1.length c1_1] 43 (0, 0)) (bup BK457.out) hb)
      replace HB := Ae_q (bT_q m18_q hb)
      (try clear hb)
      (try clear hb2)
      (try clear hk)
      (try clear hi)
      refine hK.out _ _ ⟨(bC_q BK457.out 0).trans rfl, (bC_q BK457.out 1).trans rfl, (cel HB.out hw460_0)⟩ (fun hHeld => ?_)
      clear hK K
      refine nJ_q ?_
      refine pJ HT_ 17 40 rfl rfl ?_
      refine pJ HT_ 18 41 rfl rfl ?_
      refine done_ (done_of HT_.out m7_q) ?_
      try go_wp2
      go_ret
      exact ⟨by first | rfl | (simp [eN_q, eS_q] <;> rfl) | (simp only [← hji22]; first | rfl | (simp [eN_q, eS_q] <;> rfl)) | (simp [*, eN_q, eS_q] <;> rfl), m18_q⟩
     subst c26
     have H1 : (spec_PlanValid.l0 k2 l0 l2 ji22 a1_0 l1_1) = some r := by rw [if_pos rfl] at H; exact H
     clear H
     have H := H1
     clear H1
     have H' := Ae_q H
     clear H
     try go_wp2
     replace BK457 := Ae_q (bW_q BK457.out)
     replace HB := Ae_q (bD_q HB.out)
     have p460 : 0 ≤ (x7_2 : Int) := oD_q (by assumption)
     have q460 : x7_2 < (l2.length : Int) := oD_q (by assumption)
     obtain ⟨ad460, e460, hx460_0⟩ := aI_q HR2.out x7_2 p460 q460
     have hw460_0 := hx460_0
     cases e460
     replace hx460_0 := cel HB.out hx460_0
     replace p460 := eq_true p460
     replace q460 := eq_true q460
     refine start_ (n := 19) (S := fun w' => w'.cell? ⟨gb457, 0, none⟩ = some (.int .i64 a1_0) ∧ w'.cell? ⟨gb457, 1, none⟩ = some (.slice A1_1 l1_1.length c1_1) ∧ w'.cell? (ad460.add (x7_2).toNat) = some (.int .i64 (rd l2 x7_2))) (ds := []) #[false, false, false, false, false, false, false, false, false, false, false, false, false, false, false, false, false, false, false] m7_q rfl rfl ⟨(bC_q BK457.out 0).trans rfl, (bC_q BK457.out 1).trans rfl, (cel HB.out hw460_0)⟩ (fun hHeld => ?_); refine with_tabW spec_PlanValid.tab6 spec_PlanValid.bits6 (fun HT_ HW_ => ?_)
     generalize wr.drew = w27 at BK457 HB hx460_0 hHeld ⊢
     refine pJ HT_ 0 23 rfl rfl ?_
     refine pJ HT_ 1 24 rfl rfl ?_
     refine pJ HT_ 2 25 rfl rfl ?_
     refine pJ HT_ 4 27 rfl rfl ?_
     refine pJ HT_ 5 28 rfl rfl ?_
     refine pJ HT_ 6 29 rfl rfl ?_
     refine take_ (i := 3) (N := some 26) (v := ?_) (a' := ?_) #[true, true, true, true, true, true, true, false, false, false, false, false, false, false, false, false, false, false, false] rfl rfl (take_ofW HT_.out HW_.out m7_q) (fun _ _ _ h => h) (Or.inl ⟨by rfl, ?_⟩) hHeld ?_ ?_
     rotate_left
     ·rintro w' ⟨s0, s1, s2⟩
      go_simp
      with_reducible rfl
     rotate_left
     ·simp only [pS_q]
      rfl
     refine one_ (i := 7) (N := some 30) #[true, true, true, true, true, true, true, true, false, false, false, false, false, false, false, false, false, false, false] rfl rfl (one_of HT_.out m7_q) (by decide) (fun K hK => ?_)
     refine goes_ Try.func46 m7_q rfl #[.slice A0 l0.length c0, .slice (some ad460) l2.length c2, .int .i64 x7_2] (by rfl) rfl rfl m1_q ?_
     with_reducible refine (spec_l32After.calls k2 _ _ l0 _ _ l2 x7_2 t461 _ ?side1 ?side2 ?side3 ?side4 A18.out).mono ?_
     (case side1 => exact m20_q)
     (case side2 => exact m57_q)
     (case side3 => exact m28_q)
     (case side4 => exact m63_q)
     rintro e w' ⟨rfl, hb⟩
     refine ⟨_, rfl, ?_⟩
     replace BK457 := Ae_q (bB_q (g := gb457) (o := .cells #[.int .i64 a1_0, .slice A1_1 l1_1.length c1_1] 43 (0, 0)) (bup BK457.out) hb)
     replace HB := Ae_q (bT_q m18_q hb)
     (try clear hb)
     (try clear hb2)
     (try clear hk)
     (try clear hi)
     obtain ⟨i029, hi029, _, hsz29, _⟩ := info_parts info3
     obtain ⟨hcut29, hA29, hC29⟩ := print_take_of (P := Try.prog) (Value.int .i64) 0 23 3 .i64 Try.underlying23 hi029 hsz29 (some ad460) c2 l2 (ji22) (oD_q (by assumption)) (oD_q (by assumption)) HC2.out
     have HR462 := Ae_q (Kd.C_of_reads (h1 := fun _ => rfl) (hA29 _ (Kd.reads_of_C HR2.out)))
     have HC462 := Ae_q hC29
     clear hA29 hC29 hi029 hsz29
     refine hK.out _ _ ⟨(bC_q BK457.out 0).trans rfl, (bC_q BK457.out 1).trans rfl, (cel HB.out hw460_0)⟩ (fun hHeld => ?_)
     clear hK K
     refine nJ_q ?_
     refine pJ HT_ 8 31 rfl rfl ?_
     refine pJ HT_ 9 32 rfl rfl ?_
     refine pJ HT_ 10 33 rfl rfl ?_
     refine pJ HT_ 12 35 rfl rfl ?_
     refine pJ HT_ 13 36 rfl rfl ?_
     refine pJ HT_ 14 37 rfl rfl ?_
     refine pJ HT_ 15 38 rfl rfl ?_
     refine take_ (i := 11) (N := some 34) (v := ?_) (a' := ?_) #[true, true, true, true, true, true, true, true, true, true, true, true, true, true, true, true, false, false, false] rfl rfl (take_ofW HT_.out HW_.out m7_q) (fun _ _ _ h => h) (Or.inl ⟨by rfl, ?_⟩) hHeld ?_ ?_
     rotate_left
     ·rintro w' ⟨s0, s1, s2⟩
      go_simp
      with_reducible rfl
     rotate_left
     ·simp only [pS_q]
      rfl
     refine one_ (i := 16) (N := some 39) #[true, true, true, true, true, true, true, true, true, true, true, true, true, true, true, true, true, false, false] rfl rfl (one_of HT_.out m7_q) (by decide) (fun K hK => ?_)
     refine goes_ Try.func47 m7_q rfl #[.slice A0 l0.length c0, .agg #[.int .i64 a1_0, .slice A1_1 l1_1.length c1_1], .slice (some ad460) (l2.take ((ji22) : Int).toNat).length c2] (by rfl) rfl rfl (by (try simp only [lM_q, lC_q, lN_q]); first | done | (rw [show (l2.take ((ji22) : Int).toNat).length = (ji22).toNat from (by rw [lT_q]; have h_ : ((ji22) : Int) ≤ (l2.length : Int) := oD_q (by assumption); omega)] <;> rfl) | (simp only [hji22]; rfl) | rfl | (simp only [lD_q, lT_q]; rfl)) ?_
     with_reducible refine (spec_l32Room.calls k2 _ _ l0 a1_0 _ _ l1_1 _ _ (l2.take ((ji22) : Int).toNat) true _ ?side1 ?side2 ?side3 ?side4 ?side5 ?side6 A25.out).mono ?_
     (case side1 => exact m20_q)
     (case side2 => exact m57_q)
     (case side3 => exact m32_q)
     (case side4 => exact m64_q)
     (case side5 => exact cup (cB_q HR462.out HB.out))
     (case side6 => exact HC462.out)
     rintro e w' ⟨rfl, hb⟩
     refine ⟨_, rfl, ?_⟩
     replace BK457 := Ae_q (bB_q (g := gb457) (o := .cells #[.int .i64 a1_0, .slice A1_1 l1_1.length c1_1] 43 (0, 0)) (bup BK457.out) hb)
     replace HB := Ae_q (bT_q m18_q hb)
     (try clear hb)
     (try clear hb2)
     (try clear hk)
     (try clear hi)
     refine hK.out _ _ ⟨(bC_q BK457.out 0).trans rfl, (bC_q BK457.out 1).trans rfl, (cel HB.out hw460_0)⟩ (fun hHeld => ?_)
     clear hK K
     refine nJ_q ?_
     refine pJ HT_ 17 40 rfl rfl ?_
     refine pJ HT_ 18 41 rfl rfl ?_
     refine done_ (done_of HT_.out m7_q) ?_
     try go_wp2
     go_roundg k2
     case measure => have := HJ3.out; have := HK2.out; omega
     case rel => exact ⟨(ji22), (by first | rfl | (simp; done) | (simp only [← hji22] <;> (first | rfl | simp)) | (simp [*]; done)), H', ⟨by have := HJ3.out; have := HK2.out; omega⟩, ⟨bup BK457.out⟩, ⟨m18_q⟩⟩

end Go.Proofs.Ytfnpiacmlahegaa.PRp
