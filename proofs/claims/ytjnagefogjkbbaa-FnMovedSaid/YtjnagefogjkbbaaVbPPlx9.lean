import Derived.Test.YtjnagefogjkbbaaVbPPlx0
import Derived.Test.YtjnagefogjkbbaaVbPPlx1
import Derived.Test.YtjnagefogjkbbaaVbPPlx8
namespace Go.Proofs.Ytjnagefogjkbbaa.PPl
open Go.RowKit Go.Proofs.YtjnagefogjkbbaaW.PrintWords Go.Proofs.YtjnagefogjkbbaaW.PrintLast Go.Proofs.YtjnagefogjkbbaaW.PrintMore
attribute [local go_sem] max2_int min2_int max_two min_two max_three min_three max_four min_four
set_option linter.unusedVariables false
set_option linter.unusedSimpArgs false

mutual
def spec_l32Room.l0 : Nat → List (S59) → List Int → Int → Int → Int → List Int → Option (Bool)
 | 0, _, _, _, _, _, _ => none
 | k + 1, x0, x2, x7, x8, x322000, x322001 => if 0 ≤ x7 then (if x7 < (x2.length : Int) then (if x7 < (x0.length : Int) then (if x8 < (wrap64 ((rd x2 x7) + ((rd_T59 x0 x7).f0))) then ((spec_l32Use.f k x0 x2 x8).bind fun bt325 => (if bt325.1 > x322000 then (some false) else (spec_l32Room.l1 k x0 x2 x7 x8 bt325.2 0 x322000 x322001))) else (some true)) else (none)) else (none)) else (none)
def spec_l32Room.l1 : Nat → List (S59) → List Int → Int → Int → List Int → Int → Int → List Int → Option (Bool)
 | 0, _, _, _, _, _, _, _, _ => none
 | k + 1, x0, x2, x7, x8, x10, x11, x322000, x322001 => if x11 < (x10.length : Int) then (if 0 ≤ x11 then (if x11 < (x322001.length : Int) then (if (rd x10 x11) > (rd x322001 x11) then (some false) else (spec_l32Room.l1 k x0 x2 x7 x8 x10 (wrap64 (x11 + 1)) x322000 x322001)) else (none)) else (none)) else (spec_l32Room.l0 k x0 x2 x7 (wrap64 (x8 + 1)) x322000 x322001)
end
def spec_l32Room.f (k : Nat) (l0 : List (S59)) (a1_0 : Int) (l1_1 : List Int) (l2 : List Int) : Option (Bool) := if 0 ≤ (wrap64 ((l2.length : Int) - 1)) then (if (wrap64 ((l2.length : Int) - 1)) < (l2.length : Int) then (spec_l32Room.l0 k l0 l2 (wrap64 ((l2.length : Int) - 1)) (rd l2 (wrap64 ((l2.length : Int) - 1))) a1_0 l1_1) else (none)) else (none)
theorem spec_l32Room.mono_l : ∀ k, (∀ y0 y1 y2 y3 y4 y5, LeO (spec_l32Room.l0 k y0 y1 y2 y3 y4 y5) (spec_l32Room.l0 (k + 1) y0 y1 y2 y3 y4 y5)) ∧ (∀ y0 y1 y2 y3 y4 y5 y6 y7, LeO (spec_l32Room.l1 k y0 y1 y2 y3 y4 y5 y6 y7) (spec_l32Room.l1 (k + 1) y0 y1 y2 y3 y4 y5 y6 y7))
 | 0 => ⟨fun _ _ _ _ _ _ r h => by simp [spec_l32Room.l0] at h, fun _ _ _ _ _ _ _ _ r h => by simp [spec_l32Room.l1] at h⟩
 | k + 1 => by
  obtain ⟨ih0, ih1⟩ := spec_l32Room.mono_l k
  refine ⟨?_, ?_⟩
  ·intro y0 y1 y2 y3 y4 y5
   unfold spec_l32Room.l0
   repeat' first
   | (with_reducible exact ih0 _ _ _ _ _ _)
   | (with_reducible exact ih1 _ _ _ _ _ _ _ _)
   | (with_reducible exact spec_l32Use.mono _ _ _ _)
   | (with_reducible exact lR_q _)
   | (with_reducible exact lO_q _)
   | (with_reducible refine lI_q ?_ ?_)
   | (with_reducible refine lB_q ?_ (fun _ => ?_))
   | exact ih0 _ _ _ _ _ _
   | exact ih1 _ _ _ _ _ _ _ _
   | exact spec_l32Use.mono _ _ _ _
   | exact lO_q _
   | refine lI_q ?_ ?_
   | refine lB_q ?_ (fun _ => ?_)
  intro y0 y1 y2 y3 y4 y5 y6 y7
  unfold spec_l32Room.l1
  repeat' first
  | (with_reducible exact ih0 _ _ _ _ _ _)
  | (with_reducible exact ih1 _ _ _ _ _ _ _ _)
  | (with_reducible exact spec_l32Use.mono _ _ _ _)
  | (with_reducible exact lR_q _)
  | (with_reducible exact lO_q _)
  | (with_reducible refine lI_q ?_ ?_)
  | (with_reducible refine lB_q ?_ (fun _ => ?_))
  | exact ih0 _ _ _ _ _ _
  | exact ih1 _ _ _ _ _ _ _ _
  | exact spec_l32Use.mono _ _ _ _
  | exact lO_q _
  | refine lI_q ?_ ?_
  | refine lB_q ?_ (fun _ => ?_)
theorem spec_l32Room.mono : ∀ a0 a1 a2 a3 k, LeO (spec_l32Room.f k a0 a1 a2 a3) (spec_l32Room.f (k + 1) a0 a1 a2 a3) := by
 intro a0 a1 a2 a3 k
 obtain ⟨ih0, ih1⟩ := spec_l32Room.mono_l k
 unfold spec_l32Room.f
 repeat' first
  | (with_reducible exact ih0 _ _ _ _ _ _)
  | (with_reducible exact ih1 _ _ _ _ _ _ _ _)
  | (with_reducible exact spec_l32Use.mono _ _ _ _)
  | (with_reducible exact lR_q _)
  | (with_reducible exact lO_q _)
  | (with_reducible refine lI_q ?_ ?_)
  | (with_reducible refine lB_q ?_ (fun _ => ?_))
  | exact ih0 _ _ _ _ _ _
  | exact ih1 _ _ _ _ _ _ _ _
  | exact spec_l32Use.mono _ _ _ _
  | exact lO_q _
  | refine lI_q ?_ ?_
  | refine lB_q ?_ (fun _ => ?_)
set_option maxHeartbeats 8000000 in
set_option maxRecDepth 100000 in
theorem spec_l32Room.calls (k : Nat) (A0 : Option Addr) (c0 : Nat) (l0 : List (S59)) (a1_0 : Int) (A1_1 : Option Addr) (c1_1 : Nat) (l1_1 : List Int) (A2 : Option Addr) (c2 : Nat) (l2 : List Int) (r : Bool) (w : World) (hr0 : Kd.C k59 w A0 l0.length l0) (hc0 : l0.length ≤ c0) (hr1_1 : Kd.C kI_q w A1_1 l1_1.length l1_1) (hc1_1 : l1_1.length ≤ c1_1) (hr2 : Kd.C kI_q w A2 l2.length l2) (hc2 : l2.length ≤ c2) (h : spec_l32Room.f k l0 a1_0 l1_1 l2 = some r) :
    Calls Try.prog 35 #[.slice A0 l0.length c0, .agg #[.int .i64 a1_0, .slice A1_1 l1_1.length c1_1], .slice A2 l2.length c2] w fun e w' => e = .returned (.bool r) ∧ Below w.heap.size w w' := by
 have hu39 := Try.underlying39
 have HR0 := Ae_q hr0
 have HC0 := Ae_q hc0
 clear hr0 hc0
 have HR1_1 := Ae_q hr1_1
 have HC1_1 := Ae_q hc1_1
 clear hr1_1 hc1_1
 have HR2 := Ae_q hr2
 have HC2 := Ae_q hc2
 clear hr2 hc2
 have HB := Ae_q (bR_q w.heap.size w)
 have H : (if 0 ≤ (wrap64 ((l2.length : Int) - 1)) then (if (wrap64 ((l2.length : Int) - 1)) < (l2.length : Int) then (spec_l32Room.l0 k l0 l2 (wrap64 ((l2.length : Int) - 1)) (rd l2 (wrap64 ((l2.length : Int) - 1))) a1_0 l1_1) else (none)) else (none)) = some r := h
 clear h
 obtain ⟨ji4, hji4⟩ : ∃ j_ : Int, (wrap64 ((l2.length : Int) - 1)) = j_ := ⟨_, rfl⟩
 replace H : (if 0 ≤ (ji4) then (if (ji4) < (l2.length : Int) then (spec_l32Room.l0 k l0 l2 ji4 (rd l2 (ji4)) a1_0 l1_1) else (none)) else (none)) = some r := by first | (rw [hji4] at H; exact H) | (simp only [hji4] at H ⊢; exact H)
 have hji4w : (IntKind.i64.wrap ((l2.length : Int) - 1)) = ji4 := (i64_w _).trans hji4
 by_cases c5 : 0 ≤ (ji4)
 ·rw [if_pos c5] at H
  have c5b0 : decide (0 ≤ (ji4)) = true := dT_q c5
  clear c5
  by_cases c6 : (ji4) < (l2.length : Int)
  ·rw [if_pos c6] at H
   have c6b0 : decide ((ji4) < (l2.length : Int)) = true := dT_q c6
   clear c6
   have H' := Ae_q H
   clear H
   go_enter Try.func35, Try.ntmps35
   go_wp2_with (first | ((with_reducible refine gD_q (N := 4) rfl ?_); refine bE_q ?hg (N := 4) ?hd (cs := #[.int .i64 a1_0, .slice A1_1 l1_1.length c1_1]) (t := 39) ?hr ?_; (case hd => rfl); (case hg => rfl); (case hr => first | (go_simp; done) | (go_simp; rfl)); intro gb321 hg w7 hbox hb; have n0_ := Ae_q (bT_q (bel HB.out) hb); have n1_ := Ae_q (hbox); have n2_ := Ae_q ((by rw [hg]; exact (bZ_q (bel HB.out)) : w.heap.size ≤ gb321)); have n3_ := Ae_q ((by rw [hg]; exact (bZ_q (bel HB.out)) : w.heap.size ≤ gb321)); clear HB; have HB := n0_; have BK321 := n1_; have GW321 := n2_; have GE321 := n3_; clear n0_ n1_ n2_ n3_; clear hb hbox hg; have p322 : 0 ≤ ((ji4) : Int) := oD_q (by assumption); have q322 : (ji4) < (l2.length : Int) := oD_q (by assumption); obtain ⟨ad322, e322, hx322_0⟩ := aI_q HR2.out (ji4) p322 q322; cases e322; replace hx322_0 := cel HB.out hx322_0; replace p322 := eq_true p322; replace q322 := eq_true q322))
   repeat (go_quiet (first | ((with_reducible refine gD_q (N := 4) rfl ?_); refine bE_q ?hg (N := 4) ?hd (cs := #[.int .i64 a1_0, .slice A1_1 l1_1.length c1_1]) (t := 39) ?hr ?_; (case hd => rfl); (case hg => rfl); (case hr => first | (go_simp; done) | (go_simp; rfl)); intro gb321 hg w7 hbox hb; have n0_ := Ae_q (bT_q (bel HB.out) hb); have n1_ := Ae_q (hbox); have n2_ := Ae_q ((by rw [hg]; exact (bZ_q (bel HB.out)) : w.heap.size ≤ gb321)); have n3_ := Ae_q ((by rw [hg]; exact (bZ_q (bel HB.out)) : w.heap.size ≤ gb321)); clear HB; have HB := n0_; have BK321 := n1_; have GW321 := n2_; have GE321 := n3_; clear n0_ n1_ n2_ n3_; clear hb hbox hg; have p322 : 0 ≤ ((ji4) : Int) := oD_q (by assumption); have q322 : (ji4) < (l2.length : Int) := oD_q (by assumption); obtain ⟨ad322, e322, hx322_0⟩ := aI_q HR2.out (ji4) p322 q322; cases e322; replace hx322_0 := cel HB.out hx322_0; replace p322 := eq_true p322; replace q322 := eq_true q322)); try go_wp2_with (first | ((with_reducible refine gD_q (N := 4) rfl ?_); refine bE_q ?hg (N := 4) ?hd (cs := #[.int .i64 a1_0, .slice A1_1 l1_1.length c1_1]) (t := 39) ?hr ?_; (case hd => rfl); (case hg => rfl); (case hr => first | (go_simp; done) | (go_simp; rfl)); intro gb321 hg w7 hbox hb; have n0_ := Ae_q (bT_q (bel HB.out) hb); have n1_ := Ae_q (hbox); have n2_ := Ae_q ((by rw [hg]; exact (bZ_q (bel HB.out)) : w.heap.size ≤ gb321)); have n3_ := Ae_q ((by rw [hg]; exact (bZ_q (bel HB.out)) : w.heap.size ≤ gb321)); clear HB; have HB := n0_; have BK321 := n1_; have GW321 := n2_; have GE321 := n3_; clear n0_ n1_ n2_ n3_; clear hb hbox hg; have p322 : 0 ≤ ((ji4) : Int) := oD_q (by assumption); have q322 : (ji4) < (l2.length : Int) := oD_q (by assumption); obtain ⟨ad322, e322, hx322_0⟩ := aI_q HR2.out (ji4) p322 q322; cases e322; replace hx322_0 := cel HB.out hx322_0; replace p322 := eq_true p322; replace q322 := eq_true q322)))
   go_loopg [8] k (fun kq v8 w' => ∃ (x8_1 : Int), v8 = .int .i64 x8_1 ∧ Aside0 (spec_l32Room.l0 kq l0 l2 ji4 x8_1 a1_0 l1_1 = some r) ∧ Aside0 (kq ≤ k) ∧ Aside0 (w'.heap[gb321]? = some (.cells #[.int .i64 a1_0, (.slice A1_1 l1_1.length c1_1)] 39 (0, 0))) ∧ Aside0 (Below w.heap.size w w'))
   case atStart => exact ⟨(rd l2 (ji4)), (by first | rfl | (simp; done) | (simp only [← hji4] <;> (first | rfl | simp)) | (simp [*]; done)), H', ⟨nR_q _⟩, ⟨by (with_reducible repeat (first | refine bN_q ?_ _ | refine bW_q ?_ | refine bL_q ?_ _)); exact BK321.out⟩, ⟨by repeat (with_reducible first | exact HB.out | apply bA_q | apply pB_q | apply bD_q | refine bS_q ?_ GE321.out)⟩⟩
   case round =>
    clear H'
    try clear c1
    try clear c2
    try clear p2
    try clear c3
    try clear p3
    try clear q3
    try clear hx3
    try clear c5
    try clear c5b0
    try clear c6
    try clear c6b0
    try clear p6
    try clear hx322_0
    try clear p322
    try clear q322
    obtain ⟨x8_1, rfl, HA, HK1, BK321, HB⟩ := hrel
    cases gk with
    | zero => exact absurd HA.out (by simp [spec_l32Room.l0])
    | succ k1 =>
     have H := HA.out
     clear HA
     simp only [spec_l32Room.l0] at H
     by_cases c8 : 0 ≤ ji4
     ·rw [if_pos c8] at H
      have c8b0 : decide (0 ≤ ji4) = true := dT_q c8
      clear c8
      by_cases c9 : ji4 < (l2.length : Int)
      ·rw [if_pos c9] at H
       have c9b0 : decide (ji4 < (l2.length : Int)) = true := dT_q c9
       clear c9
       by_cases c10 : ji4 < (l0.length : Int)
       ·rw [if_pos c10] at H
        have c10b0 : decide (ji4 < (l0.length : Int)) = true := dT_q c10
        clear c10
        by_cases c11 : x8_1 < (wrap64 ((rd l2 ji4) + ((rd_T59 l0 ji4).f0)))
        ·rw [if_pos c11] at H
         have c11b0 : decide (x8_1 < (wrap64 ((rd l2 ji4) + ((rd_T59 l0 ji4).f0)))) = true := dT_q c11
         clear c11
         replace H := oB_q.mp H
         obtain ⟨⟨t325, t326⟩, A120, H⟩ := H
         replace H : (if t325 > a1_0 then (some false) else (spec_l32Room.l1 k1 l0 l2 ji4 x8_1 t326 0 a1_0 l1_1)) = some r := H
         have A12 := Ae_q A120
         clear A120
         by_cases c13 : t325 > a1_0
         ·rw [if_pos c13] at H
          have c13b0 : decide (a1_0 < t325) = true := dT_q c13
          clear c13
          obtain rfl := oI_q H
          have p323 : 0 ≤ (ji4 : Int) := oD_q (by assumption)
          have q323 : ji4 < (l2.length : Int) := oD_q (by assumption)
          obtain ⟨ad323, e323, hx323_0⟩ := aI_q HR2.out ji4 p323 q323
          obtain rfl : ad322 = ad323 := (by injection e323)
          replace hx323_0 := cel HB.out hx323_0
          replace p323 := eq_true p323
          replace q323 := eq_true q323
          have p324 : 0 ≤ (ji4 : Int) := oD_q (by assumption)
          have q324 : ji4 < (l0.length : Int) := oD_q (by assumption)
          obtain ⟨ad324, A324_3, c324_3, e324, hx324_0, hx324_1, hx324_2, hx324_3, hl324_3, hi324_3⟩ := at_T59 HR0.out ji4 p324 q324
          cases e324
          replace hx324_0 := cel HB.out hx324_0
          replace hx324_1 := cel HB.out hx324_1
          replace hx324_2 := cel HB.out hx324_2
          replace hx324_3 := cel HB.out hx324_3
          have HR324_3 := Ae_q hi324_3
          have HC324_3 := Ae_q hl324_3
          clear hi324_3 hl324_3
          replace p324 := eq_true p324
          replace q324 := eq_true q324
          go_wp2_with (first | (go_at_call 40; (with_reducible refine (spec_l32Use.calls k1 _ _ l0 _ _ l2 x8_1 t325 t326 _ ?side1 ?side2 ?side3 ?side4 A12.out).mono ?_); (case side1 => exact cup (cB_q HR0.out HB.out)); (case side2 => exact HC0.out); (case side3 => exact cup (cB_q HR2.out HB.out)); (case side4 => exact HC2.out); rintro e w14 ⟨v327, rfl, ho0, hb⟩; have n0_ := Ae_q (rL_q ho0 (bZ_q (by repeat (with_reducible first | exact HB.out | apply bA_q | apply pB_q | apply bD_q | refine bS_q ?_ GE321.out)))); have n1_ := Ae_q (bB_q (g := gb321) (o := .cells #[.int .i64 a1_0, .slice A1_1 l1_1.length c1_1] 39 (0, 0)) (bup BK321.out) hb); have n2_ := Ae_q (bT_q (by repeat (with_reducible first | exact HB.out | apply bA_q | apply pB_q | apply bD_q | refine bS_q ?_ GE321.out)) hb); clear BK321; clear HB; have HO328 := n0_; have BK321 := n1_; have HB := n2_; clear n0_ n1_ n2_; (try clear hb); (try clear hb2); (try clear hk); (try clear hi); (try clear ho0); have hcz15_0 : w14.cell? ⟨gb321, 0, none⟩ = some (.int .i64 a1_0) := (bC_q BK321.out 0).trans rfl; have hcz15_1 : w14.cell? ⟨gb321, 1, none⟩ = some (.slice A1_1 l1_1.length c1_1) := (bC_q BK321.out 1).trans rfl; have hfz15_0 := bF_q BK321.out 0; have hfz15_1 := bF_q BK321.out 1))
          repeat (go_quiet (first | (go_at_call 40; (with_reducible refine (spec_l32Use.calls k1 _ _ l0 _ _ l2 x8_1 t325 t326 _ ?side1 ?side2 ?side3 ?side4 A12.out).mono ?_); (case side1 => exact cup (cB_q HR0.out HB.out)); (case side2 => exact HC0.out); (case side3 => exact cup (cB_q HR2.out HB.out)); (case side4 => exact HC2.out); rintro e w14 ⟨v327, rfl, ho0, hb⟩; have n0_ := Ae_q (rL_q ho0 (bZ_q (by repeat (with_reducible first | exact HB.out | apply bA_q | apply pB_q | apply bD_q | refine bS_q ?_ GE321.out)))); have n1_ := Ae_q (bB_q (g := gb321) (o := .cells #[.int .i64 a1_0, .slice A1_1 l1_1.length c1_1] 39 (0, 0)) (bup BK321.out) hb); have n2_ := Ae_q (bT_q (by repeat (with_reducible first | exact HB.out | apply bA_q | apply pB_q | apply bD_q | refine bS_q ?_ GE321.out)) hb); clear BK321; clear HB; have HO328 := n0_; have BK321 := n1_; have HB := n2_; clear n0_ n1_ n2_; (try clear hb); (try clear hb2); (try clear hk); (try clear hi); (try clear ho0); have hcz15_0 : w14.cell? ⟨gb321, 0, none⟩ = some (.int .i64 a1_0) := (bC_q BK321.out 0).trans rfl; have hcz15_1 : w14.cell? ⟨gb321, 1, none⟩ = some (.slice A1_1 l1_1.length c1_1) := (bC_q BK321.out 1).trans rfl; have hfz15_0 := bF_q BK321.out 0; have hfz15_1 := bF_q BK321.out 1)); try go_wp2_with (first | (go_at_call 40; (with_reducible refine (spec_l32Use.calls k1 _ _ l0 _ _ l2 x8_1 t325 t326 _ ?side1 ?side2 ?side3 ?side4 A12.out).mono ?_); (case side1 => exact cup (cB_q HR0.out HB.out)); (case side2 => exact HC0.out); (case side3 => exact cup (cB_q HR2.out HB.out)); (case side4 => exact HC2.out); rintro e w14 ⟨v327, rfl, ho0, hb⟩; have n0_ := Ae_q (rL_q ho0 (bZ_q (by repeat (with_reducible first | exact HB.out | apply bA_q | apply pB_q | apply bD_q | refine bS_q ?_ GE321.out)))); have n1_ := Ae_q (bB_q (g := gb321) (o := .cells #[.int .i64 a1_0, .slice A1_1 l1_1.length c1_1] 39 (0, 0)) (bup BK321.out) hb); have n2_ := Ae_q (bT_q (by repeat (with_reducible first | exact HB.out | apply bA_q | apply pB_q | apply bD_q | refine bS_q ?_ GE321.out)) hb); clear BK321; clear HB; have HO328 := n0_; have BK321 := n1_; have HB := n2_; clear n0_ n1_ n2_; (try clear hb); (try clear hb2); (try clear hk); (try clear hi); (try clear ho0); have hcz15_0 : w14.cell? ⟨gb321, 0, none⟩ = some (.int .i64 a1_0) := (bC_q BK321.out 0).trans rfl; have hcz15_1 : w14.cell? ⟨gb321, 1, none⟩ = some (.slice A1_1 l1_1.length c1_1) := (bC_q BK321.out 1).trans rfl; have hfz15_0 := bF_q BK321.out 0; have hfz15_1 := bF_q BK321.out 1)))
          go_ret
          exact ⟨by first | rfl | (simp [eN_q, eS_q] <;> rfl) | (simp only [← hji4]; first | rfl | (simp [eN_q, eS_q] <;> rfl)) | (simp [*, eN_q, eS_q] <;> rfl), by repeat (with_reducible first | exact HB.out | apply bA_q | apply pB_q | apply bD_q | refine bS_q ?_ GE321.out)⟩
         rw [if_neg c13] at H
         have c13b0 : decide (a1_0 < t325) = false := dF_q c13
         clear c13
         have H' := Ae_q H
         clear H
         have p323 : 0 ≤ (ji4 : Int) := oD_q (by assumption)
         have q323 : ji4 < (l2.length : Int) := oD_q (by assumption)
         obtain ⟨ad323, e323, hx323_0⟩ := aI_q HR2.out ji4 p323 q323
         obtain rfl : ad322 = ad323 := (by injection e323)
         replace hx323_0 := cel HB.out hx323_0
         replace p323 := eq_true p323
         replace q323 := eq_true q323
         have p324 : 0 ≤ (ji4 : Int) := oD_q (by assumption)
         have q324 : ji4 < (l0.length : Int) := oD_q (by assumption)
         obtain ⟨ad324, A324_3, c324_3, e324, hx324_0, hx324_1, hx324_2, hx324_3, hl324_3, hi324_3⟩ := at_T59 HR0.out ji4 p324 q324
         cases e324
         replace hx324_0 := cel HB.out hx324_0
         replace hx324_1 := cel HB.out hx324_1
         replace hx324_2 := cel HB.out hx324_2
         replace hx324_3 := cel HB.out hx324_3
         have HR324_3 := Ae_q hi324_3
         have HC324_3 := Ae_q hl324_3
         clear hi324_3 hl324_3
         replace p324 := eq_true p324
         replace q324 := eq_true q324
         go_wp2_with (first | (go_at_call 40; (with_reducible refine (spec_l32Use.calls k1 _ _ l0 _ _ l2 x8_1 t325 t326 _ ?side1 ?side2 ?side3 ?side4 A12.out).mono ?_); (case side1 => exact cup (cB_q HR0.out HB.out)); (case side2 => exact HC0.out); (case side3 => exact cup (cB_q HR2.out HB.out)); (case side4 => exact HC2.out); rintro e w16 ⟨v327, rfl, ho0, hb⟩; have n0_ := Ae_q (rL_q ho0 (bZ_q (by repeat (with_reducible first | exact HB.out | apply bA_q | apply pB_q | apply bD_q | refine bS_q ?_ GE321.out)))); have n1_ := Ae_q (bB_q (g := gb321) (o := .cells #[.int .i64 a1_0, .slice A1_1 l1_1.length c1_1] 39 (0, 0)) (bup BK321.out) hb); have n2_ := Ae_q (bT_q (by repeat (with_reducible first | exact HB.out | apply bA_q | apply pB_q | apply bD_q | refine bS_q ?_ GE321.out)) hb); clear BK321; clear HB; have HO328 := n0_; have BK321 := n1_; have HB := n2_; clear n0_ n1_ n2_; (try clear hb); (try clear hb2); (try clear hk); (try clear hi); (try clear ho0); have hcz17_0 : w16.cell? ⟨gb321, 0, none⟩ = some (.int .i64 a1_0) := (bC_q BK321.out 0).trans rfl; have hcz17_1 : w16.cell? ⟨gb321, 1, none⟩ = some (.slice A1_1 l1_1.length c1_1) := (bC_q BK321.out 1).trans rfl; have hfz17_0 := bF_q BK321.out 0; have hfz17_1 := bF_q BK321.out 1))
         repeat (go_quiet (first | (go_at_call 40; (with_reducible refine (spec_l32Use.calls k1 _ _ l0 _ _ l2 x8_1 t325 t326 _ ?side1 ?side2 ?side3 ?side4 A12.out).mono ?_); (case side1 => exact cup (cB_q HR0.out HB.out)); (case side2 => exact HC0.out); (case side3 => exact cup (cB_q HR2.out HB.out)); (case side4 => exact HC2.out); rintro e w16 ⟨v327, rfl, ho0, hb⟩; have n0_ := Ae_q (rL_q ho0 (bZ_q (by repeat (with_reducible first | exact HB.out | apply bA_q | apply pB_q | apply bD_q | refine bS_q ?_ GE321.out)))); have n1_ := Ae_q (bB_q (g := gb321) (o := .cells #[.int .i64 a1_0, .slice A1_1 l1_1.length c1_1] 39 (0, 0)) (bup BK321.out) hb); have n2_ := Ae_q (bT_q (by repeat (with_reducible first | exact HB.out | apply bA_q | apply pB_q | apply bD_q | refine bS_q ?_ GE321.out)) hb); clear BK321; clear HB; have HO328 := n0_; have BK321 := n1_; have HB := n2_; clear n0_ n1_ n2_; (try clear hb); (try clear hb2); (try clear hk); (try clear hi); (try clear ho0); have hcz17_0 : w16.cell? ⟨gb321, 0, none⟩ = some (.int .i64 a1_0) := (bC_q BK321.out 0).trans rfl; have hcz17_1 : w16.cell? ⟨gb321, 1, none⟩ = some (.slice A1_1 l1_1.length c1_1) := (bC_q BK321.out 1).trans rfl; have hfz17_0 := bF_q BK321.out 0; have hfz17_1 := bF_q BK321.out 1)); try go_wp2_with (first | (go_at_call 40; (with_reducible refine (spec_l32Use.calls k1 _ _ l0 _ _ l2 x8_1 t325 t326 _ ?side1 ?side2 ?side3 ?side4 A12.out).mono ?_); (case side1 => exact cup (cB_q HR0.out HB.out)); (case side2 => exact HC0.out); (case side3 => exact cup (cB_q HR2.out HB.out)); (case side4 => exact HC2.out); rintro e w16 ⟨v327, rfl, ho0, hb⟩; have n0_ := Ae_q (rL_q ho0 (bZ_q (by repeat (with_reducible first | exact HB.out | apply bA_q | apply pB_q | apply bD_q | refine bS_q ?_ GE321.out)))); have n1_ := Ae_q (bB_q (g := gb321) (o := .cells #[.int .i64 a1_0, .slice A1_1 l1_1.length c1_1] 39 (0, 0)) (bup BK321.out) hb); have n2_ := Ae_q (bT_q (by repeat (with_reducible first | exact HB.out | apply bA_q | apply pB_q | apply bD_q | refine bS_q ?_ GE321.out)) hb); clear BK321; clear HB; have HO328 := n0_; have BK321 := n1_; have HB := n2_; clear n0_ n1_ n2_; (try clear hb); (try clear hb2); (try clear hk); (try clear hi); (try clear ho0); have hcz17_0 : w16.cell? ⟨gb321, 0, none⟩ = some (.int .i64 a1_0) := (bC_q BK321.out 0).trans rfl; have hcz17_1 : w16.cell? ⟨gb321, 1, none⟩ = some (.slice A1_1 l1_1.length c1_1) := (bC_q BK321.out 1).trans rfl; have hfz17_0 := bF_q BK321.out 0; have hfz17_1 := bF_q BK321.out 1)))
         go_loopg [11] k1 (fun kq v11 w' => ∃ (x11_2 : Int), v11 = .int .i64 x11_2 ∧ Aside0 (spec_l32Room.l1 kq l0 l2 ji4 x8_1 t326 x11_2 a1_0 l1_1 = some r) ∧ Aside0 (kq ≤ k1) ∧ Aside0 (Kd.R kI_q 3 w' w.heap.size (fun _ => True) v327 t326) ∧ Aside0 (w'.heap[gb321]? = some (.cells #[.int .i64 a1_0, (.slice A1_1 l1_1.length c1_1)] 39 (0, 0))) ∧ Aside0 (Below w.heap.size w w'))
         case atStart => exact ⟨(0), (by first | rfl | (simp; done) | (simp [*]; done)), H', ⟨nR_q _⟩, ⟨by (with_reducible repeat (first | apply rA_q | apply rN_q | apply rD_q)); exact HO328.out⟩, ⟨by (with_reducible repeat (first | refine bN_q ?_ _ | refine bW_q ?_ | refine bL_q ?_ _)); exact BK321.out⟩, ⟨by repeat (with_reducible first | exact HB.out | apply bA_q | apply pB_q | apply bD_q | refine bS_q ?_ GE321.out)⟩⟩
         case round =>
          clear H'
          try clear c1
          try clear c2
          try clear p2
          try clear c3
          try clear p3
          try clear q3
          try clear hx3
          try clear c5
          try clear c5b0
          try clear c6
          try clear c6b0
          try clear p6
          try clear c8
          try clear c8b0
          try clear c9
          try clear c9b0
          try clear c10
          try clear c10b0
          try clear c11
          try clear c11b0
          try clear c13
          try clear c13b0
          try clear hcz15_0
          try clear hcz15_1
          try clear hcz17_0
          try clear hcz17_1
          try clear hfz15_0
          try clear hfz15_1
          try clear hfz17_0
          try clear hfz17_1
          try clear hx322_0
          try clear hx323_0
          try clear hx324_0
          try clear hx324_1
          try clear hx324_2
          try clear hx324_3
          try clear p2
          try clear p3
          try clear p322
          try clear p323
          try clear p324
          try clear p6
          try clear q3
          try clear q322
          try clear q323
          try clear q324
          obtain ⟨x11_2, rfl, HA, HK2, HO_10, BK321, HB⟩ := hrel
          cases gk with
          | zero => exact absurd HA.out (by simp [spec_l32Room.l1])
          | succ k2 =>
           have H := HA.out
           clear HA
           simp only [spec_l32Room.l1] at H
           by_cases c18 : x11_2 < (t326.length : Int)
           ·rw [if_pos c18] at H
            have c18b0 : decide (x11_2 < (t326.length : Int)) = true := dT_q c18
            clear c18
            by_cases c19 : 0 ≤ x11_2
            ·rw [if_pos c19] at H
             have c19b0 : decide (0 ≤ x11_2) = true := dT_q c19
             clear c19
             by_cases c20 : x11_2 < (l1_1.length : Int)
             ·rw [if_pos c20] at H
              have c20b0 : decide (x11_2 < (l1_1.length : Int)) = true := dT_q c20
              clear c20
              by_cases c21 : (rd t326 x11_2) > (rd l1_1 x11_2)
              ·rw [if_pos c21] at H
               have c21b0 : decide ((rd l1_1 x11_2) < (rd t326 x11_2)) = true := dT_q c21
               clear c21
               obtain rfl := oI_q H
               obtain ⟨Ao22, co22, eo22⟩ := rS_q HO_10.out
               subst eo22
               have p329 : 0 ≤ (x11_2 : Int) := oD_q (by assumption)
               have q329 : x11_2 < (t326.length : Int) := oD_q (by assumption)
               obtain ⟨ad329, e329, hx329_0⟩ := aI_q (rR_q HO_10.out).2.2 x11_2 p329 q329
               cases e329
               replace p329 := eq_true p329
               replace q329 := eq_true q329
               have hcz23_0 : wr.cell? ⟨gb321, 0, none⟩ = some (.int .i64 a1_0) := (bC_q BK321.out 0).trans rfl
               have hcz23_1 : wr.cell? ⟨gb321, 1, none⟩ = some (.slice A1_1 l1_1.length c1_1) := (bC_q BK321.out 1).trans rfl
               have hfz23_0 := bF_q BK321.out 0
               have hfz23_1 := bF_q BK321.out 1
               have p330 : 0 ≤ (x11_2 : Int) := oD_q (by assumption)
               have q330 : x11_2 < (l1_1.length : Int) := oD_q (by assumption)
               obtain ⟨ad330, e330, hx330_0⟩ := aI_q HR1_1.out x11_2 p330 q330
               cases e330
               replace hx330_0 := cel HB.out hx330_0
               replace p330 := eq_true p330
               replace q330 := eq_true q330
               go_wp2
               repeat (go_quiet (fail); try go_wp2)
               go_ret
               exact ⟨by first | rfl | (simp [eN_q, eS_q] <;> rfl) | (simp only [← hji4]; first | rfl | (simp [eN_q, eS_q] <;> rfl)) | (simp [*, eN_q, eS_q] <;> rfl), by repeat (with_reducible first | exact HB.out | apply bA_q | apply pB_q | apply bD_q | refine bS_q ?_ GE321.out)⟩
              rw [if_neg c21] at H
              have c21b0 : decide ((rd l1_1 x11_2) < (rd t326 x11_2)) = false := dF_q c21
              clear c21
              have H' := Ae_q H
              clear H
              obtain ⟨Ao24, co24, eo24⟩ := rS_q HO_10.out
              subst eo24
              have p329 : 0 ≤ (x11_2 : Int) := oD_q (by assumption)
              have q329 : x11_2 < (t326.length : Int) := oD_q (by assumption)
              obtain ⟨ad329, e329, hx329_0⟩ := aI_q (rR_q HO_10.out).2.2 x11_2 p329 q329
              cases e329
              replace p329 := eq_true p329
              replace q329 := eq_true q329
              have hcz25_0 : wr.cell? ⟨gb321, 0, none⟩ = some (.int .i64 a1_0) := (bC_q BK321.out 0).trans rfl
              have hcz25_1 : wr.cell? ⟨gb321, 1, none⟩ = some (.slice A1_1 l1_1.length c1_1) := (bC_q BK321.out 1).trans rfl
              have hfz25_0 := bF_q BK321.out 0
              have hfz25_1 := bF_q BK321.out 1
              have p330 : 0 ≤ (x11_2 : Int) := oD_q (by assumption)
              have q330 : x11_2 < (l1_1.length : Int) := oD_q (by assumption)
              obtain ⟨ad330, e330, hx330_0⟩ := aI_q HR1_1.out x11_2 p330 q330
              cases e330
              replace hx330_0 := cel HB.out hx330_0
              replace p330 := eq_true p330
              replace q330 := eq_true q330
              go_wp2
              repeat (go_quiet (fail); try go_wp2)
              go_roundg k2
              case measure => have := HK1.out; have := HK2.out; omega
              case rel => exact ⟨(wrap64 (x11_2 + 1)), (by first | rfl | (simp; done) | (simp [*]; done)), H', ⟨by have := HK1.out; have := HK2.out; omega⟩, ⟨by (with_reducible repeat (first | apply rA_q | apply rN_q | apply rD_q)); exact HO_10.out⟩, ⟨by (with_reducible repeat (first | refine bN_q ?_ _ | refine bW_q ?_ | refine bL_q ?_ _)); exact BK321.out⟩, ⟨by repeat (with_reducible first | exact HB.out | apply bA_q | apply pB_q | apply bD_q | refine bS_q ?_ GE321.out)⟩⟩
             rw [if_neg c20] at H
             exact absurd H (by simp)
            rw [if_neg c19] at H
            exact absurd H (by simp)
           rw [if_neg c18] at H
           have c18b0 : decide (x11_2 < (t326.length : Int)) = false := dF_q c18
           clear c18
           have H' := Ae_q H
           clear H
           obtain ⟨Ao26, co26, eo26⟩ := rS_q HO_10.out
           subst eo26
           go_wp2
           repeat (go_quiet (fail); try go_wp2)
           go_roundg k2
           case measure => have := HK1.out; have := HK2.out; omega
           case rel => exact ⟨(wrap64 (x8_1 + 1)), (by first | rfl | (simp; done) | (simp [*]; done)), H', ⟨by have := HK1.out; have := HK2.out; omega⟩, ⟨by (with_reducible repeat (first | refine bN_q ?_ _ | refine bW_q ?_ | refine bL_q ?_ _)); exact BK321.out⟩, ⟨by repeat (with_reducible first | exact HB.out | apply bA_q | apply pB_q | apply bD_q | refine bS_q ?_ GE321.out)⟩⟩
        rw [if_neg c11] at H
        have c11b0 : decide (x8_1 < (wrap64 ((rd l2 ji4) + ((rd_T59 l0 ji4).f0)))) = false := dF_q c11
        clear c11
        obtain rfl := oI_q H
        have p323 : 0 ≤ (ji4 : Int) := oD_q (by assumption)
        have q323 : ji4 < (l2.length : Int) := oD_q (by assumption)
        obtain ⟨ad323, e323, hx323_0⟩ := aI_q HR2.out ji4 p323 q323
        obtain rfl : ad322 = ad323 := (by injection e323)
        replace hx323_0 := cel HB.out hx323_0
        replace p323 := eq_true p323
        replace q323 := eq_true q323
        have p324 : 0 ≤ (ji4 : Int) := oD_q (by assumption)
        have q324 : ji4 < (l0.length : Int) := oD_q (by assumption)
        obtain ⟨ad324, A324_3, c324_3, e324, hx324_0, hx324_1, hx324_2, hx324_3, hl324_3, hi324_3⟩ := at_T59 HR0.out ji4 p324 q324
        cases e324
        replace hx324_0 := cel HB.out hx324_0
        replace hx324_1 := cel HB.out hx324_1
        replace hx324_2 := cel HB.out hx324_2
        replace hx324_3 := cel HB.out hx324_3
        have HR324_3 := Ae_q hi324_3
        have HC324_3 := Ae_q hl324_3
        clear hi324_3 hl324_3
        replace p324 := eq_true p324
        replace q324 := eq_true q324
        go_wp2
        repeat (go_quiet (fail); try go_wp2)
        go_ret
        exact ⟨by first | rfl | (simp [eN_q, eS_q] <;> rfl) | (simp only [← hji4]; first | rfl | (simp [eN_q, eS_q] <;> rfl)) | (simp [*, eN_q, eS_q] <;> rfl), by repeat (with_reducible first | exact HB.out | apply bA_q | apply pB_q | apply bD_q | refine bS_q ?_ GE321.out)⟩
       rw [if_neg c10] at H
       exact absurd H (by simp)
      rw [if_neg c9] at H
      exact absurd H (by simp)
     rw [if_neg c8] at H
     exact absurd H (by simp)
  rw [if_neg c6] at H
  exact absurd H (by simp)
 rw [if_neg c5] at H
 exact absurd H (by simp)

def spec_KitchenValid.l0 : Nat → Int → Int → List Int → Option (Bool)
 | 0, _, _, _ => none
 | k + 1, x3, x332000, x332001 => if x3 < (x332001.length : Int) then (if 0 ≤ x3 then ((spec_l6In.f (rd x332001 x3) 0 3).bind fun t333 => (if t333 = true then (spec_KitchenValid.l0 k (wrap64 (x3 + 1)) x332000 x332001) else (some false))) else (none)) else ((spec_l6In.f x332000 0 9).bind fun t334 => (if t334 = true then (some ((x332001.length : Int) == 4)) else (some false)))
def spec_KitchenValid.f (k : Nat) (a0_0 : Int) (l0_1 : List Int) : Option (Bool) := spec_KitchenValid.l0 k 0 a0_0 l0_1
theorem spec_KitchenValid.mono_l : ∀ k, (∀ y0 y1 y2, LeO (spec_KitchenValid.l0 k y0 y1 y2) (spec_KitchenValid.l0 (k + 1) y0 y1 y2))
 | 0 => fun _ _ _ r h => by simp [spec_KitchenValid.l0] at h
 | k + 1 => by
  have ih0 := spec_KitchenValid.mono_l k
  intro y0 y1 y2
  unfold spec_KitchenValid.l0
  repeat' first
  | (with_reducible exact ih0 _ _ _)
  | (with_reducible exact lR_q _)
  | (with_reducible exact lO_q _)
  | (with_reducible refine lI_q ?_ ?_)
  | (with_reducible refine lB_q ?_ (fun _ => ?_))
  | exact ih0 _ _ _
  | exact lO_q _
  | refine lI_q ?_ ?_
  | refine lB_q ?_ (fun _ => ?_)
theorem spec_KitchenValid.mono : ∀ a0 a1 k, LeO (spec_KitchenValid.f k a0 a1) (spec_KitchenValid.f (k + 1) a0 a1) := by
 intro a0 a1 k
 have ih0 := spec_KitchenValid.mono_l k
 unfold spec_KitchenValid.f
 repeat' first
  | (with_reducible exact ih0 _ _ _)
  | (with_reducible exact lR_q _)
  | (with_reducible exact lO_q _)
  | (with_reducible refine lI_q ?_ ?_)
  | (with_reducible refine lB_q ?_ (fun _ => ?_))
  | exact ih0 _ _ _
  | exact lO_q _
  | refine lI_q ?_ ?_
  | refine lB_q ?_ (fun _ => ?_)
set_option maxHeartbeats 8000000 in
set_option maxRecDepth 100000 in
theorem spec_KitchenValid.calls (k : Nat) (a0_0 : Int) (A0_1 : Option Addr) (c0_1 : Nat) (l0_1 : List Int) (r : Bool) (w : World) (hr0_1 : Kd.C kI_q w A0_1 l0_1.length l0_1) (hc0_1 : l0_1.length ≤ c0_1) (h : spec_KitchenValid.f k a0_0 l0_1 = some r) :
    Calls Try.prog 36 #[.agg #[.int .i64 a0_0, .slice A0_1 l0_1.length c0_1]] w fun e w' => e = .returned (.bool r) ∧ Below w.heap.size w w' := by
 have hu39 := Try.underlying39
 have HR0_1 := Ae_q hr0_1
 have HC0_1 := Ae_q hc0_1
 clear hr0_1 hc0_1
 have HB := Ae_q (bR_q w.heap.size w)
 have H : (spec_KitchenValid.l0 k 0 a0_0 l0_1) = some r := h
 clear h
 have H' := Ae_q H
 clear H
 go_enter Try.func36, Try.ntmps36
 go_wp2_with (first | ((with_reducible refine gD_q (N := 1) rfl ?_); (try (refine gate_guard (by rfl) ?_; dsimp only)); refine bE_q ?hg (N := 1) ?hd (cs := #[.int .i64 a0_0, .slice A0_1 l0_1.length c0_1]) (t := 39) ?hr ?_; (case hd => rfl); (case hg => rfl); (case hr => first | (go_simp; done) | (go_simp; rfl)); intro gb331 hg w2 hbox hb; have n0_ := Ae_q (bT_q (bel HB.out) hb); have n1_ := Ae_q (hbox); have n2_ := Ae_q ((by rw [hg]; exact (bZ_q (bel HB.out)) : w.heap.size ≤ gb331)); have n3_ := Ae_q ((by rw [hg]; exact (bZ_q (bel HB.out)) : w.heap.size ≤ gb331)); clear HB; have HB := n0_; have BK331 := n1_; have GW331 := n2_; have GE331 := n3_; clear n0_ n1_ n2_ n3_; clear hb hbox hg))
 go_loopg [3] k (fun kq v3 w' => ∃ (x3_1 : Int), v3 = .int .i64 x3_1 ∧ Aside0 (spec_KitchenValid.l0 kq x3_1 a0_0 l0_1 = some r) ∧ Aside0 (kq ≤ k) ∧ Aside0 (w'.heap[gb331]? = some (.cells #[.int .i64 a0_0, (.slice A0_1 l0_1.length c0_1)] 39 (0, 0))) ∧ Aside0 (Below w.heap.size w w'))
 case atStart => exact ⟨(0), (by first | rfl | (simp; done) | (simp [*]; done)), H', ⟨nR_q _⟩, ⟨by (with_reducible repeat (first | refine bN_q ?_ _ | refine bW_q ?_ | refine bL_q ?_ _)); exact BK331.out⟩, ⟨by repeat (with_reducible first | exact HB.out | apply bA_q | apply pB_q | apply bD_q | refine bS_q ?_ GE331.out)⟩⟩
 case round =>
  clear H'
  try clear p2
  obtain ⟨x3_1, rfl, HA, HK1, BK331, HB⟩ := hrel
  cases gk with
  | zero => exact absurd HA.out (by simp [spec_KitchenValid.l0])
  | succ k1 =>
   have H := HA.out
   clear HA
   simp only [spec_KitchenValid.l0] at H
   by_cases c3 : x3_1 < (l0_1.length : Int)
   ·rw [if_pos c3] at H
    have c3b0 : decide (x3_1 < (l0_1.length : Int)) = true := dT_q c3
    clear c3
    by_cases c4 : 0 ≤ x3_1
    ·rw [if_pos c4] at H
     have c4b0 : decide (0 ≤ x3_1) = true := dT_q c4
     clear c4
     replace H := oB_q.mp H
     obtain ⟨t333, A50, H⟩ := H
     replace H : (if t333 = true then (spec_KitchenValid.l0 k1 (wrap64 (x3_1 + 1)) a0_0 l0_1) else (some false)) = some r := H
     have A5 := Ae_q A50
     clear A50
     by_cases c6 : t333 = true
     ·subst c6
      have H1 : (spec_KitchenValid.l0 k1 (wrap64 (x3_1 + 1)) a0_0 l0_1) = some r := by rw [if_pos rfl] at H; exact H
      clear H
      have H := H1
      clear H1
      have H' := Ae_q H
      clear H
      have hcz7_0 : wr.cell? ⟨gb331, 0, none⟩ = some (.int .i64 a0_0) := (bC_q BK331.out 0).trans rfl
      have hcz7_1 : wr.cell? ⟨gb331, 1, none⟩ = some (.slice A0_1 l0_1.length c0_1) := (bC_q BK331.out 1).trans rfl
      have hfz7_0 := bF_q BK331.out 0
      have hfz7_1 := bF_q BK331.out 1
      have p332 : 0 ≤ (x3_1 : Int) := oD_q (by assumption)
      have q332 : x3_1 < (l0_1.length : Int) := oD_q (by assumption)
      obtain ⟨ad332, e332, hx332_0⟩ := aI_q HR0_1.out x3_1 p332 q332
      cases e332
      replace hx332_0 := cel HB.out hx332_0
      replace p332 := eq_true p332
      replace q332 := eq_true q332
      go_wp2_with (first | ((with_reducible refine gC_q (f := 19) rfl ?_); refine gL_q (some 16) rfl rfl Try.func19 (by kernel_rfl) rfl #[.int .i64 (rd l0_1 x3_1), .int .i64 0, .int .i64 3] rfl (by (try simp only [lM_q, lC_q, lN_q]); first | done | rfl | (simp only [lD_q, lT_q]; rfl)) ?_; (with_reducible refine (spec_l6In.calls (rd l0_1 x3_1) 0 3 true _ A5.out).mono ?_); rintro e w' ⟨rfl, ⟨nd, rfl⟩⟩; refine ⟨_, rfl, ?_⟩))
      go_roundg k1
      case measure => have := HK1.out; omega
      case rel => exact ⟨(wrap64 (x3_1 + 1)), (by first | rfl | (simp; done) | (simp [*]; done)), H', ⟨by have := HK1.out; omega⟩, ⟨by (with_reducible repeat (first | refine bN_q ?_ _ | refine bW_q ?_ | refine bL_q ?_ _)); exact BK331.out⟩, ⟨by repeat (with_reducible first | exact HB.out | apply bA_q | apply pB_q | apply bD_q | refine bS_q ?_ GE331.out)⟩⟩
     replace c6 := fM_q.mpr c6
     subst c6
     have H1 : (some false) = some r := by rw [if_neg (show ¬ (false = true) by decide)] at H; exact H
     clear H
     have H := H1
     clear H1
     obtain rfl := oI_q H
     have hcz8_0 : wr.cell? ⟨gb331, 0, none⟩ = some (.int .i64 a0_0) := (bC_q BK331.out 0).trans rfl
     have hcz8_1 : wr.cell? ⟨gb331, 1, none⟩ = some (.slice A0_1 l0_1.length c0_1) := (bC_q BK331.out 1).trans rfl
     have hfz8_0 := bF_q BK331.out 0
     have hfz8_1 := bF_q BK331.out 1
     have p332 : 0 ≤ (x3_1 : Int) := oD_q (by assumption)
     have q332 : x3_1 < (l0_1.length : Int) := oD_q (by assumption)
     obtain ⟨ad332, e332, hx332_0⟩ := aI_q HR0_1.out x3_1 p332 q332
     cases e332
     replace hx332_0 := cel HB.out hx332_0
     replace p332 := eq_true p332
     replace q332 := eq_true q332
     go_wp2_with (first | ((with_reducible refine gC_q (f := 19) rfl ?_); refine gL_q (some 16) rfl rfl Try.func19 (by kernel_rfl) rfl #[.int .i64 (rd l0_1 x3_1), .int .i64 0, .int .i64 3] rfl (by (try simp only [lM_q, lC_q, lN_q]); first | done | rfl | (simp only [lD_q, lT_q]; rfl)) ?_; (with_reducible refine (spec_l6In.calls (rd l0_1 x3_1) 0 3 false _ A5.out).mono ?_); rintro e w' ⟨rfl, ⟨nd, rfl⟩⟩; refine ⟨_, rfl, ?_⟩))
     go_ret
     exact ⟨by first | rfl | (simp [eN_q, eS_q] <;> rfl) | (simp [*, eN_q, eS_q] <;> rfl), by repeat (with_reducible first | exact HB.out | apply bA_q | apply pB_q | apply bD_q | refine bS_q ?_ GE331.out)⟩
    rw [if_neg c4] at H
    exact absurd H (by simp)
   rw [if_neg c3] at H
   have c3b0 : decide (x3_1 < (l0_1.length : Int)) = false := dF_q c3
   clear c3
   replace H := oB_q.mp H
   obtain ⟨t334, A90, H⟩ := H
   replace H : (if t334 = true then (some ((l0_1.length : Int) == 4)) else (some false)) = some r := H
   have A9 := Ae_q A90
   clear A90
   by_cases c10 : t334 = true
   ·subst c10
    have H1 : (some ((l0_1.length : Int) == 4)) = some r := by rw [if_pos rfl] at H; exact H
    clear H
    have H := H1
    clear H1
    obtain rfl := oI_q H
    have hcz11_0 : wr.cell? ⟨gb331, 0, none⟩ = some (.int .i64 a0_0) := (bC_q BK331.out 0).trans rfl
    have hcz11_1 : wr.cell? ⟨gb331, 1, none⟩ = some (.slice A0_1 l0_1.length c0_1) := (bC_q BK331.out 1).trans rfl
    have hfz11_0 := bF_q BK331.out 0
    have hfz11_1 := bF_q BK331.out 1
    go_wp2_with (first | ((with_reducible refine gC_q (f := 19) rfl ?_); refine gL_q (some 20) rfl rfl Try.func19 (by kernel_rfl) rfl #[.int .i64 a0_0, .int .i64 0, .int .i64 9] rfl (by (try simp only [lM_q, lC_q, lN_q]); first | done | rfl | (simp only [lD_q, lT_q]; rfl)) ?_; (with_reducible refine (spec_l6In.calls a0_0 0 9 true _ A9.out).mono ?_); rintro e w' ⟨rfl, ⟨nd, rfl⟩⟩; refine ⟨_, rfl, ?_⟩))
    go_ret
    exact ⟨by first | rfl | (simp [eN_q, eS_q] <;> rfl) | (simp [*, eN_q, eS_q] <;> rfl), by repeat (with_reducible first | exact HB.out | apply bA_q | apply pB_q | apply bD_q | refine bS_q ?_ GE331.out)⟩
   replace c10 := fM_q.mpr c10
   subst c10
   have H1 : (some false) = some r := by rw [if_neg (show ¬ (false = true) by decide)] at H; exact H
   clear H
   have H := H1
   clear H1
   obtain rfl := oI_q H
   have hcz12_0 : wr.cell? ⟨gb331, 0, none⟩ = some (.int .i64 a0_0) := (bC_q BK331.out 0).trans rfl
   have hcz12_1 : wr.cell? ⟨gb331, 1, none⟩ = some (.slice A0_1 l0_1.length c0_1) := (bC_q BK331.out 1).trans rfl
   have hfz12_0 := bF_q BK331.out 0
   have hfz12_1 := bF_q BK331.out 1
   go_wp2_with (first | ((with_reducible refine gC_q (f := 19) rfl ?_); refine gL_q (some 20) rfl rfl Try.func19 (by kernel_rfl) rfl #[.int .i64 a0_0, .int .i64 0, .int .i64 9] rfl (by (try simp only [lM_q, lC_q, lN_q]); first | done | rfl | (simp only [lD_q, lT_q]; rfl)) ?_; (with_reducible refine (spec_l6In.calls a0_0 0 9 false _ A9.out).mono ?_); rintro e w' ⟨rfl, ⟨nd, rfl⟩⟩; refine ⟨_, rfl, ?_⟩))
   go_ret
   exact ⟨by first | rfl | (simp [eN_q, eS_q] <;> rfl) | (simp [*, eN_q, eS_q] <;> rfl), by repeat (with_reducible first | exact HB.out | apply bA_q | apply pB_q | apply bD_q | refine bS_q ?_ GE331.out)⟩

end Go.Proofs.Ytjnagefogjkbbaa.PPl
