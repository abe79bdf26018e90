import Derived.Test.YtoaigcdoblnmhaaVePPnx0
import Derived.Test.YtoaigcdoblnmhaaVePPnx1
import Derived.Test.YtoaigcdoblnmhaaVePPnx2
import Derived.Test.YtoaigcdoblnmhaaVePPnx6
import Derived.Test.YtoaigcdoblnmhaaVePPnx7
namespace Go.Proofs.Ytoaigcdoblnmhaa.PPn
open Go.RowKit Go.Proofs.YtoaigcdoblnmhaaW.PrintWords Go.Proofs.YtoaigcdoblnmhaaW.PrintLast Go.Proofs.YtoaigcdoblnmhaaW.PrintMore
attribute [local go_sem] max2_int min2_int max_two min_two max_three min_three max_four min_four
set_option linter.unusedVariables false
set_option linter.unusedSimpArgs false

mutual
def spec_StepsEarly.l0 : Nat → List (S31) → List Int → Int → Option (List Int)
 | 0, _, _, _ => none
 | k + 1, x0, x3, x4 => if x4 < (x0.length : Int) then ((spec_StepsValid.f k x0).bind fun t274 => (spec_StepsEarly.j1 k x0 x3 x4 t274)) else (spec_StepsEarly.j1 k x0 x3 x4 false)
def spec_StepsEarly.j1 : Nat → List (S31) → List Int → Int → Bool → Option (List Int)
 | 0, _, _, _, _ => none
 | k + 1, x0, x3, x4, x16 => if x16 = true then (spec_StepsEarly.l1 k x0 x3 x4 0 0) else (some x3)
def spec_StepsEarly.l1 : Nat → List (S31) → List Int → Int → Int → Int → Option (List Int)
 | 0, _, _, _, _, _ => none
 | k + 1, x0, x3, x4, x5, x6 => if 0 ≤ x4 then (if x4 < (x0.length : Int) then (if x6 < (((rd_T31 x0 x4).f3).length : Int) then (if 0 ≤ x6 then (if 0 ≤ (rd ((rd_T31 x0 x4).f3) x6) then (if (rd ((rd_T31 x0 x4).f3) x6) < (x3.length : Int) then (if (rd ((rd_T31 x0 x4).f3) x6) < (x0.length : Int) then (spec_StepsEarly.l1 k x0 x3 x4 (mx x5 (wrap64 ((rd x3 (rd ((rd_T31 x0 x4).f3) x6)) + ((rd_T31 x0 (rd ((rd_T31 x0 x4).f3) x6)).f0)))) (wrap64 (x6 + 1))) else (none)) else (none)) else (none)) else (none)) else (if x3.length < 17592186044416 then (spec_StepsEarly.l0 k x0 (x3 ++ [x5]) (wrap64 (x4 + 1))) else (none))) else (none)) else (none)
end
def spec_StepsEarly.f (k : Nat) (l0 : List (S31)) : Option (List Int) := spec_StepsEarly.l0 k l0 (([] : List Int)) 0
theorem spec_StepsEarly.mono_l : ∀ k, (∀ y0 y1 y2, LeO (spec_StepsEarly.l0 k y0 y1 y2) (spec_StepsEarly.l0 (k + 1) y0 y1 y2)) ∧ (∀ y0 y1 y2 y3, LeO (spec_StepsEarly.j1 k y0 y1 y2 y3) (spec_StepsEarly.j1 (k + 1) y0 y1 y2 y3)) ∧ (∀ y0 y1 y2 y3 y4, LeO (spec_StepsEarly.l1 k y0 y1 y2 y3 y4) (spec_StepsEarly.l1 (k + 1) y0 y1 y2 y3 y4))
 | 0 => ⟨fun _ _ _ r h => by simp [spec_StepsEarly.l0] at h, fun _ _ _ _ r h => by simp [spec_StepsEarly.j1] at h, fun _ _ _ _ _ r h => by simp [spec_StepsEarly.l1] at h⟩
 | k + 1 => by
  obtain ⟨ih0, ih1, ih2⟩ := spec_StepsEarly.mono_l k
  refine ⟨?_, ?_, ?_⟩
  ·intro y0 y1 y2
   unfold spec_StepsEarly.l0
   repeat' first
   | (with_reducible exact ih0 _ _ _)
   | (with_reducible exact ih1 _ _ _ _)
   | (with_reducible exact ih2 _ _ _ _ _)
   | (with_reducible exact spec_StepsValid.mono _ _)
   | (with_reducible exact lR_q _)
   | (with_reducible exact lO_q _)
   | (with_reducible refine lI_q ?_ ?_)
   | (with_reducible refine lB_q ?_ (fun _ => ?_))
   | exact ih0 _ _ _
   | exact ih1 _ _ _ _
   | exact ih2 _ _ _ _ _
   | exact spec_StepsValid.mono _ _
   | exact lO_q _
   | refine lI_q ?_ ?_
   | refine lB_q ?_ (fun _ => ?_)
  ·intro y0 y1 y2 y3
   unfold spec_StepsEarly.j1
   repeat' first
   | (with_reducible exact ih0 _ _ _)
   | (with_reducible exact ih1 _ _ _ _)
   | (with_reducible exact ih2 _ _ _ _ _)
   | (with_reducible exact spec_StepsValid.mono _ _)
   | (with_reducible exact lR_q _)
   | (with_reducible exact lO_q _)
   | (with_reducible refine lI_q ?_ ?_)
   | (with_reducible refine lB_q ?_ (fun _ => ?_))
   | exact ih0 _ _ _
   | exact ih1 _ _ _ _
   | exact ih2 _ _ _ _ _
   | exact spec_StepsValid.mono _ _
   | exact lO_q _
   | refine lI_q ?_ ?_
   | refine lB_q ?_ (fun _ => ?_)
  intro y0 y1 y2 y3 y4
  unfold spec_StepsEarly.l1
  repeat' first
  | (with_reducible exact ih0 _ _ _)
  | (with_reducible exact ih1 _ _ _ _)
  | (with_reducible exact ih2 _ _ _ _ _)
  | (with_reducible exact spec_StepsValid.mono _ _)
  | (with_reducible exact lR_q _)
  | (with_reducible exact lO_q _)
  | (with_reducible refine lI_q ?_ ?_)
  | (with_reducible refine lB_q ?_ (fun _ => ?_))
  | exact ih0 _ _ _
  | exact ih1 _ _ _ _
  | exact ih2 _ _ _ _ _
  | exact spec_StepsValid.mono _ _
  | exact lO_q _
  | refine lI_q ?_ ?_
  | refine lB_q ?_ (fun _ => ?_)
theorem spec_StepsEarly.mono : ∀ a0 k, LeO (spec_StepsEarly.f k a0) (spec_StepsEarly.f (k + 1) a0) := by
 intro a0 k
 obtain ⟨ih0, ih1, ih2⟩ := spec_StepsEarly.mono_l k
 unfold spec_StepsEarly.f
 repeat' first
  | (with_reducible exact ih0 _ _ _)
  | (with_reducible exact ih1 _ _ _ _)
  | (with_reducible exact ih2 _ _ _ _ _)
  | (with_reducible exact spec_StepsValid.mono _ _)
  | (with_reducible exact lR_q _)
  | (with_reducible exact lO_q _)
  | (with_reducible refine lI_q ?_ ?_)
  | (with_reducible refine lB_q ?_ (fun _ => ?_))
  | exact ih0 _ _ _
  | exact ih1 _ _ _ _
  | exact ih2 _ _ _ _ _
  | exact spec_StepsValid.mono _ _
  | exact lO_q _
  | refine lI_q ?_ ?_
  | refine lB_q ?_ (fun _ => ?_)
set_option maxHeartbeats 8000000 in
set_option maxRecDepth 100000 in
theorem spec_StepsEarly.calls (k : Nat) (A0 : Option Addr) (c0 : Nat) (l0 : List (S31)) (r : List Int) (w : World) (hr0 : Kd.C k31 w A0 l0.length l0) (hc0 : l0.length ≤ c0) (h : spec_StepsEarly.f k l0 = some r) :
    Calls Try.prog 57 #[.slice A0 l0.length c0] w fun e w' => ∃ v0_ : Value, e = .returned (v0_) ∧ Kd.R kI_q 3 w' w.heap.size (fun _ => True) v0_ r ∧ Below w.heap.size w w' := by
 have HR0 := Ae_q hr0
 have HC0 := Ae_q hc0
 clear hr0 hc0
 have HB := Ae_q (bR_q w.heap.size w)
 have H : (spec_StepsEarly.l0 k l0 (([] : List Int)) 0) = some r := h
 clear h
 obtain ⟨y271, hy271⟩ : ∃ y_ : List Int, y_ = (([] : List Int)) := ⟨_, rfl⟩
 replace H : (spec_StepsEarly.l0 k l0 y271 0) = some r := by first | (rw [hy271]; with_reducible exact H) | (have H2_ := (oS_q _ _).symm.trans H; rw [hy271]; with_reducible exact H2_) | (have H2_ := (oS_q _ _).symm.trans H; with_reducible exact H2_) | with_reducible exact H | (rw [hy271]; exact H) | exact H
 have Ny271 := Ae_q hy271
 clear hy271
 have H' := Ae_q H
 clear H
 go_enter Try.func57, Try.ntmps57
 go_wp2_with (first | ((with_reducible refine gD_q (N := 8) rfl ?_); refine Kd.R_lit kI_q _ 3 ?hg (N := 8) ?hd (xs := ([] : List Int)) (inner := []) (ok := fun _ => True) (okp := fun _ => True) ?hr ?hp (fun _ hk => hk) trivial (bR_q _ _) (nR_q _) (by simp) ?_; (case hd => rfl); (case hg => rfl); (case hr => first | (go_simp; done) | (go_simp; rfl)); (case hp => exact (Reps.none _ _)); intro v272 w2 ho3 hb hg_ hnew_; clear hg_ hnew_; (first | rw [← Ny271.out] at ho3 | (simp only [Int.reduceToNat] at ho3; rw [← Ny271.out] at ho3)); have n0_ := Ae_q (rL_q ho3 (bZ_q (bel HB.out))); have n1_ := Ae_q (bT_q (bel HB.out) hb); clear HB; have HO273 := n0_; have HB := n1_; clear n0_ n1_; clear hb ho3))
 repeat (go_quiet (first | ((with_reducible refine gD_q (N := 8) rfl ?_); refine Kd.R_lit kI_q _ 3 ?hg (N := 8) ?hd (xs := ([] : List Int)) (inner := []) (ok := fun _ => True) (okp := fun _ => True) ?hr ?hp (fun _ hk => hk) trivial (bR_q _ _) (nR_q _) (by simp) ?_; (case hd => rfl); (case hg => rfl); (case hr => first | (go_simp; done) | (go_simp; rfl)); (case hp => exact (Reps.none _ _)); intro v272 w2 ho3 hb hg_ hnew_; clear hg_ hnew_; (first | rw [← Ny271.out] at ho3 | (simp only [Int.reduceToNat] at ho3; rw [← Ny271.out] at ho3)); have n0_ := Ae_q (rL_q ho3 (bZ_q (bel HB.out))); have n1_ := Ae_q (bT_q (bel HB.out) hb); clear HB; have HO273 := n0_; have HB := n1_; clear n0_ n1_; clear hb ho3)); try go_wp2_with (first | ((with_reducible refine gD_q (N := 8) rfl ?_); refine Kd.R_lit kI_q _ 3 ?hg (N := 8) ?hd (xs := ([] : List Int)) (inner := []) (ok := fun _ => True) (okp := fun _ => True) ?hr ?hp (fun _ hk => hk) trivial (bR_q _ _) (nR_q _) (by simp) ?_; (case hd => rfl); (case hg => rfl); (case hr => first | (go_simp; done) | (go_simp; rfl)); (case hp => exact (Reps.none _ _)); intro v272 w2 ho3 hb hg_ hnew_; clear hg_ hnew_; (first | rw [← Ny271.out] at ho3 | (simp only [Int.reduceToNat] at ho3; rw [← Ny271.out] at ho3)); have n0_ := Ae_q (rL_q ho3 (bZ_q (bel HB.out))); have n1_ := Ae_q (bT_q (bel HB.out) hb); clear HB; have HO273 := n0_; have HB := n1_; clear n0_ n1_; clear hb ho3)))
 go_loopg [3, 4] k (fun kq v3 v4 w' => ∃ (x3_1 : List Int) (x4_1 : Int), v4 = .int .i64 x4_1 ∧ Aside0 (spec_StepsEarly.l0 kq l0 x3_1 x4_1 = some r) ∧ Aside0 (kq ≤ k) ∧ Aside0 (Kd.R kI_q 3 w' w.heap.size (fun _ => True) v3 x3_1) ∧ Aside0 (Below w.heap.size w w'))
 case atStart => exact ⟨(y271), (0), (by first | rfl | (simp; done) | (simp [*]; done)), H', ⟨nR_q _⟩, ⟨by (with_reducible repeat (first | apply rA_q | apply rN_q | apply rD_q)); exact HO273.out⟩, ⟨bel HB.out⟩⟩
 case round =>
  clear H'
  try clear p2
  obtain ⟨x3_1, x4_1, rfl, HA, HK1, HO_3, HB⟩ := hrel
  cases gk with
  | zero => exact absurd HA.out (by simp [spec_StepsEarly.l0])
  | succ k1 =>
   have H := HA.out
   clear HA
   simp only [spec_StepsEarly.l0] at H
   have HC4 := Ae_q H
   clear H
   go_upto_region 3 with (fail)
   repeat (go_quiet (fail); go_upto_region 3 with (fail))
   go_cut [16] (fun v16 wc => ∃ (kq : Nat) (x16_3 : Bool), v16 = .bool x16_3 ∧ Aside0 (spec_StepsEarly.j1 kq l0 x3_1 x4_1 x16_3 = some r) ∧ Aside0 (kq ≤ k1) ∧ Aside0 (Kd.R kI_q 3 wc w.heap.size (fun _ => True) u3 x3_1) ∧ Aside0 (Below w.heap.size w wc))
   case first =>
    have H := HC4.out
    clear HC4
    by_cases c5 : x4_1 < (l0.length : Int)
    ·rw [if_pos c5] at H
     have c5b0 : decide (x4_1 < (l0.length : Int)) = true := dT_q c5
     clear c5
     (first | rw [c5b0] | (simp only [i64_w, i32_w]; rw [c5b0]) | skip)
     replace H := oB_q.mp H
     obtain ⟨t274, A60, H⟩ := H
     replace H : (spec_StepsEarly.j1 k1 l0 x3_1 x4_1 t274) = some r := H
     have A6 := Ae_q A60
     clear A60
     have H' := Ae_q H
     clear H
     go_wp2_with (first | (go_at_call 62; (with_reducible refine (spec_StepsValid.calls k1 _ _ l0 t274 _ ?side1 ?side2 A6.out).mono ?_); (case side1 => repeat (first | exact (cB_q HR0.out HB.out) | (with_reducible refine cA_q ?_ _) | (with_reducible refine cN_q ?_ _) | (with_reducible refine cD_q ?_))); (case side2 => exact HC0.out); rintro e w7 ⟨rfl, hb⟩; have n0_ := Ae_q (rO_q (rup HO_3.out) hb); have n1_ := Ae_q (bT_q (bel HB.out) hb); clear HO_3; clear HB; have HO_3 := n0_; have HB := n1_; clear n0_ n1_; (try clear hb); (try clear hb2); (try clear hk); (try clear hi)))
     repeat (go_quiet (first | (go_at_call 62; (with_reducible refine (spec_StepsValid.calls k1 _ _ l0 t274 _ ?side1 ?side2 A6.out).mono ?_); (case side1 => repeat (first | exact (cB_q HR0.out HB.out) | (with_reducible refine cA_q ?_ _) | (with_reducible refine cN_q ?_ _) | (with_reducible refine cD_q ?_))); (case side2 => exact HC0.out); rintro e w7 ⟨rfl, hb⟩; have n0_ := Ae_q (rO_q (rup HO_3.out) hb); have n1_ := Ae_q (bT_q (bel HB.out) hb); clear HO_3; clear HB; have HO_3 := n0_; have HB := n1_; clear n0_ n1_; (try clear hb); (try clear hb2); (try clear hk); (try clear hi))); try go_wp2_with (first | (go_at_call 62; (with_reducible refine (spec_StepsValid.calls k1 _ _ l0 t274 _ ?side1 ?side2 A6.out).mono ?_); (case side1 => repeat (first | exact (cB_q HR0.out HB.out) | (with_reducible refine cA_q ?_ _) | (with_reducible refine cN_q ?_ _) | (with_reducible refine cD_q ?_))); (case side2 => exact HC0.out); rintro e w7 ⟨rfl, hb⟩; have n0_ := Ae_q (rO_q (rup HO_3.out) hb); have n1_ := Ae_q (bT_q (bel HB.out) hb); clear HO_3; clear HB; have HO_3 := n0_; have HB := n1_; clear n0_ n1_; (try clear hb); (try clear hb2); (try clear hk); (try clear hi))))
     go_meet
     case rel => exact ⟨_, (t274), (by first | rfl | (simp; done) | (simp [*]; done)), H', ⟨by have := HK1.out; first | omega | exact nR_q _⟩, ⟨by (with_reducible repeat (first | apply rA_q | apply rN_q | apply rD_q)); exact HO_3.out⟩, ⟨bel HB.out⟩⟩
    rw [if_neg c5] at H
    have c5b0 : decide (x4_1 < (l0.length : Int)) = false := dF_q c5
    clear c5
    (first | rw [c5b0] | (simp only [i64_w, i32_w]; rw [c5b0]) | skip)
    have H' := Ae_q H
    clear H
    go_wp2
    repeat (go_quiet (fail); try go_wp2)
    go_meet
    case rel => exact ⟨_, (false), (by first | rfl | (simp; done) | (simp [*]; done)), H', ⟨by have := HK1.out; first | omega | exact nR_q _⟩, ⟨by (with_reducible repeat (first | apply rA_q | apply rN_q | apply rD_q)); exact HO_3.out⟩, ⟨bel HB.out⟩⟩
   case rest =>
    clear HC4
    try clear p2
    try clear c5
    try clear c5b0
    try clear p2
    obtain ⟨kq, x16_3, rfl, HA, HJ3, HO_3, HB⟩ := hcut
    cases kq with
    | zero => exact absurd HA.out (by simp [spec_StepsEarly.j1])
    | succ kj3 =>
     have H := HA.out
     clear HA
     simp only [spec_StepsEarly.j1] at H
     by_cases c8 : x16_3 = true
     ·subst c8
      have H1 : (spec_StepsEarly.l1 kj3 l0 x3_1 x4_1 0 0) = some r := by rw [if_pos rfl] at H; exact H
      clear H
      have H := H1
      clear H1
      have H' := Ae_q H
      clear H
      go_wp2
      repeat (go_quiet (fail); try go_wp2)
      go_loopg [5, 6] kj3 (fun kq v5 v6 w' => ∃ (x5_3 : Int) (x6_3 : Int), v5 = .int .i64 x5_3 ∧ v6 = .int .i64 x6_3 ∧ Aside0 (spec_StepsEarly.l1 kq l0 x3_1 x4_1 x5_3 x6_3 = some r) ∧ Aside0 (kq ≤ kj3) ∧ Aside0 (Kd.R kI_q 3 w' w.heap.size (fun _ => True) u3 x3_1) ∧ Aside0 (Below w.heap.size w w'))
      case atStart => exact ⟨(0), (0), (by first | rfl | (simp; done) | (simp [*]; done)), (by first | rfl | (simp; done) | (simp [*]; done)), H', ⟨nR_q _⟩, ⟨by (with_reducible repeat (first | apply rA_q | apply rN_q | apply rD_q)); exact HO_3.out⟩, ⟨bel HB.out⟩⟩
      case round =>
       clear H'
       try clear p2
       try clear c5
       try clear c5b0
       try clear c8
       try clear p2
       obtain ⟨x5_3, x6_3, rfl, rfl, HA, HK3, HO_3, HB⟩ := hrel
       cases gk with
       | zero => exact absurd HA.out (by simp [spec_StepsEarly.l1])
       | succ k3 =>
        have H := HA.out
        clear HA
        simp only [spec_StepsEarly.l1] at H
        by_cases c9 : 0 ≤ x4_1
        ·rw [if_pos c9] at H
         have c9b0 : decide (0 ≤ x4_1) = true := dT_q c9
         clear c9
         by_cases c10 : x4_1 < (l0.length : Int)
         ·rw [if_pos c10] at H
          have c10b0 : decide (x4_1 < (l0.length : Int)) = true := dT_q c10
          clear c10
          by_cases c11 : x6_3 < (((rd_T31 l0 x4_1).f3).length : Int)
          ·rw [if_pos c11] at H
           have c11b0 : decide (x6_3 < (((rd_T31 l0 x4_1).f3).length : Int)) = true := dT_q c11
           clear c11
           by_cases c12 : 0 ≤ x6_3
           ·rw [if_pos c12] at H
            have c12b0 : decide (0 ≤ x6_3) = true := dT_q c12
            clear c12
            by_cases c13 : 0 ≤ (rd ((rd_T31 l0 x4_1).f3) x6_3)
            ·rw [if_pos c13] at H
             have c13b0 : decide (0 ≤ (rd ((rd_T31 l0 x4_1).f3) x6_3)) = true := dT_q c13
             clear c13
             by_cases c14 : (rd ((rd_T31 l0 x4_1).f3) x6_3) < (x3_1.length : Int)
             ·rw [if_pos c14] at H
              have c14b0 : decide ((rd ((rd_T31 l0 x4_1).f3) x6_3) < (x3_1.length : Int)) = true := dT_q c14
              clear c14
              by_cases c15 : (rd ((rd_T31 l0 x4_1).f3) x6_3) < (l0.length : Int)
              ·rw [if_pos c15] at H
               have c15b0 : decide ((rd ((rd_T31 l0 x4_1).f3) x6_3) < (l0.length : Int)) = true := dT_q c15
               clear c15
               obtain ⟨ji16, hji16⟩ : ∃ j_ : Int, (mx x5_3 (wrap64 ((rd x3_1 (rd ((rd_T31 l0 x4_1).f3) x6_3)) + ((rd_T31 l0 (rd ((rd_T31 l0 x4_1).f3) x6_3)).f0)))) = j_ := ⟨_, rfl⟩
               replace H : (spec_StepsEarly.l1 k3 l0 x3_1 x4_1 ji16 (wrap64 (x6_3 + 1))) = some r := by first | (rw [hji16] at H; exact H) | (simp only [hji16] at H ⊢; exact H)
               have hji16_ : (if x5_3 < (wrap64 ((rd x3_1 (rd ((rd_T31 l0 x4_1).f3) x6_3)) + ((rd_T31 l0 (rd ((rd_T31 l0 x4_1).f3) x6_3)).f0))) then (wrap64 ((rd x3_1 (rd ((rd_T31 l0 x4_1).f3) x6_3)) + ((rd_T31 l0 (rd ((rd_T31 l0 x4_1).f3) x6_3)).f0))) else x5_3) = ji16 := hji16
               have H' := Ae_q H
               clear H
               have p275 : 0 ≤ (x4_1 : Int) := oD_q (by assumption)
               have q275 : x4_1 < (l0.length : Int) := oD_q (by assumption)
               obtain ⟨ad275, A275_3, c275_3, e275, hx275_0, hx275_1, hx275_2, hx275_3, hl275_3, hi275_3⟩ := at_T31 HR0.out x4_1 p275 q275
               cases e275
               replace hx275_0 := (HB.out.cell (wL_q w _ hx275_0)).trans hx275_0
               replace hx275_1 := (HB.out.cell (wL_q w _ hx275_1)).trans hx275_1
               replace hx275_2 := (HB.out.cell (wL_q w _ hx275_2)).trans hx275_2
               replace hx275_3 := (HB.out.cell (wL_q w _ hx275_3)).trans hx275_3
               have HR275_3 := Ae_q hi275_3
               have HC275_3 := Ae_q hl275_3
               clear hi275_3 hl275_3
               replace p275 := eq_true p275
               replace q275 := eq_true q275
               have p276 : 0 ≤ (x4_1 : Int) := oD_q (by assumption)
               have q276 : x4_1 < (l0.length : Int) := oD_q (by assumption)
               obtain ⟨ad276, A276_3, c276_3, e276, hx276_0, hx276_1, hx276_2, hx276_3, hl276_3, hi276_3⟩ := at_T31 HR0.out x4_1 p276 q276
               obtain rfl : ad275 = ad276 := (by injection e276)
               replace hx276_0 := (HB.out.cell (wL_q w _ hx276_0)).trans hx276_0
               replace hx276_1 := (HB.out.cell (wL_q w _ hx276_1)).trans hx276_1
               replace hx276_2 := (HB.out.cell (wL_q w _ hx276_2)).trans hx276_2
               replace hx276_3 := (HB.out.cell (wL_q w _ hx276_3)).trans hx276_3
               have HR276_3 := Ae_q hi276_3
               have HC276_3 := Ae_q hl276_3
               clear hi276_3 hl276_3
               replace p276 := eq_true p276
               replace q276 := eq_true q276
               have ea_ := oI_q (hx275_3.symm.trans hx276_3)
               injection ea_ with ea_ en_ ec_
               subst ea_
               subst ec_
               clear en_
               have p277 : 0 ≤ (x6_3 : Int) := oD_q (by assumption)
               have q277 : x6_3 < (((rd_T31 l0 x4_1).f3).length : Int) := oD_q (by assumption)
               obtain ⟨ad277, e277, hx277_0⟩ := aI_q HR276_3.out x6_3 p277 q277
               cases e277
               replace hx277_0 := (HB.out.cell (wL_q w _ hx277_0)).trans hx277_0
               replace p277 := eq_true p277
               replace q277 := eq_true q277
               obtain ⟨Ao17, co17, eo17⟩ := rS_q HO_3.out
               subst eo17
               have p278 : 0 ≤ ((rd ((rd_T31 l0 x4_1).f3) x6_3) : Int) := oD_q (by assumption)
               have q278 : (rd ((rd_T31 l0 x4_1).f3) x6_3) < (x3_1.length : Int) := oD_q (by assumption)
               obtain ⟨ad278, e278, hx278_0⟩ := aI_q (rR_q HO_3.out).2.2 (rd ((rd_T31 l0 x4_1).f3) x6_3) p278 q278
               cases e278
               replace p278 := eq_true p278
               replace q278 := eq_true q278
               have p279 : 0 ≤ ((rd ((rd_T31 l0 x4_1).f3) x6_3) : Int) := oD_q (by assumption)
               have q279 : (rd ((rd_T31 l0 x4_1).f3) x6_3) < (l0.length : Int) := oD_q (by assumption)
               obtain ⟨ad279, A279_3, c279_3, e279, hx279_0, hx279_1, hx279_2, hx279_3, hl279_3, hi279_3⟩ := at_T31 HR0.out (rd ((rd_T31 l0 x4_1).f3) x6_3) p279 q279
               obtain rfl : ad275 = ad279 := (by injection e279)
               replace hx279_0 := (HB.out.cell (wL_q w _ hx279_0)).trans hx279_0
               replace hx279_1 := (HB.out.cell (wL_q w _ hx279_1)).trans hx279_1
               replace hx279_2 := (HB.out.cell (wL_q w _ hx279_2)).trans hx279_2
               replace hx279_3 := (HB.out.cell (wL_q w _ hx279_3)).trans hx279_3
               have HR279_3 := Ae_q hi279_3
               have HC279_3 := Ae_q hl279_3
               clear hi279_3 hl279_3
               replace p279 := eq_true p279
               replace q279 := eq_true q279
               go_wp2
               repeat (go_quiet (fail); try go_wp2)
               go_roundg k3
               case measure => have := HK1.out; have := HJ3.out; have := HK3.out; omega
               case rel => exact ⟨(ji16), (wrap64 (x6_3 + 1)), (by first | rfl | (simp; done) | (simp only [← hji16] <;> (first | rfl | simp)) | (simp [*]; done)), (by first | rfl | (simp; done) | (simp [*]; done)), H', ⟨by have := HK1.out; have := HJ3.out; have := HK3.out; omega⟩, ⟨by (with_reducible repeat (first | apply rA_q | apply rN_q | apply rD_q)); exact HO_3.out⟩, ⟨bel HB.out⟩⟩
              rw [if_neg c15] at H
              exact absurd H (by simp)
             rw [if_neg c14] at H
             exact absurd H (by simp)
            rw [if_neg c13] at H
            exact absurd H (by simp)
           rw [if_neg c12] at H
           exact absurd H (by simp)
          rw [if_neg c11] at H
          have c11b0 : decide (x6_3 < (((rd_T31 l0 x4_1).f3).length : Int)) = false := dF_q c11
          clear c11
          by_cases c18 : x3_1.length < 17592186044416
          ·rw [if_pos c18] at H
           have LMc18 := Ae_q c18
           clear c18
           obtain ⟨y280, hy280⟩ : ∃ y_ : List Int, y_ = (x3_1 ++ [x5_3]) := ⟨_, rfl⟩
           replace H : (spec_StepsEarly.l0 k3 l0 y280 (wrap64 (x4_1 + 1))) = some r := by first | (rw [hy280]; with_reducible exact H) | (have H2_ := (oS_q _ _).symm.trans H; rw [hy280]; with_reducible exact H2_) | (have H2_ := (oS_q _ _).symm.trans H; with_reducible exact H2_) | with_reducible exact H | (rw [hy280]; exact H) | exact H
           have Ny280 := Ae_q hy280
           clear hy280
           have H' := Ae_q H
           clear H
           have p275 : 0 ≤ (x4_1 : Int) := oD_q (by assumption)
           have q275 : x4_1 < (l0.length : Int) := oD_q (by assumption)
           obtain ⟨ad275, A275_3, c275_3, e275, hx275_0, hx275_1, hx275_2, hx275_3, hl275_3, hi275_3⟩ := at_T31 HR0.out x4_1 p275 q275
           cases e275
           replace hx275_0 := (HB.out.cell (wL_q w _ hx275_0)).trans hx275_0
           replace hx275_1 := (HB.out.cell (wL_q w _ hx275_1)).trans hx275_1
           replace hx275_2 := (HB.out.cell (wL_q w _ hx275_2)).trans hx275_2
           replace hx275_3 := (HB.out.cell (wL_q w _ hx275_3)).trans hx275_3
           have HR275_3 := Ae_q hi275_3
           have HC275_3 := Ae_q hl275_3
           clear hi275_3 hl275_3
           replace p275 := eq_true p275
           replace q275 := eq_true q275
           go_wp2_with (first | ((with_reducible refine gate_builtin (b := .append) (xs := #[.tmp 49, .tmp 51]) rfl ?_); at_builtin; refine Kd.R_append kI_q (w0 := w) w.heap.size rfl (.tmp 49) (.tmp 51) 24 3 (.int .i64 0) 8 rfl Try.underlying24 info3 rfl (by decide) (by omega) u3 x3_1 x5_3 [.int .i64 x5_3] (fun _ => True) (fun _ => False) rfl rfl ?aP (fun _ hk => hk.elim) ?aF ?aO ?aB ?aS ?aL ?_; (case aP => exact rfl); (case aB => exact (bel HB.out)); (case aF => exact (fun _ _ => trivial)); (case aO => exact (rup HO_3.out)); (case aS => exact (bZ_q (bel HB.out))); (case aL => have := LMc18.out; omega); intro v281 w19 ho hb hg hat; rw [← Ny280.out] at ho; have n0_ := Ae_q (hb); have n1_ := Ae_q (ho); clear HB; clear HO_3; have HB := n0_; have HO282 := n1_; clear n0_ n1_; clear ho hb hg hat))
           repeat (go_quiet (first | ((with_reducible refine gate_builtin (b := .append) (xs := #[.tmp 49, .tmp 51]) rfl ?_); at_builtin; refine Kd.R_append kI_q (w0 := w) w.heap.size rfl (.tmp 49) (.tmp 51) 24 3 (.int .i64 0) 8 rfl Try.underlying24 info3 rfl (by decide) (by omega) u3 x3_1 x5_3 [.int .i64 x5_3] (fun _ => True) (fun _ => False) rfl rfl ?aP (fun _ hk => hk.elim) ?aF ?aO ?aB ?aS ?aL ?_; (case aP => exact rfl); (case aB => exact (bel HB.out)); (case aF => exact (fun _ _ => trivial)); (case aO => exact (rup HO_3.out)); (case aS => exact (bZ_q (bel HB.out))); (case aL => have := LMc18.out; omega); intro v281 w19 ho hb hg hat; rw [← Ny280.out] at ho; have n0_ := Ae_q (hb); have n1_ := Ae_q (ho); clear HB; clear HO_3; have HB := n0_; have HO282 := n1_; clear n0_ n1_; clear ho hb hg hat)); try go_wp2_with (first | ((with_reducible refine gate_builtin (b := .append) (xs := #[.tmp 49, .tmp 51]) rfl ?_); at_builtin; refine Kd.R_append kI_q (w0 := w) w.heap.size rfl (.tmp 49) (.tmp 51) 24 3 (.int .i64 0) 8 rfl Try.underlying24 info3 rfl (by decide) (by omega) u3 x3_1 x5_3 [.int .i64 x5_3] (fun _ => True) (fun _ => False) rfl rfl ?aP (fun _ hk => hk.elim) ?aF ?aO ?aB ?aS ?aL ?_; (case aP => exact rfl); (case aB => exact (bel HB.out)); (case aF => exact (fun _ _ => trivial)); (case aO => exact (rup HO_3.out)); (case aS => exact (bZ_q (bel HB.out))); (case aL => have := LMc18.out; omega); intro v281 w19 ho hb hg hat; rw [← Ny280.out] at ho; have n0_ := Ae_q (hb); have n1_ := Ae_q (ho); clear HB; clear HO_3; have HB := n0_; have HO282 := n1_; clear n0_ n1_; clear ho hb hg hat)))
           go_roundg k3
           case measure => have := HK1.out; have := HJ3.out; have := HK3.out; omega
           case rel => exact ⟨(y280), (wrap64 (x4_1 + 1)), (by first | rfl | (simp; done) | (simp [*]; done)), H', ⟨by have := HK1.out; have := HJ3.out; have := HK3.out; omega⟩, ⟨by (with_reducible repeat (first | apply rA_q | apply rN_q | apply rD_q)); exact HO282.out⟩, ⟨bel HB.out⟩⟩
          rw [if_neg c18] at H
          exact absurd H (by simp)
         rw [if_neg c10] at H
         exact absurd H (by simp)
        rw [if_neg c9] at H
        exact absurd H (by simp)
     replace c8 := fM_q.mpr c8
     subst c8
     have H1 : (some x3_1) = some r := by rw [if_neg (show ¬ (false = true) by decide)] at H; exact H
     clear H
     have H := H1
     clear H1
     obtain rfl := oI_q H
     go_wp2
     repeat (go_quiet (fail); try go_wp2)
     go_ret
     exact ⟨_, by first | rfl | (simp [eN_q, eS_q] <;> rfl) | (simp [*, eN_q, eS_q] <;> rfl), by (with_reducible repeat (first | apply rA_q | apply rN_q | apply rD_q)); exact HO_3.out, bel HB.out⟩

def spec_l92Plan.f (k : Nat) (s0_0 : List Int) (s0_1 : Int) : Option ((List (S31)) × Int × List Int × List Int × Int) := (spec_l92Steps.f k s0_0 s0_1).bind fun bt284 => ((spec_l92Kitchen.f k s0_0 bt284.2).bind fun bt288 => ((spec_PlanMake.f k bt284.1 bt288.1 bt288.2.1).bind fun bt294 => (if bt294.2 = true then (some (bt284.1, bt288.1, bt288.2.1, bt294.1, bt288.2.2)) else ((spec_StepsEarly.f k bt284.1).bind fun t298 => (some (bt284.1, bt288.1, bt288.2.1, t298, bt288.2.2))))))
theorem spec_l92Plan.mono : ∀ a0 a1 k, LeO (spec_l92Plan.f k a0 a1) (spec_l92Plan.f (k + 1) a0 a1) := by
 intro a0 a1 k
 unfold spec_l92Plan.f
 repeat' first
  | (with_reducible exact spec_PlanMake.mono _ _ _ _)
  | (with_reducible exact spec_StepsEarly.mono _ _)
  | (with_reducible exact spec_l92Kitchen.mono _ _ _)
  | (with_reducible exact spec_l92Steps.mono _ _ _)
  | (with_reducible exact lR_q _)
  | (with_reducible exact lO_q _)
  | (with_reducible refine lI_q ?_ ?_)
  | (with_reducible refine lB_q ?_ (fun _ => ?_))
  | exact spec_PlanMake.mono _ _ _ _
  | exact spec_StepsEarly.mono _ _
  | exact spec_l92Kitchen.mono _ _ _
  | exact spec_l92Steps.mono _ _ _
  | exact lO_q _
  | refine lI_q ?_ ?_
  | refine lB_q ?_ (fun _ => ?_)
set_option maxHeartbeats 8000000 in
set_option maxRecDepth 100000 in
theorem spec_l92Plan.calls (k : Nat) (g : Nat) (s0_0 : List Int) (s0_1 : Int) (r1 : List (S31)) (r2 : Int) (r3 : List Int) (r4 : List Int) (r5 : Int) (w0 w : World) (hI : IsS74 w0 w g s0_0 s0_1) (hB : Below w0.heap.size w0 w) (h : spec_l92Plan.f k s0_0 s0_1 = some (r1, r2, r3, r4, r5)) :
    Calls Try.prog 33 #[.pointer (some ⟨g, 0, none⟩)] w fun e w' => ∃ v0_ v2_ v3_ : Value, e = .returned (.tuple #[v0_, .agg #[.int .i64 r2, v2_], v3_]) ∧ Kd.S k31 31 w' w.heap.size (fun k_ => some k_ ≠ (v2_ : Value).ownBlock ∧ some k_ ≠ (v3_ : Value).ownBlock) v0_ r1 ∧ Kd.R kI_q 3 w' w.heap.size (fun k_ => some k_ ≠ (v3_ : Value).ownBlock) v2_ r3 ∧ Kd.R kI_q 3 w' w.heap.size (fun k_ => some k_ ≠ (v2_ : Value).ownBlock) v3_ r4 ∧ IsS74 w0 w' g s0_0 r5 ∧ Below w0.heap.size w0 w' ∧ KeepBut w w' g none := by
 have hu41 := Try.underlying41
 have HI0 := Ae_q hI
 have HK := Ae_q (KeepBut.refl w g none)
 have HL := Ae_q hB.size
 clear hI
 have HW0 := Ae_q hB.size
 have HB := Ae_q hB
 clear hB
 have H : ((spec_l92Steps.f k s0_0 s0_1).bind fun bt284 => ((spec_l92Kitchen.f k s0_0 bt284.2).bind fun bt288 => ((spec_PlanMake.f k bt284.1 bt288.1 bt288.2.1).bind fun bt294 => (if bt294.2 = true then (some (bt284.1, bt288.1, bt288.2.1, bt294.1, bt288.2.2)) else ((spec_StepsEarly.f k bt284.1).bind fun t298 => (some (bt284.1, bt288.1, bt288.2.1, t298, bt288.2.2))))))) = some (r1, r2, r3, r4, r5) := h
 clear h
 replace H := oB_q.mp H
 obtain ⟨⟨t284, t287⟩, A20, H⟩ := H
 replace H : ((spec_l92Kitchen.f k s0_0 t287).bind fun bt288 => ((spec_PlanMake.f k t284 bt288.1 bt288.2.1).bind fun bt294 => (if bt294.2 = true then (some (t284, bt288.1, bt288.2.1, bt294.1, bt288.2.2)) else ((spec_StepsEarly.f k t284).bind fun t298 => (some (t284, bt288.1, bt288.2.1, t298, bt288.2.2)))))) = some (r1, r2, r3, r4, r5) := H
 have A2 := Ae_q A20
 clear A20
 replace H := oB_q.mp H
 obtain ⟨⟨t288, t289, t292⟩, A30, H⟩ := H
 replace H : ((spec_PlanMake.f k t284 t288 t289).bind fun bt294 => (if bt294.2 = true then (some (t284, t288, t289, bt294.1, t292)) else ((spec_StepsEarly.f k t284).bind fun t298 => (some (t284, t288, t289, t298, t292))))) = some (r1, r2, r3, r4, r5) := H
 have A3 := Ae_q A30
 clear A30
 replace H := oB_q.mp H
 obtain ⟨⟨t294, t297⟩, A40, H⟩ := H
 replace H : (if t297 = true then (some (t284, t288, t289, t294, t292)) else ((spec_StepsEarly.f k t284).bind fun t298 => (some (t284, t288, t289, t298, t292)))) = some (r1, r2, r3, r4, r5) := H
 have A4 := Ae_q A40
 clear A40
 by_cases c5 : t297 = true
 ·subst c5
  have H1 : (some (t284, t288, t289, t294, t292)) = some (r1, r2, r3, r4, r5) := by rw [if_pos rfl] at H; exact H
  clear H
  have H := H1
  clear H1
  simp only [oE_q, pE_q] at H
  obtain ⟨rfl, rfl, rfl, rfl, rfl⟩ := H
  go_enter Try.func33, Try.ntmps33
  try go_wp2_with (first | ((with_reducible refine gD_q (N := 3) rfl ?_); refine bE_q ?hg (N := 3) ?hd (cs := #[.int .i64 0, .slice none 0 0]) (t := 41) ?hr ?_; (case hd => rfl); (case hg => rfl); (case hr => first | (go_simp; done) | (go_simp; rfl)); intro gb283 hg w6 hbox hb; have n0_ := Ae_q (i6_q (by repeat (first | (with_reducible first | exact HI0.out | apply i2_q | apply i1_q | apply i0_q | apply i3_q) | exact HI0.out)) hb); have n1_ := Ae_q (kT_q (by repeat (first | (with_reducible first | exact HK.out | apply kS_q | apply kN_q | apply kD_q | apply kA_q) | exact HK.out)) (kO_q hb g none) (.inl rfl)); have n2_ := Ae_q (bT_q (by repeat (first | (with_reducible first | exact HB.out | apply bA_q | apply pB_q | apply bD_q | refine bS_q ?_ (i5_q HI0.out)) | exact HB.out)) hb); have n3_ := Ae_q (hbox); have n4_ := Ae_q ((by rw [hg]; exact (keep_size (w := w) (g := g) (row := none) (by repeat (first | (with_reducible first | exact HK.out | apply kS_q | apply kN_q | apply kD_q | apply kA_q) | exact HK.out))) : w.heap.size ≤ gb283)); have n5_ := Ae_q ((nT_q HW0.out (by rw [hg]; exact (keep_size (w := w) (g := g) (row := none) (by repeat (first | (with_reducible first | exact HK.out | apply kS_q | apply kN_q | apply kD_q | apply kA_q) | exact HK.out))) : w.heap.size ≤ gb283) : w0.heap.size ≤ gb283)); have n6_ := Ae_q ((by rw [hg]; exact nL_q (i7_q (show IsS74 w0 _ g s0_0 s0_1 from by repeat (first | (with_reducible first | exact HI0.out | apply i2_q | apply i1_q | apply i0_q | apply i3_q) | exact HI0.out))) : g ≠ gb283)); have n7_ := Ae_q ((by rw [hg]; exact nG_q (i7_q (show IsS74 w0 _ g s0_0 s0_1 from by repeat (first | (with_reducible first | exact HI0.out | apply i2_q | apply i1_q | apply i0_q | apply i3_q) | exact HI0.out))) : gb283 ≠ g)); clear HI0; clear HK; clear HB; have HI0 := n0_; have HK := n1_; have HB := n2_; have BK283 := n3_; have GW283 := n4_; have GE283 := n5_; have NB0_283 := n6_; have NB283_0 := n7_; clear n0_ n1_ n2_ n3_ n4_ n5_ n6_ n7_; clear hb hbox hg) | ((with_reducible refine gC_q (f := 54) rfl ?_); refine gL_q (some 10) rfl rfl Try.func54 (by kernel_rfl) rfl #[.pointer (some ⟨g, 0, none⟩)] rfl (by (try simp only [lM_q, lC_q, lN_q]); first | done | rfl | (simp only [lD_q, lT_q]; rfl)) ?_; (with_reducible refine (spec_l92Steps.calls k g s0_0 s0_1 t284 t287 w0 _ ?side1 ?side2 A2.out).mono ?_); (case side1 => repeat (first | (with_reducible first | exact HI0.out | apply i2_q | apply i1_q | apply i0_q | apply i3_q | refine i4_q ?_ NB0_283.out _) | exact HI0.out)); (case side2 => repeat (first | (with_reducible first | exact HB.out | apply bA_q | apply pB_q | apply bD_q | refine bS_q ?_ (i5_q HI0.out) | refine bS_q ?_ GE283.out) | exact HB.out)); rintro e w7 ⟨v285, rfl, ho0, hi, hb, hk⟩; refine ⟨_, rfl, ?_⟩; have n0_ := Ae_q (kB_q hk (g' := gb283) (o := .cells #[.int .i64 0, .slice none 0 0] 41 (0, 0)) (bup BK283.out) NB283_0.out (by simp)); have n1_ := Ae_q (Kd.S_lower ho0 (keep_size (w := w) (g := g) (row := none) (by repeat (first | (with_reducible first | exact HK.out | apply kS_q | apply kN_q | apply kD_q | apply kA_q | refine kF_q ?_ GW283.out _) | exact HK.out)))); have n2_ := Ae_q (kT_q (by repeat (first | (with_reducible first | exact HK.out | apply kS_q | apply kN_q | apply kD_q | apply kA_q | refine kF_q ?_ GW283.out _) | exact HK.out)) hk (.inl rfl)); have n3_ := Ae_q (hb); have n4_ := Ae_q (hi); clear BK283; clear HK; clear HB; clear HI0; have BK283 := n0_; have HO286 := n1_; have HK := n2_; have HB := n3_; have HI0 := n4_; clear n0_ n1_ n2_ n3_ n4_; (try clear hb); (try clear hb2); (try clear hk); (try clear hi); (try clear ho0)) | ((with_reducible refine gC_q (f := 55) rfl ?_); refine gL_q (some 12) rfl rfl Try.func55 (by kernel_rfl) rfl #[.pointer (some ⟨g, 0, none⟩)] rfl (by (try simp only [lM_q, lC_q, lN_q]); first | done | rfl | (simp only [lD_q, lT_q]; rfl)) ?_; (with_reducible refine (spec_l92Kitchen.calls k g s0_0 t287 t288 t289 t292 w0 _ ?side1 ?side2 A3.out).mono ?_); (case side1 => repeat (first | (with_reducible first | exact HI0.out | apply i2_q | apply i1_q | apply i0_q | apply i3_q | refine i4_q ?_ NB0_283.out _) | exact HI0.out)); (case side2 => repeat (first | (with_reducible first | exact HB.out | apply bA_q | apply pB_q | apply bD_q | refine bS_q ?_ (i5_q HI0.out) | refine bS_q ?_ GE283.out) | exact HB.out)); rintro e w8 ⟨v290, rfl, ho0, hi, hb, hk⟩; refine ⟨_, rfl, ?_⟩; have n0_ := Ae_q (kB_q hk (g' := gb283) (o := .cells #[.int .i64 0, .slice none 0 0] 41 (0, 0)) (bup BK283.out) NB283_0.out (by simp)); have n1_ := Ae_q (Kd.S_mono (Kd.S_told (Kd.S_oldK (IsS74.apartS (show IsS74 w0 _ g s0_0 t287 from by repeat (first | (with_reducible first | exact HI0.out | apply i2_q | apply i1_q | apply i0_q | apply i3_q | refine i4_q ?_ NB0_283.out _) | exact HI0.out)) (by (with_reducible repeat (first | apply tA_q | apply tN_q | apply tD_q)); exact HO286.out) (by decide)) hk) (rB_q ho0)) (fun _ h_ => h_.1)); have n2_ := Ae_q (rL_q ho0 (keep_size (w := w) (g := g) (row := none) (by repeat (first | (with_reducible first | exact HK.out | apply kS_q | apply kN_q | apply kD_q | apply kA_q | refine kF_q ?_ GW283.out _) | exact HK.out)))); have n3_ := Ae_q (kT_q (by repeat (first | (with_reducible first | exact HK.out | apply kS_q | apply kN_q | apply kD_q | apply kA_q | refine kF_q ?_ GW283.out _) | exact HK.out)) hk (.inl rfl)); have n4_ := Ae_q (hb); have n5_ := Ae_q (hi); clear BK283; clear HO286; clear HK; clear HB; clear HI0; have BK283 := n0_; have HO286 := n1_; have HO291 := n2_; have HK := n3_; have HB := n4_; have HI0 := n5_; clear n0_ n1_ n2_ n3_ n4_ n5_; (try clear hb); (try clear hb2); (try clear hk); (try clear hi); (try clear ho0)) | ((with_reducible refine gD_q (N := 6) rfl ?_); refine bE_q ?hg (N := 6) ?hd (cs := #[.int .i64 0, .slice none 0 0]) (t := 41) ?hr ?_; (case hd => rfl); (case hg => rfl); (case hr => first | (go_simp; done) | (go_simp; rfl)); intro gb293 hg w9 hbox hb; have n0_ := Ae_q (Kd.S_below (by (with_reducible repeat (first | apply tA_q | apply tN_q | apply tD_q)); exact HO286.out) hb); have n1_ := Ae_q (rO_q (rup HO291.out) hb); have n2_ := Ae_q (i6_q (by repeat (first | (with_reducible first | exact HI0.out | apply i2_q | apply i1_q | apply i0_q | apply i3_q | refine i4_q ?_ NB0_283.out _) | exact HI0.out)) hb); have n3_ := Ae_q (bB_q (g := gb283) (o := .cells #[.int .i64 0, .slice none 0 0] 41 (0, 0)) (bup BK283.out) hb); have n4_ := Ae_q (kT_q (by repeat (first | (with_reducible first | exact HK.out | apply kS_q | apply kN_q | apply kD_q | apply kA_q | refine kF_q ?_ GW283.out _) | exact HK.out)) (kO_q hb g none) (.inl rfl)); have n5_ := Ae_q (bT_q (by repeat (first | (with_reducible first | exact HB.out | apply bA_q | apply pB_q | apply bD_q | refine bS_q ?_ (i5_q HI0.out) | refine bS_q ?_ GE283.out) | exact HB.out)) hb); have n6_ := Ae_q (hbox); have n7_ := Ae_q ((by rw [hg]; exact (keep_size (w := w) (g := g) (row := none) (by repeat (first | (with_reducible first | exact HK.out | apply kS_q | apply kN_q | apply kD_q | apply kA_q | refine kF_q ?_ GW283.out _) | exact HK.out))) : w.heap.size ≤ gb293)); have n8_ := Ae_q ((nT_q HW0.out (by rw [hg]; exact (keep_size (w := w) (g := g) (row := none) (by repeat (first | (with_reducible first | exact HK.out | apply kS_q | apply kN_q | apply kD_q | apply kA_q | refine kF_q ?_ GW283.out _) | exact HK.out))) : w.heap.size ≤ gb293) : w0.heap.size ≤ gb293)); have n9_ := Ae_q ((by rw [hg]; exact nL_q (blk_lt (g := gb283) (o := .cells #[.int .i64 0, .slice none 0 0] 41 (0, 0)) (bup BK283.out)) : gb283 ≠ gb293)); have n10_ := Ae_q ((by rw [hg]; exact nG_q (blk_lt (g := gb283) (o := .cells #[.int .i64 0, .slice none 0 0] 41 (0, 0)) (bup BK283.out)) : gb293 ≠ gb283)); have n11_ := Ae_q ((by rw [hg]; exact nL_q (i7_q (show IsS74 w0 _ g s0_0 t292 from by repeat (first | (with_reducible first | exact HI0.out | apply i2_q | apply i1_q | apply i0_q | apply i3_q | refine i4_q ?_ NB0_283.out _) | exact HI0.out))) : g ≠ gb293)); have n12_ := Ae_q ((by rw [hg]; exact nG_q (i7_q (show IsS74 w0 _ g s0_0 t292 from by repeat (first | (with_reducible first | exact HI0.out | apply i2_q | apply i1_q | apply i0_q | apply i3_q | refine i4_q ?_ NB0_283.out _) | exact HI0.out))) : gb293 ≠ g)); clear HO286; clear HO291; clear HI0; clear BK283; clear HK; clear HB; have HO286 := n0_; have HO291 := n1_; have HI0 := n2_; have BK283 := n3_; have HK := n4_; have HB := n5_; have BK293 := n6_; have GW293 := n7_; have GE293 := n8_; have NB283_293 := n9_; have NB293_283 := n10_; have NB0_293 := n11_; have NB293_0 := n12_; clear n0_ n1_ n2_ n3_ n4_ n5_ n6_ n7_ n8_ n9_ n10_ n11_ n12_; clear hb hbox hg; have hnb10 := NB293_283.out; have hnc10 := NB283_293.out; have hnb11 := NB293_0.out; have hnc11 := NB0_293.out; have hcz12_0 : w9.cell? ⟨gb293, 0, none⟩ = some (.int .i64 0) := (bC_q BK293.out 0).trans rfl; have hcz12_1 : w9.cell? ⟨gb293, 1, none⟩ = some (.slice none 0 0) := (bC_q BK293.out 1).trans rfl; have hfz12_0 := bF_q BK293.out 0; have hfz12_1 := bF_q BK293.out 1; obtain ⟨Ao13, co13, eo13⟩ := rS_q HO291.out; subst eo13; obtain ⟨Ao14, co14, eo14⟩ := Kd.S_slice HO286.out; subst eo14) | ((with_reducible refine gC_q (f := 56) rfl ?_); refine gL_q (some 16) rfl rfl Try.func56 (by kernel_rfl) rfl #[.slice Ao14 t284.length co14, .agg #[.int .i64 t288, .slice Ao13 t289.length co13]] rfl (by (try simp only [lM_q, lC_q, lN_q]); first | done | rfl | (simp only [lD_q, lT_q]; rfl)) ?_; (with_reducible refine (spec_PlanMake.calls k _ _ t284 t288 _ _ t289 t294 true _ ?side1 ?side2 ?side3 ?side4 A4.out).mono ?_); (case side1 => refine (Kd.S_reads' (e := 31) (base := w.heap.size) (ok := fun k_ => (True ∧ some k_ ≠ (.slice Ao13 t289.length co13 : Value).ownBlock)) (n := t284.length) (c := co14) ?_).2.2; exact (by (with_reducible repeat (first | apply tA_q | apply tN_q | apply tD_q)); exact (Kd.S_mono (Kd.S_far (p := ⟨gb293, 1, none⟩) (Kd.S_far (p := ⟨gb293, 0, none⟩) (Kd.S_types HO286.out BK293.out (by decide)) (fun _ hk => hk.2) (.int .i64 t288)) (fun _ hk => hk.2) (.slice Ao13 t289.length co13)) (fun _ h_ => h_.1)))); (case side2 => exact (Kd.S_reads' HO286.out).2.1); (case side3 => refine (rR_q (e := 3) (base := w.heap.size) (ok := fun k_ => True) (n := t289.length) (c := co13) ?_).2.2; exact (by (with_reducible repeat (first | apply rA_q | apply rN_q | apply rD_q)); exact (rM_q (Kd.R_far (p := ⟨gb293, 1, none⟩) (Kd.R_far (p := ⟨gb293, 0, none⟩) (Kd.R_types HO291.out BK293.out (by decide)) (fun _ hk => hk.2) (.int .i64 t288)) (fun _ hk => hk.2) (.slice Ao13 t289.length co13)) (fun _ h_ => h_.1)))); (case side4 => exact (rR_q HO291.out).2.1); rintro e w15 ⟨v295, rfl, ho0, hb⟩; refine ⟨_, rfl, ?_⟩; have n0_ := Ae_q (Kd.S_elder' (by (with_reducible repeat (first | apply tA_q | apply tN_q | apply tD_q)); exact (Kd.S_mono (Kd.S_far (p := ⟨gb293, 1, none⟩) (Kd.S_far (p := ⟨gb293, 0, none⟩) (Kd.S_types HO286.out BK293.out (by decide)) (fun _ hk => hk.2) (.int .i64 t288)) (fun _ hk => hk.2) (.slice Ao13 t289.length co13)) (fun _ h_ => h_.1))) (rB_q ho0) hb); have n1_ := Ae_q (rE_q (by (with_reducible repeat (first | apply rA_q | apply rN_q | apply rD_q)); exact (rM_q (Kd.R_far (p := ⟨gb293, 1, none⟩) (Kd.R_far (p := ⟨gb293, 0, none⟩) (Kd.R_types HO291.out BK293.out (by decide)) (fun _ hk => hk.2) (.int .i64 t288)) (fun _ hk => hk.2) (.slice Ao13 t289.length co13)) (fun _ h_ => h_.1))) (rB_q ho0) hb); have n2_ := Ae_q (rL_q (rW_q ho0 (rT_q (by (with_reducible repeat (first | apply rA_q | apply rN_q | apply rD_q)); exact (rM_q (Kd.R_far (p := ⟨gb293, 1, none⟩) (Kd.R_far (p := ⟨gb293, 0, none⟩) (Kd.R_types HO291.out BK293.out (by decide)) (fun _ hk => hk.2) (.int .i64 t288)) (fun _ hk => hk.2) (.slice Ao13 t289.length co13)) (fun _ h_ => h_.1))))) (keep_size (w := w) (g := g) (row := none) (by repeat (first | (with_reducible first | exact HK.out | apply kS_q | apply kN_q | apply kD_q | apply kA_q | refine kF_q ?_ GW283.out _ | refine kF_q ?_ GW293.out _) | exact HK.out)))); have n3_ := Ae_q (i6_q (show IsS74 w0 ((w9.setCell ⟨gb293, 0, none⟩ (.int .i64 t288)).setCell ⟨gb293, 1, none⟩ (.slice Ao13 t289.length co13)) g s0_0 t292 from by repeat (first | (with_reducible first | exact HI0.out | apply i2_q | apply i1_q | apply i0_q | apply i3_q | refine i4_q ?_ NB0_283.out _ | refine i4_q ?_ NB0_293.out _) | exact HI0.out)) hb); have n4_ := Ae_q (bB_q (g := gb283) (o := .cells #[.int .i64 0, .slice none 0 0] 41 (0, 0)) (by (with_reducible repeat (first | refine bN_q ?_ _ | refine bW_q ?_ | refine bL_q ?_ _)); refine blk_far ?_ NB283_293.out _; (with_reducible repeat (first | refine bN_q ?_ _ | refine bW_q ?_ | refine bL_q ?_ _)); refine blk_far ?_ NB283_293.out _; (with_reducible repeat (first | refine bN_q ?_ _ | refine bW_q ?_ | refine bL_q ?_ _)); exact BK283.out) hb); have n5_ := Ae_q (bB_q (g := gb293) (o := .cells #[.int .i64 t288, .slice Ao13 t289.length co13] 41 (0, 0)) (by (with_reducible repeat (first | refine bN_q ?_ _ | refine bW_q ?_ | refine bL_q ?_ _)); refine blk_put (cs := #[.int .i64 t288, .slice none 0 0]) ?_ 1 _ rfl; (with_reducible repeat (first | refine bN_q ?_ _ | refine bW_q ?_ | refine bL_q ?_ _)); refine blk_put (cs := #[.int .i64 0, .slice none 0 0]) ?_ 0 _ rfl; (with_reducible repeat (first | refine bN_q ?_ _ | refine bW_q ?_ | refine bL_q ?_ _)); exact BK293.out) hb); have n6_ := Ae_q (kT_q (by repeat (first | (with_reducible first | exact HK.out | apply kS_q | apply kN_q | apply kD_q | apply kA_q | refine kF_q ?_ GW283.out _ | refine kF_q ?_ GW293.out _) | exact HK.out)) (kO_q hb g none) (.inl rfl)); have n7_ := Ae_q (bT_q (by repeat (first | (with_reducible first | exact HB.out | apply bA_q | apply pB_q | apply bD_q | refine bS_q ?_ (i5_q HI0.out) | refine bS_q ?_ GE283.out | refine bS_q ?_ GE293.out) | exact HB.out)) hb); clear HO286; clear HO291; clear HI0; clear BK283; clear BK293; clear HK; clear HB; have HO286 := n0_; have HO291 := n1_; have HO296 := n2_; have HI0 := n3_; have BK283 := n4_; have BK293 := n5_; have HK := n6_; have HB := n7_; clear n0_ n1_ n2_ n3_ n4_ n5_ n6_ n7_; (try clear hb); (try clear hb2); (try clear hk); (try clear hi); (try clear ho0)))
  have n0_ := Ae_q (tD_q HO286.out)
  have n1_ := Ae_q (rD_q HO291.out)
  have n2_ := Ae_q (rD_q HO296.out)
  have n3_ := Ae_q (bW_q BK283.out)
  have n4_ := Ae_q (bW_q BK293.out)
  have n5_ := Ae_q (i0_q HI0.out)
  have n6_ := Ae_q (kD_q HK.out)
  have n7_ := Ae_q (bD_q HB.out)
  clear HO286
  clear HO291
  clear HO296
  clear BK283
  clear BK293
  clear HI0
  clear HK
  clear HB
  have HO286 := n0_
  have HO291 := n1_
  have HO296 := n2_
  have BK283 := n3_
  have BK293 := n4_
  have HI0 := n5_
  have HK := n6_
  have HB := n7_
  clear n0_ n1_ n2_ n3_ n4_ n5_ n6_ n7_
  refine start_ (n := 6) (S := fun w' => w'.cell? ⟨gb293, 0, none⟩ = some (.int .i64 t288) ∧ w'.cell? ⟨gb293, 1, none⟩ = some (.slice Ao13 t289.length co13)) (ds := []) #[false, false, false, false, false, false] (by kernel_rfl) rfl rfl ⟨(bC_q BK293.out 0).trans rfl, (bC_q BK293.out 1).trans rfl⟩ (fun hHeld => ?_)
  generalize w15.drew = w16 at HO286 HO291 HO296 BK283 BK293 HI0 HK HB hHeld ⊢
  refine pure_ (i := 0) (N := some 23) (v := ?_) (a' := ?_) #[true, false, false, false, false, false] rfl rfl (by kernel_rfl) (fun _ _ _ h => h) (Or.inl ⟨by rfl, ?_⟩) ?_ ?_
  rotate_left
  ·intro w'
   go_simp
   with_reducible rfl
  rotate_left
  ·simp only [Act.put, sA_q, sZ_q, sS_q, i64_w, i32_w]
   rfl
  refine pure_ (i := 2) (N := some 25) (v := ?_) (a' := ?_) #[true, false, true, false, false, false] rfl rfl (by kernel_rfl) (fun _ _ _ h => h) (Or.inl ⟨by rfl, ?_⟩) ?_ ?_
  rotate_left
  ·intro w'
   go_simp
   with_reducible rfl
  rotate_left
  ·simp only [Act.put, sA_q, sZ_q, sS_q, i64_w, i32_w]
   rfl
  refine pure_ (i := 3) (N := some 2) (v := ?_) (a' := ?_) #[true, false, true, true, false, false] rfl rfl (by kernel_rfl) (fun _ _ _ h => h) (Or.inl ⟨by rfl, ?_⟩) ?_ ?_
  rotate_left
  ·intro w'
   go_simp
   with_reducible rfl
  rotate_left
  ·simp only [Act.put, sA_q, sZ_q, sS_q, i64_w, i32_w]
   rfl
  refine take_ (i := 1) (N := some 24) (v := ?_) (a' := ?_) #[true, true, true, true, false, false] rfl rfl (by kernel_rfl) (fun _ _ _ h => h) (Or.inl ⟨by rfl, ?_⟩) hHeld ?_ ?_
  rotate_left
  ·rintro w' ⟨s0, s1⟩
   go_simp
   with_reducible rfl
  rotate_left
  ·simp only [Act.put, sA_q, sZ_q, sS_q, i64_w, i32_w]
   rfl
  refine one_ (i := 4) (N := none) #[true, true, true, true, true, false] rfl rfl (by kernel_rfl) (by decide) (fun K hK => ?_)
  have hs17 : w16.cell? ⟨gb283, 0, none⟩ = some (.int .i64 0) := (bC_q BK283.out 0).trans rfl
  have hfs17 := bF_q BK283.out 0
  have hns17_1 := NB293_283.out
  have hms17_1 := NB283_293.out
  have hs18 : w16.cell? ⟨gb283, 1, none⟩ = some (.slice none 0 0) := (bC_q BK283.out 1).trans rfl
  have hfs18 := bF_q BK283.out 1
  have hns18_1 := NB293_283.out
  have hms18_1 := NB283_293.out
  refine skip_ (w1 := ?_) (by rfl) rfl ?_ ?_
  rotate_left
  ·go_simp
   rfl
  refine hK.out _ _ ⟨((cell_far (p := ⟨gb283, _, none⟩) NB293_283.out _).trans (((cell_far (p := ⟨gb283, _, none⟩) NB293_283.out _).trans (hHeld.1)))), ((cell_far (p := ⟨gb283, _, none⟩) NB293_283.out _).trans (((cell_far (p := ⟨gb283, _, none⟩) NB293_283.out _).trans (hHeld.2))))⟩ (fun hHeld => ?_)
  clear hK K
  refine pure_ (i := 5) (N := some 4) (v := ?_) (a' := ?_) #[true, true, true, true, true, true] rfl rfl (by kernel_rfl) (fun _ _ _ h => h) (Or.inl ⟨by rfl, ?_⟩) ?_ ?_
  rotate_left
  ·intro w'
   go_simp
   with_reducible rfl
  rotate_left
  ·simp only [Act.put, sA_q, sZ_q, sS_q, i64_w, i32_w]
   rfl
  refine done_ (by kernel_rfl) ?_
  try go_wp2
  refine bodyPost_ret (results_list (rs := [.tmp 2, .cell 3 41, .tmp 4]) rfl (by simp) (.tmp (.cell gb283 41 #[.int .i64 t288, .slice Ao13 t289.length co13] (0, 0) _ rfl (by (with_reducible repeat (first | refine bN_q ?_ _ | refine bW_q ?_ | refine bL_q ?_ _)); refine blk_put (cs := #[.int .i64 t288, .slice none 0 0]) ?_ 1 _ rfl; (with_reducible repeat (first | refine bN_q ?_ _ | refine bW_q ?_ | refine bL_q ?_ _)); refine blk_put (cs := #[.int .i64 0, .slice none 0 0]) ?_ 0 _ rfl; (with_reducible repeat (first | refine bN_q ?_ _ | refine bW_q ?_ | refine bL_q ?_ _)); exact BK283.out) Try.underlying41 rfl (by kernel_rfl) (.tmp .nil)))) rfl ?_
  exact ⟨_, _, _, by first | rfl | (simp [eN_q, eS_q] <;> rfl) | (simp [*, eN_q, eS_q] <;> rfl), by (with_reducible repeat (first | apply tA_q | apply tN_q | apply tD_q)); exact Kd.S_mono (Kd.S_far (p := ⟨gb283, 1, none⟩) (Kd.S_far (p := ⟨gb283, 0, none⟩) (Kd.S_types HO286.out BK283.out (by decide)) (fun _ hk => hk.2) (.int .i64 t288)) (fun _ hk => hk.2) (.slice Ao13 t289.length co13)) (fun _ hk => ⟨hk.1.1.2, hk.1.2⟩), by (with_reducible repeat (first | apply rA_q | apply rN_q | apply rD_q)); exact rM_q (Kd.R_far (p := ⟨gb283, 1, none⟩) (Kd.R_far (p := ⟨gb283, 0, none⟩) (Kd.R_types HO291.out BK283.out (by decide)) (fun _ hk => hk.2) (.int .i64 t288)) (fun _ hk => hk.2) (.slice Ao13 t289.length co13)) (fun _ hk => hk.1.2), by (with_reducible repeat (first | apply rA_q | apply rN_q | apply rD_q)); exact rM_q (Kd.R_far (p := ⟨gb283, 1, none⟩) (Kd.R_far (p := ⟨gb283, 0, none⟩) (Kd.R_types HO296.out BK283.out (by decide)) (fun _ hk => hk.2) (.int .i64 t288)) (fun _ hk => hk.2) (.slice Ao13 t289.length co13)) (fun _ hk => hk.1.2), by repeat (first | (with_reducible first | exact HI0.out | apply i2_q | apply i1_q | apply i0_q | apply i3_q | refine i4_q ?_ NB0_283.out _ | refine i4_q ?_ NB0_293.out _) | exact HI0.out), by repeat (first | (with_reducible first | exact HB.out | apply bA_q | apply pB_q | apply bD_q | refine bS_q ?_ (i5_q HI0.out) | refine bS_q ?_ GE283.out | refine bS_q ?_ GE293.out) | exact HB.out), by repeat (first | (with_reducible first | exact HK.out | apply kS_q | apply kN_q | apply kD_q | apply kA_q | refine kF_q ?_ GW283.out _ | refine kF_q ?_ GW293.out _) | exact HK.out)⟩
 replace c5 := fM_q.mpr c5
 subst c5
 have H1 : ((spec_StepsEarly.f k t284).bind fun t298 => (some (t284, t288, t289, t298, t292))) = some (r1, r2, r3, r4, r5) := by rw [if_neg (show ¬ (false = true) by decide)] at H; exact H
 clear H
 have H := H1
 clear H1
 replace H := oB_q.mp H
 obtain ⟨t298, A190, H⟩ := H
 replace H : (some (t284, t288, t289, t298, t292)) = some (r1, r2, r3, r4, r5) := H
 have A19 := Ae_q A190
 clear A190
 simp only [oE_q, pE_q] at H
 obtain ⟨rfl, rfl, rfl, rfl, rfl⟩ := H
 go_enter Try.func33, Try.ntmps33
 try go_wp2_with (first | ((with_reducible refine gD_q (N := 3) rfl ?_); refine bE_q ?hg (N := 3) ?hd (cs := #[.int .i64 0, .slice none 0 0]) (t := 41) ?hr ?_; (case hd => rfl); (case hg => rfl); (case hr => first | (go_simp; done) | (go_simp; rfl)); intro gb283 hg w20 hbox hb; have n0_ := Ae_q (i6_q (by repeat (first | (with_reducible first | exact HI0.out | apply i2_q | apply i1_q | apply i0_q | apply i3_q) | exact HI0.out)) hb); have n1_ := Ae_q (kT_q (by repeat (first | (with_reducible first | exact HK.out | apply kS_q | apply kN_q | apply kD_q | apply kA_q) | exact HK.out)) (kO_q hb g none) (.inl rfl)); have n2_ := Ae_q (bT_q (by repeat (first | (with_reducible first | exact HB.out | apply bA_q | apply pB_q | apply bD_q | refine bS_q ?_ (i5_q HI0.out)) | exact HB.out)) hb); have n3_ := Ae_q (hbox); have n4_ := Ae_q ((by rw [hg]; exact (keep_size (w := w) (g := g) (row := none) (by repeat (first | (with_reducible first | exact HK.out | apply kS_q | apply kN_q | apply kD_q | apply kA_q) | exact HK.out))) : w.heap.size ≤ gb283)); have n5_ := Ae_q ((nT_q HW0.out (by rw [hg]; exact (keep_size (w := w) (g := g) (row := none) (by repeat (first | (with_reducible first | exact HK.out | apply kS_q | apply kN_q | apply kD_q | apply kA_q) | exact HK.out))) : w.heap.size ≤ gb283) : w0.heap.size ≤ gb283)); have n6_ := Ae_q ((by rw [hg]; exact nL_q (i7_q (show IsS74 w0 _ g s0_0 s0_1 from by repeat (first | (with_reducible first | exact HI0.out | apply i2_q | apply i1_q | apply i0_q | apply i3_q) | exact HI0.out))) : g ≠ gb283)); have n7_ := Ae_q ((by rw [hg]; exact nG_q (i7_q (show IsS74 w0 _ g s0_0 s0_1 from by repeat (first | (with_reducible first | exact HI0.out | apply i2_q | apply i1_q | apply i0_q | apply i3_q) | exact HI0.out))) : gb283 ≠ g)); clear HI0; clear HK; clear HB; have HI0 := n0_; have HK := n1_; have HB := n2_; have BK283 := n3_; have GW283 := n4_; have GE283 := n5_; have NB0_283 := n6_; have NB283_0 := n7_; clear n0_ n1_ n2_ n3_ n4_ n5_ n6_ n7_; clear hb hbox hg) | ((with_reducible refine gC_q (f := 54) rfl ?_); refine gL_q (some 10) rfl rfl Try.func54 (by kernel_rfl) rfl #[.pointer (some ⟨g, 0, none⟩)] rfl (by (try simp only [lM_q, lC_q, lN_q]); first | done | rfl | (simp only [lD_q, lT_q]; rfl)) ?_; (with_reducible refine (spec_l92Steps.calls k g s0_0 s0_1 t284 t287 w0 _ ?side1 ?side2 A2.out).mono ?_); (case side1 => repeat (first | (with_reducible first | exact HI0.out | apply i2_q | apply i1_q | apply i0_q | apply i3_q | refine i4_q ?_ NB0_283.out _) | exact HI0.out)); (case side2 => repeat (first | (with_reducible first | exact HB.out | apply bA_q | apply pB_q | apply bD_q | refine bS_q ?_ (i5_q HI0.out) | refine bS_q ?_ GE283.out) | exact HB.out)); rintro e w21 ⟨v285, rfl, ho0, hi, hb, hk⟩; refine ⟨_, rfl, ?_⟩; have n0_ := Ae_q (kB_q hk (g' := gb283) (o := .cells #[.int .i64 0, .slice none 0 0] 41 (0, 0)) (bup BK283.out) NB283_0.out (by simp)); have n1_ := Ae_q (Kd.S_lower ho0 (keep_size (w := w) (g := g) (row := none) (by repeat (first | (with_reducible first | exact HK.out | apply kS_q | apply kN_q | apply kD_q | apply kA_q | refine kF_q ?_ GW283.out _) | exact HK.out)))); have n2_ := Ae_q (kT_q (by repeat (first | (with_reducible first | exact HK.out | apply kS_q | apply kN_q | apply kD_q | apply kA_q | refine kF_q ?_ GW283.out _) | exact HK.out)) hk (.inl rfl)); have n3_ := Ae_q (hb); have n4_ := Ae_q (hi); clear BK283; clear HK; clear HB; clear HI0; have BK283 := n0_; have HO286 := n1_; have HK := n2_; have HB := n3_; have HI0 := n4_; clear n0_ n1_ n2_ n3_ n4_; (try clear hb); (try clear hb2); (try clear hk); (try clear hi); (try clear ho0)) | ((with_reducible refine gC_q (f := 55) rfl ?_); refine gL_q (some 12) rfl rfl Try.func55 (by kernel_rfl) rfl #[.pointer (some ⟨g, 0, none⟩)] rfl (by (try simp only [lM_q, lC_q, lN_q]); first | done | rfl | (simp only [lD_q, lT_q]; rfl)) ?_; (with_reducible refine (spec_l92Kitchen.calls k g s0_0 t287 t288 t289 t292 w0 _ ?side1 ?side2 A3.out).mono ?_); (case side1 => repeat (first | (with_reducible first | exact HI0.out | apply i2_q | apply i1_q | apply i0_q | apply i3_q | refine i4_q ?_ NB0_283.out _) | exact HI0.out)); (case side2 => repeat (first | (with_reducible first | exact HB.out | apply bA_q | apply pB_q | apply bD_q | refine bS_q ?_ (i5_q HI0.out) | refine bS_q ?_ GE283.out) | exact HB.out)); rintro e w22 ⟨v290, rfl, ho0, hi, hb, hk⟩; refine ⟨_, rfl, ?_⟩; have n0_ := Ae_q (kB_q hk (g' := gb283) (o := .cells #[.int .i64 0, .slice none 0 0] 41 (0, 0)) (bup BK283.out) NB283_0.out (by simp)); have n1_ := Ae_q (Kd.S_mono (Kd.S_told (Kd.S_oldK (IsS74.apartS (show IsS74 w0 _ g s0_0 t287 from by repeat (first | (with_reducible first | exact HI0.out | apply i2_q | apply i1_q | apply i0_q | apply i3_q | refine i4_q ?_ NB0_283.out _) | exact HI0.out)) (by (with_reducible repeat (first | apply tA_q | apply tN_q | apply tD_q)); exact HO286.out) (by decide)) hk) (rB_q ho0)) (fun _ h_ => h_.1)); have n2_ := Ae_q (rL_q ho0 (keep_size (w := w) (g := g) (row := none) (by repeat (first | (with_reducible first | exact HK.out | apply kS_q | apply kN_q | apply kD_q | apply kA_q | refine kF_q ?_ GW283.out _) | exact HK.out)))); have n3_ := Ae_q (kT_q (by repeat (first | (with_reducible first | exact HK.out | apply kS_q | apply kN_q | apply kD_q | apply kA_q | refine kF_q ?_ GW283.out _) | exact HK.out)) hk (.inl rfl)); have n4_ := Ae_q (hb); have n5_ := Ae_q (hi); clear BK283; clear HO286; clear HK; clear HB; clear HI0; have BK283 := n0_; have HO286 := n1_; have HO291 := n2_; have HK := n3_; have HB := n4_; have HI0 := n5_; clear n0_ n1_ n2_ n3_ n4_ n5_; (try clear hb); (try clear hb2); (try clear hk); (try clear hi); (try clear ho0)) | ((with_reducible refine gD_q (N := 6) rfl ?_); refine bE_q ?hg (N := 6) ?hd (cs := #[.int .i64 0, .slice none 0 0]) (t := 41) ?hr ?_; (case hd => rfl); (case hg => rfl); (case hr => first | (go_simp; done) | (go_simp; rfl)); intro gb293 hg w23 hbox hb; have n0_ := Ae_q (Kd.S_below (by (with_reducible repeat (first | apply tA_q | apply tN_q | apply tD_q)); exact HO286.out) hb); have n1_ := Ae_q (rO_q (rup HO291.out) hb); have n2_ := Ae_q (i6_q (by repeat (first | (with_reducible first | exact HI0.out | apply i2_q | apply i1_q | apply i0_q | apply i3_q | refine i4_q ?_ NB0_283.out _) | exact HI0.out)) hb); have n3_ := Ae_q (bB_q (g := gb283) (o := .cells #[.int .i64 0, .slice none 0 0] 41 (0, 0)) (bup BK283.out) hb); have n4_ := Ae_q (kT_q (by repeat (first | (with_reducible first | exact HK.out | apply kS_q | apply kN_q | apply kD_q | apply kA_q | refine kF_q ?_ GW283.out _) | exact HK.out)) (kO_q hb g none) (.inl rfl)); have n5_ := Ae_q (bT_q (by repeat (first | (with_reducible first | exact HB.out | apply bA_q | apply pB_q | apply bD_q | refine bS_q ?_ (i5_q HI0.out) | refine bS_q ?_ GE283.out) | exact HB.out)) hb); have n6_ := Ae_q (hbox); have n7_ := Ae_q ((by rw [hg]; exact (keep_size (w := w) (g := g) (row := none) (by repeat (first | (with_reducible first | exact HK.out | apply kS_q | apply kN_q | apply kD_q | apply kA_q | refine kF_q ?_ GW283.out _) | exact HK.out))) : w.heap.size ≤ gb293)); have n8_ := Ae_q ((nT_q HW0.out (by rw [hg]; exact (keep_size (w := w) (g := g) (row := none) (by repeat (first | (with_reducible first | exact HK.out | apply kS_q | apply kN_q | apply kD_q | apply kA_q | refine kF_q ?_ GW283.out _) | exact HK.out))) : w.heap.size ≤ gb293) : w0.heap.size ≤ gb293)); have n9_ := Ae_q ((by rw [hg]; exact nL_q (blk_lt (g := gb283) (o := .cells #[.int .i64 0, .slice none 0 0] 41 (0, 0)) (bup BK283.out)) : gb283 ≠ gb293)); have n10_ := Ae_q ((by rw [hg]; exact nG_q (blk_lt (g := gb283) (o := .cells #[.int .i64 0, .slice none 0 0] 41 (0, 0)) (bup BK283.out)) : gb293 ≠ gb283)); have n11_ := Ae_q ((by rw [hg]; exact nL_q (i7_q (show IsS74 w0 _ g s0_0 t292 from by repeat (first | (with_reducible first | exact HI0.out | apply i2_q | apply i1_q | apply i0_q | apply i3_q | refine i4_q ?_ NB0_283.out _) | exact HI0.out))) : g ≠ gb293)); have n12_ := Ae_q ((by rw [hg]; exact nG_q (i7_q (show IsS74 w0 _ g s0_0 t292 from by repeat (first | (with_reducible first | exact HI0.out | apply i2_q | apply i1_q | apply i0_q | apply i3_q | refine i4_q ?_ NB0_283.out _) | exact HI0.out))) : gb293 ≠ g)); clear HO286; clear HO291; clear HI0; clear BK283; clear HK; clear HB; have HO286 := n0_; have HO291 := n1_; have HI0 := n2_; have BK283 := n3_; have HK := n4_; have HB := n5_; have BK293 := n6_; have GW293 := n7_; have GE293 := n8_; have NB283_293 := n9_; have NB293_283 := n10_; have NB0_293 := n11_; have NB293_0 := n12_; clear n0_ n1_ n2_ n3_ n4_ n5_ n6_ n7_ n8_ n9_ n10_ n11_ n12_; clear hb hbox hg; have hnb24 := NB293_283.out; have hnc24 := NB283_293.out; have hnb25 := NB293_0.out; have hnc25 := NB0_293.out; have hcz26_0 : w23.cell? ⟨gb293, 0, none⟩ = some (.int .i64 0) := (bC_q BK293.out 0).trans rfl; have hcz26_1 : w23.cell? ⟨gb293, 1, none⟩ = some (.slice none 0 0) := (bC_q BK293.out 1).trans rfl; have hfz26_0 := bF_q BK293.out 0; have hfz26_1 := bF_q BK293.out 1; obtain ⟨Ao27, co27, eo27⟩ := rS_q HO291.out; subst eo27; obtain ⟨Ao28, co28, eo28⟩ := Kd.S_slice HO286.out; subst eo28) | ((with_reducible refine gC_q (f := 56) rfl ?_); refine gL_q (some 16) rfl rfl Try.func56 (by kernel_rfl) rfl #[.slice Ao28 t284.length co28, .agg #[.int .i64 t288, .slice Ao27 t289.length co27]] rfl (by (try simp only [lM_q, lC_q, lN_q]); first | done | rfl | (simp only [lD_q, lT_q]; rfl)) ?_; (with_reducible refine (spec_PlanMake.calls k _ _ t284 t288 _ _ t289 t294 false _ ?side1 ?side2 ?side3 ?side4 A4.out).mono ?_); (case side1 => refine (Kd.S_reads' (e := 31) (base := w.heap.size) (ok := fun k_ => (True ∧ some k_ ≠ (.slice Ao27 t289.length co27 : Value).ownBlock)) (n := t284.length) (c := co28) ?_).2.2; exact (by (with_reducible repeat (first | apply tA_q | apply tN_q | apply tD_q)); exact (Kd.S_mono (Kd.S_far (p := ⟨gb293, 1, none⟩) (Kd.S_far (p := ⟨gb293, 0, none⟩) (Kd.S_types HO286.out BK293.out (by decide)) (fun _ hk => hk.2) (.int .i64 t288)) (fun _ hk => hk.2) (.slice Ao27 t289.length co27)) (fun _ h_ => h_.1)))); (case side2 => exact (Kd.S_reads' HO286.out).2.1); (case side3 => refine (rR_q (e := 3) (base := w.heap.size) (ok := fun k_ => True) (n := t289.length) (c := co27) ?_).2.2; exact (by (with_reducible repeat (first | apply rA_q | apply rN_q | apply rD_q)); exact (rM_q (Kd.R_far (p := ⟨gb293, 1, none⟩) (Kd.R_far (p := ⟨gb293, 0, none⟩) (Kd.R_types HO291.out BK293.out (by decide)) (fun _ hk => hk.2) (.int .i64 t288)) (fun _ hk => hk.2) (.slice Ao27 t289.length co27)) (fun _ h_ => h_.1)))); (case side4 => exact (rR_q HO291.out).2.1); rintro e w29 ⟨v295, rfl, ho0, hb⟩; refine ⟨_, rfl, ?_⟩; have n0_ := Ae_q (Kd.S_elder' (by (with_reducible repeat (first | apply tA_q | apply tN_q | apply tD_q)); exact (Kd.S_mono (Kd.S_far (p := ⟨gb293, 1, none⟩) (Kd.S_far (p := ⟨gb293, 0, none⟩) (Kd.S_types HO286.out BK293.out (by decide)) (fun _ hk => hk.2) (.int .i64 t288)) (fun _ hk => hk.2) (.slice Ao27 t289.length co27)) (fun _ h_ => h_.1))) (rB_q ho0) hb); have n1_ := Ae_q (rE_q (by (with_reducible repeat (first | apply rA_q | apply rN_q | apply rD_q)); exact (rM_q (Kd.R_far (p := ⟨gb293, 1, none⟩) (Kd.R_far (p := ⟨gb293, 0, none⟩) (Kd.R_types HO291.out BK293.out (by decide)) (fun _ hk => hk.2) (.int .i64 t288)) (fun _ hk => hk.2) (.slice Ao27 t289.length co27)) (fun _ h_ => h_.1))) (rB_q ho0) hb); have n2_ := Ae_q (rL_q (rW_q ho0 (rT_q (by (with_reducible repeat (first | apply rA_q | apply rN_q | apply rD_q)); exact (rM_q (Kd.R_far (p := ⟨gb293, 1, none⟩) (Kd.R_far (p := ⟨gb293, 0, none⟩) (Kd.R_types HO291.out BK293.out (by decide)) (fun _ hk => hk.2) (.int .i64 t288)) (fun _ hk => hk.2) (.slice Ao27 t289.length co27)) (fun _ h_ => h_.1))))) (keep_size (w := w) (g := g) (row := none) (by repeat (first | (with_reducible first | exact HK.out | apply kS_q | apply kN_q | apply kD_q | apply kA_q | refine kF_q ?_ GW283.out _ | refine kF_q ?_ GW293.out _) | exact HK.out)))); have n3_ := Ae_q (i6_q (show IsS74 w0 ((w23.setCell ⟨gb293, 0, none⟩ (.int .i64 t288)).setCell ⟨gb293, 1, none⟩ (.slice Ao27 t289.length co27)) g s0_0 t292 from by repeat (first | (with_reducible first | exact HI0.out | apply i2_q | apply i1_q | apply i0_q | apply i3_q | refine i4_q ?_ NB0_283.out _ | refine i4_q ?_ NB0_293.out _) | exact HI0.out)) hb); have n4_ := Ae_q (bB_q (g := gb283) (o := .cells #[.int .i64 0, .slice none 0 0] 41 (0, 0)) (by (with_reducible repeat (first | refine bN_q ?_ _ | refine bW_q ?_ | refine bL_q ?_ _)); refine blk_far ?_ NB283_293.out _; (with_reducible repeat (first | refine bN_q ?_ _ | refine bW_q ?_ | refine bL_q ?_ _)); refine blk_far ?_ NB283_293.out _; (with_reducible repeat (first | refine bN_q ?_ _ | refine bW_q ?_ | refine bL_q ?_ _)); exact BK283.out) hb); have n5_ := Ae_q (bB_q (g := gb293) (o := .cells #[.int .i64 t288, .slice Ao27 t289.length co27] 41 (0, 0)) (by (with_reducible repeat (first | refine bN_q ?_ _ | refine bW_q ?_ | refine bL_q ?_ _)); refine blk_put (cs := #[.int .i64 t288, .slice none 0 0]) ?_ 1 _ rfl; (with_reducible repeat (first | refine bN_q ?_ _ | refine bW_q ?_ | refine bL_q ?_ _)); refine blk_put (cs := #[.int .i64 0, .slice none 0 0]) ?_ 0 _ rfl; (with_reducible repeat (first | refine bN_q ?_ _ | refine bW_q ?_ | refine bL_q ?_ _)); exact BK293.out) hb); have n6_ := Ae_q (kT_q (by repeat (first | (with_reducible first | exact HK.out | apply kS_q | apply kN_q | apply kD_q | apply kA_q | refine kF_q ?_ GW283.out _ | refine kF_q ?_ GW293.out _) | exact HK.out)) (kO_q hb g none) (.inl rfl)); have n7_ := Ae_q (bT_q (by repeat (first | (with_reducible first | exact HB.out | apply bA_q | apply pB_q | apply bD_q | refine bS_q ?_ (i5_q HI0.out) | refine bS_q ?_ GE283.out | refine bS_q ?_ GE293.out) | exact HB.out)) hb); clear HO286; clear HO291; clear HI0; clear BK283; clear BK293; clear HK; clear HB; have HO286 := n0_; have HO291 := n1_; have HO296 := n2_; have HI0 := n3_; have BK283 := n4_; have BK293 := n5_; have HK := n6_; have HB := n7_; clear n0_ n1_ n2_ n3_ n4_ n5_ n6_ n7_; (try clear hb); (try clear hb2); (try clear hk); (try clear hi); (try clear ho0)) | ((with_reducible refine gC_q (f := 57) rfl ?_); refine gL_q (some 22) rfl rfl Try.func57 (by kernel_rfl) rfl #[.slice Ao28 t284.length co28] rfl (by (try simp only [lM_q, lC_q, lN_q]); first | done | rfl | (simp only [lD_q, lT_q]; rfl)) ?_; (with_reducible refine (spec_StepsEarly.calls k _ _ t284 t298 _ ?side1 ?side2 A19.out).mono ?_); (case side1 => repeat (first | exact (Kd.S_reads' HO286.out).2.2 | (with_reducible refine cA_q ?_ _) | (with_reducible refine cN_q ?_ _) | (with_reducible refine cD_q ?_))); (case side2 => exact (Kd.S_reads' HO286.out).2.1); rintro e w30 ⟨v299, rfl, ho0, hb⟩; refine ⟨_, rfl, ?_⟩; have n0_ := Ae_q (Kd.S_elder' (by (with_reducible repeat (first | apply tA_q | apply tN_q | apply tD_q)); exact HO286.out) (rB_q ho0) hb); have n1_ := Ae_q (rE_q (rup HO291.out) (rB_q ho0) hb); have n2_ := Ae_q (rE_q (rup HO296.out) (rB_q ho0) hb); have n3_ := Ae_q (rL_q (rW_q (rW_q ho0 (rT_q (rup HO291.out))) (rT_q (rup HO296.out))) (keep_size (w := w) (g := g) (row := none) (by repeat (first | (with_reducible first | exact HK.out | apply kS_q | apply kN_q | apply kD_q | apply kA_q | refine kF_q ?_ GW283.out _ | refine kF_q ?_ GW293.out _) | exact HK.out)))); have n4_ := Ae_q (i6_q (by repeat (first | (with_reducible first | exact HI0.out | apply i2_q | apply i1_q | apply i0_q | apply i3_q | refine i4_q ?_ NB0_283.out _ | refine i4_q ?_ NB0_293.out _) | exact HI0.out)) hb); have n5_ := Ae_q (bB_q (g := gb283) (o := .cells #[.int .i64 0, .slice none 0 0] 41 (0, 0)) (bup BK283.out) hb); have n6_ := Ae_q (bB_q (g := gb293) (o := .cells #[.int .i64 t288, .slice Ao27 t289.length co27] 41 (0, 0)) (bup BK293.out) hb); have n7_ := Ae_q (kT_q (by repeat (first | (with_reducible first | exact HK.out | apply kS_q | apply kN_q | apply kD_q | apply kA_q | refine kF_q ?_ GW283.out _ | refine kF_q ?_ GW293.out _) | exact HK.out)) (kO_q hb g none) (.inl rfl)); have n8_ := Ae_q (bT_q (by repeat (first | (with_reducible first | exact HB.out | apply bA_q | apply pB_q | apply bD_q | refine bS_q ?_ (i5_q HI0.out) | refine bS_q ?_ GE283.out | refine bS_q ?_ GE293.out) | exact HB.out)) hb); clear HO286; clear HO291; clear HO296; clear HI0; clear BK283; clear BK293; clear HK; clear HB; have HO286 := n0_; have HO291 := n1_; have HO296 := n2_; have HO300 := n3_; have HI0 := n4_; have BK283 := n5_; have BK293 := n6_; have HK := n7_; have HB := n8_; clear n0_ n1_ n2_ n3_ n4_ n5_ n6_ n7_ n8_; (try clear hb); (try clear hb2); (try clear hk); (try clear hi); (try clear ho0)))
 have n0_ := Ae_q (tD_q HO286.out)
 have n1_ := Ae_q (rD_q HO291.out)
 have n2_ := Ae_q (rD_q HO296.out)
 have n3_ := Ae_q (rD_q HO300.out)
 have n4_ := Ae_q (bW_q BK283.out)
 have n5_ := Ae_q (bW_q BK293.out)
 have n6_ := Ae_q (i0_q HI0.out)
 have n7_ := Ae_q (kD_q HK.out)
 have n8_ := Ae_q (bD_q HB.out)
 clear HO286
 clear HO291
 clear HO296
 clear HO300
 clear BK283
 clear BK293
 clear HI0
 clear HK
 clear HB
 have HO286 := n0_
 have HO291 := n1_
 have HO296 := n2_
 have HO300 := n3_
 have BK283 := n4_
 have BK293 := n5_
 have HI0 := n6_
 have HK := n7_
 have HB := n8_
 clear n0_ n1_ n2_ n3_ n4_ n5_ n6_ n7_ n8_
 refine start_ (n := 6) (S := fun w' => w'.cell? ⟨gb293, 0, none⟩ = some (.int .i64 t288) ∧ w'.cell? ⟨gb293, 1, none⟩ = some (.slice Ao27 t289.length co27)) (ds := []) #[false, false, false, false, false, false] (by kernel_rfl) rfl rfl ⟨(bC_q BK293.out 0).trans rfl, (bC_q BK293.out 1).trans rfl⟩ (fun hHeld => ?_)
 generalize w30.drew = w31 at HO286 HO291 HO296 HO300 BK283 BK293 HI0 HK HB hHeld ⊢
 refine pure_ (i := 0) (N := some 23) (v := ?_) (a' := ?_) #[true, false, false, false, false, false] rfl rfl (by kernel_rfl) (fun _ _ _ h => h) (Or.inl ⟨by rfl, ?_⟩) ?_ ?_
 rotate_left
 ·intro w'
  go_simp
  with_reducible rfl
 rotate_left
 ·simp only [Act.put, sA_q, sZ_q, sS_q, i64_w, i32_w]
  rfl
 refine pure_ (i := 2) (N := some 25) (v := ?_) (a' := ?_) #[true, false, true, false, false, false] rfl rfl (by kernel_rfl) (fun _ _ _ h => h) (Or.inl ⟨by rfl, ?_⟩) ?_ ?_
 rotate_left
 ·intro w'
  go_simp
  with_reducible rfl
 rotate_left
 ·simp only [Act.put, sA_q, sZ_q, sS_q, i64_w, i32_w]
  rfl
 refine pure_ (i := 3) (N := some 2) (v := ?_) (a' := ?_) #[true, false, true, true, false, false] rfl rfl (by kernel_rfl) (fun _ _ _ h => h) (Or.inl ⟨by rfl, ?_⟩) ?_ ?_
 rotate_left
 ·intro w'
  go_simp
  with_reducible rfl
 rotate_left
 ·simp only [Act.put, sA_q, sZ_q, sS_q, i64_w, i32_w]
  rfl
 refine take_ (i := 1) (N := some 24) (v := ?_) (a' := ?_) #[true, true, true, true, false, false] rfl rfl (by kernel_rfl) (fun _ _ _ h => h) (Or.inl ⟨by rfl, ?_⟩) hHeld ?_ ?_
 rotate_left
 ·rintro w' ⟨s0, s1⟩
  go_simp
  with_reducible rfl
 rotate_left
 ·simp only [Act.put, sA_q, sZ_q, sS_q, i64_w, i32_w]
  rfl
 refine one_ (i := 4) (N := none) #[true, true, true, true, true, false] rfl rfl (by kernel_rfl) (by decide) (fun K hK => ?_)
 have hs32 : w31.cell? ⟨gb283, 0, none⟩ = some (.int .i64 0) := (bC_q BK283.out 0).trans rfl
 have hfs32 := bF_q BK283.out 0
 have hns32_1 := NB293_283.out
 have hms32_1 := NB283_293.out
 have hs33 : w31.cell? ⟨gb283, 1, none⟩ = some (.slice none 0 0) := (bC_q BK283.out 1).trans rfl
 have hfs33 := bF_q BK283.out 1
 have hns33_1 := NB293_283.out
 have hms33_1 := NB283_293.out
 refine skip_ (w1 := ?_) (by rfl) rfl ?_ ?_
 rotate_left
 ·go_simp
  rfl
 refine hK.out _ _ ⟨((cell_far (p := ⟨gb283, _, none⟩) NB293_283.out _).trans (((cell_far (p := ⟨gb283, _, none⟩) NB293_283.out _).trans (hHeld.1)))), ((cell_far (p := ⟨gb283, _, none⟩) NB293_283.out _).trans (((cell_far (p := ⟨gb283, _, none⟩) NB293_283.out _).trans (hHeld.2))))⟩ (fun hHeld => ?_)
 clear hK K
 refine pure_ (i := 5) (N := some 4) (v := ?_) (a' := ?_) #[true, true, true, true, true, true] rfl rfl (by kernel_rfl) (fun _ _ _ h => h) (Or.inl ⟨by rfl, ?_⟩) ?_ ?_
 rotate_left
 ·intro w'
  go_simp
  with_reducible rfl
 rotate_left
 ·simp only [Act.put, sA_q, sZ_q, sS_q, i64_w, i32_w]
  rfl
 refine done_ (by kernel_rfl) ?_
 try go_wp2
 refine bodyPost_ret (results_list (rs := [.tmp 2, .cell 3 41, .tmp 4]) rfl (by simp) (.tmp (.cell gb283 41 #[.int .i64 t288, .slice Ao27 t289.length co27] (0, 0) _ rfl (by (with_reducible repeat (first | refine bN_q ?_ _ | refine bW_q ?_ | refine bL_q ?_ _)); refine blk_put (cs := #[.int .i64 t288, .slice none 0 0]) ?_ 1 _ rfl; (with_reducible repeat (first | refine bN_q ?_ _ | refine bW_q ?_ | refine bL_q ?_ _)); refine blk_put (cs := #[.int .i64 0, .slice none 0 0]) ?_ 0 _ rfl; (with_reducible repeat (first | refine bN_q ?_ _ | refine bW_q ?_ | refine bL_q ?_ _)); exact BK283.out) Try.underlying41 rfl (by kernel_rfl) (.tmp .nil)))) rfl ?_
 exact ⟨_, _, _, by first | rfl | (simp [eN_q, eS_q] <;> rfl) | (simp [*, eN_q, eS_q] <;> rfl), by (with_reducible repeat (first | apply tA_q | apply tN_q | apply tD_q)); exact Kd.S_mono (Kd.S_far (p := ⟨gb283, 1, none⟩) (Kd.S_far (p := ⟨gb283, 0, none⟩) (Kd.S_types HO286.out BK283.out (by decide)) (fun _ hk => hk.2) (.int .i64 t288)) (fun _ hk => hk.2) (.slice Ao27 t289.length co27)) (fun _ hk => ⟨hk.1.1.1.2, hk.1.2⟩), by (with_reducible repeat (first | apply rA_q | apply rN_q | apply rD_q)); exact rM_q (Kd.R_far (p := ⟨gb283, 1, none⟩) (Kd.R_far (p := ⟨gb283, 0, none⟩) (Kd.R_types HO291.out BK283.out (by decide)) (fun _ hk => hk.2) (.int .i64 t288)) (fun _ hk => hk.2) (.slice Ao27 t289.length co27)) (fun _ hk => hk.1.2), by (with_reducible repeat (first | apply rA_q | apply rN_q | apply rD_q)); exact rM_q (Kd.R_far (p := ⟨gb283, 1, none⟩) (Kd.R_far (p := ⟨gb283, 0, none⟩) (Kd.R_types HO300.out BK283.out (by decide)) (fun _ hk => hk.2) (.int .i64 t288)) (fun _ hk => hk.2) (.slice Ao27 t289.length co27)) (fun _ hk => hk.1.1.2), by repeat (first | (with_reducible first | exact HI0.out | apply i2_q | apply i1_q | apply i0_q | apply i3_q | refine i4_q ?_ NB0_283.out _ | refine i4_q ?_ NB0_293.out _) | exact HI0.out), by repeat (first | (with_reducible first | exact HB.out | apply bA_q | apply pB_q | apply bD_q | refine bS_q ?_ (i5_q HI0.out) | refine bS_q ?_ GE283.out | refine bS_q ?_ GE293.out) | exact HB.out), by repeat (first | (with_reducible first | exact HK.out | apply kS_q | apply kN_q | apply kD_q | apply kA_q | refine kF_q ?_ GW283.out _ | refine kF_q ?_ GW293.out _) | exact HK.out)⟩

def impl_within.f (a0 : Int) (a1 : Int) (a2 : Int) : Option (Bool) := if a0 ≥ a1 then (some (decide (a0 ≤ a2))) else (some false)
set_option maxHeartbeats 8000000 in
set_option maxRecDepth 100000 in
theorem impl_within.calls (a0 : Int) (a1 : Int) (a2 : Int) (r : Bool) (w : World) (h : impl_within.f a0 a1 a2 = some r) :
    Calls Try.prog 64 #[.int .i64 a0, .int .i64 a1, .int .i64 a2] w fun e w' => e = .returned (.bool r) ∧ Drawn0 w w' := by
 have H : (if a0 ≥ a1 then (some (decide (a0 ≤ a2))) else (some false)) = some r := h
 clear h
 by_cases c4 : a0 ≥ a1
 ·rw [if_pos c4] at H
  have c4b0 : decide (a1 ≤ a0) = true := dT_q c4
  clear c4
  obtain rfl := oI_q H
  go_enter Try.func64, Try.ntmps64
  go_wp2
  go_ret
  exact ⟨by first | rfl | (simp; done) | (simp [*]; done), by repeat (first | exact Drawn0.refl _ | apply Drawn0.step)⟩
 rw [if_neg c4] at H
 have c4b0 : decide (a1 ≤ a0) = false := dF_q c4
 clear c4
 obtain rfl := oI_q H
 go_enter Try.func64, Try.ntmps64
 go_wp2
 go_ret
 exact ⟨by first | rfl | (simp; done) | (simp [*]; done), by repeat (first | exact Drawn0.refl _ | apply Drawn0.step)⟩

end Go.Proofs.Ytoaigcdoblnmhaa.PPn
