import Derived.Test.YtjnagefogjkbbaaVbPPlx0
namespace Go.Proofs.Ytjnagefogjkbbaa.PPl
open Go.RowKit Go.Proofs.YtjnagefogjkbbaaW.PrintWords Go.Proofs.YtjnagefogjkbbaaW.PrintLast Go.Proofs.YtjnagefogjkbbaaW.PrintMore
attribute [local go_sem] max2_int min2_int max_two min_two max_three min_three max_four min_four
set_option linter.unusedVariables false
set_option linter.unusedSimpArgs false

def spec_l32After.l0 : Nat → List (S59) → List Int → Int → Int → Int → Option (Int)
 | 0, _, _, _, _, _ => none
 | k + 1, x0, x1, x2, x7, x8 => if 0 ≤ x2 then (if x2 < (x0.length : Int) then (if x8 < (((rd_T59 x0 x2).f3).length : Int) then (if 0 ≤ x8 then (if 0 ≤ (rd ((rd_T59 x0 x2).f3) x8) then (if (rd ((rd_T59 x0 x2).f3) x8) < (x1.length : Int) then (if (rd ((rd_T59 x0 x2).f3) x8) < (x0.length : Int) then (spec_l32After.l0 k x0 x1 x2 (mx x7 (wrap64 ((rd x1 (rd ((rd_T59 x0 x2).f3) x8)) + ((rd_T59 x0 (rd ((rd_T59 x0 x2).f3) x8)).f0)))) (wrap64 (x8 + 1))) else (none)) else (none)) else (none)) else (none)) else (some x7)) else (none)) else (none)
def spec_l32After.f (k : Nat) (l0 : List (S59)) (l1 : List Int) (a2 : Int) : Option (Int) := spec_l32After.l0 k l0 l1 a2 0 0
theorem spec_l32After.mono_l : ∀ k, (∀ y0 y1 y2 y3 y4, LeO (spec_l32After.l0 k y0 y1 y2 y3 y4) (spec_l32After.l0 (k + 1) y0 y1 y2 y3 y4))
 | 0 => fun _ _ _ _ _ r h => by simp [spec_l32After.l0] at h
 | k + 1 => by
  have ih0 := spec_l32After.mono_l k
  intro y0 y1 y2 y3 y4
  unfold spec_l32After.l0
  repeat' first
  | (with_reducible exact ih0 _ _ _ _ _)
  | (with_reducible exact lR_q _)
  | (with_reducible exact lO_q _)
  | (with_reducible refine lI_q ?_ ?_)
  | (with_reducible refine lB_q ?_ (fun _ => ?_))
  | exact ih0 _ _ _ _ _
  | exact lO_q _
  | refine lI_q ?_ ?_
  | refine lB_q ?_ (fun _ => ?_)
theorem spec_l32After.mono : ∀ a0 a1 a2 k, LeO (spec_l32After.f k a0 a1 a2) (spec_l32After.f (k + 1) a0 a1 a2) := by
 intro a0 a1 a2 k
 have ih0 := spec_l32After.mono_l k
 unfold spec_l32After.f
 repeat' first
  | (with_reducible exact ih0 _ _ _ _ _)
  | (with_reducible exact lR_q _)
  | (with_reducible exact lO_q _)
  | (with_reducible refine lI_q ?_ ?_)
  | (with_reducible refine lB_q ?_ (fun _ => ?_))
  | exact ih0 _ _ _ _ _
  | exact lO_q _
  | refine lI_q ?_ ?_
  | refine lB_q ?_ (fun _ => ?_)
set_option maxHeartbeats 8000000 in
set_option maxRecDepth 100000 in
theorem spec_l32After.calls (k : Nat) (A0 : Option Addr) (c0 : Nat) (l0 : List (S59)) (A1 : Option Addr) (c1 : Nat) (l1 : List Int) (a2 : Int) (r : Int) (w : World) (hr0 : Kd.C k59 w A0 l0.length l0) (hc0 : l0.length ≤ c0) (hr1 : Kd.C kI_q w A1 l1.length l1) (hc1 : l1.length ≤ c1) (h : spec_l32After.f k l0 l1 a2 = some r) :
    Calls Try.prog 33 #[.slice A0 l0.length c0, .slice A1 l1.length c1, .int .i64 a2] w fun e w' => e = .returned (.int .i64 r) ∧ Below w.heap.size w w' := by
 have HR0 := Ae_q hr0
 have HC0 := Ae_q hc0
 clear hr0 hc0
 have HR1 := Ae_q hr1
 have HC1 := Ae_q hc1
 clear hr1 hc1
 have HB := Ae_q (bR_q w.heap.size w)
 have H : (spec_l32After.l0 k l0 l1 a2 0 0) = some r := h
 clear h
 have H' := Ae_q H
 clear H
 go_enter Try.func33, Try.ntmps33
 go_wp2
 repeat (go_quiet (fail); try go_wp2)
 go_loopg [7, 8] k (fun kq v7 v8 w' => ∃ (x7_1 : Int) (x8_1 : Int), v7 = .int .i64 x7_1 ∧ v8 = .int .i64 x8_1 ∧ Aside0 (spec_l32After.l0 kq l0 l1 a2 x7_1 x8_1 = some r) ∧ Aside0 (kq ≤ k) ∧ Aside0 (Below w.heap.size w w'))
 case atStart => exact ⟨(0), (0), (by first | rfl | (simp; done) | (simp [*]; done)), (by first | rfl | (simp; done) | (simp [*]; done)), H', ⟨nR_q _⟩, ⟨bel HB.out⟩⟩
 case round =>
  clear H'
  try clear c1
  try clear p2
  try clear c3
  obtain ⟨x7_1, x8_1, rfl, rfl, HA, HK1, HB⟩ := hrel
  cases gk with
  | zero => exact absurd HA.out (by simp [spec_l32After.l0])
  | succ k1 =>
   have H := HA.out
   clear HA
   simp only [spec_l32After.l0] at H
   by_cases c4 : 0 ≤ a2
   ·rw [if_pos c4] at H
    have c4b0 : decide (0 ≤ a2) = true := dT_q c4
    clear c4
    by_cases c5 : a2 < (l0.length : Int)
    ·rw [if_pos c5] at H
     have c5b0 : decide (a2 < (l0.length : Int)) = true := dT_q c5
     clear c5
     by_cases c6 : x8_1 < (((rd_T59 l0 a2).f3).length : Int)
     ·rw [if_pos c6] at H
      have c6b0 : decide (x8_1 < (((rd_T59 l0 a2).f3).length : Int)) = true := dT_q c6
      clear c6
      by_cases c7 : 0 ≤ x8_1
      ·rw [if_pos c7] at H
       have c7b0 : decide (0 ≤ x8_1) = true := dT_q c7
       clear c7
       by_cases c8 : 0 ≤ (rd ((rd_T59 l0 a2).f3) x8_1)
       ·rw [if_pos c8] at H
        have c8b0 : decide (0 ≤ (rd ((rd_T59 l0 a2).f3) x8_1)) = true := dT_q c8
        clear c8
        by_cases c9 : (rd ((rd_T59 l0 a2).f3) x8_1) < (l1.length : Int)
        ·rw [if_pos c9] at H
         have c9b0 : decide ((rd ((rd_T59 l0 a2).f3) x8_1) < (l1.length : Int)) = true := dT_q c9
         clear c9
         by_cases c10 : (rd ((rd_T59 l0 a2).f3) x8_1) < (l0.length : Int)
         ·rw [if_pos c10] at H
          have c10b0 : decide ((rd ((rd_T59 l0 a2).f3) x8_1) < (l0.length : Int)) = true := dT_q c10
          clear c10
          obtain ⟨ji11, hji11⟩ : ∃ j_ : Int, (mx x7_1 (wrap64 ((rd l1 (rd ((rd_T59 l0 a2).f3) x8_1)) + ((rd_T59 l0 (rd ((rd_T59 l0 a2).f3) x8_1)).f0)))) = j_ := ⟨_, rfl⟩
          replace H : (spec_l32After.l0 k1 l0 l1 a2 ji11 (wrap64 (x8_1 + 1))) = some r := by first | (rw [hji11] at H; exact H) | (simp only [hji11] at H ⊢; exact H)
          have hji11_ : (if x7_1 < (wrap64 ((rd l1 (rd ((rd_T59 l0 a2).f3) x8_1)) + ((rd_T59 l0 (rd ((rd_T59 l0 a2).f3) x8_1)).f0))) then (wrap64 ((rd l1 (rd ((rd_T59 l0 a2).f3) x8_1)) + ((rd_T59 l0 (rd ((rd_T59 l0 a2).f3) x8_1)).f0))) else x7_1) = ji11 := hji11
          have H' := Ae_q H
          clear H
          have p303 : 0 ≤ (a2 : Int) := oD_q (by assumption)
          have q303 : a2 < (l0.length : Int) := oD_q (by assumption)
          obtain ⟨ad303, A303_3, c303_3, e303, hx303_0, hx303_1, hx303_2, hx303_3, hl303_3, hi303_3⟩ := at_T59 HR0.out a2 p303 q303
          cases e303
          replace hx303_0 := cel HB.out hx303_0
          replace hx303_1 := cel HB.out hx303_1
          replace hx303_2 := cel HB.out hx303_2
          replace hx303_3 := cel HB.out hx303_3
          have HR303_3 := Ae_q hi303_3
          have HC303_3 := Ae_q hl303_3
          clear hi303_3 hl303_3
          replace p303 := eq_true p303
          replace q303 := eq_true q303
          have p304 : 0 ≤ (a2 : Int) := oD_q (by assumption)
          have q304 : a2 < (l0.length : Int) := oD_q (by assumption)
          obtain ⟨ad304, A304_3, c304_3, e304, hx304_0, hx304_1, hx304_2, hx304_3, hl304_3, hi304_3⟩ := at_T59 HR0.out a2 p304 q304
          obtain rfl : ad303 = ad304 := (by injection e304)
          replace hx304_0 := cel HB.out hx304_0
          replace hx304_1 := cel HB.out hx304_1
          replace hx304_2 := cel HB.out hx304_2
          replace hx304_3 := cel HB.out hx304_3
          have HR304_3 := Ae_q hi304_3
          have HC304_3 := Ae_q hl304_3
          clear hi304_3 hl304_3
          replace p304 := eq_true p304
          replace q304 := eq_true q304
          have ea_ := oI_q (hx303_3.symm.trans hx304_3)
          injection ea_ with ea_ en_ ec_
          subst ea_
          subst ec_
          clear en_
          have p305 : 0 ≤ (x8_1 : Int) := oD_q (by assumption)
          have q305 : x8_1 < (((rd_T59 l0 a2).f3).length : Int) := oD_q (by assumption)
          obtain ⟨ad305, e305, hx305_0⟩ := aI_q HR304_3.out x8_1 p305 q305
          cases e305
          replace hx305_0 := cel HB.out hx305_0
          replace p305 := eq_true p305
          replace q305 := eq_true q305
          have p306 : 0 ≤ ((rd ((rd_T59 l0 a2).f3) x8_1) : Int) := oD_q (by assumption)
          have q306 : (rd ((rd_T59 l0 a2).f3) x8_1) < (l1.length : Int) := oD_q (by assumption)
          obtain ⟨ad306, e306, hx306_0⟩ := aI_q HR1.out (rd ((rd_T59 l0 a2).f3) x8_1) p306 q306
          cases e306
          replace hx306_0 := cel HB.out hx306_0
          replace p306 := eq_true p306
          replace q306 := eq_true q306
          have p307 : 0 ≤ ((rd ((rd_T59 l0 a2).f3) x8_1) : Int) := oD_q (by assumption)
          have q307 : (rd ((rd_T59 l0 a2).f3) x8_1) < (l0.length : Int) := oD_q (by assumption)
          obtain ⟨ad307, A307_3, c307_3, e307, hx307_0, hx307_1, hx307_2, hx307_3, hl307_3, hi307_3⟩ := at_T59 HR0.out (rd ((rd_T59 l0 a2).f3) x8_1) p307 q307
          obtain rfl : ad303 = ad307 := (by injection e307)
          replace hx307_0 := cel HB.out hx307_0
          replace hx307_1 := cel HB.out hx307_1
          replace hx307_2 := cel HB.out hx307_2
          replace hx307_3 := cel HB.out hx307_3
          have HR307_3 := Ae_q hi307_3
          have HC307_3 := Ae_q hl307_3
          clear hi307_3 hl307_3
          replace p307 := eq_true p307
          replace q307 := eq_true q307
          go_wp2
          repeat (go_quiet (fail); try go_wp2)
          go_roundg k1
          case measure => have := HK1.out; omega
          case rel => exact ⟨(ji11), (wrap64 (x8_1 + 1)), (by first | rfl | (simp; done) | (simp only [← hji11] <;> (first | rfl | simp)) | (simp [*]; done)), (by first | rfl | (simp; done) | (simp [*]; done)), H', ⟨by have := HK1.out; omega⟩, ⟨bel HB.out⟩⟩
         rw [if_neg c10] at H
         exact absurd H (by simp)
        rw [if_neg c9] at H
        exact absurd H (by simp)
       rw [if_neg c8] at H
       exact absurd H (by simp)
      rw [if_neg c7] at H
      exact absurd H (by simp)
     rw [if_neg c6] at H
     have c6b0 : decide (x8_1 < (((rd_T59 l0 a2).f3).length : Int)) = false := dF_q c6
     clear c6
     obtain rfl := oI_q H
     have p303 : 0 ≤ (a2 : Int) := oD_q (by assumption)
     have q303 : a2 < (l0.length : Int) := oD_q (by assumption)
     obtain ⟨ad303, A303_3, c303_3, e303, hx303_0, hx303_1, hx303_2, hx303_3, hl303_3, hi303_3⟩ := at_T59 HR0.out a2 p303 q303
     cases e303
     replace hx303_0 := cel HB.out hx303_0
     replace hx303_1 := cel HB.out hx303_1
     replace hx303_2 := cel HB.out hx303_2
     replace hx303_3 := cel HB.out hx303_3
     have HR303_3 := Ae_q hi303_3
     have HC303_3 := Ae_q hl303_3
     clear hi303_3 hl303_3
     replace p303 := eq_true p303
     replace q303 := eq_true q303
     go_wp2
     repeat (go_quiet (fail); try go_wp2)
     go_ret
     exact ⟨by first | rfl | (simp [eN_q, eS_q] <;> rfl) | (simp [*, eN_q, eS_q] <;> rfl), bel HB.out⟩
    rw [if_neg c5] at H
    exact absurd H (by simp)
   rw [if_neg c4] at H
   exact absurd H (by simp)

def spec_l32On.f (a0_0 : Int) (a0_1 : Int) (a0_2 : Int) (l0_3 : List Int) (a1 : Int) (a2 : Int) : Option (Bool) := if a1 ≤ a2 then (some (decide (a2 < (wrap64 (a1 + a0_0))))) else (some false)
set_option maxHeartbeats 8000000 in
set_option maxRecDepth 100000 in
theorem spec_l32On.calls (a0_0 : Int) (a0_1 : Int) (a0_2 : Int) (A0_3 : Option Addr) (c0_3 : Nat) (l0_3 : List Int) (a1 : Int) (a2 : Int) (r : Bool) (w : World) (hr0_3 : Kd.C kI_q w A0_3 l0_3.length l0_3) (hc0_3 : l0_3.length ≤ c0_3) (h : spec_l32On.f a0_0 a0_1 a0_2 l0_3 a1 a2 = some r) :
    Calls Try.prog 41 #[.agg #[.int .i64 a0_0, .int .i64 a0_1, .int .i64 a0_2, .slice A0_3 l0_3.length c0_3], .int .i64 a1, .int .i64 a2] w fun e w' => e = .returned (.bool r) ∧ Below w.heap.size w w' := by
 have hu59 := Try.underlying59
 have HR0_3 := Ae_q hr0_3
 have HC0_3 := Ae_q hc0_3
 clear hr0_3 hc0_3
 have HB := Ae_q (bR_q w.heap.size w)
 have H : (if a1 ≤ a2 then (some (decide (a2 < (wrap64 (a1 + a0_0))))) else (some false)) = some r := h
 clear h
 by_cases c4 : a1 ≤ a2
 ·rw [if_pos c4] at H
  have c4b0 : decide (a1 ≤ a2) = true := dT_q c4
  clear c4
  obtain rfl := oI_q H
  go_enter Try.func41, Try.ntmps41
  go_wp2_with (first | ((with_reducible refine gD_q (N := 3) rfl ?_); refine bE_q ?hg (N := 3) ?hd (cs := #[.int .i64 a0_0, .int .i64 a0_1, .int .i64 a0_2, .slice A0_3 l0_3.length c0_3]) (t := 59) ?hr ?_; (case hd => rfl); (case hg => rfl); (case hr => first | (go_simp; done) | (go_simp; rfl)); intro gb308 hg w5 hbox hb; have n0_ := Ae_q (bT_q (bel HB.out) hb); have n1_ := Ae_q (hbox); have n2_ := Ae_q ((by rw [hg]; exact (bZ_q (bel HB.out)) : w.heap.size ≤ gb308)); have n3_ := Ae_q ((by rw [hg]; exact (bZ_q (bel HB.out)) : w.heap.size ≤ gb308)); clear HB; have HB := n0_; have BK308 := n1_; have GW308 := n2_; have GE308 := n3_; clear n0_ n1_ n2_ n3_; clear hb hbox hg; have hcz6_0 : w5.cell? ⟨gb308, 0, none⟩ = some (.int .i64 a0_0) := (bC_q BK308.out 0).trans rfl; have hcz6_1 : w5.cell? ⟨gb308, 1, none⟩ = some (.int .i64 a0_1) := (bC_q BK308.out 1).trans rfl; have hcz6_2 : w5.cell? ⟨gb308, 2, none⟩ = some (.int .i64 a0_2) := (bC_q BK308.out 2).trans rfl; have hcz6_3 : w5.cell? ⟨gb308, 3, none⟩ = some (.slice A0_3 l0_3.length c0_3) := (bC_q BK308.out 3).trans rfl; have hfz6_0 := bF_q BK308.out 0; have hfz6_1 := bF_q BK308.out 1; have hfz6_2 := bF_q BK308.out 2; have hfz6_3 := bF_q BK308.out 3))
  go_ret
  exact ⟨by first | rfl | (simp [eN_q, eS_q] <;> rfl) | (simp [*, eN_q, eS_q] <;> rfl), by repeat (with_reducible first | exact HB.out | apply bA_q | apply pB_q | apply bD_q | refine bS_q ?_ GE308.out)⟩
 rw [if_neg c4] at H
 have c4b0 : decide (a1 ≤ a2) = false := dF_q c4
 clear c4
 obtain rfl := oI_q H
 go_enter Try.func41, Try.ntmps41
 go_wp2_with (first | ((with_reducible refine gD_q (N := 3) rfl ?_); refine bE_q ?hg (N := 3) ?hd (cs := #[.int .i64 a0_0, .int .i64 a0_1, .int .i64 a0_2, .slice A0_3 l0_3.length c0_3]) (t := 59) ?hr ?_; (case hd => rfl); (case hg => rfl); (case hr => first | (go_simp; done) | (go_simp; rfl)); intro gb308 hg w7 hbox hb; have n0_ := Ae_q (bT_q (bel HB.out) hb); have n1_ := Ae_q (hbox); have n2_ := Ae_q ((by rw [hg]; exact (bZ_q (bel HB.out)) : w.heap.size ≤ gb308)); have n3_ := Ae_q ((by rw [hg]; exact (bZ_q (bel HB.out)) : w.heap.size ≤ gb308)); clear HB; have HB := n0_; have BK308 := n1_; have GW308 := n2_; have GE308 := n3_; clear n0_ n1_ n2_ n3_; clear hb hbox hg))
 go_ret
 exact ⟨by first | rfl | (simp [eN_q, eS_q] <;> rfl) | (simp [*, eN_q, eS_q] <;> rfl), by repeat (with_reducible first | exact HB.out | apply bA_q | apply pB_q | apply bD_q | refine bS_q ?_ GE308.out)⟩

end Go.Proofs.Ytjnagefogjkbbaa.PPl
