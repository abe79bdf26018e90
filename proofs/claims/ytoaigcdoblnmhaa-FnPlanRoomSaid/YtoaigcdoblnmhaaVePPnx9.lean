import Derived.Test.YtoaigcdoblnmhaaVePPnx0
import Derived.Test.YtoaigcdoblnmhaaVePPnx8
namespace Go.Proofs.Ytoaigcdoblnmhaa.PPn
open Go.RowKit Go.Proofs.YtoaigcdoblnmhaaW.PrintWords Go.Proofs.YtoaigcdoblnmhaaW.PrintLast Go.Proofs.YtoaigcdoblnmhaaW.PrintMore
attribute [local go_sem] max2_int min2_int max_two min_two max_three min_three max_four min_four
set_option linter.unusedVariables false
set_option linter.unusedSimpArgs false

mutual
def impl_StepsValid.l0 : Nat → List (S31) → List (S31) → Int → Int → Option (Bool)
 | 0, _, _, _, _ => none
 | k + 1, x0, x7, x8, x9 => if x9 < x8 then (if 0 ≤ x9 then (if x9 < (x7.length : Int) then ((impl_within.f ((rd_T31 x7 x9).f0) 1 99).bind fun t320 => (if t320 = true then ((impl_within.f ((rd_T31 x7 x9).f1) 0 4).bind fun t321 => (if t321 = true then ((impl_within.f ((rd_T31 x7 x9).f2) 0 4).bind fun t322 => (impl_StepsValid.j1 k x0 x9 x7 x8 x9 (!t322) ((rd_T31 x7 x9).f0) ((rd_T31 x7 x9).f1) ((rd_T31 x7 x9).f2) ((rd_T31 x7 x9).f3))) else (impl_StepsValid.j1 k x0 x9 x7 x8 x9 true ((rd_T31 x7 x9).f0) ((rd_T31 x7 x9).f1) ((rd_T31 x7 x9).f2) ((rd_T31 x7 x9).f3)))) else (impl_StepsValid.j1 k x0 x9 x7 x8 x9 true ((rd_T31 x7 x9).f0) ((rd_T31 x7 x9).f1) ((rd_T31 x7 x9).f2) ((rd_T31 x7 x9).f3)))) else (none)) else (none)) else (some (decide ((x0.length : Int) ≤ 8)))
def impl_StepsValid.j1 : Nat → List (S31) → Int → List (S31) → Int → Int → Bool → Int → Int → Int → List Int → Option (Bool)
 | 0, _, _, _, _, _, _, _, _, _, _ => none
 | k + 1, x0, x3, x7, x8, x9, x29, x320000, x320001, x320002, x320003 => if x29 = true then (some false) else (impl_StepsValid.l1 k x0 x3 x7 x8 x9 x320003 (x320003.length : Int) 0 x320000 x320001 x320002 x320003)
def impl_StepsValid.l1 : Nat → List (S31) → Int → List (S31) → Int → Int → List Int → Int → Int → Int → Int → Int → List Int → Option (Bool)
 | 0, _, _, _, _, _, _, _, _, _, _, _, _ => none
 | k + 1, x0, x3, x7, x8, x9, x31, x32, x33, x320000, x320001, x320002, x320003 => if x33 < x32 then (if 0 ≤ x33 then (if x33 < (x31.length : Int) then ((impl_within.f (rd x31 x33) 0 (wrap64 (x3 - 1))).bind fun t324 => (if t324 = true then (if x33 > 0 then (if 0 ≤ (wrap64 (x33 - 1)) then (if (wrap64 (x33 - 1)) < (x320003.length : Int) then (if (rd x320003 (wrap64 (x33 - 1))) ≥ (rd x31 x33) then (some false) else (impl_StepsValid.l1 k x0 x3 x7 x8 x9 x31 x32 (wrap64 (x33 + 1)) x320000 x320001 x320002 x320003)) else (none)) else (none)) else (impl_StepsValid.l1 k x0 x3 x7 x8 x9 x31 x32 (wrap64 (x33 + 1)) x320000 x320001 x320002 x320003)) else (some false))) else (none)) else (none)) else (impl_StepsValid.l0 k x0 x7 x8 (wrap64 (x9 + 1)))
end
def impl_StepsValid.f (k : Nat) (l0 : List (S31)) : Option (Bool) := impl_StepsValid.l0 k l0 l0 (l0.length : Int) 0
theorem impl_StepsValid.mono_l : ∀ k, (∀ y0 y1 y2 y3, LeO (impl_StepsValid.l0 k y0 y1 y2 y3) (impl_StepsValid.l0 (k + 1) y0 y1 y2 y3)) ∧ (∀ y0 y1 y2 y3 y4 y5 y6 y7 y8 y9, LeO (impl_StepsValid.j1 k y0 y1 y2 y3 y4 y5 y6 y7 y8 y9) (impl_StepsValid.j1 (k + 1) y0 y1 y2 y3 y4 y5 y6 y7 y8 y9)) ∧ (∀ y0 y1 y2 y3 y4 y5 y6 y7 y8 y9 y10 y11, LeO (impl_StepsValid.l1 k y0 y1 y2 y3 y4 y5 y6 y7 y8 y9 y10 y11) (impl_StepsValid.l1 (k + 1) y0 y1 y2 y3 y4 y5 y6 y7 y8 y9 y10 y11))
 | 0 => ⟨fun _ _ _ _ r h => by simp [impl_StepsValid.l0] at h, fun _ _ _ _ _ _ _ _ _ _ r h => by simp [impl_StepsValid.j1] at h, fun _ _ _ _ _ _ _ _ _ _ _ _ r h => by simp [impl_StepsValid.l1] at h⟩
 | k + 1 => by
  obtain ⟨ih0, ih1, ih2⟩ := impl_StepsValid.mono_l k
  refine ⟨?_, ?_, ?_⟩
  ·intro y0 y1 y2 y3
   unfold impl_StepsValid.l0
   repeat' first
   | (with_reducible exact ih0 _ _ _ _)
   | (with_reducible exact ih1 _ _ _ _ _ _ _ _ _ _)
   | (with_reducible exact ih2 _ _ _ _ _ _ _ _ _ _ _ _)
   | (with_reducible exact lR_q _)
   | (with_reducible exact lO_q _)
   | (with_reducible refine lI_q ?_ ?_)
   | (with_reducible refine lB_q ?_ (fun _ => ?_))
   | exact ih0 _ _ _ _
   | exact ih1 _ _ _ _ _ _ _ _ _ _
   | exact ih2 _ _ _ _ _ _ _ _ _ _ _ _
   | exact lO_q _
   | refine lI_q ?_ ?_
   | refine lB_q ?_ (fun _ => ?_)
  ·intro y0 y1 y2 y3 y4 y5 y6 y7 y8 y9
   unfold impl_StepsValid.j1
   repeat' first
   | (with_reducible exact ih0 _ _ _ _)
   | (with_reducible exact ih1 _ _ _ _ _ _ _ _ _ _)
   | (with_reducible exact ih2 _ _ _ _ _ _ _ _ _ _ _ _)
   | (with_reducible exact lR_q _)
   | (with_reducible exact lO_q _)
   | (with_reducible refine lI_q ?_ ?_)
   | (with_reducible refine lB_q ?_ (fun _ => ?_))
   | exact ih0 _ _ _ _
   | exact ih1 _ _ _ _ _ _ _ _ _ _
   | exact ih2 _ _ _ _ _ _ _ _ _ _ _ _
   | exact lO_q _
   | refine lI_q ?_ ?_
   | refine lB_q ?_ (fun _ => ?_)
  intro y0 y1 y2 y3 y4 y5 y6 y7 y8 y9 y10 y11
  unfold impl_StepsValid.l1
  repeat' first
  | (with_reducible exact ih0 _ _ _ _)
  | (with_reducible exact ih1 _ _ _ _ _ _ _ _ _ _)
  | (with_reducible exact ih2 _ _ _ _ _ _ _ _ _ _ _ _)
  | (with_reducible exact lR_q _)
  | (with_reducible exact lO_q _)
  | (with_reducible refine lI_q ?_ ?_)
  | (with_reducible refine lB_q ?_ (fun _ => ?_))
  | exact ih0 _ _ _ _
  | exact ih1 _ _ _ _ _ _ _ _ _ _
  | exact ih2 _ _ _ _ _ _ _ _ _ _ _ _
  | exact lO_q _
  | refine lI_q ?_ ?_
  | refine lB_q ?_ (fun _ => ?_)
theorem impl_StepsValid.mono : ∀ a0 k, LeO (impl_StepsValid.f k a0) (impl_StepsValid.f (k + 1) a0) := by
 intro a0 k
 obtain ⟨ih0, ih1, ih2⟩ := impl_StepsValid.mono_l k
 unfold impl_StepsValid.f
 repeat' first
  | (with_reducible exact ih0 _ _ _ _)
  | (with_reducible exact ih1 _ _ _ _ _ _ _ _ _ _)
  | (with_reducible exact ih2 _ _ _ _ _ _ _ _ _ _ _ _)
  | (with_reducible exact lR_q _)
  | (with_reducible exact lO_q _)
  | (with_reducible refine lI_q ?_ ?_)
  | (with_reducible refine lB_q ?_ (fun _ => ?_))
  | exact ih0 _ _ _ _
  | exact ih1 _ _ _ _ _ _ _ _ _ _
  | exact ih2 _ _ _ _ _ _ _ _ _ _ _ _
  | exact lO_q _
  | refine lI_q ?_ ?_
  | refine lB_q ?_ (fun _ => ?_)
set_option maxHeartbeats 8000000 in
set_option maxRecDepth 100000 in
theorem impl_StepsValid.calls (k : Nat) (A0 : Option Addr) (c0 : Nat) (l0 : List (S31)) (r : Bool) (w : World) (hr0 : Kd.C k31 w A0 l0.length l0) (hc0 : l0.length ≤ c0) (h : impl_StepsValid.f k l0 = some r) :
    Calls Try.prog 58 #[.slice A0 l0.length c0] w fun e w' => e = .returned (.bool r) ∧ Below w.heap.size w w' := by
 have hu31 := Try.underlying31
 have HR0 := Ae_q hr0
 have HC0 := Ae_q hc0
 clear hr0 hc0
 have HB := Ae_q (bR_q w.heap.size w)
 have H : (impl_StepsValid.l0 k l0 l0 (l0.length : Int) 0) = some r := h
 clear h
 have H' := Ae_q H
 clear H
 go_enter Try.func58, Try.ntmps58
 go_wp2
 go_loopg [9] k (fun kq v9 w' => ∃ (x9_1 : Int), v9 = .int .i64 x9_1 ∧ Aside0 (impl_StepsValid.l0 kq l0 l0 (l0.length : Int) x9_1 = some r) ∧ Aside0 (kq ≤ k) ∧ Aside0 (Below w.heap.size w w'))
 case atStart => exact ⟨(0), (by first | rfl | (simp; done) | (simp [*]; done)), H', ⟨nR_q _⟩, ⟨bel HB.out⟩⟩
 case round =>
  clear H'
  obtain ⟨x9_1, rfl, HA, HK1, HB⟩ := hrel
  cases gk with
  | zero => exact absurd HA.out (by simp [impl_StepsValid.l0])
  | succ k1 =>
   have H := HA.out
   clear HA
   simp only [impl_StepsValid.l0] at H
   by_cases c2 : x9_1 < (l0.length : Int)
   ·rw [if_pos c2] at H
    have c2b0 : decide (x9_1 < (l0.length : Int)) = true := dT_q c2
    clear c2
    by_cases c3 : 0 ≤ x9_1
    ·rw [if_pos c3] at H
     have c3b0 : decide (0 ≤ x9_1) = true := dT_q c3
     clear c3
     by_cases c4 : x9_1 < (l0.length : Int)
     ·rw [if_pos c4] at H
      have c4b0 : decide (x9_1 < (l0.length : Int)) = true := dT_q c4
      clear c4
      have HC5 := Ae_q H
      clear H
      have p318 : 0 ≤ (x9_1 : Int) := oD_q (by assumption)
      have q318 : x9_1 < (l0.length : Int) := oD_q (by assumption)
      obtain ⟨ad318, A318_3, c318_3, e318, hx318_0, hx318_1, hx318_2, hx318_3, hl318_3, hi318_3⟩ := at_T31 HR0.out x9_1 p318 q318
      cases e318
      replace hx318_0 := (HB.out.cell (wL_q w _ hx318_0)).trans hx318_0
      replace hx318_1 := (HB.out.cell (wL_q w _ hx318_1)).trans hx318_1
      replace hx318_2 := (HB.out.cell (wL_q w _ hx318_2)).trans hx318_2
      replace hx318_3 := (HB.out.cell (wL_q w _ hx318_3)).trans hx318_3
      have HR318_3 := Ae_q hi318_3
      have HC318_3 := Ae_q hl318_3
      clear hi318_3 hl318_3
      replace p318 := eq_true p318
      replace q318 := eq_true q318
      go_upto_region 4 with (first | ((with_reducible refine gD_q (N := 4) rfl ?_); refine bE_q ?hg (N := 4) ?hd (cs := #[.int .i64 0, .int .i64 0, .int .i64 0, .slice none 0 0]) (t := 31) ?hr ?_; (case hd => rfl); (case hg => rfl); (case hr => first | (go_simp; done) | (go_simp; rfl)); intro gb319 hg w6 hbox hb; have n0_ := Ae_q (bT_q (bel HB.out) hb); have n1_ := Ae_q (hbox); have n2_ := Ae_q ((by rw [hg]; exact (bZ_q (bel HB.out)) : w.heap.size ≤ gb319)); have n3_ := Ae_q ((by rw [hg]; exact (bZ_q (bel HB.out)) : w.heap.size ≤ gb319)); clear HB; have HB := n0_; have BK319 := n1_; have GW319 := n2_; have GE319 := n3_; clear n0_ n1_ n2_ n3_; clear hb hbox hg; have hcz7_0 : w6.cell? ⟨gb319, 0, none⟩ = some (.int .i64 0) := (bC_q BK319.out 0).trans rfl; have hcz7_1 : w6.cell? ⟨gb319, 1, none⟩ = some (.int .i64 0) := (bC_q BK319.out 1).trans rfl; have hcz7_2 : w6.cell? ⟨gb319, 2, none⟩ = some (.int .i64 0) := (bC_q BK319.out 2).trans rfl; have hcz7_3 : w6.cell? ⟨gb319, 3, none⟩ = some (.slice none 0 0) := (bC_q BK319.out 3).trans rfl; have hfz7_0 := bF_q BK319.out 0; have hfz7_1 := bF_q BK319.out 1; have hfz7_2 := bF_q BK319.out 2; have hfz7_3 := bF_q BK319.out 3))
      (try simp only [Act.put, sA_q, sZ_q, sS_q])
      go_cut [29] (fun v29 wc => ∃ (kq : Nat) (x29_4 : Bool), v29 = .bool x29_4 ∧ Aside0 (impl_StepsValid.j1 kq l0 x9_1 l0 (l0.length : Int) x9_1 x29_4 ((rd_T31 l0 x9_1).f0) ((rd_T31 l0 x9_1).f1) ((rd_T31 l0 x9_1).f2) ((rd_T31 l0 x9_1).f3) = some r) ∧ Aside0 (kq ≤ k1) ∧ Aside0 (wc.heap[gb319]? = some (.cells #[.int .i64 ((rd_T31 l0 x9_1).f0), .int .i64 ((rd_T31 l0 x9_1).f1), .int .i64 ((rd_T31 l0 x9_1).f2), (.slice A318_3 ((rd_T31 l0 x9_1).f3).length c318_3)] 31 (0, 0))) ∧ Aside0 (Below w.heap.size w wc))
      case first =>
       have H := HC5.out
       clear HC5
       replace H := oB_q.mp H
       obtain ⟨t320, A80, H⟩ := H
       replace H : (if t320 = true then ((impl_within.f ((rd_T31 l0 x9_1).f1) 0 4).bind fun t321 => (if t321 = true then ((impl_within.f ((rd_T31 l0 x9_1).f2) 0 4).bind fun t322 => (impl_StepsValid.j1 k1 l0 x9_1 l0 (l0.length : Int) x9_1 (!t322) ((rd_T31 l0 x9_1).f0) ((rd_T31 l0 x9_1).f1) ((rd_T31 l0 x9_1).f2) ((rd_T31 l0 x9_1).f3))) else (impl_StepsValid.j1 k1 l0 x9_1 l0 (l0.length : Int) x9_1 true ((rd_T31 l0 x9_1).f0) ((rd_T31 l0 x9_1).f1) ((rd_T31 l0 x9_1).f2) ((rd_T31 l0 x9_1).f3)))) else (impl_StepsValid.j1 k1 l0 x9_1 l0 (l0.length : Int) x9_1 true ((rd_T31 l0 x9_1).f0) ((rd_T31 l0 x9_1).f1) ((rd_T31 l0 x9_1).f2) ((rd_T31 l0 x9_1).f3))) = some r := H
       have A8 := Ae_q A80
       clear A80
       by_cases c9 : t320 = true
       ·subst c9
        have H1 : ((impl_within.f ((rd_T31 l0 x9_1).f1) 0 4).bind fun t321 => (if t321 = true then ((impl_within.f ((rd_T31 l0 x9_1).f2) 0 4).bind fun t322 => (impl_StepsValid.j1 k1 l0 x9_1 l0 (l0.length : Int) x9_1 (!t322) ((rd_T31 l0 x9_1).f0) ((rd_T31 l0 x9_1).f1) ((rd_T31 l0 x9_1).f2) ((rd_T31 l0 x9_1).f3))) else (impl_StepsValid.j1 k1 l0 x9_1 l0 (l0.length : Int) x9_1 true ((rd_T31 l0 x9_1).f0) ((rd_T31 l0 x9_1).f1) ((rd_T31 l0 x9_1).f2) ((rd_T31 l0 x9_1).f3)))) = some r := by rw [if_pos rfl] at H; exact H
        clear H
        have H := H1
        clear H1
        replace H := oB_q.mp H
        obtain ⟨t321, A100, H⟩ := H
        replace H : (if t321 = true then ((impl_within.f ((rd_T31 l0 x9_1).f2) 0 4).bind fun t322 => (impl_StepsValid.j1 k1 l0 x9_1 l0 (l0.length : Int) x9_1 (!t322) ((rd_T31 l0 x9_1).f0) ((rd_T31 l0 x9_1).f1) ((rd_T31 l0 x9_1).f2) ((rd_T31 l0 x9_1).f3))) else (impl_StepsValid.j1 k1 l0 x9_1 l0 (l0.length : Int) x9_1 true ((rd_T31 l0 x9_1).f0) ((rd_T31 l0 x9_1).f1) ((rd_T31 l0 x9_1).f2) ((rd_T31 l0 x9_1).f3))) = some r := H
        have A10 := Ae_q A100
        clear A100
        by_cases c11 : t321 = true
        ·subst c11
         have H1 : ((impl_within.f ((rd_T31 l0 x9_1).f2) 0 4).bind fun t322 => (impl_StepsValid.j1 k1 l0 x9_1 l0 (l0.length : Int) x9_1 (!t322) ((rd_T31 l0 x9_1).f0) ((rd_T31 l0 x9_1).f1) ((rd_T31 l0 x9_1).f2) ((rd_T31 l0 x9_1).f3))) = some r := by rw [if_pos rfl] at H; exact H
         clear H
         have H := H1
         clear H1
         replace H := oB_q.mp H
         obtain ⟨t322, A120, H⟩ := H
         replace H : (impl_StepsValid.j1 k1 l0 x9_1 l0 (l0.length : Int) x9_1 (!t322) ((rd_T31 l0 x9_1).f0) ((rd_T31 l0 x9_1).f1) ((rd_T31 l0 x9_1).f2) ((rd_T31 l0 x9_1).f3)) = some r := H
         have A12 := Ae_q A120
         clear A120
         have H' := Ae_q H
         clear H
         have hcz13_0 : w6.cell? ⟨gb319, 0, none⟩ = some (.int .i64 0) := (bC_q BK319.out 0).trans rfl
         have hcz13_1 : w6.cell? ⟨gb319, 1, none⟩ = some (.int .i64 0) := (bC_q BK319.out 1).trans rfl
         have hcz13_2 : w6.cell? ⟨gb319, 2, none⟩ = some (.int .i64 0) := (bC_q BK319.out 2).trans rfl
         have hcz13_3 : w6.cell? ⟨gb319, 3, none⟩ = some (.slice none 0 0) := (bC_q BK319.out 3).trans rfl
         have hfz13_0 := bF_q BK319.out 0
         have hfz13_1 := bF_q BK319.out 1
         have hfz13_2 := bF_q BK319.out 2
         have hfz13_3 := bF_q BK319.out 3
         go_wp2_with (first | ((with_reducible refine gC_q (f := 64) rfl ?_); refine gL_q (some 16) rfl rfl Try.func64 (by kernel_rfl) rfl #[.int .i64 ((rd_T31 l0 x9_1).f0), .int .i64 1, .int .i64 99] rfl (by (try simp only [lM_q, lC_q, lN_q]); first | done | rfl | (simp only [lD_q, lT_q]; rfl)) ?_; (with_reducible refine (impl_within.calls ((rd_T31 l0 x9_1).f0) 1 99 true _ A8.out).mono ?_); rintro e w' ⟨rfl, ⟨nd, rfl⟩⟩; refine ⟨_, rfl, ?_⟩) | (go_at_call 64; (with_reducible refine (impl_within.calls ((rd_T31 l0 x9_1).f1) 0 4 true _ A10.out).mono ?_); rintro e w' ⟨rfl, ⟨nd, rfl⟩⟩) | (go_at_call 64; (with_reducible refine (impl_within.calls ((rd_T31 l0 x9_1).f2) 0 4 t322 _ A12.out).mono ?_); rintro e w' ⟨rfl, ⟨nd, rfl⟩⟩))
         go_meet
         case rel => exact ⟨_, (!t322), (by first | rfl | (simp; done) | (simp [*]; done)), H', ⟨by have := HK1.out; first | omega | exact nR_q _⟩, ⟨by (with_reducible repeat (first | refine bN_q ?_ _ | refine bW_q ?_ | refine bL_q ?_ _)); refine blk_put (cs := #[.int .i64 ((rd_T31 l0 x9_1).f0), .int .i64 ((rd_T31 l0 x9_1).f1), .int .i64 ((rd_T31 l0 x9_1).f2), .slice none 0 0]) ?_ 3 _ rfl; (with_reducible repeat (first | refine bN_q ?_ _ | refine bW_q ?_ | refine bL_q ?_ _)); refine blk_put (cs := #[.int .i64 ((rd_T31 l0 x9_1).f0), .int .i64 ((rd_T31 l0 x9_1).f1), .int .i64 0, .slice none 0 0]) ?_ 2 _ rfl; (with_reducible repeat (first | refine bN_q ?_ _ | refine bW_q ?_ | refine bL_q ?_ _)); refine blk_put (cs := #[.int .i64 ((rd_T31 l0 x9_1).f0), .int .i64 0, .int .i64 0, .slice none 0 0]) ?_ 1 _ rfl; (with_reducible repeat (first | refine bN_q ?_ _ | refine bW_q ?_ | refine bL_q ?_ _)); refine blk_put (cs := #[.int .i64 0, .int .i64 0, .int .i64 0, .slice none 0 0]) ?_ 0 _ rfl; (with_reducible repeat (first | refine bN_q ?_ _ | refine bW_q ?_ | refine bL_q ?_ _)); exact BK319.out⟩, ⟨by repeat (first | (with_reducible first | exact HB.out | apply bA_q | apply pB_q | apply bD_q | refine bS_q ?_ GE319.out) | exact HB.out)⟩⟩
        replace c11 := fM_q.mpr c11
        subst c11
        have H1 : (impl_StepsValid.j1 k1 l0 x9_1 l0 (l0.length : Int) x9_1 true ((rd_T31 l0 x9_1).f0) ((rd_T31 l0 x9_1).f1) ((rd_T31 l0 x9_1).f2) ((rd_T31 l0 x9_1).f3)) = some r := by rw [if_neg (show ¬ (false = true) by decide)] at H; exact H
        clear H
        have H := H1
        clear H1
        have H' := Ae_q H
        clear H
        have hcz14_0 : w6.cell? ⟨gb319, 0, none⟩ = some (.int .i64 0) := (bC_q BK319.out 0).trans rfl
        have hcz14_1 : w6.cell? ⟨gb319, 1, none⟩ = some (.int .i64 0) := (bC_q BK319.out 1).trans rfl
        have hcz14_2 : w6.cell? ⟨gb319, 2, none⟩ = some (.int .i64 0) := (bC_q BK319.out 2).trans rfl
        have hcz14_3 : w6.cell? ⟨gb319, 3, none⟩ = some (.slice none 0 0) := (bC_q BK319.out 3).trans rfl
        have hfz14_0 := bF_q BK319.out 0
        have hfz14_1 := bF_q BK319.out 1
        have hfz14_2 := bF_q BK319.out 2
        have hfz14_3 := bF_q BK319.out 3
        go_wp2_with (first | ((with_reducible refine gC_q (f := 64) rfl ?_); refine gL_q (some 16) rfl rfl Try.func64 (by kernel_rfl) rfl #[.int .i64 ((rd_T31 l0 x9_1).f0), .int .i64 1, .int .i64 99] rfl (by (try simp only [lM_q, lC_q, lN_q]); first | done | rfl | (simp only [lD_q, lT_q]; rfl)) ?_; (with_reducible refine (impl_within.calls ((rd_T31 l0 x9_1).f0) 1 99 true _ A8.out).mono ?_); rintro e w' ⟨rfl, ⟨nd, rfl⟩⟩; refine ⟨_, rfl, ?_⟩) | (go_at_call 64; (with_reducible refine (impl_within.calls ((rd_T31 l0 x9_1).f1) 0 4 false _ A10.out).mono ?_); rintro e w' ⟨rfl, ⟨nd, rfl⟩⟩))
        go_meet
        case rel => exact ⟨_, (true), (by first | rfl | (simp; done) | (simp [*]; done)), H', ⟨by have := HK1.out; first | omega | exact nR_q _⟩, ⟨by (with_reducible repeat (first | refine bN_q ?_ _ | refine bW_q ?_ | refine bL_q ?_ _)); refine blk_put (cs := #[.int .i64 ((rd_T31 l0 x9_1).f0), .int .i64 ((rd_T31 l0 x9_1).f1), .int .i64 ((rd_T31 l0 x9_1).f2), .slice none 0 0]) ?_ 3 _ rfl; (with_reducible repeat (first | refine bN_q ?_ _ | refine bW_q ?_ | refine bL_q ?_ _)); refine blk_put (cs := #[.int .i64 ((rd_T31 l0 x9_1).f0), .int .i64 ((rd_T31 l0 x9_1).f1), .int .i64 0, .slice none 0 0]) ?_ 2 _ rfl; (with_reducible repeat (first | refine bN_q ?_ _ | refine bW_q ?_ | refine bL_q ?_ _)); refine blk_put (cs := #[.int .i64 ((rd_T31 l0 x9_1).f0), .int .i64 0, .int .i64 0, .slice none 0 0]) ?_ 1 _ rfl; (with_reducible repeat (first | refine bN_q ?_ _ | refine bW_q ?_ | refine bL_q ?_ _)); refine blk_put (cs := #[.int .i64 0, .int .i64 0, .int .i64 0, .slice none 0 0]) ?_ 0 _ rfl; (with_reducible repeat (first | refine bN_q ?_ _ | refine bW_q ?_ | refine bL_q ?_ _)); exact BK319.out⟩, ⟨by repeat (first | (with_reducible first | exact HB.out | apply bA_q | apply pB_q | apply bD_q | refine bS_q ?_ GE319.out) | exact HB.out)⟩⟩
       replace c9 := fM_q.mpr c9
       subst c9
       have H1 : (impl_StepsValid.j1 k1 l0 x9_1 l0 (l0.length : Int) x9_1 true ((rd_T31 l0 x9_1).f0) ((rd_T31 l0 x9_1).f1) ((rd_T31 l0 x9_1).f2) ((rd_T31 l0 x9_1).f3)) = some r := by rw [if_neg (show ¬ (false = true) by decide)] at H; exact H
       clear H
       have H := H1
       clear H1
       have H' := Ae_q H
       clear H
       have hcz15_0 : w6.cell? ⟨gb319, 0, none⟩ = some (.int .i64 0) := (bC_q BK319.out 0).trans rfl
       have hcz15_1 : w6.cell? ⟨gb319, 1, none⟩ = some (.int .i64 0) := (bC_q BK319.out 1).trans rfl
       have hcz15_2 : w6.cell? ⟨gb319, 2, none⟩ = some (.int .i64 0) := (bC_q BK319.out 2).trans rfl
       have hcz15_3 : w6.cell? ⟨gb319, 3, none⟩ = some (.slice none 0 0) := (bC_q BK319.out 3).trans rfl
       have hfz15_0 := bF_q BK319.out 0
       have hfz15_1 := bF_q BK319.out 1
       have hfz15_2 := bF_q BK319.out 2
       have hfz15_3 := bF_q BK319.out 3
       go_wp2_with (first | ((with_reducible refine gC_q (f := 64) rfl ?_); refine gL_q (some 16) rfl rfl Try.func64 (by kernel_rfl) rfl #[.int .i64 ((rd_T31 l0 x9_1).f0), .int .i64 1, .int .i64 99] rfl (by (try simp only [lM_q, lC_q, lN_q]); first | done | rfl | (simp only [lD_q, lT_q]; rfl)) ?_; (with_reducible refine (impl_within.calls ((rd_T31 l0 x9_1).f0) 1 99 false _ A8.out).mono ?_); rintro e w' ⟨rfl, ⟨nd, rfl⟩⟩; refine ⟨_, rfl, ?_⟩))
       go_meet
       case rel => exact ⟨_, (true), (by first | rfl | (simp; done) | (simp [*]; done)), H', ⟨by have := HK1.out; first | omega | exact nR_q _⟩, ⟨by (with_reducible repeat (first | refine bN_q ?_ _ | refine bW_q ?_ | refine bL_q ?_ _)); refine blk_put (cs := #[.int .i64 ((rd_T31 l0 x9_1).f0), .int .i64 ((rd_T31 l0 x9_1).f1), .int .i64 ((rd_T31 l0 x9_1).f2), .slice none 0 0]) ?_ 3 _ rfl; (with_reducible repeat (first | refine bN_q ?_ _ | refine bW_q ?_ | refine bL_q ?_ _)); refine blk_put (cs := #[.int .i64 ((rd_T31 l0 x9_1).f0), .int .i64 ((rd_T31 l0 x9_1).f1), .int .i64 0, .slice none 0 0]) ?_ 2 _ rfl; (with_reducible repeat (first | refine bN_q ?_ _ | refine bW_q ?_ | refine bL_q ?_ _)); refine blk_put (cs := #[.int .i64 ((rd_T31 l0 x9_1).f0), .int .i64 0, .int .i64 0, .slice none 0 0]) ?_ 1 _ rfl; (with_reducible repeat (first | refine bN_q ?_ _ | refine bW_q ?_ | refine bL_q ?_ _)); refine blk_put (cs := #[.int .i64 0, .int .i64 0, .int .i64 0, .slice none 0 0]) ?_ 0 _ rfl; (with_reducible repeat (first | refine bN_q ?_ _ | refine bW_q ?_ | refine bL_q ?_ _)); exact BK319.out⟩, ⟨by repeat (first | (with_reducible first | exact HB.out | apply bA_q | apply pB_q | apply bD_q | refine bS_q ?_ GE319.out) | exact HB.out)⟩⟩
      case rest =>
       clear HC5
       try clear c1
       try clear c2
       try clear c2b0
       try clear p2
       try clear c3
       try clear c3b0
       try clear p3
       try clear q3
       try clear hx3
       try clear c4
       try clear c4b0
       try clear c5
       try clear c6
       try clear c9
       try clear c11
       try clear hcz13_0
       try clear hcz13_1
       try clear hcz13_2
       try clear hcz13_3
       try clear hcz14_0
       try clear hcz14_1
       try clear hcz14_2
       try clear hcz14_3
       try clear hcz15_0
       try clear hcz15_1
       try clear hcz15_2
       try clear hcz15_3
       try clear hcz7_0
       try clear hcz7_1
       try clear hcz7_2
       try clear hcz7_3
       try clear hfz13_0
       try clear hfz13_1
       try clear hfz13_2
       try clear hfz13_3
       try clear hfz14_0
       try clear hfz14_1
       try clear hfz14_2
       try clear hfz14_3
       try clear hfz15_0
       try clear hfz15_1
       try clear hfz15_2
       try clear hfz15_3
       try clear hfz7_0
       try clear hfz7_1
       try clear hfz7_2
       try clear hfz7_3
       try clear hx318_0
       try clear hx318_1
       try clear hx318_2
       try clear hx318_3
       try clear p318
       try clear q318
       obtain ⟨kq, x29_4, rfl, HA, HJ4, BK319, HB⟩ := hcut
       cases kq with
       | zero => exact absurd HA.out (by simp [impl_StepsValid.j1])
       | succ kj4 =>
        have H := HA.out
        clear HA
        simp only [impl_StepsValid.j1] at H
        by_cases c16 : x29_4 = true
        ·subst c16
         have H1 : (some false) = some r := by rw [if_pos rfl] at H; exact H
         clear H
         have H := H1
         clear H1
         obtain rfl := oI_q H
         go_wp2
         go_ret
         exact ⟨by first | rfl | (simp [eN_q, eS_q] <;> rfl) | (simp [*, eN_q, eS_q] <;> rfl), by repeat (first | (with_reducible first | exact HB.out | apply bA_q | apply pB_q | apply bD_q | refine bS_q ?_ GE319.out) | exact HB.out)⟩
        replace c16 := fM_q.mpr c16
        subst c16
        have H1 : (impl_StepsValid.l1 kj4 l0 x9_1 l0 (l0.length : Int) x9_1 ((rd_T31 l0 x9_1).f3) (((rd_T31 l0 x9_1).f3).length : Int) 0 ((rd_T31 l0 x9_1).f0) ((rd_T31 l0 x9_1).f1) ((rd_T31 l0 x9_1).f2) ((rd_T31 l0 x9_1).f3)) = some r := by rw [if_neg (show ¬ (false = true) by decide)] at H; exact H
        clear H
        have H := H1
        clear H1
        have H' := Ae_q H
        clear H
        have hcz17_0 : wc.cell? ⟨gb319, 0, none⟩ = some (.int .i64 ((rd_T31 l0 x9_1).f0)) := (bC_q BK319.out 0).trans rfl
        have hcz17_1 : wc.cell? ⟨gb319, 1, none⟩ = some (.int .i64 ((rd_T31 l0 x9_1).f1)) := (bC_q BK319.out 1).trans rfl
        have hcz17_2 : wc.cell? ⟨gb319, 2, none⟩ = some (.int .i64 ((rd_T31 l0 x9_1).f2)) := (bC_q BK319.out 2).trans rfl
        have hcz17_3 : wc.cell? ⟨gb319, 3, none⟩ = some (.slice A318_3 ((rd_T31 l0 x9_1).f3).length c318_3) := (bC_q BK319.out 3).trans rfl
        have hfz17_0 := bF_q BK319.out 0
        have hfz17_1 := bF_q BK319.out 1
        have hfz17_2 := bF_q BK319.out 2
        have hfz17_3 := bF_q BK319.out 3
        go_wp2
        go_loopg [33] kj4 (fun kq v33 w' => ∃ (x33_3 : Int), v33 = .int .i64 x33_3 ∧ Aside0 (impl_StepsValid.l1 kq l0 x9_1 l0 (l0.length : Int) x9_1 ((rd_T31 l0 x9_1).f3) (((rd_T31 l0 x9_1).f3).length : Int) x33_3 ((rd_T31 l0 x9_1).f0) ((rd_T31 l0 x9_1).f1) ((rd_T31 l0 x9_1).f2) ((rd_T31 l0 x9_1).f3) = some r) ∧ Aside0 (kq ≤ kj4) ∧ Aside0 (w'.heap[gb319]? = some (.cells #[.int .i64 ((rd_T31 l0 x9_1).f0), .int .i64 ((rd_T31 l0 x9_1).f1), .int .i64 ((rd_T31 l0 x9_1).f2), (.slice A318_3 ((rd_T31 l0 x9_1).f3).length c318_3)] 31 (0, 0))) ∧ Aside0 (Below w.heap.size w w'))
        case atStart => exact ⟨(0), (by first | rfl | (simp; done) | (simp [*]; done)), H', ⟨nR_q _⟩, ⟨by (with_reducible repeat (first | refine bN_q ?_ _ | refine bW_q ?_ | refine bL_q ?_ _)); exact BK319.out⟩, ⟨by repeat (first | (with_reducible first | exact HB.out | apply bA_q | apply pB_q | apply bD_q | refine bS_q ?_ GE319.out) | exact HB.out)⟩⟩
        case round =>
         clear H'
         try clear c1
         try clear c2
         try clear c2b0
         try clear p2
         try clear c3
         try clear c3b0
         try clear p3
         try clear q3
         try clear hx3
         try clear c4
         try clear c4b0
         try clear c5
         try clear c6
         try clear c9
         try clear c11
         try clear c16
         try clear hcz13_0
         try clear hcz13_1
         try clear hcz13_2
         try clear hcz13_3
         try clear hcz14_0
         try clear hcz14_1
         try clear hcz14_2
         try clear hcz14_3
         try clear hcz15_0
         try clear hcz15_1
         try clear hcz15_2
         try clear hcz15_3
         try clear hcz17_0
         try clear hcz17_1
         try clear hcz17_2
         try clear hcz17_3
         try clear hcz7_0
         try clear hcz7_1
         try clear hcz7_2
         try clear hcz7_3
         try clear hfz13_0
         try clear hfz13_1
         try clear hfz13_2
         try clear hfz13_3
         try clear hfz14_0
         try clear hfz14_1
         try clear hfz14_2
         try clear hfz14_3
         try clear hfz15_0
         try clear hfz15_1
         try clear hfz15_2
         try clear hfz15_3
         try clear hfz17_0
         try clear hfz17_1
         try clear hfz17_2
         try clear hfz17_3
         try clear hfz7_0
         try clear hfz7_1
         try clear hfz7_2
         try clear hfz7_3
         try clear hx318_0
         try clear hx318_1
         try clear hx318_2
         try clear hx318_3
         try clear p2
         try clear p3
         try clear p318
         try clear q3
         try clear q318
         obtain ⟨x33_3, rfl, HA, HK3, BK319, HB⟩ := hrel
         cases gk with
         | zero => exact absurd HA.out (by simp [impl_StepsValid.l1])
         | succ k3 =>
          have H := HA.out
          clear HA
          simp only [impl_StepsValid.l1] at H
          by_cases c18 : x33_3 < (((rd_T31 l0 x9_1).f3).length : Int)
          ·rw [if_pos c18] at H
           have c18b0 : decide (x33_3 < (((rd_T31 l0 x9_1).f3).length : Int)) = true := dT_q c18
           clear c18
           by_cases c19 : 0 ≤ x33_3
           ·rw [if_pos c19] at H
            have c19b0 : decide (0 ≤ x33_3) = true := dT_q c19
            clear c19
            by_cases c20 : x33_3 < (((rd_T31 l0 x9_1).f3).length : Int)
            ·rw [if_pos c20] at H
             have c20b0 : decide (x33_3 < (((rd_T31 l0 x9_1).f3).length : Int)) = true := dT_q c20
             clear c20
             replace H := oB_q.mp H
             obtain ⟨t324, A210, H⟩ := H
             replace H : (if t324 = true then (if x33_3 > 0 then (if 0 ≤ (wrap64 (x33_3 - 1)) then (if (wrap64 (x33_3 - 1)) < (((rd_T31 l0 x9_1).f3).length : Int) then (if (rd ((rd_T31 l0 x9_1).f3) (wrap64 (x33_3 - 1))) ≥ (rd ((rd_T31 l0 x9_1).f3) x33_3) then (some false) else (impl_StepsValid.l1 k3 l0 x9_1 l0 (l0.length : Int) x9_1 ((rd_T31 l0 x9_1).f3) (((rd_T31 l0 x9_1).f3).length : Int) (wrap64 (x33_3 + 1)) ((rd_T31 l0 x9_1).f0) ((rd_T31 l0 x9_1).f1) ((rd_T31 l0 x9_1).f2) ((rd_T31 l0 x9_1).f3))) else (none)) else (none)) else (impl_StepsValid.l1 k3 l0 x9_1 l0 (l0.length : Int) x9_1 ((rd_T31 l0 x9_1).f3) (((rd_T31 l0 x9_1).f3).length : Int) (wrap64 (x33_3 + 1)) ((rd_T31 l0 x9_1).f0) ((rd_T31 l0 x9_1).f1) ((rd_T31 l0 x9_1).f2) ((rd_T31 l0 x9_1).f3))) else (some false)) = some r := H
             have A21 := Ae_q A210
             clear A210
             by_cases c22 : t324 = true
             ·subst c22
              have H1 : (if x33_3 > 0 then (if 0 ≤ (wrap64 (x33_3 - 1)) then (if (wrap64 (x33_3 - 1)) < (((rd_T31 l0 x9_1).f3).length : Int) then (if (rd ((rd_T31 l0 x9_1).f3) (wrap64 (x33_3 - 1))) ≥ (rd ((rd_T31 l0 x9_1).f3) x33_3) then (some false) else (impl_StepsValid.l1 k3 l0 x9_1 l0 (l0.length : Int) x9_1 ((rd_T31 l0 x9_1).f3) (((rd_T31 l0 x9_1).f3).length : Int) (wrap64 (x33_3 + 1)) ((rd_T31 l0 x9_1).f0) ((rd_T31 l0 x9_1).f1) ((rd_T31 l0 x9_1).f2) ((rd_T31 l0 x9_1).f3))) else (none)) else (none)) else (impl_StepsValid.l1 k3 l0 x9_1 l0 (l0.length : Int) x9_1 ((rd_T31 l0 x9_1).f3) (((rd_T31 l0 x9_1).f3).length : Int) (wrap64 (x33_3 + 1)) ((rd_T31 l0 x9_1).f0) ((rd_T31 l0 x9_1).f1) ((rd_T31 l0 x9_1).f2) ((rd_T31 l0 x9_1).f3))) = some r := by rw [if_pos rfl] at H; exact H
              clear H
              have H := H1
              clear H1
              by_cases c23 : x33_3 > 0
              ·rw [if_pos c23] at H
               have c23b0 : decide (0 < x33_3) = true := dT_q c23
               clear c23
               obtain ⟨ji24, hji24⟩ : ∃ j_ : Int, (wrap64 (x33_3 - 1)) = j_ := ⟨_, rfl⟩
               replace H : (if 0 ≤ (ji24) then (if (ji24) < (((rd_T31 l0 x9_1).f3).length : Int) then (if (rd ((rd_T31 l0 x9_1).f3) (ji24)) ≥ (rd ((rd_T31 l0 x9_1).f3) x33_3) then (some false) else (impl_StepsValid.l1 k3 l0 x9_1 l0 (l0.length : Int) x9_1 ((rd_T31 l0 x9_1).f3) (((rd_T31 l0 x9_1).f3).length : Int) (wrap64 (x33_3 + 1)) ((rd_T31 l0 x9_1).f0) ((rd_T31 l0 x9_1).f1) ((rd_T31 l0 x9_1).f2) ((rd_T31 l0 x9_1).f3))) else (none)) else (none)) = some r := by first | (rw [hji24] at H; exact H) | (simp only [hji24] at H ⊢; exact H)
               (try rw [hji24] at A21)
               have hji24w : (IntKind.i64.wrap (x33_3 - 1)) = ji24 := (i64_w _).trans hji24
               by_cases c25 : 0 ≤ (ji24)
               ·rw [if_pos c25] at H
                have c25b0 : decide (0 ≤ (ji24)) = true := dT_q c25
                clear c25
                by_cases c26 : (ji24) < (((rd_T31 l0 x9_1).f3).length : Int)
                ·rw [if_pos c26] at H
                 have c26b0 : decide ((ji24) < (((rd_T31 l0 x9_1).f3).length : Int)) = true := dT_q c26
                 clear c26
                 by_cases c27 : (rd ((rd_T31 l0 x9_1).f3) (ji24)) ≥ (rd ((rd_T31 l0 x9_1).f3) x33_3)
                 ·rw [if_pos c27] at H
                  have c27b0 : decide ((rd ((rd_T31 l0 x9_1).f3) x33_3) ≤ (rd ((rd_T31 l0 x9_1).f3) (ji24))) = true := dT_q c27
                  clear c27
                  obtain rfl := oI_q H
                  have p323 : 0 ≤ (x33_3 : Int) := oD_q (by assumption)
                  have q323 : x33_3 < (((rd_T31 l0 x9_1).f3).length : Int) := oD_q (by assumption)
                  obtain ⟨ad323, e323, hx323_0⟩ := aI_q HR318_3.out x33_3 p323 q323
                  cases e323
                  replace hx323_0 := (HB.out.cell (wL_q w _ hx323_0)).trans hx323_0
                  replace p323 := eq_true p323
                  replace q323 := eq_true q323
                  go_wp2_with (first | ((with_reducible refine gC_q (f := 64) rfl ?_); refine gL_q (some 41) rfl rfl Try.func64 (by kernel_rfl) rfl #[.int .i64 (rd ((rd_T31 l0 x9_1).f3) x33_3), .int .i64 0, .int .i64 (wrap64 (x9_1 - 1))] rfl (by (try simp only [lM_q, lC_q, lN_q]); first | done | rfl | (simp only [lD_q, lT_q]; rfl)) ?_; (with_reducible refine (impl_within.calls (rd ((rd_T31 l0 x9_1).f3) x33_3) 0 (wrap64 (x9_1 - 1)) true _ A21.out).mono ?_); rintro e w' ⟨rfl, ⟨nd, rfl⟩⟩; refine ⟨_, rfl, ?_⟩; have hcz28_0 : wr.cell? ⟨gb319, 0, none⟩ = some (.int .i64 ((rd_T31 l0 x9_1).f0)) := (bC_q BK319.out 0).trans rfl; have hcz28_1 : wr.cell? ⟨gb319, 1, none⟩ = some (.int .i64 ((rd_T31 l0 x9_1).f1)) := (bC_q BK319.out 1).trans rfl; have hcz28_2 : wr.cell? ⟨gb319, 2, none⟩ = some (.int .i64 ((rd_T31 l0 x9_1).f2)) := (bC_q BK319.out 2).trans rfl; have hcz28_3 : wr.cell? ⟨gb319, 3, none⟩ = some (.slice (some ad323) ((rd_T31 l0 x9_1).f3).length c318_3) := (bC_q BK319.out 3).trans rfl; have hfz28_0 := bF_q BK319.out 0; have hfz28_1 := bF_q BK319.out 1; have hfz28_2 := bF_q BK319.out 2; have hfz28_3 := bF_q BK319.out 3; have p325 : 0 ≤ ((ji24) : Int) := oD_q (by assumption); have q325 : (ji24) < (((rd_T31 l0 x9_1).f3).length : Int) := oD_q (by assumption); obtain ⟨ad325, e325, hx325_0⟩ := aI_q HR318_3.out (ji24) p325 q325; obtain rfl : ad323 = ad325 := (by injection e325); replace hx325_0 := (HB.out.cell (wL_q w _ hx325_0)).trans hx325_0; replace p325 := eq_true p325; replace q325 := eq_true q325))
                  go_ret
                  exact ⟨by first | rfl | (simp [eN_q, eS_q] <;> rfl) | (simp only [← hji24]; first | rfl | (simp [eN_q, eS_q] <;> rfl)) | (simp [*, eN_q, eS_q] <;> rfl), by repeat (first | (with_reducible first | exact HB.out | apply bA_q | apply pB_q | apply bD_q | refine bS_q ?_ GE319.out) | exact HB.out)⟩
                 rw [if_neg c27] at H
                 have c27b0 : decide ((rd ((rd_T31 l0 x9_1).f3) x33_3) ≤ (rd ((rd_T31 l0 x9_1).f3) (ji24))) = false := dF_q c27
                 clear c27
                 have H' := Ae_q H
                 clear H
                 have p323 : 0 ≤ (x33_3 : Int) := oD_q (by assumption)
                 have q323 : x33_3 < (((rd_T31 l0 x9_1).f3).length : Int) := oD_q (by assumption)
                 obtain ⟨ad323, e323, hx323_0⟩ := aI_q HR318_3.out x33_3 p323 q323
                 cases e323
                 replace hx323_0 := (HB.out.cell (wL_q w _ hx323_0)).trans hx323_0
                 replace p323 := eq_true p323
                 replace q323 := eq_true q323
                 go_wp2_with (first | ((with_reducible refine gC_q (f := 64) rfl ?_); refine gL_q (some 41) rfl rfl Try.func64 (by kernel_rfl) rfl #[.int .i64 (rd ((rd_T31 l0 x9_1).f3) x33_3), .int .i64 0, .int .i64 (wrap64 (x9_1 - 1))] rfl (by (try simp only [lM_q, lC_q, lN_q]); first | done | rfl | (simp only [lD_q, lT_q]; rfl)) ?_; (with_reducible refine (impl_within.calls (rd ((rd_T31 l0 x9_1).f3) x33_3) 0 (wrap64 (x9_1 - 1)) true _ A21.out).mono ?_); rintro e w' ⟨rfl, ⟨nd, rfl⟩⟩; refine ⟨_, rfl, ?_⟩; have hcz29_0 : wr.cell? ⟨gb319, 0, none⟩ = some (.int .i64 ((rd_T31 l0 x9_1).f0)) := (bC_q BK319.out 0).trans rfl; have hcz29_1 : wr.cell? ⟨gb319, 1, none⟩ = some (.int .i64 ((rd_T31 l0 x9_1).f1)) := (bC_q BK319.out 1).trans rfl; have hcz29_2 : wr.cell? ⟨gb319, 2, none⟩ = some (.int .i64 ((rd_T31 l0 x9_1).f2)) := (bC_q BK319.out 2).trans rfl; have hcz29_3 : wr.cell? ⟨gb319, 3, none⟩ = some (.slice (some ad323) ((rd_T31 l0 x9_1).f3).length c318_3) := (bC_q BK319.out 3).trans rfl; have hfz29_0 := bF_q BK319.out 0; have hfz29_1 := bF_q BK319.out 1; have hfz29_2 := bF_q BK319.out 2; have hfz29_3 := bF_q BK319.out 3; have p325 : 0 ≤ ((ji24) : Int) := oD_q (by assumption); have q325 : (ji24) < (((rd_T31 l0 x9_1).f3).length : Int) := oD_q (by assumption); obtain ⟨ad325, e325, hx325_0⟩ := aI_q HR318_3.out (ji24) p325 q325; obtain rfl : ad323 = ad325 := (by injection e325); replace hx325_0 := (HB.out.cell (wL_q w _ hx325_0)).trans hx325_0; replace p325 := eq_true p325; replace q325 := eq_true q325))
                 go_roundg k3
                 case measure => have := HK1.out; have := HJ4.out; have := HK3.out; omega
                 case rel => exact ⟨(wrap64 (x33_3 + 1)), (by first | rfl | (simp; done) | (simp [*]; done)), H', ⟨by have := HK1.out; have := HJ4.out; have := HK3.out; omega⟩, ⟨by (with_reducible repeat (first | refine bN_q ?_ _ | refine bW_q ?_ | refine bL_q ?_ _)); exact BK319.out⟩, ⟨by repeat (first | (with_reducible first | exact HB.out | apply bA_q | apply pB_q | apply bD_q | refine bS_q ?_ GE319.out) | exact HB.out)⟩⟩
                rw [if_neg c26] at H
                exact absurd H (by simp)
               rw [if_neg c25] at H
               exact absurd H (by simp)
              rw [if_neg c23] at H
              have c23b0 : decide (0 < x33_3) = false := dF_q c23
              clear c23
              have H' := Ae_q H
              clear H
              have p323 : 0 ≤ (x33_3 : Int) := oD_q (by assumption)
              have q323 : x33_3 < (((rd_T31 l0 x9_1).f3).length : Int) := oD_q (by assumption)
              obtain ⟨ad323, e323, hx323_0⟩ := aI_q HR318_3.out x33_3 p323 q323
              cases e323
              replace hx323_0 := (HB.out.cell (wL_q w _ hx323_0)).trans hx323_0
              replace p323 := eq_true p323
              replace q323 := eq_true q323
              go_wp2_with (first | ((with_reducible refine gC_q (f := 64) rfl ?_); refine gL_q (some 41) rfl rfl Try.func64 (by kernel_rfl) rfl #[.int .i64 (rd ((rd_T31 l0 x9_1).f3) x33_3), .int .i64 0, .int .i64 (wrap64 (x9_1 - 1))] rfl (by (try simp only [lM_q, lC_q, lN_q]); first | done | rfl | (simp only [lD_q, lT_q]; rfl)) ?_; (with_reducible refine (impl_within.calls (rd ((rd_T31 l0 x9_1).f3) x33_3) 0 (wrap64 (x9_1 - 1)) true _ A21.out).mono ?_); rintro e w' ⟨rfl, ⟨nd, rfl⟩⟩; refine ⟨_, rfl, ?_⟩))
              go_roundg k3
              case measure => have := HK1.out; have := HJ4.out; have := HK3.out; omega
              case rel => exact ⟨(wrap64 (x33_3 + 1)), (by first | rfl | (simp; done) | (simp [*]; done)), H', ⟨by have := HK1.out; have := HJ4.out; have := HK3.out; omega⟩, ⟨by (with_reducible repeat (first | refine bN_q ?_ _ | refine bW_q ?_ | refine bL_q ?_ _)); exact BK319.out⟩, ⟨by repeat (first | (with_reducible first | exact HB.out | apply bA_q | apply pB_q | apply bD_q | refine bS_q ?_ GE319.out) | exact HB.out)⟩⟩
             replace c22 := fM_q.mpr c22
             subst c22
             have H1 : (some false) = some r := by rw [if_neg (show ¬ (false = true) by decide)] at H; exact H
             clear H
             have H := H1
             clear H1
             obtain rfl := oI_q H
             have p323 : 0 ≤ (x33_3 : Int) := oD_q (by assumption)
             have q323 : x33_3 < (((rd_T31 l0 x9_1).f3).length : Int) := oD_q (by assumption)
             obtain ⟨ad323, e323, hx323_0⟩ := aI_q HR318_3.out x33_3 p323 q323
             cases e323
             replace hx323_0 := (HB.out.cell (wL_q w _ hx323_0)).trans hx323_0
             replace p323 := eq_true p323
             replace q323 := eq_true q323
             go_wp2_with (first | ((with_reducible refine gC_q (f := 64) rfl ?_); refine gL_q (some 41) rfl rfl Try.func64 (by kernel_rfl) rfl #[.int .i64 (rd ((rd_T31 l0 x9_1).f3) x33_3), .int .i64 0, .int .i64 (wrap64 (x9_1 - 1))] rfl (by (try simp only [lM_q, lC_q, lN_q]); first | done | rfl | (simp only [lD_q, lT_q]; rfl)) ?_; (with_reducible refine (impl_within.calls (rd ((rd_T31 l0 x9_1).f3) x33_3) 0 (wrap64 (x9_1 - 1)) false _ A21.out).mono ?_); rintro e w' ⟨rfl, ⟨nd, rfl⟩⟩; refine ⟨_, rfl, ?_⟩))
             go_ret
             exact ⟨by first | rfl | (simp [eN_q, eS_q] <;> rfl) | (simp [*, eN_q, eS_q] <;> rfl), by repeat (first | (with_reducible first | exact HB.out | apply bA_q | apply pB_q | apply bD_q | refine bS_q ?_ GE319.out) | exact HB.out)⟩
            rw [if_neg c20] at H
            exact absurd H (by simp)
           rw [if_neg c19] at H
           exact absurd H (by simp)
          rw [if_neg c18] at H
          have c18b0 : decide (x33_3 < (((rd_T31 l0 x9_1).f3).length : Int)) = false := dF_q c18
          clear c18
          have H' := Ae_q H
          clear H
          go_wp2
          go_roundg k3
          case measure => have := HK1.out; have := HJ4.out; have := HK3.out; omega
          case rel => exact ⟨(wrap64 (x9_1 + 1)), (by first | rfl | (simp; done) | (simp [*]; done)), H', ⟨by have := HK1.out; have := HJ4.out; have := HK3.out; omega⟩, ⟨by repeat (first | (with_reducible first | exact HB.out | apply bA_q | apply pB_q | apply bD_q | refine bS_q ?_ GE319.out) | exact HB.out)⟩⟩
     rw [if_neg c4] at H
     exact absurd H (by simp)
    rw [if_neg c3] at H
    exact absurd H (by simp)
   rw [if_neg c2] at H
   have c2b0 : decide (x9_1 < (l0.length : Int)) = false := dF_q c2
   clear c2
   obtain rfl := oI_q H
   go_wp2
   go_ret
   exact ⟨by first | rfl | (simp [eN_q, eS_q] <;> rfl) | (simp [*, eN_q, eS_q] <;> rfl), bel HB.out⟩

-- NOT PRINTED: function 68 (slices_IndexFunc_int_int)

-- NOT PRINTED: function 59 (slices_ContainsFunc_int_int)

end Go.Proofs.Ytoaigcdoblnmhaa.PPn
