import Derived.Test.YtoaigcdoblnmhaaVePPnx0
import Derived.Test.YtoaigcdoblnmhaaVePPnx2
namespace Go.Proofs.Ytoaigcdoblnmhaa.PPn
open Go.RowKit Go.Proofs.YtoaigcdoblnmhaaW.PrintWords Go.Proofs.YtoaigcdoblnmhaaW.PrintLast Go.Proofs.YtoaigcdoblnmhaaW.PrintMore
attribute [local go_sem] max2_int min2_int max_two min_two max_three min_three max_four min_four
set_option linter.unusedVariables false
set_option linter.unusedSimpArgs false

mutual
def spec_StepsValid.l0 : Nat → List (S31) → Int → Option (Bool)
 | 0, _, _ => none
 | k + 1, x0, x3 => if x3 < (x0.length : Int) then (if 0 ≤ x3 then ((spec_l6In.f ((rd_T31 x0 x3).f0) 1 99).bind fun t230 => (if t230 = true then ((spec_l6In.f ((rd_T31 x0 x3).f1) 0 4).bind fun t231 => (if t231 = true then ((spec_l6In.f ((rd_T31 x0 x3).f2) 0 4).bind fun t232 => (spec_StepsValid.j1 k x0 x3 (!t232) ((rd_T31 x0 x3).f0) ((rd_T31 x0 x3).f1) ((rd_T31 x0 x3).f2) ((rd_T31 x0 x3).f3))) else (spec_StepsValid.j1 k x0 x3 true ((rd_T31 x0 x3).f0) ((rd_T31 x0 x3).f1) ((rd_T31 x0 x3).f2) ((rd_T31 x0 x3).f3)))) else (spec_StepsValid.j1 k x0 x3 true ((rd_T31 x0 x3).f0) ((rd_T31 x0 x3).f1) ((rd_T31 x0 x3).f2) ((rd_T31 x0 x3).f3)))) else (none)) else (some (decide ((x0.length : Int) ≤ 8)))
def spec_StepsValid.j1 : Nat → List (S31) → Int → Bool → Int → Int → Int → List Int → Option (Bool)
 | 0, _, _, _, _, _, _, _ => none
 | k + 1, x0, x3, x31, x230000, x230001, x230002, x230003 => if x31 = true then (some false) else (spec_StepsValid.l1 k x0 x3 0 x230000 x230001 x230002 x230003)
def spec_StepsValid.l1 : Nat → List (S31) → Int → Int → Int → Int → Int → List Int → Option (Bool)
 | 0, _, _, _, _, _, _, _ => none
 | k + 1, x0, x3, x5, x230000, x230001, x230002, x230003 => if x5 < (x230003.length : Int) then (if 0 ≤ x5 then ((spec_l6In.f (rd x230003 x5) 0 (wrap64 (x3 - 1))).bind fun t234 => (if t234 = true then (if x5 > 0 then (if 0 ≤ (wrap64 (x5 - 1)) then (if (wrap64 (x5 - 1)) < (x230003.length : Int) then (if (rd x230003 (wrap64 (x5 - 1))) ≥ (rd x230003 x5) then (some false) else (spec_StepsValid.l1 k x0 x3 (wrap64 (x5 + 1)) x230000 x230001 x230002 x230003)) else (none)) else (none)) else (spec_StepsValid.l1 k x0 x3 (wrap64 (x5 + 1)) x230000 x230001 x230002 x230003)) else (some false))) else (none)) else (spec_StepsValid.l0 k x0 (wrap64 (x3 + 1)))
end
def spec_StepsValid.f (k : Nat) (l0 : List (S31)) : Option (Bool) := spec_StepsValid.l0 k l0 0
theorem spec_StepsValid.mono_l : ∀ k, (∀ y0 y1, LeO (spec_StepsValid.l0 k y0 y1) (spec_StepsValid.l0 (k + 1) y0 y1)) ∧ (∀ y0 y1 y2 y3 y4 y5 y6, LeO (spec_StepsValid.j1 k y0 y1 y2 y3 y4 y5 y6) (spec_StepsValid.j1 (k + 1) y0 y1 y2 y3 y4 y5 y6)) ∧ (∀ y0 y1 y2 y3 y4 y5 y6, LeO (spec_StepsValid.l1 k y0 y1 y2 y3 y4 y5 y6) (spec_StepsValid.l1 (k + 1) y0 y1 y2 y3 y4 y5 y6))
 | 0 => ⟨fun _ _ r h => by simp [spec_StepsValid.l0] at h, fun _ _ _ _ _ _ _ r h => by simp [spec_StepsValid.j1] at h, fun _ _ _ _ _ _ _ r h => by simp [spec_StepsValid.l1] at h⟩
 | k + 1 => by
  obtain ⟨ih0, ih1, ih2⟩ := spec_StepsValid.mono_l k
  refine ⟨?_, ?_, ?_⟩
  ·intro y0 y1
   unfold spec_StepsValid.l0
   repeat' first
   | (with_reducible exact ih0 _ _)
   | (with_reducible exact ih1 _ _ _ _ _ _ _)
   | (with_reducible exact ih2 _ _ _ _ _ _ _)
   | (with_reducible exact lR_q _)
   | (with_reducible exact lO_q _)
   | (with_reducible refine lI_q ?_ ?_)
   | (with_reducible refine lB_q ?_ (fun _ => ?_))
   | exact ih0 _ _
   | exact ih1 _ _ _ _ _ _ _
   | exact ih2 _ _ _ _ _ _ _
   | exact lO_q _
   | refine lI_q ?_ ?_
   | refine lB_q ?_ (fun _ => ?_)
  ·intro y0 y1 y2 y3 y4 y5 y6
   unfold spec_StepsValid.j1
   repeat' first
   | (with_reducible exact ih0 _ _)
   | (with_reducible exact ih1 _ _ _ _ _ _ _)
   | (with_reducible exact ih2 _ _ _ _ _ _ _)
   | (with_reducible exact lR_q _)
   | (with_reducible exact lO_q _)
   | (with_reducible refine lI_q ?_ ?_)
   | (with_reducible refine lB_q ?_ (fun _ => ?_))
   | exact ih0 _ _
   | exact ih1 _ _ _ _ _ _ _
   | exact ih2 _ _ _ _ _ _ _
   | exact lO_q _
   | refine lI_q ?_ ?_
   | refine lB_q ?_ (fun _ => ?_)
  intro y0 y1 y2 y3 y4 y5 y6
  unfold spec_StepsValid.l1
  repeat' first
  | (with_reducible exact ih0 _ _)
  | (with_reducible exact ih1 _ _ _ _ _ _ _)
  | (with_reducible exact ih2 _ _ _ _ _ _ _)
  | (with_reducible exact lR_q _)
  | (with_reducible exact lO_q _)
  | (with_reducible refine lI_q ?_ ?_)
  | (with_reducible refine lB_q ?_ (fun _ => ?_))
  | exact ih0 _ _
  | exact ih1 _ _ _ _ _ _ _
  | exact ih2 _ _ _ _ _ _ _
  | exact lO_q _
  | refine lI_q ?_ ?_
  | refine lB_q ?_ (fun _ => ?_)
theorem spec_StepsValid.mono : ∀ a0 k, LeO (spec_StepsValid.f k a0) (spec_StepsValid.f (k + 1) a0) := by
 intro a0 k
 obtain ⟨ih0, ih1, ih2⟩ := spec_StepsValid.mono_l k
 unfold spec_StepsValid.f
 repeat' first
  | (with_reducible exact ih0 _ _)
  | (with_reducible exact ih1 _ _ _ _ _ _ _)
  | (with_reducible exact ih2 _ _ _ _ _ _ _)
  | (with_reducible exact lR_q _)
  | (with_reducible exact lO_q _)
  | (with_reducible refine lI_q ?_ ?_)
  | (with_reducible refine lB_q ?_ (fun _ => ?_))
  | exact ih0 _ _
  | exact ih1 _ _ _ _ _ _ _
  | exact ih2 _ _ _ _ _ _ _
  | exact lO_q _
  | refine lI_q ?_ ?_
  | refine lB_q ?_ (fun _ => ?_)
set_option maxHeartbeats 8000000 in
set_option maxRecDepth 100000 in
theorem spec_StepsValid.calls (k : Nat) (A0 : Option Addr) (c0 : Nat) (l0 : List (S31)) (r : Bool) (w : World) (hr0 : Kd.C k31 w A0 l0.length l0) (hc0 : l0.length ≤ c0) (h : spec_StepsValid.f k l0 = some r) :
    Calls Try.prog 62 #[.slice A0 l0.length c0] w fun e w' => e = .returned (.bool r) ∧ Below w.heap.size w w' := by
 have hu31 := Try.underlying31
 have HR0 := Ae_q hr0
 have HC0 := Ae_q hc0
 clear hr0 hc0
 have HB := Ae_q (bR_q w.heap.size w)
 have H : (spec_StepsValid.l0 k l0 0) = some r := h
 clear h
 have H' := Ae_q H
 clear H
 go_enter Try.func62, Try.ntmps62
 go_wp2
 repeat (go_quiet (fail); try go_wp2)
 go_loopg [3] k (fun kq v3 w' => ∃ (x3_1 : Int), v3 = .int .i64 x3_1 ∧ Aside0 (spec_StepsValid.l0 kq l0 x3_1 = some r) ∧ Aside0 (kq ≤ k) ∧ Aside0 (Below w.heap.size w w'))
 case atStart => exact ⟨(0), (by first | rfl | (simp; done) | (simp [*]; done)), H', ⟨nR_q _⟩, ⟨bel HB.out⟩⟩
 case round =>
  clear H'
  obtain ⟨x3_1, rfl, HA, HK1, HB⟩ := hrel
  cases gk with
  | zero => exact absurd HA.out (by simp [spec_StepsValid.l0])
  | succ k1 =>
   have H := HA.out
   clear HA
   simp only [spec_StepsValid.l0] at H
   by_cases c2 : x3_1 < (l0.length : Int)
   ·rw [if_pos c2] at H
    have c2b0 : decide (x3_1 < (l0.length : Int)) = true := dT_q c2
    clear c2
    by_cases c3 : 0 ≤ x3_1
    ·rw [if_pos c3] at H
     have c3b0 : decide (0 ≤ x3_1) = true := dT_q c3
     clear c3
     have HC4 := Ae_q H
     clear H
     have p228 : 0 ≤ (x3_1 : Int) := oD_q (by assumption)
     have q228 : x3_1 < (l0.length : Int) := oD_q (by assumption)
     obtain ⟨ad228, A228_3, c228_3, e228, hx228_0, hx228_1, hx228_2, hx228_3, hl228_3, hi228_3⟩ := at_T31 HR0.out x3_1 p228 q228
     cases e228
     replace hx228_0 := (HB.out.cell (wL_q w _ hx228_0)).trans hx228_0
     replace hx228_1 := (HB.out.cell (wL_q w _ hx228_1)).trans hx228_1
     replace hx228_2 := (HB.out.cell (wL_q w _ hx228_2)).trans hx228_2
     replace hx228_3 := (HB.out.cell (wL_q w _ hx228_3)).trans hx228_3
     have HR228_3 := Ae_q hi228_3
     have HC228_3 := Ae_q hl228_3
     clear hi228_3 hl228_3
     replace p228 := eq_true p228
     replace q228 := eq_true q228
     go_upto_region 5 with (first | ((with_reducible refine gD_q (N := 4) rfl ?_); refine bE_q ?hg (N := 4) ?hd (cs := #[.int .i64 0, .int .i64 0, .int .i64 0, .slice none 0 0]) (t := 31) ?hr ?_; (case hd => rfl); (case hg => rfl); (case hr => first | (go_simp; done) | (go_simp; rfl)); intro gb229 hg w5 hbox hb; have n0_ := Ae_q (bT_q (bel HB.out) hb); have n1_ := Ae_q (hbox); have n2_ := Ae_q ((by rw [hg]; exact (bZ_q (bel HB.out)) : w.heap.size ≤ gb229)); have n3_ := Ae_q ((by rw [hg]; exact (bZ_q (bel HB.out)) : w.heap.size ≤ gb229)); clear HB; have HB := n0_; have BK229 := n1_; have GW229 := n2_; have GE229 := n3_; clear n0_ n1_ n2_ n3_; clear hb hbox hg; have hcz6_0 : w5.cell? ⟨gb229, 0, none⟩ = some (.int .i64 0) := (bC_q BK229.out 0).trans rfl; have hcz6_1 : w5.cell? ⟨gb229, 1, none⟩ = some (.int .i64 0) := (bC_q BK229.out 1).trans rfl; have hcz6_2 : w5.cell? ⟨gb229, 2, none⟩ = some (.int .i64 0) := (bC_q BK229.out 2).trans rfl; have hcz6_3 : w5.cell? ⟨gb229, 3, none⟩ = some (.slice none 0 0) := (bC_q BK229.out 3).trans rfl; have hfz6_0 := bF_q BK229.out 0; have hfz6_1 := bF_q BK229.out 1; have hfz6_2 := bF_q BK229.out 2; have hfz6_3 := bF_q BK229.out 3))
     repeat (go_quiet (first | ((with_reducible refine gD_q (N := 4) rfl ?_); refine bE_q ?hg (N := 4) ?hd (cs := #[.int .i64 0, .int .i64 0, .int .i64 0, .slice none 0 0]) (t := 31) ?hr ?_; (case hd => rfl); (case hg => rfl); (case hr => first | (go_simp; done) | (go_simp; rfl)); intro gb229 hg w5 hbox hb; have n0_ := Ae_q (bT_q (bel HB.out) hb); have n1_ := Ae_q (hbox); have n2_ := Ae_q ((by rw [hg]; exact (bZ_q (bel HB.out)) : w.heap.size ≤ gb229)); have n3_ := Ae_q ((by rw [hg]; exact (bZ_q (bel HB.out)) : w.heap.size ≤ gb229)); clear HB; have HB := n0_; have BK229 := n1_; have GW229 := n2_; have GE229 := n3_; clear n0_ n1_ n2_ n3_; clear hb hbox hg; have hcz6_0 : w5.cell? ⟨gb229, 0, none⟩ = some (.int .i64 0) := (bC_q BK229.out 0).trans rfl; have hcz6_1 : w5.cell? ⟨gb229, 1, none⟩ = some (.int .i64 0) := (bC_q BK229.out 1).trans rfl; have hcz6_2 : w5.cell? ⟨gb229, 2, none⟩ = some (.int .i64 0) := (bC_q BK229.out 2).trans rfl; have hcz6_3 : w5.cell? ⟨gb229, 3, none⟩ = some (.slice none 0 0) := (bC_q BK229.out 3).trans rfl; have hfz6_0 := bF_q BK229.out 0; have hfz6_1 := bF_q BK229.out 1; have hfz6_2 := bF_q BK229.out 2; have hfz6_3 := bF_q BK229.out 3)); go_upto_region 5 with (first | ((with_reducible refine gD_q (N := 4) rfl ?_); refine bE_q ?hg (N := 4) ?hd (cs := #[.int .i64 0, .int .i64 0, .int .i64 0, .slice none 0 0]) (t := 31) ?hr ?_; (case hd => rfl); (case hg => rfl); (case hr => first | (go_simp; done) | (go_simp; rfl)); intro gb229 hg w5 hbox hb; have n0_ := Ae_q (bT_q (bel HB.out) hb); have n1_ := Ae_q (hbox); have n2_ := Ae_q ((by rw [hg]; exact (bZ_q (bel HB.out)) : w.heap.size ≤ gb229)); have n3_ := Ae_q ((by rw [hg]; exact (bZ_q (bel HB.out)) : w.heap.size ≤ gb229)); clear HB; have HB := n0_; have BK229 := n1_; have GW229 := n2_; have GE229 := n3_; clear n0_ n1_ n2_ n3_; clear hb hbox hg; have hcz6_0 : w5.cell? ⟨gb229, 0, none⟩ = some (.int .i64 0) := (bC_q BK229.out 0).trans rfl; have hcz6_1 : w5.cell? ⟨gb229, 1, none⟩ = some (.int .i64 0) := (bC_q BK229.out 1).trans rfl; have hcz6_2 : w5.cell? ⟨gb229, 2, none⟩ = some (.int .i64 0) := (bC_q BK229.out 2).trans rfl; have hcz6_3 : w5.cell? ⟨gb229, 3, none⟩ = some (.slice none 0 0) := (bC_q BK229.out 3).trans rfl; have hfz6_0 := bF_q BK229.out 0; have hfz6_1 := bF_q BK229.out 1; have hfz6_2 := bF_q BK229.out 2; have hfz6_3 := bF_q BK229.out 3)))
     (try simp only [Act.put, sA_q, sZ_q, sS_q])
     go_cut [31] (fun v31 wc => ∃ (kq : Nat) (x31_3 : Bool), v31 = .bool x31_3 ∧ Aside0 (spec_StepsValid.j1 kq l0 x3_1 x31_3 ((rd_T31 l0 x3_1).f0) ((rd_T31 l0 x3_1).f1) ((rd_T31 l0 x3_1).f2) ((rd_T31 l0 x3_1).f3) = some r) ∧ Aside0 (kq ≤ k1) ∧ Aside0 (wc.heap[gb229]? = some (.cells #[.int .i64 ((rd_T31 l0 x3_1).f0), .int .i64 ((rd_T31 l0 x3_1).f1), .int .i64 ((rd_T31 l0 x3_1).f2), (.slice A228_3 ((rd_T31 l0 x3_1).f3).length c228_3)] 31 (0, 0))) ∧ Aside0 (Below w.heap.size w wc))
     case first =>
      have H := HC4.out
      clear HC4
      replace H := oB_q.mp H
      obtain ⟨t230, A70, H⟩ := H
      replace H : (if t230 = true then ((spec_l6In.f ((rd_T31 l0 x3_1).f1) 0 4).bind fun t231 => (if t231 = true then ((spec_l6In.f ((rd_T31 l0 x3_1).f2) 0 4).bind fun t232 => (spec_StepsValid.j1 k1 l0 x3_1 (!t232) ((rd_T31 l0 x3_1).f0) ((rd_T31 l0 x3_1).f1) ((rd_T31 l0 x3_1).f2) ((rd_T31 l0 x3_1).f3))) else (spec_StepsValid.j1 k1 l0 x3_1 true ((rd_T31 l0 x3_1).f0) ((rd_T31 l0 x3_1).f1) ((rd_T31 l0 x3_1).f2) ((rd_T31 l0 x3_1).f3)))) else (spec_StepsValid.j1 k1 l0 x3_1 true ((rd_T31 l0 x3_1).f0) ((rd_T31 l0 x3_1).f1) ((rd_T31 l0 x3_1).f2) ((rd_T31 l0 x3_1).f3))) = some r := H
      have A7 := Ae_q A70
      clear A70
      by_cases c8 : t230 = true
      ·subst c8
       have H1 : ((spec_l6In.f ((rd_T31 l0 x3_1).f1) 0 4).bind fun t231 => (if t231 = true then ((spec_l6In.f ((rd_T31 l0 x3_1).f2) 0 4).bind fun t232 => (spec_StepsValid.j1 k1 l0 x3_1 (!t232) ((rd_T31 l0 x3_1).f0) ((rd_T31 l0 x3_1).f1) ((rd_T31 l0 x3_1).f2) ((rd_T31 l0 x3_1).f3))) else (spec_StepsValid.j1 k1 l0 x3_1 true ((rd_T31 l0 x3_1).f0) ((rd_T31 l0 x3_1).f1) ((rd_T31 l0 x3_1).f2) ((rd_T31 l0 x3_1).f3)))) = some r := by rw [if_pos rfl] at H; exact H
       clear H
       have H := H1
       clear H1
       replace H := oB_q.mp H
       obtain ⟨t231, A90, H⟩ := H
       replace H : (if t231 = true then ((spec_l6In.f ((rd_T31 l0 x3_1).f2) 0 4).bind fun t232 => (spec_StepsValid.j1 k1 l0 x3_1 (!t232) ((rd_T31 l0 x3_1).f0) ((rd_T31 l0 x3_1).f1) ((rd_T31 l0 x3_1).f2) ((rd_T31 l0 x3_1).f3))) else (spec_StepsValid.j1 k1 l0 x3_1 true ((rd_T31 l0 x3_1).f0) ((rd_T31 l0 x3_1).f1) ((rd_T31 l0 x3_1).f2) ((rd_T31 l0 x3_1).f3))) = some r := H
       have A9 := Ae_q A90
       clear A90
       by_cases c10 : t231 = true
       ·subst c10
        have H1 : ((spec_l6In.f ((rd_T31 l0 x3_1).f2) 0 4).bind fun t232 => (spec_StepsValid.j1 k1 l0 x3_1 (!t232) ((rd_T31 l0 x3_1).f0) ((rd_T31 l0 x3_1).f1) ((rd_T31 l0 x3_1).f2) ((rd_T31 l0 x3_1).f3))) = some r := by rw [if_pos rfl] at H; exact H
        clear H
        have H := H1
        clear H1
        replace H := oB_q.mp H
        obtain ⟨t232, A110, H⟩ := H
        replace H : (spec_StepsValid.j1 k1 l0 x3_1 (!t232) ((rd_T31 l0 x3_1).f0) ((rd_T31 l0 x3_1).f1) ((rd_T31 l0 x3_1).f2) ((rd_T31 l0 x3_1).f3)) = some r := H
        have A11 := Ae_q A110
        clear A110
        have H' := Ae_q H
        clear H
        have hcz12_0 : w5.cell? ⟨gb229, 0, none⟩ = some (.int .i64 0) := (bC_q BK229.out 0).trans rfl
        have hcz12_1 : w5.cell? ⟨gb229, 1, none⟩ = some (.int .i64 0) := (bC_q BK229.out 1).trans rfl
        have hcz12_2 : w5.cell? ⟨gb229, 2, none⟩ = some (.int .i64 0) := (bC_q BK229.out 2).trans rfl
        have hcz12_3 : w5.cell? ⟨gb229, 3, none⟩ = some (.slice none 0 0) := (bC_q BK229.out 3).trans rfl
        have hfz12_0 := bF_q BK229.out 0
        have hfz12_1 := bF_q BK229.out 1
        have hfz12_2 := bF_q BK229.out 2
        have hfz12_3 := bF_q BK229.out 3
        go_wp2_with (first | (go_at_call 47; (with_reducible refine (spec_l6In.calls ((rd_T31 l0 x3_1).f0) 1 99 true _ A7.out).mono ?_); rintro e w' ⟨rfl, ⟨nd, rfl⟩⟩; (try first | exact ⟨rfl, _, wD_q _ _ _⟩ | exact ⟨rfl, _, Eq.trans (wD_q _ _ _) (congrArg (World.drewN _) (nA_q _ _ _))⟩)) | (go_at_call 47; (with_reducible refine (spec_l6In.calls ((rd_T31 l0 x3_1).f1) 0 4 true _ A9.out).mono ?_); rintro e w' ⟨rfl, ⟨nd, rfl⟩⟩; (try first | exact ⟨rfl, _, wD_q _ _ _⟩ | exact ⟨rfl, _, Eq.trans (wD_q _ _ _) (congrArg (World.drewN _) (nA_q _ _ _))⟩)) | (go_at_call 47; (with_reducible refine (spec_l6In.calls ((rd_T31 l0 x3_1).f2) 0 4 t232 _ A11.out).mono ?_); rintro e w' ⟨rfl, ⟨nd, rfl⟩⟩; (try first | exact ⟨rfl, _, wD_q _ _ _⟩ | exact ⟨rfl, _, Eq.trans (wD_q _ _ _) (congrArg (World.drewN _) (nA_q _ _ _))⟩)))
        repeat (go_quiet (first | (go_at_call 47; (with_reducible refine (spec_l6In.calls ((rd_T31 l0 x3_1).f0) 1 99 true _ A7.out).mono ?_); rintro e w' ⟨rfl, ⟨nd, rfl⟩⟩; (try first | exact ⟨rfl, _, wD_q _ _ _⟩ | exact ⟨rfl, _, Eq.trans (wD_q _ _ _) (congrArg (World.drewN _) (nA_q _ _ _))⟩)) | (go_at_call 47; (with_reducible refine (spec_l6In.calls ((rd_T31 l0 x3_1).f1) 0 4 true _ A9.out).mono ?_); rintro e w' ⟨rfl, ⟨nd, rfl⟩⟩; (try first | exact ⟨rfl, _, wD_q _ _ _⟩ | exact ⟨rfl, _, Eq.trans (wD_q _ _ _) (congrArg (World.drewN _) (nA_q _ _ _))⟩)) | (go_at_call 47; (with_reducible refine (spec_l6In.calls ((rd_T31 l0 x3_1).f2) 0 4 t232 _ A11.out).mono ?_); rintro e w' ⟨rfl, ⟨nd, rfl⟩⟩; (try first | exact ⟨rfl, _, wD_q _ _ _⟩ | exact ⟨rfl, _, Eq.trans (wD_q _ _ _) (congrArg (World.drewN _) (nA_q _ _ _))⟩))); try go_wp2_with (first | (go_at_call 47; (with_reducible refine (spec_l6In.calls ((rd_T31 l0 x3_1).f0) 1 99 true _ A7.out).mono ?_); rintro e w' ⟨rfl, ⟨nd, rfl⟩⟩; (try first | exact ⟨rfl, _, wD_q _ _ _⟩ | exact ⟨rfl, _, Eq.trans (wD_q _ _ _) (congrArg (World.drewN _) (nA_q _ _ _))⟩)) | (go_at_call 47; (with_reducible refine (spec_l6In.calls ((rd_T31 l0 x3_1).f1) 0 4 true _ A9.out).mono ?_); rintro e w' ⟨rfl, ⟨nd, rfl⟩⟩; (try first | exact ⟨rfl, _, wD_q _ _ _⟩ | exact ⟨rfl, _, Eq.trans (wD_q _ _ _) (congrArg (World.drewN _) (nA_q _ _ _))⟩)) | (go_at_call 47; (with_reducible refine (spec_l6In.calls ((rd_T31 l0 x3_1).f2) 0 4 t232 _ A11.out).mono ?_); rintro e w' ⟨rfl, ⟨nd, rfl⟩⟩; (try first | exact ⟨rfl, _, wD_q _ _ _⟩ | exact ⟨rfl, _, Eq.trans (wD_q _ _ _) (congrArg (World.drewN _) (nA_q _ _ _))⟩))))
        go_meet
        case rel => exact ⟨_, (!t232), (by first | rfl | (simp; done) | (simp [*]; done)), H', ⟨by have := HK1.out; first | omega | exact nR_q _⟩, ⟨by (with_reducible repeat (first | refine bN_q ?_ _ | refine bW_q ?_ | refine bL_q ?_ _)); refine blk_put (cs := #[.int .i64 ((rd_T31 l0 x3_1).f0), .int .i64 ((rd_T31 l0 x3_1).f1), .int .i64 ((rd_T31 l0 x3_1).f2), .slice none 0 0]) ?_ 3 _ rfl; (with_reducible repeat (first | refine bN_q ?_ _ | refine bW_q ?_ | refine bL_q ?_ _)); refine blk_put (cs := #[.int .i64 ((rd_T31 l0 x3_1).f0), .int .i64 ((rd_T31 l0 x3_1).f1), .int .i64 0, .slice none 0 0]) ?_ 2 _ rfl; (with_reducible repeat (first | refine bN_q ?_ _ | refine bW_q ?_ | refine bL_q ?_ _)); refine blk_put (cs := #[.int .i64 ((rd_T31 l0 x3_1).f0), .int .i64 0, .int .i64 0, .slice none 0 0]) ?_ 1 _ rfl; (with_reducible repeat (first | refine bN_q ?_ _ | refine bW_q ?_ | refine bL_q ?_ _)); refine blk_put (cs := #[.int .i64 0, .int .i64 0, .int .i64 0, .slice none 0 0]) ?_ 0 _ rfl; (with_reducible repeat (first | refine bN_q ?_ _ | refine bW_q ?_ | refine bL_q ?_ _)); exact BK229.out⟩, ⟨by repeat (first | (with_reducible first | exact HB.out | apply bA_q | apply pB_q | apply bD_q | refine bS_q ?_ GE229.out) | exact HB.out)⟩⟩
       replace c10 := fM_q.mpr c10
       subst c10
       have H1 : (spec_StepsValid.j1 k1 l0 x3_1 true ((rd_T31 l0 x3_1).f0) ((rd_T31 l0 x3_1).f1) ((rd_T31 l0 x3_1).f2) ((rd_T31 l0 x3_1).f3)) = some r := by rw [if_neg (show ¬ (false = true) by decide)] at H; exact H
       clear H
       have H := H1
       clear H1
       have H' := Ae_q H
       clear H
       have hcz13_0 : w5.cell? ⟨gb229, 0, none⟩ = some (.int .i64 0) := (bC_q BK229.out 0).trans rfl
       have hcz13_1 : w5.cell? ⟨gb229, 1, none⟩ = some (.int .i64 0) := (bC_q BK229.out 1).trans rfl
       have hcz13_2 : w5.cell? ⟨gb229, 2, none⟩ = some (.int .i64 0) := (bC_q BK229.out 2).trans rfl
       have hcz13_3 : w5.cell? ⟨gb229, 3, none⟩ = some (.slice none 0 0) := (bC_q BK229.out 3).trans rfl
       have hfz13_0 := bF_q BK229.out 0
       have hfz13_1 := bF_q BK229.out 1
       have hfz13_2 := bF_q BK229.out 2
       have hfz13_3 := bF_q BK229.out 3
       go_wp2_with (first | (go_at_call 47; (with_reducible refine (spec_l6In.calls ((rd_T31 l0 x3_1).f0) 1 99 true _ A7.out).mono ?_); rintro e w' ⟨rfl, ⟨nd, rfl⟩⟩; (try first | exact ⟨rfl, _, wD_q _ _ _⟩ | exact ⟨rfl, _, Eq.trans (wD_q _ _ _) (congrArg (World.drewN _) (nA_q _ _ _))⟩)) | (go_at_call 47; (with_reducible refine (spec_l6In.calls ((rd_T31 l0 x3_1).f1) 0 4 false _ A9.out).mono ?_); rintro e w' ⟨rfl, ⟨nd, rfl⟩⟩; (try first | exact ⟨rfl, _, wD_q _ _ _⟩ | exact ⟨rfl, _, Eq.trans (wD_q _ _ _) (congrArg (World.drewN _) (nA_q _ _ _))⟩)))
       repeat (go_quiet (first | (go_at_call 47; (with_reducible refine (spec_l6In.calls ((rd_T31 l0 x3_1).f0) 1 99 true _ A7.out).mono ?_); rintro e w' ⟨rfl, ⟨nd, rfl⟩⟩; (try first | exact ⟨rfl, _, wD_q _ _ _⟩ | exact ⟨rfl, _, Eq.trans (wD_q _ _ _) (congrArg (World.drewN _) (nA_q _ _ _))⟩)) | (go_at_call 47; (with_reducible refine (spec_l6In.calls ((rd_T31 l0 x3_1).f1) 0 4 false _ A9.out).mono ?_); rintro e w' ⟨rfl, ⟨nd, rfl⟩⟩; (try first | exact ⟨rfl, _, wD_q _ _ _⟩ | exact ⟨rfl, _, Eq.trans (wD_q _ _ _) (congrArg (World.drewN _) (nA_q _ _ _))⟩))); try go_wp2_with (first | (go_at_call 47; (with_reducible refine (spec_l6In.calls ((rd_T31 l0 x3_1).f0) 1 99 true _ A7.out).mono ?_); rintro e w' ⟨rfl, ⟨nd, rfl⟩⟩; (try first | exact ⟨rfl, _, wD_q _ _ _⟩ | exact ⟨rfl, _, Eq.trans (wD_q _ _ _) (congrArg (World.drewN _) (nA_q _ _ _))⟩)) | (go_at_call 47; (with_reducible refine (spec_l6In.calls ((rd_T31 l0 x3_1).f1) 0 4 false _ A9.out).mono ?_); rintro e w' ⟨rfl, ⟨nd, rfl⟩⟩; (try first | exact ⟨rfl, _, wD_q _ _ _⟩ | exact ⟨rfl, _, Eq.trans (wD_q _ _ _) (congrArg (World.drewN _) (nA_q _ _ _))⟩))))
       go_meet
       case rel => exact ⟨_, (true), (by first | rfl | (simp; done) | (simp [*]; done)), H', ⟨by have := HK1.out; first | omega | exact nR_q _⟩, ⟨by (with_reducible repeat (first | refine bN_q ?_ _ | refine bW_q ?_ | refine bL_q ?_ _)); refine blk_put (cs := #[.int .i64 ((rd_T31 l0 x3_1).f0), .int .i64 ((rd_T31 l0 x3_1).f1), .int .i64 ((rd_T31 l0 x3_1).f2), .slice none 0 0]) ?_ 3 _ rfl; (with_reducible repeat (first | refine bN_q ?_ _ | refine bW_q ?_ | refine bL_q ?_ _)); refine blk_put (cs := #[.int .i64 ((rd_T31 l0 x3_1).f0), .int .i64 ((rd_T31 l0 x3_1).f1), .int .i64 0, .slice none 0 0]) ?_ 2 _ rfl; (with_reducible repeat (first | refine bN_q ?_ _ | refine bW_q ?_ | refine bL_q ?_ _)); refine blk_put (cs := #[.int .i64 ((rd_T31 l0 x3_1).f0), .int .i64 0, .int .i64 0, .slice none 0 0]) ?_ 1 _ rfl; (with_reducible repeat (first | refine bN_q ?_ _ | refine bW_q ?_ | refine bL_q ?_ _)); refine blk_put (cs := #[.int .i64 0, .int .i64 0, .int .i64 0, .slice none 0 0]) ?_ 0 _ rfl; (with_reducible repeat (first | refine bN_q ?_ _ | refine bW_q ?_ | refine bL_q ?_ _)); exact BK229.out⟩, ⟨by repeat (first | (with_reducible first | exact HB.out | apply bA_q | apply pB_q | apply bD_q | refine bS_q ?_ GE229.out) | exact HB.out)⟩⟩
      replace c8 := fM_q.mpr c8
      subst c8
      have H1 : (spec_StepsValid.j1 k1 l0 x3_1 true ((rd_T31 l0 x3_1).f0) ((rd_T31 l0 x3_1).f1) ((rd_T31 l0 x3_1).f2) ((rd_T31 l0 x3_1).f3)) = some r := by rw [if_neg (show ¬ (false = true) by decide)] at H; exact H
      clear H
      have H := H1
      clear H1
      have H' := Ae_q H
      clear H
      have hcz14_0 : w5.cell? ⟨gb229, 0, none⟩ = some (.int .i64 0) := (bC_q BK229.out 0).trans rfl
      have hcz14_1 : w5.cell? ⟨gb229, 1, none⟩ = some (.int .i64 0) := (bC_q BK229.out 1).trans rfl
      have hcz14_2 : w5.cell? ⟨gb229, 2, none⟩ = some (.int .i64 0) := (bC_q BK229.out 2).trans rfl
      have hcz14_3 : w5.cell? ⟨gb229, 3, none⟩ = some (.slice none 0 0) := (bC_q BK229.out 3).trans rfl
      have hfz14_0 := bF_q BK229.out 0
      have hfz14_1 := bF_q BK229.out 1
      have hfz14_2 := bF_q BK229.out 2
      have hfz14_3 := bF_q BK229.out 3
      go_wp2_with (first | (go_at_call 47; (with_reducible refine (spec_l6In.calls ((rd_T31 l0 x3_1).f0) 1 99 false _ A7.out).mono ?_); rintro e w' ⟨rfl, ⟨nd, rfl⟩⟩; (try first | exact ⟨rfl, _, wD_q _ _ _⟩ | exact ⟨rfl, _, Eq.trans (wD_q _ _ _) (congrArg (World.drewN _) (nA_q _ _ _))⟩)))
      repeat (go_quiet (first | (go_at_call 47; (with_reducible refine (spec_l6In.calls ((rd_T31 l0 x3_1).f0) 1 99 false _ A7.out).mono ?_); rintro e w' ⟨rfl, ⟨nd, rfl⟩⟩; (try first | exact ⟨rfl, _, wD_q _ _ _⟩ | exact ⟨rfl, _, Eq.trans (wD_q _ _ _) (congrArg (World.drewN _) (nA_q _ _ _))⟩))); try go_wp2_with (first | (go_at_call 47; (with_reducible refine (spec_l6In.calls ((rd_T31 l0 x3_1).f0) 1 99 false _ A7.out).mono ?_); rintro e w' ⟨rfl, ⟨nd, rfl⟩⟩; (try first | exact ⟨rfl, _, wD_q _ _ _⟩ | exact ⟨rfl, _, Eq.trans (wD_q _ _ _) (congrArg (World.drewN _) (nA_q _ _ _))⟩))))
      go_meet
      case rel => exact ⟨_, (true), (by first | rfl | (simp; done) | (simp [*]; done)), H', ⟨by have := HK1.out; first | omega | exact nR_q _⟩, ⟨by (with_reducible repeat (first | refine bN_q ?_ _ | refine bW_q ?_ | refine bL_q ?_ _)); refine blk_put (cs := #[.int .i64 ((rd_T31 l0 x3_1).f0), .int .i64 ((rd_T31 l0 x3_1).f1), .int .i64 ((rd_T31 l0 x3_1).f2), .slice none 0 0]) ?_ 3 _ rfl; (with_reducible repeat (first | refine bN_q ?_ _ | refine bW_q ?_ | refine bL_q ?_ _)); refine blk_put (cs := #[.int .i64 ((rd_T31 l0 x3_1).f0), .int .i64 ((rd_T31 l0 x3_1).f1), .int .i64 0, .slice none 0 0]) ?_ 2 _ rfl; (with_reducible repeat (first | refine bN_q ?_ _ | refine bW_q ?_ | refine bL_q ?_ _)); refine blk_put (cs := #[.int .i64 ((rd_T31 l0 x3_1).f0), .int .i64 0, .int .i64 0, .slice none 0 0]) ?_ 1 _ rfl; (with_reducible repeat (first | refine bN_q ?_ _ | refine bW_q ?_ | refine bL_q ?_ _)); refine blk_put (cs := #[.int .i64 0, .int .i64 0, .int .i64 0, .slice none 0 0]) ?_ 0 _ rfl; (with_reducible repeat (first | refine bN_q ?_ _ | refine bW_q ?_ | refine bL_q ?_ _)); exact BK229.out⟩, ⟨by repeat (first | (with_reducible first | exact HB.out | apply bA_q | apply pB_q | apply bD_q | refine bS_q ?_ GE229.out) | exact HB.out)⟩⟩
     case rest =>
      clear HC4
      try clear c1
      try clear c2
      try clear c2b0
      try clear p2
      try clear q2
      try clear hx2
      try clear c3
      try clear c3b0
      try clear c6
      try clear c8
      try clear c10
      try clear hcz12_0
      try clear hcz12_1
      try clear hcz12_2
      try clear hcz12_3
      try clear hcz13_0
      try clear hcz13_1
      try clear hcz13_2
      try clear hcz13_3
      try clear hcz14_0
      try clear hcz14_1
      try clear hcz14_2
      try clear hcz14_3
      try clear hcz6_0
      try clear hcz6_1
      try clear hcz6_2
      try clear hcz6_3
      try clear hfz12_0
      try clear hfz12_1
      try clear hfz12_2
      try clear hfz12_3
      try clear hfz13_0
      try clear hfz13_1
      try clear hfz13_2
      try clear hfz13_3
      try clear hfz14_0
      try clear hfz14_1
      try clear hfz14_2
      try clear hfz14_3
      try clear hfz6_0
      try clear hfz6_1
      try clear hfz6_2
      try clear hfz6_3
      try clear hx228_0
      try clear hx228_1
      try clear hx228_2
      try clear hx228_3
      try clear p228
      try clear q228
      obtain ⟨kq, x31_3, rfl, HA, HJ3, BK229, HB⟩ := hcut
      cases kq with
      | zero => exact absurd HA.out (by simp [spec_StepsValid.j1])
      | succ kj3 =>
       have H := HA.out
       clear HA
       simp only [spec_StepsValid.j1] at H
       by_cases c15 : x31_3 = true
       ·subst c15
        have H1 : (some false) = some r := by rw [if_pos rfl] at H; exact H
        clear H
        have H := H1
        clear H1
        obtain rfl := oI_q H
        go_wp2
        repeat (go_quiet (fail); try go_wp2)
        go_ret
        exact ⟨by first | rfl | (simp [eN_q, eS_q] <;> rfl) | (simp [*, eN_q, eS_q] <;> rfl), by repeat (first | (with_reducible first | exact HB.out | apply bA_q | apply pB_q | apply bD_q | refine bS_q ?_ GE229.out) | exact HB.out)⟩
       replace c15 := fM_q.mpr c15
       subst c15
       have H1 : (spec_StepsValid.l1 kj3 l0 x3_1 0 ((rd_T31 l0 x3_1).f0) ((rd_T31 l0 x3_1).f1) ((rd_T31 l0 x3_1).f2) ((rd_T31 l0 x3_1).f3)) = some r := by rw [if_neg (show ¬ (false = true) by decide)] at H; exact H
       clear H
       have H := H1
       clear H1
       have H' := Ae_q H
       clear H
       go_wp2
       repeat (go_quiet (fail); try go_wp2)
       go_loopg [5] kj3 (fun kq v5 w' => ∃ (x5_3 : Int), v5 = .int .i64 x5_3 ∧ Aside0 (spec_StepsValid.l1 kq l0 x3_1 x5_3 ((rd_T31 l0 x3_1).f0) ((rd_T31 l0 x3_1).f1) ((rd_T31 l0 x3_1).f2) ((rd_T31 l0 x3_1).f3) = some r) ∧ Aside0 (kq ≤ kj3) ∧ Aside0 (w'.heap[gb229]? = some (.cells #[.int .i64 ((rd_T31 l0 x3_1).f0), .int .i64 ((rd_T31 l0 x3_1).f1), .int .i64 ((rd_T31 l0 x3_1).f2), (.slice A228_3 ((rd_T31 l0 x3_1).f3).length c228_3)] 31 (0, 0))) ∧ Aside0 (Below w.heap.size w w'))
       case atStart => exact ⟨(0), (by first | rfl | (simp; done) | (simp [*]; done)), H', ⟨nR_q _⟩, ⟨by (with_reducible repeat (first | refine bN_q ?_ _ | refine bW_q ?_ | refine bL_q ?_ _)); exact BK229.out⟩, ⟨by repeat (first | (with_reducible first | exact HB.out | apply bA_q | apply pB_q | apply bD_q | refine bS_q ?_ GE229.out) | exact HB.out)⟩⟩
       case round =>
        clear H'
        try clear c1
        try clear c2
        try clear c2b0
        try clear p2
        try clear q2
        try clear hx2
        try clear c3
        try clear c3b0
        try clear c6
        try clear c8
        try clear c10
        try clear c15
        try clear hcz12_0
        try clear hcz12_1
        try clear hcz12_2
        try clear hcz12_3
        try clear hcz13_0
        try clear hcz13_1
        try clear hcz13_2
        try clear hcz13_3
        try clear hcz14_0
        try clear hcz14_1
        try clear hcz14_2
        try clear hcz14_3
        try clear hcz6_0
        try clear hcz6_1
        try clear hcz6_2
        try clear hcz6_3
        try clear hfz12_0
        try clear hfz12_1
        try clear hfz12_2
        try clear hfz12_3
        try clear hfz13_0
        try clear hfz13_1
        try clear hfz13_2
        try clear hfz13_3
        try clear hfz14_0
        try clear hfz14_1
        try clear hfz14_2
        try clear hfz14_3
        try clear hfz6_0
        try clear hfz6_1
        try clear hfz6_2
        try clear hfz6_3
        try clear hx228_0
        try clear hx228_1
        try clear hx228_2
        try clear hx228_3
        try clear p2
        try clear p228
        try clear q2
        try clear q228
        obtain ⟨x5_3, rfl, HA, HK3, BK229, HB⟩ := hrel
        cases gk with
        | zero => exact absurd HA.out (by simp [spec_StepsValid.l1])
        | succ k3 =>
         have H := HA.out
         clear HA
         simp only [spec_StepsValid.l1] at H
         by_cases c16 : x5_3 < (((rd_T31 l0 x3_1).f3).length : Int)
         ·rw [if_pos c16] at H
          have c16b0 : decide (x5_3 < (((rd_T31 l0 x3_1).f3).length : Int)) = true := dT_q c16
          clear c16
          by_cases c17 : 0 ≤ x5_3
          ·rw [if_pos c17] at H
           have c17b0 : decide (0 ≤ x5_3) = true := dT_q c17
           clear c17
           replace H := oB_q.mp H
           obtain ⟨t234, A180, H⟩ := H
           replace H : (if t234 = true then (if x5_3 > 0 then (if 0 ≤ (wrap64 (x5_3 - 1)) then (if (wrap64 (x5_3 - 1)) < (((rd_T31 l0 x3_1).f3).length : Int) then (if (rd ((rd_T31 l0 x3_1).f3) (wrap64 (x5_3 - 1))) ≥ (rd ((rd_T31 l0 x3_1).f3) x5_3) then (some false) else (spec_StepsValid.l1 k3 l0 x3_1 (wrap64 (x5_3 + 1)) ((rd_T31 l0 x3_1).f0) ((rd_T31 l0 x3_1).f1) ((rd_T31 l0 x3_1).f2) ((rd_T31 l0 x3_1).f3))) else (none)) else (none)) else (spec_StepsValid.l1 k3 l0 x3_1 (wrap64 (x5_3 + 1)) ((rd_T31 l0 x3_1).f0) ((rd_T31 l0 x3_1).f1) ((rd_T31 l0 x3_1).f2) ((rd_T31 l0 x3_1).f3))) else (some false)) = some r := H
           have A18 := Ae_q A180
           clear A180
           by_cases c19 : t234 = true
           ·subst c19
            have H1 : (if x5_3 > 0 then (if 0 ≤ (wrap64 (x5_3 - 1)) then (if (wrap64 (x5_3 - 1)) < (((rd_T31 l0 x3_1).f3).length : Int) then (if (rd ((rd_T31 l0 x3_1).f3) (wrap64 (x5_3 - 1))) ≥ (rd ((rd_T31 l0 x3_1).f3) x5_3) then (some false) else (spec_StepsValid.l1 k3 l0 x3_1 (wrap64 (x5_3 + 1)) ((rd_T31 l0 x3_1).f0) ((rd_T31 l0 x3_1).f1) ((rd_T31 l0 x3_1).f2) ((rd_T31 l0 x3_1).f3))) else (none)) else (none)) else (spec_StepsValid.l1 k3 l0 x3_1 (wrap64 (x5_3 + 1)) ((rd_T31 l0 x3_1).f0) ((rd_T31 l0 x3_1).f1) ((rd_T31 l0 x3_1).f2) ((rd_T31 l0 x3_1).f3))) = some r := by rw [if_pos rfl] at H; exact H
            clear H
            have H := H1
            clear H1
            by_cases c20 : x5_3 > 0
            ·rw [if_pos c20] at H
             have c20b0 : decide (0 < x5_3) = true := dT_q c20
             clear c20
             obtain ⟨ji21, hji21⟩ : ∃ j_ : Int, (wrap64 (x5_3 - 1)) = j_ := ⟨_, rfl⟩
             replace H : (if 0 ≤ (ji21) then (if (ji21) < (((rd_T31 l0 x3_1).f3).length : Int) then (if (rd ((rd_T31 l0 x3_1).f3) (ji21)) ≥ (rd ((rd_T31 l0 x3_1).f3) x5_3) then (some false) else (spec_StepsValid.l1 k3 l0 x3_1 (wrap64 (x5_3 + 1)) ((rd_T31 l0 x3_1).f0) ((rd_T31 l0 x3_1).f1) ((rd_T31 l0 x3_1).f2) ((rd_T31 l0 x3_1).f3))) else (none)) else (none)) = some r := by first | (rw [hji21] at H; exact H) | (simp only [hji21] at H ⊢; exact H)
             (try rw [hji21] at A18)
             have hji21w : (IntKind.i64.wrap (x5_3 - 1)) = ji21 := (i64_w _).trans hji21
             by_cases c22 : 0 ≤ (ji21)
             ·rw [if_pos c22] at H
              have c22b0 : decide (0 ≤ (ji21)) = true := dT_q c22
              clear c22
              by_cases c23 : (ji21) < (((rd_T31 l0 x3_1).f3).length : Int)
              ·rw [if_pos c23] at H
               have c23b0 : decide ((ji21) < (((rd_T31 l0 x3_1).f3).length : Int)) = true := dT_q c23
               clear c23
               by_cases c24 : (rd ((rd_T31 l0 x3_1).f3) (ji21)) ≥ (rd ((rd_T31 l0 x3_1).f3) x5_3)
               ·rw [if_pos c24] at H
                have c24b0 : decide ((rd ((rd_T31 l0 x3_1).f3) x5_3) ≤ (rd ((rd_T31 l0 x3_1).f3) (ji21))) = true := dT_q c24
                clear c24
                obtain rfl := oI_q H
                have hcz25_0 : wr.cell? ⟨gb229, 0, none⟩ = some (.int .i64 ((rd_T31 l0 x3_1).f0)) := (bC_q BK229.out 0).trans rfl
                have hcz25_1 : wr.cell? ⟨gb229, 1, none⟩ = some (.int .i64 ((rd_T31 l0 x3_1).f1)) := (bC_q BK229.out 1).trans rfl
                have hcz25_2 : wr.cell? ⟨gb229, 2, none⟩ = some (.int .i64 ((rd_T31 l0 x3_1).f2)) := (bC_q BK229.out 2).trans rfl
                have hcz25_3 : wr.cell? ⟨gb229, 3, none⟩ = some (.slice A228_3 ((rd_T31 l0 x3_1).f3).length c228_3) := (bC_q BK229.out 3).trans rfl
                have hfz25_0 := bF_q BK229.out 0
                have hfz25_1 := bF_q BK229.out 1
                have hfz25_2 := bF_q BK229.out 2
                have hfz25_3 := bF_q BK229.out 3
                have p233 : 0 ≤ (x5_3 : Int) := oD_q (by assumption)
                have q233 : x5_3 < (((rd_T31 l0 x3_1).f3).length : Int) := oD_q (by assumption)
                obtain ⟨ad233, e233, hx233_0⟩ := aI_q HR228_3.out x5_3 p233 q233
                cases e233
                replace hx233_0 := (HB.out.cell (wL_q w _ hx233_0)).trans hx233_0
                replace p233 := eq_true p233
                replace q233 := eq_true q233
                have p235 : 0 ≤ ((ji21) : Int) := oD_q (by assumption); have q235 : (ji21) < (((rd_T31 l0 x3_1).f3).length : Int) := oD_q (by assumption); obtain ⟨ad235, e235, hx235_0⟩ := aI_q HR228_3.out (ji21) p235 q235; obtain rfl : ad233 = ad235 := (by injection e235); replace hx235_0 := (HB.out.cell (wL_q w _ hx235_0)).trans hx235_0; replace p235 := eq_true p235; replace q235 := eq_true q235; have p236 : 0 ≤ (x5_3 : Int) := oD_q (by assumption); have q236 : x5_3 < (((rd_T31 l0 x3_1).f3).length : Int) := oD_q (by assumption); obtain ⟨ad236, e236, hx236_0⟩ := aI_q HR228_3.out x5_3 p236 q236; obtain rfl : ad233 = ad236 := (by injection e236); replace hx236_0 := (HB.out.cell (wL_q w _ hx236_0)).trans hx236_0; replace p236 := eq_true p236; replace q236 := eq_true q236
                go_wp2_with (first | (go_at_call 47; (with_reducible refine (spec_l6In.calls (rd ((rd_T31 l0 x3_1).f3) x5_3) 0 (wrap64 (x3_1 - 1)) true _ A18.out).mono ?_); rintro e w' ⟨rfl, ⟨nd, rfl⟩⟩; (try first | exact ⟨rfl, _, wD_q _ _ _⟩ | exact ⟨rfl, _, Eq.trans (wD_q _ _ _) (congrArg (World.drewN _) (nA_q _ _ _))⟩)))
                repeat (go_quiet (first | (go_at_call 47; (with_reducible refine (spec_l6In.calls (rd ((rd_T31 l0 x3_1).f3) x5_3) 0 (wrap64 (x3_1 - 1)) true _ A18.out).mono ?_); rintro e w' ⟨rfl, ⟨nd, rfl⟩⟩; (try first | exact ⟨rfl, _, wD_q _ _ _⟩ | exact ⟨rfl, _, Eq.trans (wD_q _ _ _) (congrArg (World.drewN _) (nA_q _ _ _))⟩))); try go_wp2_with (first | (go_at_call 47; (with_reducible refine (spec_l6In.calls (rd ((rd_T31 l0 x3_1).f3) x5_3) 0 (wrap64 (x3_1 - 1)) true _ A18.out).mono ?_); rintro e w' ⟨rfl, ⟨nd, rfl⟩⟩; (try first | exact ⟨rfl, _, wD_q _ _ _⟩ | exact ⟨rfl, _, Eq.trans (wD_q _ _ _) (congrArg (World.drewN _) (nA_q _ _ _))⟩))))
                go_ret
                exact ⟨by first | rfl | (simp [eN_q, eS_q] <;> rfl) | (simp only [← hji21]; first | rfl | (simp [eN_q, eS_q] <;> rfl)) | (simp [*, eN_q, eS_q] <;> rfl), by repeat (first | (with_reducible first | exact HB.out | apply bA_q | apply pB_q | apply bD_q | refine bS_q ?_ GE229.out) | exact HB.out)⟩
               rw [if_neg c24] at H
               have c24b0 : decide ((rd ((rd_T31 l0 x3_1).f3) x5_3) ≤ (rd ((rd_T31 l0 x3_1).f3) (ji21))) = false := dF_q c24
               clear c24
               have H' := Ae_q H
               clear H
               have hcz26_0 : wr.cell? ⟨gb229, 0, none⟩ = some (.int .i64 ((rd_T31 l0 x3_1).f0)) := (bC_q BK229.out 0).trans rfl
               have hcz26_1 : wr.cell? ⟨gb229, 1, none⟩ = some (.int .i64 ((rd_T31 l0 x3_1).f1)) := (bC_q BK229.out 1).trans rfl
               have hcz26_2 : wr.cell? ⟨gb229, 2, none⟩ = some (.int .i64 ((rd_T31 l0 x3_1).f2)) := (bC_q BK229.out 2).trans rfl
               have hcz26_3 : wr.cell? ⟨gb229, 3, none⟩ = some (.slice A228_3 ((rd_T31 l0 x3_1).f3).length c228_3) := (bC_q BK229.out 3).trans rfl
               have hfz26_0 := bF_q BK229.out 0
               have hfz26_1 := bF_q BK229.out 1
               have hfz26_2 := bF_q BK229.out 2
               have hfz26_3 := bF_q BK229.out 3
               have p233 : 0 ≤ (x5_3 : Int) := oD_q (by assumption)
               have q233 : x5_3 < (((rd_T31 l0 x3_1).f3).length : Int) := oD_q (by assumption)
               obtain ⟨ad233, e233, hx233_0⟩ := aI_q HR228_3.out x5_3 p233 q233
               cases e233
               replace hx233_0 := (HB.out.cell (wL_q w _ hx233_0)).trans hx233_0
               replace p233 := eq_true p233
               replace q233 := eq_true q233
               have p235 : 0 ≤ ((ji21) : Int) := oD_q (by assumption); have q235 : (ji21) < (((rd_T31 l0 x3_1).f3).length : Int) := oD_q (by assumption); obtain ⟨ad235, e235, hx235_0⟩ := aI_q HR228_3.out (ji21) p235 q235; obtain rfl : ad233 = ad235 := (by injection e235); replace hx235_0 := (HB.out.cell (wL_q w _ hx235_0)).trans hx235_0; replace p235 := eq_true p235; replace q235 := eq_true q235; have p236 : 0 ≤ (x5_3 : Int) := oD_q (by assumption); have q236 : x5_3 < (((rd_T31 l0 x3_1).f3).length : Int) := oD_q (by assumption); obtain ⟨ad236, e236, hx236_0⟩ := aI_q HR228_3.out x5_3 p236 q236; obtain rfl : ad233 = ad236 := (by injection e236); replace hx236_0 := (HB.out.cell (wL_q w _ hx236_0)).trans hx236_0; replace p236 := eq_true p236; replace q236 := eq_true q236
               go_wp2_with (first | (go_at_call 47; (with_reducible refine (spec_l6In.calls (rd ((rd_T31 l0 x3_1).f3) x5_3) 0 (wrap64 (x3_1 - 1)) true _ A18.out).mono ?_); rintro e w' ⟨rfl, ⟨nd, rfl⟩⟩; (try first | exact ⟨rfl, _, wD_q _ _ _⟩ | exact ⟨rfl, _, Eq.trans (wD_q _ _ _) (congrArg (World.drewN _) (nA_q _ _ _))⟩)))
               repeat (go_quiet (first | (go_at_call 47; (with_reducible refine (spec_l6In.calls (rd ((rd_T31 l0 x3_1).f3) x5_3) 0 (wrap64 (x3_1 - 1)) true _ A18.out).mono ?_); rintro e w' ⟨rfl, ⟨nd, rfl⟩⟩; (try first | exact ⟨rfl, _, wD_q _ _ _⟩ | exact ⟨rfl, _, Eq.trans (wD_q _ _ _) (congrArg (World.drewN _) (nA_q _ _ _))⟩))); try go_wp2_with (first | (go_at_call 47; (with_reducible refine (spec_l6In.calls (rd ((rd_T31 l0 x3_1).f3) x5_3) 0 (wrap64 (x3_1 - 1)) true _ A18.out).mono ?_); rintro e w' ⟨rfl, ⟨nd, rfl⟩⟩; (try first | exact ⟨rfl, _, wD_q _ _ _⟩ | exact ⟨rfl, _, Eq.trans (wD_q _ _ _) (congrArg (World.drewN _) (nA_q _ _ _))⟩))))
               go_roundg k3
               case measure => have := HK1.out; have := HJ3.out; have := HK3.out; omega
               case rel => exact ⟨(wrap64 (x5_3 + 1)), (by first | rfl | (simp; done) | (simp [*]; done)), H', ⟨by have := HK1.out; have := HJ3.out; have := HK3.out; omega⟩, ⟨by (with_reducible repeat (first | refine bN_q ?_ _ | refine bW_q ?_ | refine bL_q ?_ _)); exact BK229.out⟩, ⟨by repeat (first | (with_reducible first | exact HB.out | apply bA_q | apply pB_q | apply bD_q | refine bS_q ?_ GE229.out) | exact HB.out)⟩⟩
              rw [if_neg c23] at H
              exact absurd H (by simp)
             rw [if_neg c22] at H
             exact absurd H (by simp)
            rw [if_neg c20] at H
            have c20b0 : decide (0 < x5_3) = false := dF_q c20
            clear c20
            have H' := Ae_q H
            clear H
            have hcz27_0 : wr.cell? ⟨gb229, 0, none⟩ = some (.int .i64 ((rd_T31 l0 x3_1).f0)) := (bC_q BK229.out 0).trans rfl
            have hcz27_1 : wr.cell? ⟨gb229, 1, none⟩ = some (.int .i64 ((rd_T31 l0 x3_1).f1)) := (bC_q BK229.out 1).trans rfl
            have hcz27_2 : wr.cell? ⟨gb229, 2, none⟩ = some (.int .i64 ((rd_T31 l0 x3_1).f2)) := (bC_q BK229.out 2).trans rfl
            have hcz27_3 : wr.cell? ⟨gb229, 3, none⟩ = some (.slice A228_3 ((rd_T31 l0 x3_1).f3).length c228_3) := (bC_q BK229.out 3).trans rfl
            have hfz27_0 := bF_q BK229.out 0
            have hfz27_1 := bF_q BK229.out 1
            have hfz27_2 := bF_q BK229.out 2
            have hfz27_3 := bF_q BK229.out 3
            have p233 : 0 ≤ (x5_3 : Int) := oD_q (by assumption)
            have q233 : x5_3 < (((rd_T31 l0 x3_1).f3).length : Int) := oD_q (by assumption)
            obtain ⟨ad233, e233, hx233_0⟩ := aI_q HR228_3.out x5_3 p233 q233
            cases e233
            replace hx233_0 := (HB.out.cell (wL_q w _ hx233_0)).trans hx233_0
            replace p233 := eq_true p233
            replace q233 := eq_true q233
            go_wp2_with (first | (go_at_call 47; (with_reducible refine (spec_l6In.calls (rd ((rd_T31 l0 x3_1).f3) x5_3) 0 (wrap64 (x3_1 - 1)) true _ A18.out).mono ?_); rintro e w' ⟨rfl, ⟨nd, rfl⟩⟩; (try first | exact ⟨rfl, _, wD_q _ _ _⟩ | exact ⟨rfl, _, Eq.trans (wD_q _ _ _) (congrArg (World.drewN _) (nA_q _ _ _))⟩)))
            repeat (go_quiet (first | (go_at_call 47; (with_reducible refine (spec_l6In.calls (rd ((rd_T31 l0 x3_1).f3) x5_3) 0 (wrap64 (x3_1 - 1)) true _ A18.out).mono ?_); rintro e w' ⟨rfl, ⟨nd, rfl⟩⟩; (try first | exact ⟨rfl, _, wD_q _ _ _⟩ | exact ⟨rfl, _, Eq.trans (wD_q _ _ _) (congrArg (World.drewN _) (nA_q _ _ _))⟩))); try go_wp2_with (first | (go_at_call 47; (with_reducible refine (spec_l6In.calls (rd ((rd_T31 l0 x3_1).f3) x5_3) 0 (wrap64 (x3_1 - 1)) true _ A18.out).mono ?_); rintro e w' ⟨rfl, ⟨nd, rfl⟩⟩; (try first | exact ⟨rfl, _, wD_q _ _ _⟩ | exact ⟨rfl, _, Eq.trans (wD_q _ _ _) (congrArg (World.drewN _) (nA_q _ _ _))⟩))))
            go_roundg k3
            case measure => have := HK1.out; have := HJ3.out; have := HK3.out; omega
            case rel => exact ⟨(wrap64 (x5_3 + 1)), (by first | rfl | (simp; done) | (simp [*]; done)), H', ⟨by have := HK1.out; have := HJ3.out; have := HK3.out; omega⟩, ⟨by (with_reducible repeat (first | refine bN_q ?_ _ | refine bW_q ?_ | refine bL_q ?_ _)); exact BK229.out⟩, ⟨by repeat (first | (with_reducible first | exact HB.out | apply bA_q | apply pB_q | apply bD_q | refine bS_q ?_ GE229.out) | exact HB.out)⟩⟩
           replace c19 := fM_q.mpr c19
           subst c19
           have H1 : (some false) = some r := by rw [if_neg (show ¬ (false = true) by decide)] at H; exact H
           clear H
           have H := H1
           clear H1
           obtain rfl := oI_q H
           have hcz28_0 : wr.cell? ⟨gb229, 0, none⟩ = some (.int .i64 ((rd_T31 l0 x3_1).f0)) := (bC_q BK229.out 0).trans rfl
           have hcz28_1 : wr.cell? ⟨gb229, 1, none⟩ = some (.int .i64 ((rd_T31 l0 x3_1).f1)) := (bC_q BK229.out 1).trans rfl
           have hcz28_2 : wr.cell? ⟨gb229, 2, none⟩ = some (.int .i64 ((rd_T31 l0 x3_1).f2)) := (bC_q BK229.out 2).trans rfl
           have hcz28_3 : wr.cell? ⟨gb229, 3, none⟩ = some (.slice A228_3 ((rd_T31 l0 x3_1).f3).length c228_3) := (bC_q BK229.out 3).trans rfl
           have hfz28_0 := bF_q BK229.out 0
           have hfz28_1 := bF_q BK229.out 1
           have hfz28_2 := bF_q BK229.out 2
           have hfz28_3 := bF_q BK229.out 3
           have p233 : 0 ≤ (x5_3 : Int) := oD_q (by assumption)
           have q233 : x5_3 < (((rd_T31 l0 x3_1).f3).length : Int) := oD_q (by assumption)
           obtain ⟨ad233, e233, hx233_0⟩ := aI_q HR228_3.out x5_3 p233 q233
           cases e233
           replace hx233_0 := (HB.out.cell (wL_q w _ hx233_0)).trans hx233_0
           replace p233 := eq_true p233
           replace q233 := eq_true q233
           go_wp2_with (first | (go_at_call 47; (with_reducible refine (spec_l6In.calls (rd ((rd_T31 l0 x3_1).f3) x5_3) 0 (wrap64 (x3_1 - 1)) false _ A18.out).mono ?_); rintro e w' ⟨rfl, ⟨nd, rfl⟩⟩; (try first | exact ⟨rfl, _, wD_q _ _ _⟩ | exact ⟨rfl, _, Eq.trans (wD_q _ _ _) (congrArg (World.drewN _) (nA_q _ _ _))⟩)))
           repeat (go_quiet (first | (go_at_call 47; (with_reducible refine (spec_l6In.calls (rd ((rd_T31 l0 x3_1).f3) x5_3) 0 (wrap64 (x3_1 - 1)) false _ A18.out).mono ?_); rintro e w' ⟨rfl, ⟨nd, rfl⟩⟩; (try first | exact ⟨rfl, _, wD_q _ _ _⟩ | exact ⟨rfl, _, Eq.trans (wD_q _ _ _) (congrArg (World.drewN _) (nA_q _ _ _))⟩))); try go_wp2_with (first | (go_at_call 47; (with_reducible refine (spec_l6In.calls (rd ((rd_T31 l0 x3_1).f3) x5_3) 0 (wrap64 (x3_1 - 1)) false _ A18.out).mono ?_); rintro e w' ⟨rfl, ⟨nd, rfl⟩⟩; (try first | exact ⟨rfl, _, wD_q _ _ _⟩ | exact ⟨rfl, _, Eq.trans (wD_q _ _ _) (congrArg (World.drewN _) (nA_q _ _ _))⟩))))
           go_ret
           exact ⟨by first | rfl | (simp [eN_q, eS_q] <;> rfl) | (simp [*, eN_q, eS_q] <;> rfl), by repeat (first | (with_reducible first | exact HB.out | apply bA_q | apply pB_q | apply bD_q | refine bS_q ?_ GE229.out) | exact HB.out)⟩
          rw [if_neg c17] at H
          exact absurd H (by simp)
         rw [if_neg c16] at H
         have c16b0 : decide (x5_3 < (((rd_T31 l0 x3_1).f3).length : Int)) = false := dF_q c16
         clear c16
         have H' := Ae_q H
         clear H
         have hcz29_0 : wr.cell? ⟨gb229, 0, none⟩ = some (.int .i64 ((rd_T31 l0 x3_1).f0)) := (bC_q BK229.out 0).trans rfl
         have hcz29_1 : wr.cell? ⟨gb229, 1, none⟩ = some (.int .i64 ((rd_T31 l0 x3_1).f1)) := (bC_q BK229.out 1).trans rfl
         have hcz29_2 : wr.cell? ⟨gb229, 2, none⟩ = some (.int .i64 ((rd_T31 l0 x3_1).f2)) := (bC_q BK229.out 2).trans rfl
         have hcz29_3 : wr.cell? ⟨gb229, 3, none⟩ = some (.slice A228_3 ((rd_T31 l0 x3_1).f3).length c228_3) := (bC_q BK229.out 3).trans rfl
         have hfz29_0 := bF_q BK229.out 0
         have hfz29_1 := bF_q BK229.out 1
         have hfz29_2 := bF_q BK229.out 2
         have hfz29_3 := bF_q BK229.out 3
         go_wp2
         repeat (go_quiet (fail); try go_wp2)
         go_roundg k3
         case measure => have := HK1.out; have := HJ3.out; have := HK3.out; omega
         case rel => exact ⟨(wrap64 (x3_1 + 1)), (by first | rfl | (simp; done) | (simp [*]; done)), H', ⟨by have := HK1.out; have := HJ3.out; have := HK3.out; omega⟩, ⟨by repeat (first | (with_reducible first | exact HB.out | apply bA_q | apply pB_q | apply bD_q | refine bS_q ?_ GE229.out) | exact HB.out)⟩⟩
    rw [if_neg c3] at H
    exact absurd H (by simp)
   rw [if_neg c2] at H
   have c2b0 : decide (x3_1 < (l0.length : Int)) = false := dF_q c2
   clear c2
   obtain rfl := oI_q H
   go_wp2
   repeat (go_quiet (fail); try go_wp2)
   go_ret
   exact ⟨by first | rfl | (simp [eN_q, eS_q] <;> rfl) | (simp [*, eN_q, eS_q] <;> rfl), bel HB.out⟩

def spec_l32Alone.f (a0_0 : Int) (a0_1 : Int) (a0_2 : Int) (l0_3 : List Int) (a1_0 : Int) (l1_1 : List Int) : Option (Bool) := if a0_1 ≤ a1_0 then (if a0_2 = 0 then (some true) else (if 0 ≤ (wrap64 (a0_2 - 1)) then (if (wrap64 (a0_2 - 1)) < (l1_1.length : Int) then (some (decide ((rd l1_1 (wrap64 (a0_2 - 1))) > 0))) else (none)) else (none))) else (some false)
set_option maxHeartbeats 8000000 in
set_option maxRecDepth 100000 in
theorem spec_l32Alone.calls (a0_0 : Int) (a0_1 : Int) (a0_2 : Int) (A0_3 : Option Addr) (c0_3 : Nat) (l0_3 : List Int) (a1_0 : Int) (A1_1 : Option Addr) (c1_1 : Nat) (l1_1 : List Int) (r : Bool) (w : World) (hr0_3 : Kd.C kI_q w A0_3 l0_3.length l0_3) (hc0_3 : l0_3.length ≤ c0_3) (hr1_1 : Kd.C kI_q w A1_1 l1_1.length l1_1) (hc1_1 : l1_1.length ≤ c1_1) (h : spec_l32Alone.f a0_0 a0_1 a0_2 l0_3 a1_0 l1_1 = some r) :
    Calls Try.prog 67 #[.agg #[.int .i64 a0_0, .int .i64 a0_1, .int .i64 a0_2, .slice A0_3 l0_3.length c0_3], .agg #[.int .i64 a1_0, .slice A1_1 l1_1.length c1_1]] w fun e w' => e = .returned (.bool r) ∧ Below w.heap.size w w' := by
 have hu31 := Try.underlying31
 have hu41 := Try.underlying41
 have HR0_3 := Ae_q hr0_3
 have HC0_3 := Ae_q hc0_3
 clear hr0_3 hc0_3
 have HR1_1 := Ae_q hr1_1
 have HC1_1 := Ae_q hc1_1
 clear hr1_1 hc1_1
 have HB := Ae_q (bR_q w.heap.size w)
 have H : (if a0_1 ≤ a1_0 then (if a0_2 = 0 then (some true) else (if 0 ≤ (wrap64 (a0_2 - 1)) then (if (wrap64 (a0_2 - 1)) < (l1_1.length : Int) then (some (decide ((rd l1_1 (wrap64 (a0_2 - 1))) > 0))) else (none)) else (none))) else (some false)) = some r := h
 clear h
 by_cases c3 : a0_1 ≤ a1_0
 ·rw [if_pos c3] at H
  have c3b0 : decide (a0_1 ≤ a1_0) = true := dT_q c3
  clear c3
  by_cases c4 : a0_2 = 0
  ·rw [if_pos c4] at H
   have c4b0 : (a0_2 == 0) = true := beq_iff_eq.mpr c4
   have c4b1 : (a0_2 != 0) = false := nE_q.mpr c4
   clear c4
   obtain rfl := oI_q H
   go_enter Try.func67, Try.ntmps67
   go_wp2_with (first | ((with_reducible refine gD_q (N := 2) rfl ?_); refine bE_q ?hg (N := 2) ?hd (cs := #[.int .i64 a0_0, .int .i64 a0_1, .int .i64 a0_2, .slice A0_3 l0_3.length c0_3]) (t := 31) ?hr ?_; (case hd => rfl); (case hg => rfl); (case hr => first | (go_simp; done) | (go_simp; rfl)); intro gb237 hg w5 hbox hb; have n0_ := Ae_q (bT_q (bel HB.out) hb); have n1_ := Ae_q (hbox); have n2_ := Ae_q ((by rw [hg]; exact (bZ_q (bel HB.out)) : w.heap.size ≤ gb237)); have n3_ := Ae_q ((by rw [hg]; exact (bZ_q (bel HB.out)) : w.heap.size ≤ gb237)); clear HB; have HB := n0_; have BK237 := n1_; have GW237 := n2_; have GE237 := n3_; clear n0_ n1_ n2_ n3_; clear hb hbox hg) | ((with_reducible refine gD_q (N := 3) rfl ?_); refine bE_q ?hg (N := 3) ?hd (cs := #[.int .i64 a1_0, .slice A1_1 l1_1.length c1_1]) (t := 41) ?hr ?_; (case hd => rfl); (case hg => rfl); (case hr => first | (go_simp; done) | (go_simp; rfl)); intro gb238 hg w6 hbox hb; have n0_ := Ae_q (bB_q (g := gb237) (o := .cells #[.int .i64 a0_0, .int .i64 a0_1, .int .i64 a0_2, .slice A0_3 l0_3.length c0_3] 31 (0, 0)) (bup BK237.out) hb); have n1_ := Ae_q (bT_q (by repeat (first | (with_reducible first | exact HB.out | apply bA_q | apply pB_q | apply bD_q | refine bS_q ?_ GE237.out) | exact HB.out)) hb); have n2_ := Ae_q (hbox); have n3_ := Ae_q ((by rw [hg]; exact (bZ_q (by repeat (first | (with_reducible first | exact HB.out | apply bA_q | apply pB_q | apply bD_q | refine bS_q ?_ GE237.out) | exact HB.out))) : w.heap.size ≤ gb238)); have n4_ := Ae_q ((by rw [hg]; exact (bZ_q (by repeat (first | (with_reducible first | exact HB.out | apply bA_q | apply pB_q | apply bD_q | refine bS_q ?_ GE237.out) | exact HB.out))) : w.heap.size ≤ gb238)); have n5_ := Ae_q ((by rw [hg]; exact nL_q (blk_lt (g := gb237) (o := .cells #[.int .i64 a0_0, .int .i64 a0_1, .int .i64 a0_2, .slice A0_3 l0_3.length c0_3] 31 (0, 0)) (bup BK237.out)) : gb237 ≠ gb238)); have n6_ := Ae_q ((by rw [hg]; exact nG_q (blk_lt (g := gb237) (o := .cells #[.int .i64 a0_0, .int .i64 a0_1, .int .i64 a0_2, .slice A0_3 l0_3.length c0_3] 31 (0, 0)) (bup BK237.out)) : gb238 ≠ gb237)); clear BK237; clear HB; have BK237 := n0_; have HB := n1_; have BK238 := n2_; have GW238 := n3_; have GE238 := n4_; have NB237_238 := n5_; have NB238_237 := n6_; clear n0_ n1_ n2_ n3_ n4_ n5_ n6_; clear hb hbox hg; have hnb7 := NB237_238.out; have hnc7 := NB238_237.out; have hcz8_0 : w6.cell? ⟨gb237, 0, none⟩ = some (.int .i64 a0_0) := (bC_q BK237.out 0).trans rfl; have hcz8_1 : w6.cell? ⟨gb237, 1, none⟩ = some (.int .i64 a0_1) := (bC_q BK237.out 1).trans rfl; have hcz8_2 : w6.cell? ⟨gb237, 2, none⟩ = some (.int .i64 a0_2) := (bC_q BK237.out 2).trans rfl; have hcz8_3 : w6.cell? ⟨gb237, 3, none⟩ = some (.slice A0_3 l0_3.length c0_3) := (bC_q BK237.out 3).trans rfl; have hfz8_0 := bF_q BK237.out 0; have hfz8_1 := bF_q BK237.out 1; have hfz8_2 := bF_q BK237.out 2; have hfz8_3 := bF_q BK237.out 3; have hcz9_0 : w6.cell? ⟨gb238, 0, none⟩ = some (.int .i64 a1_0) := (bC_q BK238.out 0).trans rfl; have hcz9_1 : w6.cell? ⟨gb238, 1, none⟩ = some (.slice A1_1 l1_1.length c1_1) := (bC_q BK238.out 1).trans rfl; have hfz9_0 := bF_q BK238.out 0; have hfz9_1 := bF_q BK238.out 1))
   go_ret
   exact ⟨by first | rfl | (simp [eN_q, eS_q] <;> rfl) | (simp [*, eN_q, eS_q] <;> rfl), by repeat (first | (with_reducible first | exact HB.out | apply bA_q | apply pB_q | apply bD_q | refine bS_q ?_ GE237.out | refine bS_q ?_ GE238.out) | exact HB.out)⟩
  rw [if_neg c4] at H
  have c4b0 : (a0_2 == 0) = false := fN_q.mpr c4
  have c4b1 : (a0_2 != 0) = true := nI_q.mpr c4
  obtain ⟨ji10, hji10⟩ : ∃ j_ : Int, (wrap64 (a0_2 - 1)) = j_ := ⟨_, rfl⟩
  replace H : (if 0 ≤ (ji10) then (if (ji10) < (l1_1.length : Int) then (some (decide ((rd l1_1 (ji10)) > 0))) else (none)) else (none)) = some r := by first | (rw [hji10] at H; exact H) | (simp only [hji10] at H ⊢; exact H)
  have hji10w : (IntKind.i64.wrap (a0_2 - 1)) = ji10 := (i64_w _).trans hji10
  by_cases c11 : 0 ≤ (ji10)
  ·rw [if_pos c11] at H
   have c11b0 : decide (0 ≤ (ji10)) = true := dT_q c11
   clear c11
   by_cases c12 : (ji10) < (l1_1.length : Int)
   ·rw [if_pos c12] at H
    have c12b0 : decide ((ji10) < (l1_1.length : Int)) = true := dT_q c12
    clear c12
    obtain rfl := oI_q H
    go_enter Try.func67, Try.ntmps67
    go_wp2_with (first | ((with_reducible refine gD_q (N := 2) rfl ?_); refine bE_q ?hg (N := 2) ?hd (cs := #[.int .i64 a0_0, .int .i64 a0_1, .int .i64 a0_2, .slice A0_3 l0_3.length c0_3]) (t := 31) ?hr ?_; (case hd => rfl); (case hg => rfl); (case hr => first | (go_simp; done) | (go_simp; rfl)); intro gb237 hg w13 hbox hb; have n0_ := Ae_q (bT_q (bel HB.out) hb); have n1_ := Ae_q (hbox); have n2_ := Ae_q ((by rw [hg]; exact (bZ_q (bel HB.out)) : w.heap.size ≤ gb237)); have n3_ := Ae_q ((by rw [hg]; exact (bZ_q (bel HB.out)) : w.heap.size ≤ gb237)); clear HB; have HB := n0_; have BK237 := n1_; have GW237 := n2_; have GE237 := n3_; clear n0_ n1_ n2_ n3_; clear hb hbox hg) | ((with_reducible refine gD_q (N := 3) rfl ?_); refine bE_q ?hg (N := 3) ?hd (cs := #[.int .i64 a1_0, .slice A1_1 l1_1.length c1_1]) (t := 41) ?hr ?_; (case hd => rfl); (case hg => rfl); (case hr => first | (go_simp; done) | (go_simp; rfl)); intro gb238 hg w14 hbox hb; have n0_ := Ae_q (bB_q (g := gb237) (o := .cells #[.int .i64 a0_0, .int .i64 a0_1, .int .i64 a0_2, .slice A0_3 l0_3.length c0_3] 31 (0, 0)) (bup BK237.out) hb); have n1_ := Ae_q (bT_q (by repeat (first | (with_reducible first | exact HB.out | apply bA_q | apply pB_q | apply bD_q | refine bS_q ?_ GE237.out) | exact HB.out)) hb); have n2_ := Ae_q (hbox); have n3_ := Ae_q ((by rw [hg]; exact (bZ_q (by repeat (first | (with_reducible first | exact HB.out | apply bA_q | apply pB_q | apply bD_q | refine bS_q ?_ GE237.out) | exact HB.out))) : w.heap.size ≤ gb238)); have n4_ := Ae_q ((by rw [hg]; exact (bZ_q (by repeat (first | (with_reducible first | exact HB.out | apply bA_q | apply pB_q | apply bD_q | refine bS_q ?_ GE237.out) | exact HB.out))) : w.heap.size ≤ gb238)); have n5_ := Ae_q ((by rw [hg]; exact nL_q (blk_lt (g := gb237) (o := .cells #[.int .i64 a0_0, .int .i64 a0_1, .int .i64 a0_2, .slice A0_3 l0_3.length c0_3] 31 (0, 0)) (bup BK237.out)) : gb237 ≠ gb238)); have n6_ := Ae_q ((by rw [hg]; exact nG_q (blk_lt (g := gb237) (o := .cells #[.int .i64 a0_0, .int .i64 a0_1, .int .i64 a0_2, .slice A0_3 l0_3.length c0_3] 31 (0, 0)) (bup BK237.out)) : gb238 ≠ gb237)); clear BK237; clear HB; have BK237 := n0_; have HB := n1_; have BK238 := n2_; have GW238 := n3_; have GE238 := n4_; have NB237_238 := n5_; have NB238_237 := n6_; clear n0_ n1_ n2_ n3_ n4_ n5_ n6_; clear hb hbox hg; have hnb15 := NB237_238.out; have hnc15 := NB238_237.out; have hcz16_0 : w14.cell? ⟨gb237, 0, none⟩ = some (.int .i64 a0_0) := (bC_q BK237.out 0).trans rfl; have hcz16_1 : w14.cell? ⟨gb237, 1, none⟩ = some (.int .i64 a0_1) := (bC_q BK237.out 1).trans rfl; have hcz16_2 : w14.cell? ⟨gb237, 2, none⟩ = some (.int .i64 a0_2) := (bC_q BK237.out 2).trans rfl; have hcz16_3 : w14.cell? ⟨gb237, 3, none⟩ = some (.slice A0_3 l0_3.length c0_3) := (bC_q BK237.out 3).trans rfl; have hfz16_0 := bF_q BK237.out 0; have hfz16_1 := bF_q BK237.out 1; have hfz16_2 := bF_q BK237.out 2; have hfz16_3 := bF_q BK237.out 3; have hcz17_0 : w14.cell? ⟨gb238, 0, none⟩ = some (.int .i64 a1_0) := (bC_q BK238.out 0).trans rfl; have hcz17_1 : w14.cell? ⟨gb238, 1, none⟩ = some (.slice A1_1 l1_1.length c1_1) := (bC_q BK238.out 1).trans rfl; have hfz17_0 := bF_q BK238.out 0; have hfz17_1 := bF_q BK238.out 1; have p239 : 0 ≤ ((ji10) : Int) := oD_q (by assumption); have q239 : (ji10) < (l1_1.length : Int) := oD_q (by assumption); obtain ⟨ad239, e239, hx239_0⟩ := aI_q HR1_1.out (ji10) p239 q239; cases e239; replace hx239_0 := (HB.out.cell (wL_q w _ hx239_0)).trans hx239_0; replace p239 := eq_true p239; replace q239 := eq_true q239))
    go_ret
    exact ⟨by first | rfl | (simp [eN_q, eS_q] <;> rfl) | (simp only [← hji10]; first | rfl | (simp [eN_q, eS_q] <;> rfl)) | (simp [*, eN_q, eS_q] <;> rfl), by repeat (first | (with_reducible first | exact HB.out | apply bA_q | apply pB_q | apply bD_q | refine bS_q ?_ GE237.out | refine bS_q ?_ GE238.out) | exact HB.out)⟩
   rw [if_neg c12] at H
   exact absurd H (by simp)
  rw [if_neg c11] at H
  exact absurd H (by simp)
 rw [if_neg c3] at H
 have c3b0 : decide (a0_1 ≤ a1_0) = false := dF_q c3
 clear c3
 obtain rfl := oI_q H
 go_enter Try.func67, Try.ntmps67
 go_wp2_with (first | ((with_reducible refine gD_q (N := 2) rfl ?_); refine bE_q ?hg (N := 2) ?hd (cs := #[.int .i64 a0_0, .int .i64 a0_1, .int .i64 a0_2, .slice A0_3 l0_3.length c0_3]) (t := 31) ?hr ?_; (case hd => rfl); (case hg => rfl); (case hr => first | (go_simp; done) | (go_simp; rfl)); intro gb237 hg w18 hbox hb; have n0_ := Ae_q (bT_q (bel HB.out) hb); have n1_ := Ae_q (hbox); have n2_ := Ae_q ((by rw [hg]; exact (bZ_q (bel HB.out)) : w.heap.size ≤ gb237)); have n3_ := Ae_q ((by rw [hg]; exact (bZ_q (bel HB.out)) : w.heap.size ≤ gb237)); clear HB; have HB := n0_; have BK237 := n1_; have GW237 := n2_; have GE237 := n3_; clear n0_ n1_ n2_ n3_; clear hb hbox hg) | ((with_reducible refine gD_q (N := 3) rfl ?_); refine bE_q ?hg (N := 3) ?hd (cs := #[.int .i64 a1_0, .slice A1_1 l1_1.length c1_1]) (t := 41) ?hr ?_; (case hd => rfl); (case hg => rfl); (case hr => first | (go_simp; done) | (go_simp; rfl)); intro gb238 hg w19 hbox hb; have n0_ := Ae_q (bB_q (g := gb237) (o := .cells #[.int .i64 a0_0, .int .i64 a0_1, .int .i64 a0_2, .slice A0_3 l0_3.length c0_3] 31 (0, 0)) (bup BK237.out) hb); have n1_ := Ae_q (bT_q (by repeat (first | (with_reducible first | exact HB.out | apply bA_q | apply pB_q | apply bD_q | refine bS_q ?_ GE237.out) | exact HB.out)) hb); have n2_ := Ae_q (hbox); have n3_ := Ae_q ((by rw [hg]; exact (bZ_q (by repeat (first | (with_reducible first | exact HB.out | apply bA_q | apply pB_q | apply bD_q | refine bS_q ?_ GE237.out) | exact HB.out))) : w.heap.size ≤ gb238)); have n4_ := Ae_q ((by rw [hg]; exact (bZ_q (by repeat (first | (with_reducible first | exact HB.out | apply bA_q | apply pB_q | apply bD_q | refine bS_q ?_ GE237.out) | exact HB.out))) : w.heap.size ≤ gb238)); have n5_ := Ae_q ((by rw [hg]; exact nL_q (blk_lt (g := gb237) (o := .cells #[.int .i64 a0_0, .int .i64 a0_1, .int .i64 a0_2, .slice A0_3 l0_3.length c0_3] 31 (0, 0)) (bup BK237.out)) : gb237 ≠ gb238)); have n6_ := Ae_q ((by rw [hg]; exact nG_q (blk_lt (g := gb237) (o := .cells #[.int .i64 a0_0, .int .i64 a0_1, .int .i64 a0_2, .slice A0_3 l0_3.length c0_3] 31 (0, 0)) (bup BK237.out)) : gb238 ≠ gb237)); clear BK237; clear HB; have BK237 := n0_; have HB := n1_; have BK238 := n2_; have GW238 := n3_; have GE238 := n4_; have NB237_238 := n5_; have NB238_237 := n6_; clear n0_ n1_ n2_ n3_ n4_ n5_ n6_; clear hb hbox hg; have hnb20 := NB237_238.out; have hnc20 := NB238_237.out; have hcz21_0 : w19.cell? ⟨gb237, 0, none⟩ = some (.int .i64 a0_0) := (bC_q BK237.out 0).trans rfl; have hcz21_1 : w19.cell? ⟨gb237, 1, none⟩ = some (.int .i64 a0_1) := (bC_q BK237.out 1).trans rfl; have hcz21_2 : w19.cell? ⟨gb237, 2, none⟩ = some (.int .i64 a0_2) := (bC_q BK237.out 2).trans rfl; have hcz21_3 : w19.cell? ⟨gb237, 3, none⟩ = some (.slice A0_3 l0_3.length c0_3) := (bC_q BK237.out 3).trans rfl; have hfz21_0 := bF_q BK237.out 0; have hfz21_1 := bF_q BK237.out 1; have hfz21_2 := bF_q BK237.out 2; have hfz21_3 := bF_q BK237.out 3; have hcz22_0 : w19.cell? ⟨gb238, 0, none⟩ = some (.int .i64 a1_0) := (bC_q BK238.out 0).trans rfl; have hcz22_1 : w19.cell? ⟨gb238, 1, none⟩ = some (.slice A1_1 l1_1.length c1_1) := (bC_q BK238.out 1).trans rfl; have hfz22_0 := bF_q BK238.out 0; have hfz22_1 := bF_q BK238.out 1))
 go_ret
 exact ⟨by first | rfl | (simp [eN_q, eS_q] <;> rfl) | (simp [*, eN_q, eS_q] <;> rfl), by repeat (first | (with_reducible first | exact HB.out | apply bA_q | apply pB_q | apply bD_q | refine bS_q ?_ GE237.out | refine bS_q ?_ GE238.out) | exact HB.out)⟩

end Go.Proofs.Ytoaigcdoblnmhaa.PPn
