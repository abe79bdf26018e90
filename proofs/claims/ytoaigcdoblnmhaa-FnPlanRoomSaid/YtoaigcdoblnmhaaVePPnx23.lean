import Derived.Test.YtoaigcdoblnmhaaVePPnx0
import Derived.Test.YtoaigcdoblnmhaaVePPnx10
import Derived.Test.YtoaigcdoblnmhaaVePPnx11
import Derived.Test.YtoaigcdoblnmhaaVePPnx22
namespace Go.Proofs.Ytoaigcdoblnmhaa.PPn
open Go.RowKit Go.Proofs.YtoaigcdoblnmhaaW.PrintWords Go.Proofs.YtoaigcdoblnmhaaW.PrintLast Go.Proofs.YtoaigcdoblnmhaaW.PrintMore
attribute [local go_sem] max2_int min2_int max_two min_two max_three min_three max_four min_four
set_option linter.unusedVariables false
set_option linter.unusedSimpArgs false

mutual
def impl_planFits.l0 : Nat → List (S31) → List Int → List (S31) → Int → Int → Int → List Int → Option (Bool)
 | 0, _, _, _, _, _, _, _ => none
 | k + 1, x0, x2, x15, x16, x17, x538000, x538001 => if x17 < x16 then (if 0 ≤ x17 then (if x17 < (x15.length : Int) then (impl_planFits.l1 k x0 x2 x17 x15 x16 x17 ((rd_T31 x15 x17).f3) (((rd_T31 x15 x17).f3).length : Int) 0 x538000 x538001) else (none)) else (none)) else (some true)
def impl_planFits.l1 : Nat → List (S31) → List Int → Int → List (S31) → Int → Int → List Int → Int → Int → Int → List Int → Option (Bool)
 | 0, _, _, _, _, _, _, _, _, _, _, _ => none
 | k + 1, x0, x2, x7, x15, x16, x17, x23, x24, x25, x538000, x538001 => if x25 < x24 then (if 0 ≤ x25 then (if x25 < (x23.length : Int) then (if 0 ≤ x7 then (if x7 < (x2.length : Int) then (if 0 ≤ (rd x23 x25) then (if (rd x23 x25) < (x2.length : Int) then (if (rd x23 x25) < (x0.length : Int) then (if (rd x2 x7) < (wrap64 ((rd x2 (rd x23 x25)) + ((rd_T31 x0 (rd x23 x25)).f0))) then (some false) else (impl_planFits.l1 k x0 x2 x7 x15 x16 x17 x23 x24 (wrap64 (x25 + 1)) x538000 x538001)) else (none)) else (none)) else (none)) else (none)) else (none)) else (none)) else (none)) else (if 0 ≤ x7 then (if x7 < (x2.length : Int) then ((impl_useAt.f k x0 x2 (rd x2 x7)).bind fun bt545 => (if bt545.1 > x538000 then (some false) else (impl_planFits.l2 k x0 x2 x15 x16 x17 bt545.2 (bt545.2.length : Int) 0 x538000 x538001))) else (none)) else (none))
def impl_planFits.l2 : Nat → List (S31) → List Int → List (S31) → Int → Int → List Int → Int → Int → Int → List Int → Option (Bool)
 | 0, _, _, _, _, _, _, _, _, _, _ => none
 | k + 1, x0, x2, x15, x16, x17, x59, x60, x61, x538000, x538001 => if x61 < x60 then (if 0 ≤ x61 then (if x61 < (x59.length : Int) then (if x61 < (x538001.length : Int) then (if (rd x59 x61) > (rd x538001 x61) then (some false) else (impl_planFits.l2 k x0 x2 x15 x16 x17 x59 x60 (wrap64 (x61 + 1)) x538000 x538001)) else (none)) else (none)) else (none)) else (impl_planFits.l0 k x0 x2 x15 x16 (wrap64 (x17 + 1)) x538000 x538001)
end
def impl_planFits.f (k : Nat) (l0 : List (S31)) (a1_0 : Int) (l1_1 : List Int) (l2 : List Int) : Option (Bool) := impl_planFits.l0 k l0 l2 l0 (l0.length : Int) 0 a1_0 l1_1
theorem impl_planFits.mono_l : ∀ k, (∀ y0 y1 y2 y3 y4 y5 y6, LeO (impl_planFits.l0 k y0 y1 y2 y3 y4 y5 y6) (impl_planFits.l0 (k + 1) y0 y1 y2 y3 y4 y5 y6)) ∧ (∀ y0 y1 y2 y3 y4 y5 y6 y7 y8 y9 y10, LeO (impl_planFits.l1 k y0 y1 y2 y3 y4 y5 y6 y7 y8 y9 y10) (impl_planFits.l1 (k + 1) y0 y1 y2 y3 y4 y5 y6 y7 y8 y9 y10)) ∧ (∀ y0 y1 y2 y3 y4 y5 y6 y7 y8 y9, LeO (impl_planFits.l2 k y0 y1 y2 y3 y4 y5 y6 y7 y8 y9) (impl_planFits.l2 (k + 1) y0 y1 y2 y3 y4 y5 y6 y7 y8 y9))
 | 0 => ⟨fun _ _ _ _ _ _ _ r h => by simp [impl_planFits.l0] at h, fun _ _ _ _ _ _ _ _ _ _ _ r h => by simp [impl_planFits.l1] at h, fun _ _ _ _ _ _ _ _ _ _ r h => by simp [impl_planFits.l2] at h⟩
 | k + 1 => by
  obtain ⟨ih0, ih1, ih2⟩ := impl_planFits.mono_l k
  refine ⟨?_, ?_, ?_⟩
  ·intro y0 y1 y2 y3 y4 y5 y6
   unfold impl_planFits.l0
   repeat' first
   | (with_reducible exact ih0 _ _ _ _ _ _ _)
   | (with_reducible exact ih1 _ _ _ _ _ _ _ _ _ _ _)
   | (with_reducible exact ih2 _ _ _ _ _ _ _ _ _ _)
   | (with_reducible exact impl_useAt.mono _ _ _ _)
   | (with_reducible exact lR_q _)
   | (with_reducible exact lO_q _)
   | (with_reducible refine lI_q ?_ ?_)
   | (with_reducible refine lB_q ?_ (fun _ => ?_))
   | exact ih0 _ _ _ _ _ _ _
   | exact ih1 _ _ _ _ _ _ _ _ _ _ _
   | exact ih2 _ _ _ _ _ _ _ _ _ _
   | exact impl_useAt.mono _ _ _ _
   | exact lO_q _
   | refine lI_q ?_ ?_
   | refine lB_q ?_ (fun _ => ?_)
  ·intro y0 y1 y2 y3 y4 y5 y6 y7 y8 y9 y10
   unfold impl_planFits.l1
   repeat' first
   | (with_reducible exact ih0 _ _ _ _ _ _ _)
   | (with_reducible exact ih1 _ _ _ _ _ _ _ _ _ _ _)
   | (with_reducible exact ih2 _ _ _ _ _ _ _ _ _ _)
   | (with_reducible exact impl_useAt.mono _ _ _ _)
   | (with_reducible exact lR_q _)
   | (with_reducible exact lO_q _)
   | (with_reducible refine lI_q ?_ ?_)
   | (with_reducible refine lB_q ?_ (fun _ => ?_))
   | exact ih0 _ _ _ _ _ _ _
   | exact ih1 _ _ _ _ _ _ _ _ _ _ _
   | exact ih2 _ _ _ _ _ _ _ _ _ _
   | exact impl_useAt.mono _ _ _ _
   | exact lO_q _
   | refine lI_q ?_ ?_
   | refine lB_q ?_ (fun _ => ?_)
  intro y0 y1 y2 y3 y4 y5 y6 y7 y8 y9
  unfold impl_planFits.l2
  repeat' first
  | (with_reducible exact ih0 _ _ _ _ _ _ _)
  | (with_reducible exact ih1 _ _ _ _ _ _ _ _ _ _ _)
  | (with_reducible exact ih2 _ _ _ _ _ _ _ _ _ _)
  | (with_reducible exact impl_useAt.mono _ _ _ _)
  | (with_reducible exact lR_q _)
  | (with_reducible exact lO_q _)
  | (with_reducible refine lI_q ?_ ?_)
  | (with_reducible refine lB_q ?_ (fun _ => ?_))
  | exact ih0 _ _ _ _ _ _ _
  | exact ih1 _ _ _ _ _ _ _ _ _ _ _
  | exact ih2 _ _ _ _ _ _ _ _ _ _
  | exact impl_useAt.mono _ _ _ _
  | exact lO_q _
  | refine lI_q ?_ ?_
  | refine lB_q ?_ (fun _ => ?_)
theorem impl_planFits.mono : ∀ a0 a1 a2 a3 k, LeO (impl_planFits.f k a0 a1 a2 a3) (impl_planFits.f (k + 1) a0 a1 a2 a3) := by
 intro a0 a1 a2 a3 k
 obtain ⟨ih0, ih1, ih2⟩ := impl_planFits.mono_l k
 unfold impl_planFits.f
 repeat' first
  | (with_reducible exact ih0 _ _ _ _ _ _ _)
  | (with_reducible exact ih1 _ _ _ _ _ _ _ _ _ _ _)
  | (with_reducible exact ih2 _ _ _ _ _ _ _ _ _ _)
  | (with_reducible exact impl_useAt.mono _ _ _ _)
  | (with_reducible exact lR_q _)
  | (with_reducible exact lO_q _)
  | (with_reducible refine lI_q ?_ ?_)
  | (with_reducible refine lB_q ?_ (fun _ => ?_))
  | exact ih0 _ _ _ _ _ _ _
  | exact ih1 _ _ _ _ _ _ _ _ _ _ _
  | exact ih2 _ _ _ _ _ _ _ _ _ _
  | exact impl_useAt.mono _ _ _ _
  | exact lO_q _
  | refine lI_q ?_ ?_
  | refine lB_q ?_ (fun _ => ?_)
set_option maxHeartbeats 8000000 in
set_option maxRecDepth 100000 in
theorem impl_planFits.calls (k : Nat) (A0 : Option Addr) (c0 : Nat) (l0 : List (S31)) (a1_0 : Int) (A1_1 : Option Addr) (c1_1 : Nat) (l1_1 : List Int) (A2 : Option Addr) (c2 : Nat) (l2 : List Int) (r : Bool) (w : World) (hr0 : Kd.C k31 w A0 l0.length l0) (hc0 : l0.length ≤ c0) (hr1_1 : Kd.C kI_q w A1_1 l1_1.length l1_1) (hc1_1 : l1_1.length ≤ c1_1) (hr2 : Kd.C kI_q w A2 l2.length l2) (hc2 : l2.length ≤ c2) (h : impl_planFits.f k l0 a1_0 l1_1 l2 = some r) :
    Calls Try.prog 45 #[.slice A0 l0.length c0, .agg #[.int .i64 a1_0, .slice A1_1 l1_1.length c1_1], .slice A2 l2.length c2] w fun e w' => e = .returned (.bool r) ∧ Below w.heap.size w w' := by
 have hu41 := Try.underlying41
 have hu31 := Try.underlying31
 have HR0 := Ae_q hr0
 have HC0 := Ae_q hc0
 clear hr0 hc0
 have HR1_1 := Ae_q hr1_1
 have HC1_1 := Ae_q hc1_1
 clear hr1_1 hc1_1
 have HR2 := Ae_q hr2
 have HC2 := Ae_q hc2
 clear hr2 hc2
 have HB := Ae_q (bR_q w.heap.size w)
 have H : (impl_planFits.l0 k l0 l2 l0 (l0.length : Int) 0 a1_0 l1_1) = some r := h
 clear h
 have H' := Ae_q H
 clear H
 go_enter Try.func45, Try.ntmps45
 go_wp2_with (first | ((with_reducible refine gD_q (N := 4) rfl ?_); refine bE_q ?hg (N := 4) ?hd (cs := #[.int .i64 a1_0, .slice A1_1 l1_1.length c1_1]) (t := 41) ?hr ?_; (case hd => rfl); (case hg => rfl); (case hr => first | (go_simp; done) | (go_simp; rfl)); intro gb537 hg w4 hbox hb; have n0_ := Ae_q (bT_q (bel HB.out) hb); have n1_ := Ae_q (hbox); have n2_ := Ae_q ((by rw [hg]; exact (bZ_q (bel HB.out)) : w.heap.size ≤ gb537)); have n3_ := Ae_q ((by rw [hg]; exact (bZ_q (bel HB.out)) : w.heap.size ≤ gb537)); clear HB; have HB := n0_; have BK537 := n1_; have GW537 := n2_; have GE537 := n3_; clear n0_ n1_ n2_ n3_; clear hb hbox hg))
 repeat (go_quiet (first | ((with_reducible refine gD_q (N := 4) rfl ?_); refine bE_q ?hg (N := 4) ?hd (cs := #[.int .i64 a1_0, .slice A1_1 l1_1.length c1_1]) (t := 41) ?hr ?_; (case hd => rfl); (case hg => rfl); (case hr => first | (go_simp; done) | (go_simp; rfl)); intro gb537 hg w4 hbox hb; have n0_ := Ae_q (bT_q (bel HB.out) hb); have n1_ := Ae_q (hbox); have n2_ := Ae_q ((by rw [hg]; exact (bZ_q (bel HB.out)) : w.heap.size ≤ gb537)); have n3_ := Ae_q ((by rw [hg]; exact (bZ_q (bel HB.out)) : w.heap.size ≤ gb537)); clear HB; have HB := n0_; have BK537 := n1_; have GW537 := n2_; have GE537 := n3_; clear n0_ n1_ n2_ n3_; clear hb hbox hg)); try go_wp2_with (first | ((with_reducible refine gD_q (N := 4) rfl ?_); refine bE_q ?hg (N := 4) ?hd (cs := #[.int .i64 a1_0, .slice A1_1 l1_1.length c1_1]) (t := 41) ?hr ?_; (case hd => rfl); (case hg => rfl); (case hr => first | (go_simp; done) | (go_simp; rfl)); intro gb537 hg w4 hbox hb; have n0_ := Ae_q (bT_q (bel HB.out) hb); have n1_ := Ae_q (hbox); have n2_ := Ae_q ((by rw [hg]; exact (bZ_q (bel HB.out)) : w.heap.size ≤ gb537)); have n3_ := Ae_q ((by rw [hg]; exact (bZ_q (bel HB.out)) : w.heap.size ≤ gb537)); clear HB; have HB := n0_; have BK537 := n1_; have GW537 := n2_; have GE537 := n3_; clear n0_ n1_ n2_ n3_; clear hb hbox hg)))
 go_loopg [17] k (fun kq v17 w' => ∃ (x17_1 : Int), v17 = .int .i64 x17_1 ∧ Aside0 (impl_planFits.l0 kq l0 l2 l0 (l0.length : Int) x17_1 a1_0 l1_1 = some r) ∧ Aside0 (kq ≤ k) ∧ Aside0 (w'.heap[gb537]? = some (.cells #[.int .i64 a1_0, (.slice A1_1 l1_1.length c1_1)] 41 (0, 0))) ∧ Aside0 (Below w.heap.size w w'))
 case atStart => exact ⟨(0), (by first | rfl | (simp; done) | (simp [*]; done)), H', ⟨nR_q _⟩, ⟨by (with_reducible repeat (first | refine bN_q ?_ _ | refine bW_q ?_ | refine bL_q ?_ _)); exact BK537.out⟩, ⟨by repeat (first | (with_reducible first | exact HB.out | apply bA_q | apply pB_q | apply bD_q | refine bS_q ?_ GE537.out) | exact HB.out)⟩⟩
 case round =>
  clear H'
  try clear c1
  try clear c2
  try clear p2
  try clear c4
  obtain ⟨x17_1, rfl, HA, HK1, BK537, HB⟩ := hrel
  cases gk with
  | zero => exact absurd HA.out (by simp [impl_planFits.l0])
  | succ k1 =>
   have H := HA.out
   clear HA
   simp only [impl_planFits.l0] at H
   by_cases c5 : x17_1 < (l0.length : Int)
   ·rw [if_pos c5] at H
    have c5b0 : decide (x17_1 < (l0.length : Int)) = true := dT_q c5
    clear c5
    by_cases c6 : 0 ≤ x17_1
    ·rw [if_pos c6] at H
     have c6b0 : decide (0 ≤ x17_1) = true := dT_q c6
     clear c6
     by_cases c7 : x17_1 < (l0.length : Int)
     ·rw [if_pos c7] at H
      have c7b0 : decide (x17_1 < (l0.length : Int)) = true := dT_q c7
      clear c7
      have H' := Ae_q H
      clear H
      have p538 : 0 ≤ (x17_1 : Int) := oD_q (by assumption)
      have q538 : x17_1 < (l0.length : Int) := oD_q (by assumption)
      obtain ⟨ad538, A538_3, c538_3, e538, hx538_0, hx538_1, hx538_2, hx538_3, hl538_3, hi538_3⟩ := at_T31 HR0.out x17_1 p538 q538
      cases e538
      replace hx538_0 := (HB.out.cell (wL_q w _ hx538_0)).trans hx538_0
      replace hx538_1 := (HB.out.cell (wL_q w _ hx538_1)).trans hx538_1
      replace hx538_2 := (HB.out.cell (wL_q w _ hx538_2)).trans hx538_2
      replace hx538_3 := (HB.out.cell (wL_q w _ hx538_3)).trans hx538_3
      have HR538_3 := Ae_q hi538_3
      have HC538_3 := Ae_q hl538_3
      clear hi538_3 hl538_3
      replace p538 := eq_true p538
      replace q538 := eq_true q538
      go_wp2_with (first | ((with_reducible refine gD_q (N := 8) rfl ?_); refine bE_q ?hg (N := 8) ?hd (cs := #[.int .i64 0, .int .i64 0, .int .i64 0, .slice none 0 0]) (t := 31) ?hr ?_; (case hd => rfl); (case hg => rfl); (case hr => first | (go_simp; done) | (go_simp; rfl)); intro gb539 hg w8 hbox hb; have n0_ := Ae_q (bB_q (g := gb537) (o := .cells #[.int .i64 a1_0, .slice A1_1 l1_1.length c1_1] 41 (0, 0)) (bup BK537.out) hb); have n1_ := Ae_q (bT_q (by repeat (first | (with_reducible first | exact HB.out | apply bA_q | apply pB_q | apply bD_q | refine bS_q ?_ GE537.out) | exact HB.out)) hb); have n2_ := Ae_q (hbox); have n3_ := Ae_q ((by rw [hg]; exact (bZ_q (by repeat (first | (with_reducible first | exact HB.out | apply bA_q | apply pB_q | apply bD_q | refine bS_q ?_ GE537.out) | exact HB.out))) : w.heap.size ≤ gb539)); have n4_ := Ae_q ((by rw [hg]; exact (bZ_q (by repeat (first | (with_reducible first | exact HB.out | apply bA_q | apply pB_q | apply bD_q | refine bS_q ?_ GE537.out) | exact HB.out))) : w.heap.size ≤ gb539)); have n5_ := Ae_q ((by rw [hg]; exact nL_q (blk_lt (g := gb537) (o := .cells #[.int .i64 a1_0, .slice A1_1 l1_1.length c1_1] 41 (0, 0)) (bup BK537.out)) : gb537 ≠ gb539)); have n6_ := Ae_q ((by rw [hg]; exact nG_q (blk_lt (g := gb537) (o := .cells #[.int .i64 a1_0, .slice A1_1 l1_1.length c1_1] 41 (0, 0)) (bup BK537.out)) : gb539 ≠ gb537)); clear BK537; clear HB; have BK537 := n0_; have HB := n1_; have BK539 := n2_; have GW539 := n3_; have GE539 := n4_; have NB537_539 := n5_; have NB539_537 := n6_; clear n0_ n1_ n2_ n3_ n4_ n5_ n6_; clear hb hbox hg; have hnb9 := NB539_537.out; have hnc9 := NB537_539.out; have hcz10_0 : w8.cell? ⟨gb539, 0, none⟩ = some (.int .i64 0) := (bC_q BK539.out 0).trans rfl; have hcz10_1 : w8.cell? ⟨gb539, 1, none⟩ = some (.int .i64 0) := (bC_q BK539.out 1).trans rfl; have hcz10_2 : w8.cell? ⟨gb539, 2, none⟩ = some (.int .i64 0) := (bC_q BK539.out 2).trans rfl; have hcz10_3 : w8.cell? ⟨gb539, 3, none⟩ = some (.slice none 0 0) := (bC_q BK539.out 3).trans rfl; have hfz10_0 := bF_q BK539.out 0; have hfz10_1 := bF_q BK539.out 1; have hfz10_2 := bF_q BK539.out 2; have hfz10_3 := bF_q BK539.out 3))
      repeat (go_quiet (first | ((with_reducible refine gD_q (N := 8) rfl ?_); refine bE_q ?hg (N := 8) ?hd (cs := #[.int .i64 0, .int .i64 0, .int .i64 0, .slice none 0 0]) (t := 31) ?hr ?_; (case hd => rfl); (case hg => rfl); (case hr => first | (go_simp; done) | (go_simp; rfl)); intro gb539 hg w8 hbox hb; have n0_ := Ae_q (bB_q (g := gb537) (o := .cells #[.int .i64 a1_0, .slice A1_1 l1_1.length c1_1] 41 (0, 0)) (bup BK537.out) hb); have n1_ := Ae_q (bT_q (by repeat (first | (with_reducible first | exact HB.out | apply bA_q | apply pB_q | apply bD_q | refine bS_q ?_ GE537.out) | exact HB.out)) hb); have n2_ := Ae_q (hbox); have n3_ := Ae_q ((by rw [hg]; exact (bZ_q (by repeat (first | (with_reducible first | exact HB.out | apply bA_q | apply pB_q | apply bD_q | refine bS_q ?_ GE537.out) | exact HB.out))) : w.heap.size ≤ gb539)); have n4_ := Ae_q ((by rw [hg]; exact (bZ_q (by repeat (first | (with_reducible first | exact HB.out | apply bA_q | apply pB_q | apply bD_q | refine bS_q ?_ GE537.out) | exact HB.out))) : w.heap.size ≤ gb539)); have n5_ := Ae_q ((by rw [hg]; exact nL_q (blk_lt (g := gb537) (o := .cells #[.int .i64 a1_0, .slice A1_1 l1_1.length c1_1] 41 (0, 0)) (bup BK537.out)) : gb537 ≠ gb539)); have n6_ := Ae_q ((by rw [hg]; exact nG_q (blk_lt (g := gb537) (o := .cells #[.int .i64 a1_0, .slice A1_1 l1_1.length c1_1] 41 (0, 0)) (bup BK537.out)) : gb539 ≠ gb537)); clear BK537; clear HB; have BK537 := n0_; have HB := n1_; have BK539 := n2_; have GW539 := n3_; have GE539 := n4_; have NB537_539 := n5_; have NB539_537 := n6_; clear n0_ n1_ n2_ n3_ n4_ n5_ n6_; clear hb hbox hg; have hnb9 := NB539_537.out; have hnc9 := NB537_539.out; have hcz10_0 : w8.cell? ⟨gb539, 0, none⟩ = some (.int .i64 0) := (bC_q BK539.out 0).trans rfl; have hcz10_1 : w8.cell? ⟨gb539, 1, none⟩ = some (.int .i64 0) := (bC_q BK539.out 1).trans rfl; have hcz10_2 : w8.cell? ⟨gb539, 2, none⟩ = some (.int .i64 0) := (bC_q BK539.out 2).trans rfl; have hcz10_3 : w8.cell? ⟨gb539, 3, none⟩ = some (.slice none 0 0) := (bC_q BK539.out 3).trans rfl; have hfz10_0 := bF_q BK539.out 0; have hfz10_1 := bF_q BK539.out 1; have hfz10_2 := bF_q BK539.out 2; have hfz10_3 := bF_q BK539.out 3)); try go_wp2_with (first | ((with_reducible refine gD_q (N := 8) rfl ?_); refine bE_q ?hg (N := 8) ?hd (cs := #[.int .i64 0, .int .i64 0, .int .i64 0, .slice none 0 0]) (t := 31) ?hr ?_; (case hd => rfl); (case hg => rfl); (case hr => first | (go_simp; done) | (go_simp; rfl)); intro gb539 hg w8 hbox hb; have n0_ := Ae_q (bB_q (g := gb537) (o := .cells #[.int .i64 a1_0, .slice A1_1 l1_1.length c1_1] 41 (0, 0)) (bup BK537.out) hb); have n1_ := Ae_q (bT_q (by repeat (first | (with_reducible first | exact HB.out | apply bA_q | apply pB_q | apply bD_q | refine bS_q ?_ GE537.out) | exact HB.out)) hb); have n2_ := Ae_q (hbox); have n3_ := Ae_q ((by rw [hg]; exact (bZ_q (by repeat (first | (with_reducible first | exact HB.out | apply bA_q | apply pB_q | apply bD_q | refine bS_q ?_ GE537.out) | exact HB.out))) : w.heap.size ≤ gb539)); have n4_ := Ae_q ((by rw [hg]; exact (bZ_q (by repeat (first | (with_reducible first | exact HB.out | apply bA_q | apply pB_q | apply bD_q | refine bS_q ?_ GE537.out) | exact HB.out))) : w.heap.size ≤ gb539)); have n5_ := Ae_q ((by rw [hg]; exact nL_q (blk_lt (g := gb537) (o := .cells #[.int .i64 a1_0, .slice A1_1 l1_1.length c1_1] 41 (0, 0)) (bup BK537.out)) : gb537 ≠ gb539)); have n6_ := Ae_q ((by rw [hg]; exact nG_q (blk_lt (g := gb537) (o := .cells #[.int .i64 a1_0, .slice A1_1 l1_1.length c1_1] 41 (0, 0)) (bup BK537.out)) : gb539 ≠ gb537)); clear BK537; clear HB; have BK537 := n0_; have HB := n1_; have BK539 := n2_; have GW539 := n3_; have GE539 := n4_; have NB537_539 := n5_; have NB539_537 := n6_; clear n0_ n1_ n2_ n3_ n4_ n5_ n6_; clear hb hbox hg; have hnb9 := NB539_537.out; have hnc9 := NB537_539.out; have hcz10_0 : w8.cell? ⟨gb539, 0, none⟩ = some (.int .i64 0) := (bC_q BK539.out 0).trans rfl; have hcz10_1 : w8.cell? ⟨gb539, 1, none⟩ = some (.int .i64 0) := (bC_q BK539.out 1).trans rfl; have hcz10_2 : w8.cell? ⟨gb539, 2, none⟩ = some (.int .i64 0) := (bC_q BK539.out 2).trans rfl; have hcz10_3 : w8.cell? ⟨gb539, 3, none⟩ = some (.slice none 0 0) := (bC_q BK539.out 3).trans rfl; have hfz10_0 := bF_q BK539.out 0; have hfz10_1 := bF_q BK539.out 1; have hfz10_2 := bF_q BK539.out 2; have hfz10_3 := bF_q BK539.out 3)))
      go_loopg [25] k1 (fun kq v25 w' => ∃ (x25_2 : Int), v25 = .int .i64 x25_2 ∧ Aside0 (impl_planFits.l1 kq l0 l2 x17_1 l0 (l0.length : Int) x17_1 ((rd_T31 l0 x17_1).f3) (((rd_T31 l0 x17_1).f3).length : Int) x25_2 a1_0 l1_1 = some r) ∧ Aside0 (kq ≤ k1) ∧ Aside0 (w'.heap[gb537]? = some (.cells #[.int .i64 a1_0, (.slice A1_1 l1_1.length c1_1)] 41 (0, 0))) ∧ Aside0 (w'.heap[gb539]? = some (.cells #[.int .i64 ((rd_T31 l0 x17_1).f0), .int .i64 ((rd_T31 l0 x17_1).f1), .int .i64 ((rd_T31 l0 x17_1).f2), (.slice A538_3 ((rd_T31 l0 x17_1).f3).length c538_3)] 31 (0, 0))) ∧ Aside0 (Below w.heap.size w w'))
      case atStart => exact ⟨(0), (by first | rfl | (simp; done) | (simp [*]; done)), H', ⟨nR_q _⟩, ⟨by (with_reducible repeat (first | refine bN_q ?_ _ | refine bW_q ?_ | refine bL_q ?_ _)); refine blk_far ?_ NB537_539.out _; (with_reducible repeat (first | refine bN_q ?_ _ | refine bW_q ?_ | refine bL_q ?_ _)); refine blk_far ?_ NB537_539.out _; (with_reducible repeat (first | refine bN_q ?_ _ | refine bW_q ?_ | refine bL_q ?_ _)); refine blk_far ?_ NB537_539.out _; (with_reducible repeat (first | refine bN_q ?_ _ | refine bW_q ?_ | refine bL_q ?_ _)); refine blk_far ?_ NB537_539.out _; (with_reducible repeat (first | refine bN_q ?_ _ | refine bW_q ?_ | refine bL_q ?_ _)); exact BK537.out⟩, ⟨by (with_reducible repeat (first | refine bN_q ?_ _ | refine bW_q ?_ | refine bL_q ?_ _)); refine blk_put (cs := #[.int .i64 ((rd_T31 l0 x17_1).f0), .int .i64 ((rd_T31 l0 x17_1).f1), .int .i64 ((rd_T31 l0 x17_1).f2), .slice none 0 0]) ?_ 3 _ rfl; (with_reducible repeat (first | refine bN_q ?_ _ | refine bW_q ?_ | refine bL_q ?_ _)); refine blk_put (cs := #[.int .i64 ((rd_T31 l0 x17_1).f0), .int .i64 ((rd_T31 l0 x17_1).f1), .int .i64 0, .slice none 0 0]) ?_ 2 _ rfl; (with_reducible repeat (first | refine bN_q ?_ _ | refine bW_q ?_ | refine bL_q ?_ _)); refine blk_put (cs := #[.int .i64 ((rd_T31 l0 x17_1).f0), .int .i64 0, .int .i64 0, .slice none 0 0]) ?_ 1 _ rfl; (with_reducible repeat (first | refine bN_q ?_ _ | refine bW_q ?_ | refine bL_q ?_ _)); refine blk_put (cs := #[.int .i64 0, .int .i64 0, .int .i64 0, .slice none 0 0]) ?_ 0 _ rfl; (with_reducible repeat (first | refine bN_q ?_ _ | refine bW_q ?_ | refine bL_q ?_ _)); exact BK539.out⟩, ⟨by repeat (first | (with_reducible first | exact HB.out | apply bA_q | apply pB_q | apply bD_q | refine bS_q ?_ GE537.out | refine bS_q ?_ GE539.out) | exact HB.out)⟩⟩
      case round =>
       clear H'
       try clear c1
       try clear c2
       try clear p2
       try clear c4
       try clear c5
       try clear c5b0
       try clear p5
       try clear q5
       try clear hx5
       try clear c6
       try clear c6b0
       try clear c7
       try clear c7b0
       try clear c9
       try clear hcz10_0
       try clear hcz10_1
       try clear hcz10_2
       try clear hcz10_3
       try clear hfz10_0
       try clear hfz10_1
       try clear hfz10_2
       try clear hfz10_3
       try clear hx538_0
       try clear hx538_1
       try clear hx538_2
       try clear hx538_3
       try clear p2
       try clear p538
       try clear q538
       obtain ⟨x25_2, rfl, HA, HK2, BK537, BK539, HB⟩ := hrel
       cases gk with
       | zero => exact absurd HA.out (by simp [impl_planFits.l1])
       | succ k2 =>
        have H := HA.out
        clear HA
        simp only [impl_planFits.l1] at H
        by_cases c11 : x25_2 < (((rd_T31 l0 x17_1).f3).length : Int)
        ·rw [if_pos c11] at H
         have c11b0 : decide (x25_2 < (((rd_T31 l0 x17_1).f3).length : Int)) = true := dT_q c11
         clear c11
         by_cases c12 : 0 ≤ x25_2
         ·rw [if_pos c12] at H
          have c12b0 : decide (0 ≤ x25_2) = true := dT_q c12
          clear c12
          by_cases c13 : x25_2 < (((rd_T31 l0 x17_1).f3).length : Int)
          ·rw [if_pos c13] at H
           have c13b0 : decide (x25_2 < (((rd_T31 l0 x17_1).f3).length : Int)) = true := dT_q c13
           clear c13
           by_cases c14 : 0 ≤ x17_1
           ·rw [if_pos c14] at H
            have c14b0 : decide (0 ≤ x17_1) = true := dT_q c14
            clear c14
            by_cases c15 : x17_1 < (l2.length : Int)
            ·rw [if_pos c15] at H
             have c15b0 : decide (x17_1 < (l2.length : Int)) = true := dT_q c15
             clear c15
             by_cases c16 : 0 ≤ (rd ((rd_T31 l0 x17_1).f3) x25_2)
             ·rw [if_pos c16] at H
              have c16b0 : decide (0 ≤ (rd ((rd_T31 l0 x17_1).f3) x25_2)) = true := dT_q c16
              clear c16
              by_cases c17 : (rd ((rd_T31 l0 x17_1).f3) x25_2) < (l2.length : Int)
              ·rw [if_pos c17] at H
               have c17b0 : decide ((rd ((rd_T31 l0 x17_1).f3) x25_2) < (l2.length : Int)) = true := dT_q c17
               clear c17
               by_cases c18 : (rd ((rd_T31 l0 x17_1).f3) x25_2) < (l0.length : Int)
               ·rw [if_pos c18] at H
                have c18b0 : decide ((rd ((rd_T31 l0 x17_1).f3) x25_2) < (l0.length : Int)) = true := dT_q c18
                clear c18
                by_cases c19 : (rd l2 x17_1) < (wrap64 ((rd l2 (rd ((rd_T31 l0 x17_1).f3) x25_2)) + ((rd_T31 l0 (rd ((rd_T31 l0 x17_1).f3) x25_2)).f0)))
                ·rw [if_pos c19] at H
                 have c19b0 : decide ((rd l2 x17_1) < (wrap64 ((rd l2 (rd ((rd_T31 l0 x17_1).f3) x25_2)) + ((rd_T31 l0 (rd ((rd_T31 l0 x17_1).f3) x25_2)).f0)))) = true := dT_q c19
                 clear c19
                 obtain rfl := oI_q H
                 have p540 : 0 ≤ (x25_2 : Int) := oD_q (by assumption)
                 have q540 : x25_2 < (((rd_T31 l0 x17_1).f3).length : Int) := oD_q (by assumption)
                 obtain ⟨ad540, e540, hx540_0⟩ := aI_q HR538_3.out x25_2 p540 q540
                 cases e540
                 replace hx540_0 := (HB.out.cell (wL_q w _ hx540_0)).trans hx540_0
                 replace p540 := eq_true p540
                 replace q540 := eq_true q540
                 have p541 : 0 ≤ (x17_1 : Int) := oD_q (by assumption)
                 have q541 : x17_1 < (l2.length : Int) := oD_q (by assumption)
                 obtain ⟨ad541, e541, hx541_0⟩ := aI_q HR2.out x17_1 p541 q541
                 cases e541
                 replace hx541_0 := (HB.out.cell (wL_q w _ hx541_0)).trans hx541_0
                 replace p541 := eq_true p541
                 replace q541 := eq_true q541
                 have p542 : 0 ≤ ((rd ((rd_T31 l0 x17_1).f3) x25_2) : Int) := oD_q (by assumption)
                 have q542 : (rd ((rd_T31 l0 x17_1).f3) x25_2) < (l2.length : Int) := oD_q (by assumption)
                 obtain ⟨ad542, e542, hx542_0⟩ := aI_q HR2.out (rd ((rd_T31 l0 x17_1).f3) x25_2) p542 q542
                 obtain rfl : ad541 = ad542 := (by injection e542)
                 replace hx542_0 := (HB.out.cell (wL_q w _ hx542_0)).trans hx542_0
                 replace p542 := eq_true p542
                 replace q542 := eq_true q542
                 have p543 : 0 ≤ ((rd ((rd_T31 l0 x17_1).f3) x25_2) : Int) := oD_q (by assumption)
                 have q543 : (rd ((rd_T31 l0 x17_1).f3) x25_2) < (l0.length : Int) := oD_q (by assumption)
                 obtain ⟨ad543, A543_3, c543_3, e543, hx543_0, hx543_1, hx543_2, hx543_3, hl543_3, hi543_3⟩ := at_T31 HR0.out (rd ((rd_T31 l0 x17_1).f3) x25_2) p543 q543
                 obtain rfl : ad538 = ad543 := (by injection e543)
                 replace hx543_0 := (HB.out.cell (wL_q w _ hx543_0)).trans hx543_0
                 replace hx543_1 := (HB.out.cell (wL_q w _ hx543_1)).trans hx543_1
                 replace hx543_2 := (HB.out.cell (wL_q w _ hx543_2)).trans hx543_2
                 replace hx543_3 := (HB.out.cell (wL_q w _ hx543_3)).trans hx543_3
                 have HR543_3 := Ae_q hi543_3
                 have HC543_3 := Ae_q hl543_3
                 clear hi543_3 hl543_3
                 replace p543 := eq_true p543
                 replace q543 := eq_true q543
                 go_wp2
                 repeat (go_quiet (fail); try go_wp2)
                 go_ret
                 exact ⟨by first | rfl | (simp [eN_q, eS_q] <;> rfl) | (simp [*, eN_q, eS_q] <;> rfl), by repeat (first | (with_reducible first | exact HB.out | apply bA_q | apply pB_q | apply bD_q | refine bS_q ?_ GE537.out | refine bS_q ?_ GE539.out) | exact HB.out)⟩
                rw [if_neg c19] at H
                have c19b0 : decide ((rd l2 x17_1) < (wrap64 ((rd l2 (rd ((rd_T31 l0 x17_1).f3) x25_2)) + ((rd_T31 l0 (rd ((rd_T31 l0 x17_1).f3) x25_2)).f0)))) = false := dF_q c19
                clear c19
                have H' := Ae_q H
                clear H
                have p540 : 0 ≤ (x25_2 : Int) := oD_q (by assumption)
                have q540 : x25_2 < (((rd_T31 l0 x17_1).f3).length : Int) := oD_q (by assumption)
                obtain ⟨ad540, e540, hx540_0⟩ := aI_q HR538_3.out x25_2 p540 q540
                cases e540
                replace hx540_0 := (HB.out.cell (wL_q w _ hx540_0)).trans hx540_0
                replace p540 := eq_true p540
                replace q540 := eq_true q540
                have p541 : 0 ≤ (x17_1 : Int) := oD_q (by assumption)
                have q541 : x17_1 < (l2.length : Int) := oD_q (by assumption)
                obtain ⟨ad541, e541, hx541_0⟩ := aI_q HR2.out x17_1 p541 q541
                cases e541
                replace hx541_0 := (HB.out.cell (wL_q w _ hx541_0)).trans hx541_0
                replace p541 := eq_true p541
                replace q541 := eq_true q541
                have p542 : 0 ≤ ((rd ((rd_T31 l0 x17_1).f3) x25_2) : Int) := oD_q (by assumption)
                have q542 : (rd ((rd_T31 l0 x17_1).f3) x25_2) < (l2.length : Int) := oD_q (by assumption)
                obtain ⟨ad542, e542, hx542_0⟩ := aI_q HR2.out (rd ((rd_T31 l0 x17_1).f3) x25_2) p542 q542
                obtain rfl : ad541 = ad542 := (by injection e542)
                replace hx542_0 := (HB.out.cell (wL_q w _ hx542_0)).trans hx542_0
                replace p542 := eq_true p542
                replace q542 := eq_true q542
                have p543 : 0 ≤ ((rd ((rd_T31 l0 x17_1).f3) x25_2) : Int) := oD_q (by assumption)
                have q543 : (rd ((rd_T31 l0 x17_1).f3) x25_2) < (l0.length : Int) := oD_q (by assumption)
                obtain ⟨ad543, A543_3, c543_3, e543, hx543_0, hx543_1, hx543_2, hx543_3, hl543_3, hi543_3⟩ := at_T31 HR0.out (rd ((rd_T31 l0 x17_1).f3) x25_2) p543 q543
                obtain rfl : ad538 = ad543 := (by injection e543)
                replace hx543_0 := (HB.out.cell (wL_q w _ hx543_0)).trans hx543_0
                replace hx543_1 := (HB.out.cell (wL_q w _ hx543_1)).trans hx543_1
                replace hx543_2 := (HB.out.cell (wL_q w _ hx543_2)).trans hx543_2
                replace hx543_3 := (HB.out.cell (wL_q w _ hx543_3)).trans hx543_3
                have HR543_3 := Ae_q hi543_3
                have HC543_3 := Ae_q hl543_3
                clear hi543_3 hl543_3
                replace p543 := eq_true p543
                replace q543 := eq_true q543
                go_wp2
                repeat (go_quiet (fail); try go_wp2)
                go_roundg k2
                case measure => have := HK1.out; have := HK2.out; omega
                case rel => exact ⟨(wrap64 (x25_2 + 1)), (by first | rfl | (simp; done) | (simp [*]; done)), H', ⟨by have := HK1.out; have := HK2.out; omega⟩, ⟨by (with_reducible repeat (first | refine bN_q ?_ _ | refine bW_q ?_ | refine bL_q ?_ _)); exact BK537.out⟩, ⟨by (with_reducible repeat (first | refine bN_q ?_ _ | refine bW_q ?_ | refine bL_q ?_ _)); exact BK539.out⟩, ⟨by repeat (first | (with_reducible first | exact HB.out | apply bA_q | apply pB_q | apply bD_q | refine bS_q ?_ GE537.out | refine bS_q ?_ GE539.out) | exact HB.out)⟩⟩
               rw [if_neg c18] at H
               exact absurd H (by simp)
              rw [if_neg c17] at H
              exact absurd H (by simp)
             rw [if_neg c16] at H
             exact absurd H (by simp)
            rw [if_neg c15] at H
            exact absurd H (by simp)
           rw [if_neg c14] at H
           exact absurd H (by simp)
          rw [if_neg c13] at H
          exact absurd H (by simp)
         rw [if_neg c12] at H
         exact absurd H (by simp)
        rw [if_neg c11] at H
        have c11b0 : decide (x25_2 < (((rd_T31 l0 x17_1).f3).length : Int)) = false := dF_q c11
        clear c11
        by_cases c20 : 0 ≤ x17_1
        ·rw [if_pos c20] at H
         have c20b0 : decide (0 ≤ x17_1) = true := dT_q c20
         clear c20
         by_cases c21 : x17_1 < (l2.length : Int)
         ·rw [if_pos c21] at H
          have c21b0 : decide (x17_1 < (l2.length : Int)) = true := dT_q c21
          clear c21
          replace H := oB_q.mp H
          obtain ⟨⟨t545, t546⟩, A220, H⟩ := H
          replace H : (if t545 > a1_0 then (some false) else (impl_planFits.l2 k2 l0 l2 l0 (l0.length : Int) x17_1 t546 (t546.length : Int) 0 a1_0 l1_1)) = some r := H
          have A22 := Ae_q A220
          clear A220
          by_cases c23 : t545 > a1_0
          ·rw [if_pos c23] at H
           have c23b0 : decide (a1_0 < t545) = true := dT_q c23
           clear c23
           obtain rfl := oI_q H
           have p544 : 0 ≤ (x17_1 : Int) := oD_q (by assumption)
           have q544 : x17_1 < (l2.length : Int) := oD_q (by assumption)
           obtain ⟨ad544, e544, hx544_0⟩ := aI_q HR2.out x17_1 p544 q544
           cases e544
           replace hx544_0 := (HB.out.cell (wL_q w _ hx544_0)).trans hx544_0
           replace p544 := eq_true p544
           replace q544 := eq_true q544
           go_wp2_with (first | (go_at_call 36; (with_reducible refine (impl_useAt.calls k2 _ _ l0 _ _ l2 (rd l2 x17_1) t545 t546 _ ?side1 ?side2 ?side3 ?side4 A22.out).mono ?_); (case side1 => repeat (first | exact (cB_q HR0.out HB.out) | (with_reducible refine cA_q ?_ _) | (with_reducible refine cN_q ?_ _) | (with_reducible refine cD_q ?_))); (case side2 => exact HC0.out); (case side3 => repeat (first | exact (cB_q HR2.out HB.out) | (with_reducible refine cA_q ?_ _) | (with_reducible refine cN_q ?_ _) | (with_reducible refine cD_q ?_))); (case side4 => exact HC2.out); rintro e w24 ⟨v547, rfl, ho0, hb⟩; have n0_ := Ae_q (rL_q ho0 (bZ_q (by repeat (first | (with_reducible first | exact HB.out | apply bA_q | apply pB_q | apply bD_q | refine bS_q ?_ GE537.out | refine bS_q ?_ GE539.out) | exact HB.out)))); have n1_ := Ae_q (bB_q (g := gb537) (o := .cells #[.int .i64 a1_0, .slice A1_1 l1_1.length c1_1] 41 (0, 0)) (bup BK537.out) hb); have n2_ := Ae_q (bB_q (g := gb539) (o := .cells #[.int .i64 ((rd_T31 l0 x17_1).f0), .int .i64 ((rd_T31 l0 x17_1).f1), .int .i64 ((rd_T31 l0 x17_1).f2), .slice A538_3 ((rd_T31 l0 x17_1).f3).length c538_3] 31 (0, 0)) (bup BK539.out) hb); have n3_ := Ae_q (bT_q (by repeat (first | (with_reducible first | exact HB.out | apply bA_q | apply pB_q | apply bD_q | refine bS_q ?_ GE537.out | refine bS_q ?_ GE539.out) | exact HB.out)) hb); clear BK537; clear BK539; clear HB; have HO548 := n0_; have BK537 := n1_; have BK539 := n2_; have HB := n3_; clear n0_ n1_ n2_ n3_; (try clear hb); (try clear hb2); (try clear hk); (try clear hi); (try clear ho0); have hnb25 := NB537_539.out; have hnc25 := NB539_537.out; have hcz26_0 : w24.cell? ⟨gb537, 0, none⟩ = some (.int .i64 a1_0) := (bC_q BK537.out 0).trans rfl; have hcz26_1 : w24.cell? ⟨gb537, 1, none⟩ = some (.slice A1_1 l1_1.length c1_1) := (bC_q BK537.out 1).trans rfl; have hfz26_0 := bF_q BK537.out 0; have hfz26_1 := bF_q BK537.out 1))
           repeat (go_quiet (first | (go_at_call 36; (with_reducible refine (impl_useAt.calls k2 _ _ l0 _ _ l2 (rd l2 x17_1) t545 t546 _ ?side1 ?side2 ?side3 ?side4 A22.out).mono ?_); (case side1 => repeat (first | exact (cB_q HR0.out HB.out) | (with_reducible refine cA_q ?_ _) | (with_reducible refine cN_q ?_ _) | (with_reducible refine cD_q ?_))); (case side2 => exact HC0.out); (case side3 => repeat (first | exact (cB_q HR2.out HB.out) | (with_reducible refine cA_q ?_ _) | (with_reducible refine cN_q ?_ _) | (with_reducible refine cD_q ?_))); (case side4 => exact HC2.out); rintro e w24 ⟨v547, rfl, ho0, hb⟩; have n0_ := Ae_q (rL_q ho0 (bZ_q (by repeat (first | (with_reducible first | exact HB.out | apply bA_q | apply pB_q | apply bD_q | refine bS_q ?_ GE537.out | refine bS_q ?_ GE539.out) | exact HB.out)))); have n1_ := Ae_q (bB_q (g := gb537) (o := .cells #[.int .i64 a1_0, .slice A1_1 l1_1.length c1_1] 41 (0, 0)) (bup BK537.out) hb); have n2_ := Ae_q (bB_q (g := gb539) (o := .cells #[.int .i64 ((rd_T31 l0 x17_1).f0), .int .i64 ((rd_T31 l0 x17_1).f1), .int .i64 ((rd_T31 l0 x17_1).f2), .slice A538_3 ((rd_T31 l0 x17_1).f3).length c538_3] 31 (0, 0)) (bup BK539.out) hb); have n3_ := Ae_q (bT_q (by repeat (first | (with_reducible first | exact HB.out | apply bA_q | apply pB_q | apply bD_q | refine bS_q ?_ GE537.out | refine bS_q ?_ GE539.out) | exact HB.out)) hb); clear BK537; clear BK539; clear HB; have HO548 := n0_; have BK537 := n1_; have BK539 := n2_; have HB := n3_; clear n0_ n1_ n2_ n3_; (try clear hb); (try clear hb2); (try clear hk); (try clear hi); (try clear ho0); have hnb25 := NB537_539.out; have hnc25 := NB539_537.out; have hcz26_0 : w24.cell? ⟨gb537, 0, none⟩ = some (.int .i64 a1_0) := (bC_q BK537.out 0).trans rfl; have hcz26_1 : w24.cell? ⟨gb537, 1, none⟩ = some (.slice A1_1 l1_1.length c1_1) := (bC_q BK537.out 1).trans rfl; have hfz26_0 := bF_q BK537.out 0; have hfz26_1 := bF_q BK537.out 1)); try go_wp2_with (first | (go_at_call 36; (with_reducible refine (impl_useAt.calls k2 _ _ l0 _ _ l2 (rd l2 x17_1) t545 t546 _ ?side1 ?side2 ?side3 ?side4 A22.out).mono ?_); (case side1 => repeat (first | exact (cB_q HR0.out HB.out) | (with_reducible refine cA_q ?_ _) | (with_reducible refine cN_q ?_ _) | (with_reducible refine cD_q ?_))); (case side2 => exact HC0.out); (case side3 => repeat (first | exact (cB_q HR2.out HB.out) | (with_reducible refine cA_q ?_ _) | (with_reducible refine cN_q ?_ _) | (with_reducible refine cD_q ?_))); (case side4 => exact HC2.out); rintro e w24 ⟨v547, rfl, ho0, hb⟩; have n0_ := Ae_q (rL_q ho0 (bZ_q (by repeat (first | (with_reducible first | exact HB.out | apply bA_q | apply pB_q | apply bD_q | refine bS_q ?_ GE537.out | refine bS_q ?_ GE539.out) | exact HB.out)))); have n1_ := Ae_q (bB_q (g := gb537) (o := .cells #[.int .i64 a1_0, .slice A1_1 l1_1.length c1_1] 41 (0, 0)) (bup BK537.out) hb); have n2_ := Ae_q (bB_q (g := gb539) (o := .cells #[.int .i64 ((rd_T31 l0 x17_1).f0), .int .i64 ((rd_T31 l0 x17_1).f1), .int .i64 ((rd_T31 l0 x17_1).f2), .slice A538_3 ((rd_T31 l0 x17_1).f3).length c538_3] 31 (0, 0)) (bup BK539.out) hb); have n3_ := Ae_q (bT_q (by repeat (first | (with_reducible first | exact HB.out | apply bA_q | apply pB_q | apply bD_q | refine bS_q ?_ GE537.out | refine bS_q ?_ GE539.out) | exact HB.out)) hb); clear BK537; clear BK539; clear HB; have HO548 := n0_; have BK537 := n1_; have BK539 := n2_; have HB := n3_; clear n0_ n1_ n2_ n3_; (try clear hb); (try clear hb2); (try clear hk); (try clear hi); (try clear ho0); have hnb25 := NB537_539.out; have hnc25 := NB539_537.out; have hcz26_0 : w24.cell? ⟨gb537, 0, none⟩ = some (.int .i64 a1_0) := (bC_q BK537.out 0).trans rfl; have hcz26_1 : w24.cell? ⟨gb537, 1, none⟩ = some (.slice A1_1 l1_1.length c1_1) := (bC_q BK537.out 1).trans rfl; have hfz26_0 := bF_q BK537.out 0; have hfz26_1 := bF_q BK537.out 1)))
           go_ret
           exact ⟨by first | rfl | (simp [eN_q, eS_q] <;> rfl) | (simp [*, eN_q, eS_q] <;> rfl), by repeat (first | (with_reducible first | exact HB.out | apply bA_q | apply pB_q | apply bD_q | refine bS_q ?_ GE537.out | refine bS_q ?_ GE539.out) | exact HB.out)⟩
          rw [if_neg c23] at H
          have c23b0 : decide (a1_0 < t545) = false := dF_q c23
          clear c23
          have H' := Ae_q H
          clear H
          have p544 : 0 ≤ (x17_1 : Int) := oD_q (by assumption)
          have q544 : x17_1 < (l2.length : Int) := oD_q (by assumption)
          obtain ⟨ad544, e544, hx544_0⟩ := aI_q HR2.out x17_1 p544 q544
          cases e544
          replace hx544_0 := (HB.out.cell (wL_q w _ hx544_0)).trans hx544_0
          replace p544 := eq_true p544
          replace q544 := eq_true q544
          go_wp2_with (first | (go_at_call 36; (with_reducible refine (impl_useAt.calls k2 _ _ l0 _ _ l2 (rd l2 x17_1) t545 t546 _ ?side1 ?side2 ?side3 ?side4 A22.out).mono ?_); (case side1 => repeat (first | exact (cB_q HR0.out HB.out) | (with_reducible refine cA_q ?_ _) | (with_reducible refine cN_q ?_ _) | (with_reducible refine cD_q ?_))); (case side2 => exact HC0.out); (case side3 => repeat (first | exact (cB_q HR2.out HB.out) | (with_reducible refine cA_q ?_ _) | (with_reducible refine cN_q ?_ _) | (with_reducible refine cD_q ?_))); (case side4 => exact HC2.out); rintro e w27 ⟨v547, rfl, ho0, hb⟩; have n0_ := Ae_q (rL_q ho0 (bZ_q (by repeat (first | (with_reducible first | exact HB.out | apply bA_q | apply pB_q | apply bD_q | refine bS_q ?_ GE537.out | refine bS_q ?_ GE539.out) | exact HB.out)))); have n1_ := Ae_q (bB_q (g := gb537) (o := .cells #[.int .i64 a1_0, .slice A1_1 l1_1.length c1_1] 41 (0, 0)) (bup BK537.out) hb); have n2_ := Ae_q (bB_q (g := gb539) (o := .cells #[.int .i64 ((rd_T31 l0 x17_1).f0), .int .i64 ((rd_T31 l0 x17_1).f1), .int .i64 ((rd_T31 l0 x17_1).f2), .slice A538_3 ((rd_T31 l0 x17_1).f3).length c538_3] 31 (0, 0)) (bup BK539.out) hb); have n3_ := Ae_q (bT_q (by repeat (first | (with_reducible first | exact HB.out | apply bA_q | apply pB_q | apply bD_q | refine bS_q ?_ GE537.out | refine bS_q ?_ GE539.out) | exact HB.out)) hb); clear BK537; clear BK539; clear HB; have HO548 := n0_; have BK537 := n1_; have BK539 := n2_; have HB := n3_; clear n0_ n1_ n2_ n3_; (try clear hb); (try clear hb2); (try clear hk); (try clear hi); (try clear ho0); have hnb28 := NB537_539.out; have hnc28 := NB539_537.out; have hcz29_0 : w27.cell? ⟨gb537, 0, none⟩ = some (.int .i64 a1_0) := (bC_q BK537.out 0).trans rfl; have hcz29_1 : w27.cell? ⟨gb537, 1, none⟩ = some (.slice A1_1 l1_1.length c1_1) := (bC_q BK537.out 1).trans rfl; have hfz29_0 := bF_q BK537.out 0; have hfz29_1 := bF_q BK537.out 1; obtain ⟨Ao30, co30, eo30⟩ := rS_q HO548.out; subst eo30))
          repeat (go_quiet (first | (go_at_call 36; (with_reducible refine (impl_useAt.calls k2 _ _ l0 _ _ l2 (rd l2 x17_1) t545 t546 _ ?side1 ?side2 ?side3 ?side4 A22.out).mono ?_); (case side1 => repeat (first | exact (cB_q HR0.out HB.out) | (with_reducible refine cA_q ?_ _) | (with_reducible refine cN_q ?_ _) | (with_reducible refine cD_q ?_))); (case side2 => exact HC0.out); (case side3 => repeat (first | exact (cB_q HR2.out HB.out) | (with_reducible refine cA_q ?_ _) | (with_reducible refine cN_q ?_ _) | (with_reducible refine cD_q ?_))); (case side4 => exact HC2.out); rintro e w27 ⟨v547, rfl, ho0, hb⟩; have n0_ := Ae_q (rL_q ho0 (bZ_q (by repeat (first | (with_reducible first | exact HB.out | apply bA_q | apply pB_q | apply bD_q | refine bS_q ?_ GE537.out | refine bS_q ?_ GE539.out) | exact HB.out)))); have n1_ := Ae_q (bB_q (g := gb537) (o := .cells #[.int .i64 a1_0, .slice A1_1 l1_1.length c1_1] 41 (0, 0)) (bup BK537.out) hb); have n2_ := Ae_q (bB_q (g := gb539) (o := .cells #[.int .i64 ((rd_T31 l0 x17_1).f0), .int .i64 ((rd_T31 l0 x17_1).f1), .int .i64 ((rd_T31 l0 x17_1).f2), .slice A538_3 ((rd_T31 l0 x17_1).f3).length c538_3] 31 (0, 0)) (bup BK539.out) hb); have n3_ := Ae_q (bT_q (by repeat (first | (with_reducible first | exact HB.out | apply bA_q | apply pB_q | apply bD_q | refine bS_q ?_ GE537.out | refine bS_q ?_ GE539.out) | exact HB.out)) hb); clear BK537; clear BK539; clear HB; have HO548 := n0_; have BK537 := n1_; have BK539 := n2_; have HB := n3_; clear n0_ n1_ n2_ n3_; (try clear hb); (try clear hb2); (try clear hk); (try clear hi); (try clear ho0); have hnb28 := NB537_539.out; have hnc28 := NB539_537.out; have hcz29_0 : w27.cell? ⟨gb537, 0, none⟩ = some (.int .i64 a1_0) := (bC_q BK537.out 0).trans rfl; have hcz29_1 : w27.cell? ⟨gb537, 1, none⟩ = some (.slice A1_1 l1_1.length c1_1) := (bC_q BK537.out 1).trans rfl; have hfz29_0 := bF_q BK537.out 0; have hfz29_1 := bF_q BK537.out 1; obtain ⟨Ao30, co30, eo30⟩ := rS_q HO548.out; subst eo30)); try go_wp2_with (first | (go_at_call 36; (with_reducible refine (impl_useAt.calls k2 _ _ l0 _ _ l2 (rd l2 x17_1) t545 t546 _ ?side1 ?side2 ?side3 ?side4 A22.out).mono ?_); (case side1 => repeat (first | exact (cB_q HR0.out HB.out) | (with_reducible refine cA_q ?_ _) | (with_reducible refine cN_q ?_ _) | (with_reducible refine cD_q ?_))); (case side2 => exact HC0.out); (case side3 => repeat (first | exact (cB_q HR2.out HB.out) | (with_reducible refine cA_q ?_ _) | (with_reducible refine cN_q ?_ _) | (with_reducible refine cD_q ?_))); (case side4 => exact HC2.out); rintro e w27 ⟨v547, rfl, ho0, hb⟩; have n0_ := Ae_q (rL_q ho0 (bZ_q (by repeat (first | (with_reducible first | exact HB.out | apply bA_q | apply pB_q | apply bD_q | refine bS_q ?_ GE537.out | refine bS_q ?_ GE539.out) | exact HB.out)))); have n1_ := Ae_q (bB_q (g := gb537) (o := .cells #[.int .i64 a1_0, .slice A1_1 l1_1.length c1_1] 41 (0, 0)) (bup BK537.out) hb); have n2_ := Ae_q (bB_q (g := gb539) (o := .cells #[.int .i64 ((rd_T31 l0 x17_1).f0), .int .i64 ((rd_T31 l0 x17_1).f1), .int .i64 ((rd_T31 l0 x17_1).f2), .slice A538_3 ((rd_T31 l0 x17_1).f3).length c538_3] 31 (0, 0)) (bup BK539.out) hb); have n3_ := Ae_q (bT_q (by repeat (first | (with_reducible first | exact HB.out | apply bA_q | apply pB_q | apply bD_q | refine bS_q ?_ GE537.out | refine bS_q ?_ GE539.out) | exact HB.out)) hb); clear BK537; clear BK539; clear HB; have HO548 := n0_; have BK537 := n1_; have BK539 := n2_; have HB := n3_; clear n0_ n1_ n2_ n3_; (try clear hb); (try clear hb2); (try clear hk); (try clear hi); (try clear ho0); have hnb28 := NB537_539.out; have hnc28 := NB539_537.out; have hcz29_0 : w27.cell? ⟨gb537, 0, none⟩ = some (.int .i64 a1_0) := (bC_q BK537.out 0).trans rfl; have hcz29_1 : w27.cell? ⟨gb537, 1, none⟩ = some (.slice A1_1 l1_1.length c1_1) := (bC_q BK537.out 1).trans rfl; have hfz29_0 := bF_q BK537.out 0; have hfz29_1 := bF_q BK537.out 1; obtain ⟨Ao30, co30, eo30⟩ := rS_q HO548.out; subst eo30)))
          go_loopg [61] k2 (fun kq v61 w' => ∃ (x61_3 : Int), v61 = .int .i64 x61_3 ∧ Aside0 (impl_planFits.l2 kq l0 l2 l0 (l0.length : Int) x17_1 t546 (t546.length : Int) x61_3 a1_0 l1_1 = some r) ∧ Aside0 (kq ≤ k2) ∧ Aside0 (Kd.R kI_q 3 w' w.heap.size (fun _ => True) (.slice Ao30 t546.length co30) t546) ∧ Aside0 (w'.heap[gb537]? = some (.cells #[.int .i64 a1_0, (.slice A1_1 l1_1.length c1_1)] 41 (0, 0))) ∧ Aside0 (w'.heap[gb539]? = some (.cells #[.int .i64 ((rd_T31 l0 x17_1).f0), .int .i64 ((rd_T31 l0 x17_1).f1), .int .i64 ((rd_T31 l0 x17_1).f2), (.slice A538_3 ((rd_T31 l0 x17_1).f3).length c538_3)] 31 (0, 0))) ∧ Aside0 (Below w.heap.size w w'))
          case atStart => exact ⟨(0), (by first | rfl | (simp; done) | (simp [*]; done)), H', ⟨nR_q _⟩, ⟨by (with_reducible repeat (first | apply rA_q | apply rN_q | apply rD_q)); exact HO548.out⟩, ⟨by (with_reducible repeat (first | refine bN_q ?_ _ | refine bW_q ?_ | refine bL_q ?_ _)); exact BK537.out⟩, ⟨by (with_reducible repeat (first | refine bN_q ?_ _ | refine bW_q ?_ | refine bL_q ?_ _)); exact BK539.out⟩, ⟨by repeat (first | (with_reducible first | exact HB.out | apply bA_q | apply pB_q | apply bD_q | refine bS_q ?_ GE537.out | refine bS_q ?_ GE539.out) | exact HB.out)⟩⟩
          case round =>
           clear H'
           try clear c1
           try clear c2
           try clear p2
           try clear c4
           try clear c5
           try clear c5b0
           try clear p5
           try clear q5
           try clear hx5
           try clear c6
           try clear c6b0
           try clear p6
           try clear c7
           try clear c7b0
           try clear c9
           try clear c11
           try clear c11b0
           try clear c12
           try clear c12b0
           try clear c13
           try clear c13b0
           try clear c14
           try clear c14b0
           try clear c15
           try clear c15b0
           try clear c16
           try clear c16b0
           try clear c17
           try clear c17b0
           try clear c18
           try clear c18b0
           try clear c19
           try clear c19b0
           try clear c20
           try clear c20b0
           try clear c21
           try clear c21b0
           try clear c23
           try clear c23b0
           try clear c25
           try clear c28
           try clear hcz10_0
           try clear hcz10_1
           try clear hcz10_2
           try clear hcz10_3
           try clear hcz26_0
           try clear hcz26_1
           try clear hcz29_0
           try clear hcz29_1
           try clear hfz10_0
           try clear hfz10_1
           try clear hfz10_2
           try clear hfz10_3
           try clear hfz26_0
           try clear hfz26_1
           try clear hfz29_0
           try clear hfz29_1
           try clear hx538_0
           try clear hx538_1
           try clear hx538_2
           try clear hx538_3
           try clear hx540_0
           try clear hx541_0
           try clear hx542_0
           try clear hx543_0
           try clear hx543_1
           try clear hx543_2
           try clear hx543_3
           try clear hx544_0
           try clear p2
           try clear p5
           try clear p538
           try clear p540
           try clear p541
           try clear p542
           try clear p543
           try clear p544
           try clear q5
           try clear q538
           try clear q540
           try clear q541
           try clear q542
           try clear q543
           try clear q544
           obtain ⟨x61_3, rfl, HA, HK3, HO_59, BK537, BK539, HB⟩ := hrel
           cases gk with
           | zero => exact absurd HA.out (by simp [impl_planFits.l2])
           | succ k3 =>
            have H := HA.out
            clear HA
            simp only [impl_planFits.l2] at H
            by_cases c31 : x61_3 < (t546.length : Int)
            ·rw [if_pos c31] at H
             have c31b0 : decide (x61_3 < (t546.length : Int)) = true := dT_q c31
             clear c31
             by_cases c32 : 0 ≤ x61_3
             ·rw [if_pos c32] at H
              have c32b0 : decide (0 ≤ x61_3) = true := dT_q c32
              clear c32
              by_cases c33 : x61_3 < (t546.length : Int)
              ·rw [if_pos c33] at H
               have c33b0 : decide (x61_3 < (t546.length : Int)) = true := dT_q c33
               clear c33
               by_cases c34 : x61_3 < (l1_1.length : Int)
               ·rw [if_pos c34] at H
                have c34b0 : decide (x61_3 < (l1_1.length : Int)) = true := dT_q c34
                clear c34
                by_cases c35 : (rd t546 x61_3) > (rd l1_1 x61_3)
                ·rw [if_pos c35] at H
                 have c35b0 : decide ((rd l1_1 x61_3) < (rd t546 x61_3)) = true := dT_q c35
                 clear c35
                 obtain rfl := oI_q H
                 have p549 : 0 ≤ (x61_3 : Int) := oD_q (by assumption)
                 have q549 : x61_3 < (t546.length : Int) := oD_q (by assumption)
                 obtain ⟨ad549, e549, hx549_0⟩ := aI_q (rR_q HO_59.out).2.2 x61_3 p549 q549
                 cases e549
                 replace p549 := eq_true p549
                 replace q549 := eq_true q549
                 have hnb36 := NB537_539.out
                 have hnc36 := NB539_537.out
                 have hcz37_0 : wr.cell? ⟨gb537, 0, none⟩ = some (.int .i64 a1_0) := (bC_q BK537.out 0).trans rfl
                 have hcz37_1 : wr.cell? ⟨gb537, 1, none⟩ = some (.slice A1_1 l1_1.length c1_1) := (bC_q BK537.out 1).trans rfl
                 have hfz37_0 := bF_q BK537.out 0
                 have hfz37_1 := bF_q BK537.out 1
                 have p550 : 0 ≤ (x61_3 : Int) := oD_q (by assumption)
                 have q550 : x61_3 < (l1_1.length : Int) := oD_q (by assumption)
                 obtain ⟨ad550, e550, hx550_0⟩ := aI_q HR1_1.out x61_3 p550 q550
                 cases e550
                 replace hx550_0 := (HB.out.cell (wL_q w _ hx550_0)).trans hx550_0
                 replace p550 := eq_true p550
                 replace q550 := eq_true q550
                 go_wp2
                 repeat (go_quiet (fail); try go_wp2)
                 go_ret
                 exact ⟨by first | rfl | (simp [eN_q, eS_q] <;> rfl) | (simp [*, eN_q, eS_q] <;> rfl), by repeat (first | (with_reducible first | exact HB.out | apply bA_q | apply pB_q | apply bD_q | refine bS_q ?_ GE537.out | refine bS_q ?_ GE539.out) | exact HB.out)⟩
                rw [if_neg c35] at H
                have c35b0 : decide ((rd l1_1 x61_3) < (rd t546 x61_3)) = false := dF_q c35
                clear c35
                have H' := Ae_q H
                clear H
                have p549 : 0 ≤ (x61_3 : Int) := oD_q (by assumption)
                have q549 : x61_3 < (t546.length : Int) := oD_q (by assumption)
                obtain ⟨ad549, e549, hx549_0⟩ := aI_q (rR_q HO_59.out).2.2 x61_3 p549 q549
                cases e549
                replace p549 := eq_true p549
                replace q549 := eq_true q549
                have hnb38 := NB537_539.out
                have hnc38 := NB539_537.out
                have hcz39_0 : wr.cell? ⟨gb537, 0, none⟩ = some (.int .i64 a1_0) := (bC_q BK537.out 0).trans rfl
                have hcz39_1 : wr.cell? ⟨gb537, 1, none⟩ = some (.slice A1_1 l1_1.length c1_1) := (bC_q BK537.out 1).trans rfl
                have hfz39_0 := bF_q BK537.out 0
                have hfz39_1 := bF_q BK537.out 1
                have p550 : 0 ≤ (x61_3 : Int) := oD_q (by assumption)
                have q550 : x61_3 < (l1_1.length : Int) := oD_q (by assumption)
                obtain ⟨ad550, e550, hx550_0⟩ := aI_q HR1_1.out x61_3 p550 q550
                cases e550
                replace hx550_0 := (HB.out.cell (wL_q w _ hx550_0)).trans hx550_0
                replace p550 := eq_true p550
                replace q550 := eq_true q550
                go_wp2
                repeat (go_quiet (fail); try go_wp2)
                go_roundg k3
                case measure => have := HK1.out; have := HK2.out; have := HK3.out; omega
                case rel => exact ⟨(wrap64 (x61_3 + 1)), (by first | rfl | (simp; done) | (simp [*]; done)), H', ⟨by have := HK1.out; have := HK2.out; have := HK3.out; omega⟩, ⟨by (with_reducible repeat (first | apply rA_q | apply rN_q | apply rD_q)); exact HO_59.out⟩, ⟨by (with_reducible repeat (first | refine bN_q ?_ _ | refine bW_q ?_ | refine bL_q ?_ _)); exact BK537.out⟩, ⟨by (with_reducible repeat (first | refine bN_q ?_ _ | refine bW_q ?_ | refine bL_q ?_ _)); exact BK539.out⟩, ⟨by repeat (first | (with_reducible first | exact HB.out | apply bA_q | apply pB_q | apply bD_q | refine bS_q ?_ GE537.out | refine bS_q ?_ GE539.out) | exact HB.out)⟩⟩
               rw [if_neg c34] at H
               exact absurd H (by simp)
              rw [if_neg c33] at H
              exact absurd H (by simp)
             rw [if_neg c32] at H
             exact absurd H (by simp)
            rw [if_neg c31] at H
            have c31b0 : decide (x61_3 < (t546.length : Int)) = false := dF_q c31
            clear c31
            have H' := Ae_q H
            clear H
            go_wp2
            repeat (go_quiet (fail); try go_wp2)
            go_roundg k3
            case measure => have := HK1.out; have := HK2.out; have := HK3.out; omega
            case rel => exact ⟨(wrap64 (x17_1 + 1)), (by first | rfl | (simp; done) | (simp [*]; done)), H', ⟨by have := HK1.out; have := HK2.out; have := HK3.out; omega⟩, ⟨by (with_reducible repeat (first | refine bN_q ?_ _ | refine bW_q ?_ | refine bL_q ?_ _)); exact BK537.out⟩, ⟨by repeat (first | (with_reducible first | exact HB.out | apply bA_q | apply pB_q | apply bD_q | refine bS_q ?_ GE537.out | refine bS_q ?_ GE539.out) | exact HB.out)⟩⟩
         rw [if_neg c21] at H
         exact absurd H (by simp)
        rw [if_neg c20] at H
        exact absurd H (by simp)
     rw [if_neg c7] at H
     exact absurd H (by simp)
    rw [if_neg c6] at H
    exact absurd H (by simp)
   rw [if_neg c5] at H
   have c5b0 : decide (x17_1 < (l0.length : Int)) = false := dF_q c5
   clear c5
   obtain rfl := oI_q H
   go_wp2
   repeat (go_quiet (fail); try go_wp2)
   go_ret
   exact ⟨by first | rfl | (simp [eN_q, eS_q] <;> rfl) | (simp [*, eN_q, eS_q] <;> rfl), by repeat (first | (with_reducible first | exact HB.out | apply bA_q | apply pB_q | apply bD_q | refine bS_q ?_ GE537.out) | exact HB.out)⟩

def impl_PlanValid.f (k : Nat) (l0 : List (S31)) (a1_0 : Int) (l1_1 : List Int) (l2 : List Int) : Option (Bool) := (impl_KitchenValid.f a1_0 l1_1).bind fun t552 => (if t552 = true then ((impl_startsValid.f k l0 l2).bind fun t553 => (if t553 = true then ((impl_planFits.f k l0 a1_0 l1_1 l2).bind fun t554 => (some t554)) else (some false))) else (some false))
theorem impl_PlanValid.mono : ∀ a0 a1 a2 a3 k, LeO (impl_PlanValid.f k a0 a1 a2 a3) (impl_PlanValid.f (k + 1) a0 a1 a2 a3) := by
 intro a0 a1 a2 a3 k
 unfold impl_PlanValid.f
 repeat' first
  | (with_reducible exact impl_planFits.mono _ _ _ _ _)
  | (with_reducible exact impl_startsValid.mono _ _ _)
  | (with_reducible exact lR_q _)
  | (with_reducible exact lO_q _)
  | (with_reducible refine lI_q ?_ ?_)
  | (with_reducible refine lB_q ?_ (fun _ => ?_))
  | exact impl_planFits.mono _ _ _ _ _
  | exact impl_startsValid.mono _ _ _
  | exact lO_q _
  | refine lI_q ?_ ?_
  | refine lB_q ?_ (fun _ => ?_)
set_option maxHeartbeats 8000000 in
set_option maxRecDepth 100000 in
theorem impl_PlanValid.calls (k : Nat) (A0 : Option Addr) (c0 : Nat) (l0 : List (S31)) (a1_0 : Int) (A1_1 : Option Addr) (c1_1 : Nat) (l1_1 : List Int) (A2 : Option Addr) (c2 : Nat) (l2 : List Int) (r : Bool) (w : World) (hr0 : Kd.C k31 w A0 l0.length l0) (hc0 : l0.length ≤ c0) (hr1_1 : Kd.C kI_q w A1_1 l1_1.length l1_1) (hc1_1 : l1_1.length ≤ c1_1) (hr2 : Kd.C kI_q w A2 l2.length l2) (hc2 : l2.length ≤ c2) (h : impl_PlanValid.f k l0 a1_0 l1_1 l2 = some r) :
    Calls Try.prog 20 #[.slice A0 l0.length c0, .agg #[.int .i64 a1_0, .slice A1_1 l1_1.length c1_1], .slice A2 l2.length c2] w fun e w' => e = .returned (.bool r) ∧ Below w.heap.size w w' := by
 have hu41 := Try.underlying41
 have HR0 := Ae_q hr0
 have HC0 := Ae_q hc0
 clear hr0 hc0
 have HR1_1 := Ae_q hr1_1
 have HC1_1 := Ae_q hc1_1
 clear hr1_1 hc1_1
 have HR2 := Ae_q hr2
 have HC2 := Ae_q hc2
 clear hr2 hc2
 have HB := Ae_q (bR_q w.heap.size w)
 have H : ((impl_KitchenValid.f a1_0 l1_1).bind fun t552 => (if t552 = true then ((impl_startsValid.f k l0 l2).bind fun t553 => (if t553 = true then ((impl_planFits.f k l0 a1_0 l1_1 l2).bind fun t554 => (some t554)) else (some false))) else (some false))) = some r := h
 clear h
 replace H := oB_q.mp H
 obtain ⟨t552, A40, H⟩ := H
 replace H : (if t552 = true then ((impl_startsValid.f k l0 l2).bind fun t553 => (if t553 = true then ((impl_planFits.f k l0 a1_0 l1_1 l2).bind fun t554 => (some t554)) else (some false))) else (some false)) = some r := H
 have A4 := Ae_q A40
 clear A40
 by_cases c5 : t552 = true
 ·subst c5
  have H1 : ((impl_startsValid.f k l0 l2).bind fun t553 => (if t553 = true then ((impl_planFits.f k l0 a1_0 l1_1 l2).bind fun t554 => (some t554)) else (some false))) = some r := by rw [if_pos rfl] at H; exact H
  clear H
  have H := H1
  clear H1
  replace H := oB_q.mp H
  obtain ⟨t553, A60, H⟩ := H
  replace H : (if t553 = true then ((impl_planFits.f k l0 a1_0 l1_1 l2).bind fun t554 => (some t554)) else (some false)) = some r := H
  have A6 := Ae_q A60
  clear A60
  by_cases c7 : t553 = true
  ·subst c7
   have H1 : ((impl_planFits.f k l0 a1_0 l1_1 l2).bind fun t554 => (some t554)) = some r := by rw [if_pos rfl] at H; exact H
   clear H
   have H := H1
   clear H1
   replace H := oB_q.mp H
   obtain ⟨t554, A80, H⟩ := H
   replace H : (some t554) = some r := H
   have A8 := Ae_q A80
   clear A80
   obtain rfl := oI_q H
   go_enter Try.func20, Try.ntmps20
   go_wp2_with (first | ((with_reducible refine gD_q (N := 4) rfl ?_); refine bE_q ?hg (N := 4) ?hd (cs := #[.int .i64 a1_0, .slice A1_1 l1_1.length c1_1]) (t := 41) ?hr ?_; (case hd => rfl); (case hg => rfl); (case hr => first | (go_simp; done) | (go_simp; rfl)); intro gb551 hg w9 hbox hb; have n0_ := Ae_q (bT_q (bel HB.out) hb); have n1_ := Ae_q (hbox); have n2_ := Ae_q ((by rw [hg]; exact (bZ_q (bel HB.out)) : w.heap.size ≤ gb551)); have n3_ := Ae_q ((by rw [hg]; exact (bZ_q (bel HB.out)) : w.heap.size ≤ gb551)); clear HB; have HB := n0_; have BK551 := n1_; have GW551 := n2_; have GE551 := n3_; clear n0_ n1_ n2_ n3_; clear hb hbox hg; have hcz10_0 : w9.cell? ⟨gb551, 0, none⟩ = some (.int .i64 a1_0) := (bC_q BK551.out 0).trans rfl; have hcz10_1 : w9.cell? ⟨gb551, 1, none⟩ = some (.slice A1_1 l1_1.length c1_1) := (bC_q BK551.out 1).trans rfl; have hfz10_0 := bF_q BK551.out 0; have hfz10_1 := bF_q BK551.out 1) | ((with_reducible refine gC_q (f := 44) rfl ?_); refine gL_q (some 8) rfl rfl Try.func44 (by kernel_rfl) rfl #[.agg #[.int .i64 a1_0, .slice A1_1 l1_1.length c1_1]] rfl (by (try simp only [lM_q, lC_q, lN_q]); first | done | rfl | (simp only [lD_q, lT_q]; rfl)) ?_; (with_reducible refine (impl_KitchenValid.calls a1_0 _ _ l1_1 true _ ?side1 ?side2 A4.out).mono ?_); (case side1 => repeat (first | exact (cB_q HR1_1.out HB.out) | (with_reducible refine cA_q ?_ _) | (with_reducible refine cN_q ?_ _) | (with_reducible refine cD_q ?_))); (case side2 => exact HC1_1.out); rintro e w11 ⟨rfl, hb⟩; refine ⟨_, rfl, ?_⟩; have n0_ := Ae_q (bB_q (g := gb551) (o := .cells #[.int .i64 a1_0, .slice A1_1 l1_1.length c1_1] 41 (0, 0)) (bup BK551.out) hb); have n1_ := Ae_q (bT_q (by repeat (first | (with_reducible first | exact HB.out | apply bA_q | apply pB_q | apply bD_q | refine bS_q ?_ GE551.out) | exact HB.out)) hb); clear BK551; clear HB; have BK551 := n0_; have HB := n1_; clear n0_ n1_; (try clear hb); (try clear hb2); (try clear hk); (try clear hi)) | (go_at_call 35; (with_reducible refine (impl_startsValid.calls k _ _ l0 _ _ l2 true _ ?side1 ?side2 ?side3 ?side4 A6.out).mono ?_); (case side1 => repeat (first | exact (cB_q HR0.out HB.out) | (with_reducible refine cA_q ?_ _) | (with_reducible refine cN_q ?_ _) | (with_reducible refine cD_q ?_))); (case side2 => exact HC0.out); (case side3 => repeat (first | exact (cB_q HR2.out HB.out) | (with_reducible refine cA_q ?_ _) | (with_reducible refine cN_q ?_ _) | (with_reducible refine cD_q ?_))); (case side4 => exact HC2.out); rintro e w12 ⟨rfl, hb⟩; have n0_ := Ae_q (bB_q (g := gb551) (o := .cells #[.int .i64 a1_0, .slice A1_1 l1_1.length c1_1] 41 (0, 0)) (bup BK551.out) hb); have n1_ := Ae_q (bT_q (by repeat (first | (with_reducible first | exact HB.out | apply bA_q | apply pB_q | apply bD_q | refine bS_q ?_ GE551.out) | exact HB.out)) hb); clear BK551; clear HB; have BK551 := n0_; have HB := n1_; clear n0_ n1_; (try clear hb); (try clear hb2); (try clear hk); (try clear hi); have hcz13_0 : w12.cell? ⟨gb551, 0, none⟩ = some (.int .i64 a1_0) := (bC_q BK551.out 0).trans rfl; have hcz13_1 : w12.cell? ⟨gb551, 1, none⟩ = some (.slice A1_1 l1_1.length c1_1) := (bC_q BK551.out 1).trans rfl; have hfz13_0 := bF_q BK551.out 0; have hfz13_1 := bF_q BK551.out 1) | (go_at_call 45; (with_reducible refine (impl_planFits.calls k _ _ l0 a1_0 _ _ l1_1 _ _ l2 t554 _ ?side1 ?side2 ?side3 ?side4 ?side5 ?side6 A8.out).mono ?_); (case side1 => repeat (first | exact (cB_q HR0.out HB.out) | (with_reducible refine cA_q ?_ _) | (with_reducible refine cN_q ?_ _) | (with_reducible refine cD_q ?_))); (case side2 => exact HC0.out); (case side3 => repeat (first | exact (cB_q HR1_1.out HB.out) | (with_reducible refine cA_q ?_ _) | (with_reducible refine cN_q ?_ _) | (with_reducible refine cD_q ?_))); (case side4 => exact HC1_1.out); (case side5 => repeat (first | exact (cB_q HR2.out HB.out) | (with_reducible refine cA_q ?_ _) | (with_reducible refine cN_q ?_ _) | (with_reducible refine cD_q ?_))); (case side6 => exact HC2.out); rintro e w14 ⟨rfl, hb⟩; have n0_ := Ae_q (bB_q (g := gb551) (o := .cells #[.int .i64 a1_0, .slice A1_1 l1_1.length c1_1] 41 (0, 0)) (bup BK551.out) hb); have n1_ := Ae_q (bT_q (by repeat (first | (with_reducible first | exact HB.out | apply bA_q | apply pB_q | apply bD_q | refine bS_q ?_ GE551.out) | exact HB.out)) hb); clear BK551; clear HB; have BK551 := n0_; have HB := n1_; clear n0_ n1_; (try clear hb); (try clear hb2); (try clear hk); (try clear hi)))
   go_ret
   exact ⟨by first | rfl | (simp [eN_q, eS_q] <;> rfl) | (simp [*, eN_q, eS_q] <;> rfl), by repeat (first | (with_reducible first | exact HB.out | apply bA_q | apply pB_q | apply bD_q | refine bS_q ?_ GE551.out) | exact HB.out)⟩
  replace c7 := fM_q.mpr c7
  subst c7
  have H1 : (some false) = some r := by rw [if_neg (show ¬ (false = true) by decide)] at H; exact H
  clear H
  have H := H1
  clear H1
  obtain rfl := oI_q H
  go_enter Try.func20, Try.ntmps20
  go_wp2_with (first | ((with_reducible refine gD_q (N := 4) rfl ?_); refine bE_q ?hg (N := 4) ?hd (cs := #[.int .i64 a1_0, .slice A1_1 l1_1.length c1_1]) (t := 41) ?hr ?_; (case hd => rfl); (case hg => rfl); (case hr => first | (go_simp; done) | (go_simp; rfl)); intro gb551 hg w15 hbox hb; have n0_ := Ae_q (bT_q (bel HB.out) hb); have n1_ := Ae_q (hbox); have n2_ := Ae_q ((by rw [hg]; exact (bZ_q (bel HB.out)) : w.heap.size ≤ gb551)); have n3_ := Ae_q ((by rw [hg]; exact (bZ_q (bel HB.out)) : w.heap.size ≤ gb551)); clear HB; have HB := n0_; have BK551 := n1_; have GW551 := n2_; have GE551 := n3_; clear n0_ n1_ n2_ n3_; clear hb hbox hg; have hcz16_0 : w15.cell? ⟨gb551, 0, none⟩ = some (.int .i64 a1_0) := (bC_q BK551.out 0).trans rfl; have hcz16_1 : w15.cell? ⟨gb551, 1, none⟩ = some (.slice A1_1 l1_1.length c1_1) := (bC_q BK551.out 1).trans rfl; have hfz16_0 := bF_q BK551.out 0; have hfz16_1 := bF_q BK551.out 1) | ((with_reducible refine gC_q (f := 44) rfl ?_); refine gL_q (some 8) rfl rfl Try.func44 (by kernel_rfl) rfl #[.agg #[.int .i64 a1_0, .slice A1_1 l1_1.length c1_1]] rfl (by (try simp only [lM_q, lC_q, lN_q]); first | done | rfl | (simp only [lD_q, lT_q]; rfl)) ?_; (with_reducible refine (impl_KitchenValid.calls a1_0 _ _ l1_1 true _ ?side1 ?side2 A4.out).mono ?_); (case side1 => repeat (first | exact (cB_q HR1_1.out HB.out) | (with_reducible refine cA_q ?_ _) | (with_reducible refine cN_q ?_ _) | (with_reducible refine cD_q ?_))); (case side2 => exact HC1_1.out); rintro e w17 ⟨rfl, hb⟩; refine ⟨_, rfl, ?_⟩; have n0_ := Ae_q (bB_q (g := gb551) (o := .cells #[.int .i64 a1_0, .slice A1_1 l1_1.length c1_1] 41 (0, 0)) (bup BK551.out) hb); have n1_ := Ae_q (bT_q (by repeat (first | (with_reducible first | exact HB.out | apply bA_q | apply pB_q | apply bD_q | refine bS_q ?_ GE551.out) | exact HB.out)) hb); clear BK551; clear HB; have BK551 := n0_; have HB := n1_; clear n0_ n1_; (try clear hb); (try clear hb2); (try clear hk); (try clear hi)) | (go_at_call 35; (with_reducible refine (impl_startsValid.calls k _ _ l0 _ _ l2 false _ ?side1 ?side2 ?side3 ?side4 A6.out).mono ?_); (case side1 => repeat (first | exact (cB_q HR0.out HB.out) | (with_reducible refine cA_q ?_ _) | (with_reducible refine cN_q ?_ _) | (with_reducible refine cD_q ?_))); (case side2 => exact HC0.out); (case side3 => repeat (first | exact (cB_q HR2.out HB.out) | (with_reducible refine cA_q ?_ _) | (with_reducible refine cN_q ?_ _) | (with_reducible refine cD_q ?_))); (case side4 => exact HC2.out); rintro e w18 ⟨rfl, hb⟩; have n0_ := Ae_q (bB_q (g := gb551) (o := .cells #[.int .i64 a1_0, .slice A1_1 l1_1.length c1_1] 41 (0, 0)) (bup BK551.out) hb); have n1_ := Ae_q (bT_q (by repeat (first | (with_reducible first | exact HB.out | apply bA_q | apply pB_q | apply bD_q | refine bS_q ?_ GE551.out) | exact HB.out)) hb); clear BK551; clear HB; have BK551 := n0_; have HB := n1_; clear n0_ n1_; (try clear hb); (try clear hb2); (try clear hk); (try clear hi)))
  go_ret
  exact ⟨by first | rfl | (simp [eN_q, eS_q] <;> rfl) | (simp [*, eN_q, eS_q] <;> rfl), by repeat (first | (with_reducible first | exact HB.out | apply bA_q | apply pB_q | apply bD_q | refine bS_q ?_ GE551.out) | exact HB.out)⟩
 replace c5 := fM_q.mpr c5
 subst c5
 have H1 : (some false) = some r := by rw [if_neg (show ¬ (false = true) by decide)] at H; exact H
 clear H
 have H := H1
 clear H1
 obtain rfl := oI_q H
 go_enter Try.func20, Try.ntmps20
 go_wp2_with (first | ((with_reducible refine gD_q (N := 4) rfl ?_); refine bE_q ?hg (N := 4) ?hd (cs := #[.int .i64 a1_0, .slice A1_1 l1_1.length c1_1]) (t := 41) ?hr ?_; (case hd => rfl); (case hg => rfl); (case hr => first | (go_simp; done) | (go_simp; rfl)); intro gb551 hg w19 hbox hb; have n0_ := Ae_q (bT_q (bel HB.out) hb); have n1_ := Ae_q (hbox); have n2_ := Ae_q ((by rw [hg]; exact (bZ_q (bel HB.out)) : w.heap.size ≤ gb551)); have n3_ := Ae_q ((by rw [hg]; exact (bZ_q (bel HB.out)) : w.heap.size ≤ gb551)); clear HB; have HB := n0_; have BK551 := n1_; have GW551 := n2_; have GE551 := n3_; clear n0_ n1_ n2_ n3_; clear hb hbox hg; have hcz20_0 : w19.cell? ⟨gb551, 0, none⟩ = some (.int .i64 a1_0) := (bC_q BK551.out 0).trans rfl; have hcz20_1 : w19.cell? ⟨gb551, 1, none⟩ = some (.slice A1_1 l1_1.length c1_1) := (bC_q BK551.out 1).trans rfl; have hfz20_0 := bF_q BK551.out 0; have hfz20_1 := bF_q BK551.out 1) | ((with_reducible refine gC_q (f := 44) rfl ?_); refine gL_q (some 8) rfl rfl Try.func44 (by kernel_rfl) rfl #[.agg #[.int .i64 a1_0, .slice A1_1 l1_1.length c1_1]] rfl (by (try simp only [lM_q, lC_q, lN_q]); first | done | rfl | (simp only [lD_q, lT_q]; rfl)) ?_; (with_reducible refine (impl_KitchenValid.calls a1_0 _ _ l1_1 false _ ?side1 ?side2 A4.out).mono ?_); (case side1 => repeat (first | exact (cB_q HR1_1.out HB.out) | (with_reducible refine cA_q ?_ _) | (with_reducible refine cN_q ?_ _) | (with_reducible refine cD_q ?_))); (case side2 => exact HC1_1.out); rintro e w21 ⟨rfl, hb⟩; refine ⟨_, rfl, ?_⟩; have n0_ := Ae_q (bB_q (g := gb551) (o := .cells #[.int .i64 a1_0, .slice A1_1 l1_1.length c1_1] 41 (0, 0)) (bup BK551.out) hb); have n1_ := Ae_q (bT_q (by repeat (first | (with_reducible first | exact HB.out | apply bA_q | apply pB_q | apply bD_q | refine bS_q ?_ GE551.out) | exact HB.out)) hb); clear BK551; clear HB; have BK551 := n0_; have HB := n1_; clear n0_ n1_; (try clear hb); (try clear hb2); (try clear hk); (try clear hi)))
 go_ret
 exact ⟨by first | rfl | (simp [eN_q, eS_q] <;> rfl) | (simp [*, eN_q, eS_q] <;> rfl), by repeat (first | (with_reducible first | exact HB.out | apply bA_q | apply pB_q | apply bD_q | refine bS_q ?_ GE551.out) | exact HB.out)⟩

end Go.Proofs.Ytoaigcdoblnmhaa.PPn
