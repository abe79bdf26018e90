import Derived.Test.YtfnpiacmlahegaaVSPRpx0
import Derived.Test.YtfnpiacmlahegaaVSPRpx17
namespace Go.Proofs.Ytfnpiacmlahegaa.PRp
open Go.RowKit Go.Proofs.YtfnpiacmlahegaaW.PrintWords Go.Proofs.YtfnpiacmlahegaaW.PrintLast Go.Proofs.YtfnpiacmlahegaaW.PrintMore
attribute [local go_sem] max2_int min2_int max_two min_two max_three min_three max_four min_four
set_option linter.unusedVariables false
set_option linter.unusedSimpArgs false

mutual
def impl_planFits.l0 : Nat → List (S63) → List Int → List (S63) → Int → Int → Int → List Int → Option (Bool)
 | 0, _, _, _, _, _, _, _ => none
 | k + 1, x0, x2, x15, x16, x17, x339000, x339001 => if x17 < x16 then (if 0 ≤ x17 then (if x17 < (x15.length : Int) then (impl_planFits.l1 k x0 x2 x17 x15 x16 x17 ((rd_T63 x15 x17).f3) (((rd_T63 x15 x17).f3).length : Int) 0 x339000 x339001) else (none)) else (none)) else (some true)
def impl_planFits.l1 : Nat → List (S63) → List Int → Int → List (S63) → Int → Int → List Int → Int → Int → Int → List Int → Option (Bool)
 | 0, _, _, _, _, _, _, _, _, _, _, _ => none
 | k + 1, x0, x2, x7, x15, x16, x17, x23, x24, x25, x339000, x339001 => if x25 < x24 then (if 0 ≤ x25 then (if x25 < (x23.length : Int) then (if 0 ≤ x7 then (if x7 < (x2.length : Int) then (if 0 ≤ (rd x23 x25) then (if (rd x23 x25) < (x2.length : Int) then (if (rd x23 x25) < (x0.length : Int) then (if (rd x2 x7) < (wrap64 ((rd x2 (rd x23 x25)) + ((rd_T63 x0 (rd x23 x25)).f0))) then (some false) else (impl_planFits.l1 k x0 x2 x7 x15 x16 x17 x23 x24 (wrap64 (x25 + 1)) x339000 x339001)) else (none)) else (none)) else (none)) else (none)) else (none)) else (none)) else (none)) else (if 0 ≤ x7 then (if x7 < (x2.length : Int) then ((impl_useAt.f k x0 x2 (rd x2 x7)).bind fun bt346 => (if bt346.1 > x339000 then (some false) else (impl_planFits.l2 k x0 x2 x15 x16 x17 bt346.2 (bt346.2.length : Int) 0 x339000 x339001))) else (none)) else (none))
def impl_planFits.l2 : Nat → List (S63) → List Int → List (S63) → Int → Int → List Int → Int → Int → Int → List Int → Option (Bool)
 | 0, _, _, _, _, _, _, _, _, _, _ => none
 | k + 1, x0, x2, x15, x16, x17, x59, x60, x61, x339000, x339001 => if x61 < x60 then (if 0 ≤ x61 then (if x61 < (x59.length : Int) then (if x61 < (x339001.length : Int) then (if (rd x59 x61) > (rd x339001 x61) then (some false) else (impl_planFits.l2 k x0 x2 x15 x16 x17 x59 x60 (wrap64 (x61 + 1)) x339000 x339001)) else (none)) else (none)) else (none)) else (impl_planFits.l0 k x0 x2 x15 x16 (wrap64 (x17 + 1)) x339000 x339001)
end
def impl_planFits.f (k : Nat) (l0 : List (S63)) (a1_0 : Int) (l1_1 : List Int) (l2 : List Int) : Option (Bool) := impl_planFits.l0 k l0 l2 l0 (l0.length : Int) 0 a1_0 l1_1
set_option maxHeartbeats 8000000 in
set_option maxRecDepth 100000 in
theorem impl_planFits.calls (k : Nat) (A0 : Option Addr) (c0 : Nat) (l0 : List (S63)) (a1_0 : Int) (A1_1 : Option Addr) (c1_1 : Nat) (l1_1 : List Int) (A2 : Option Addr) (c2 : Nat) (l2 : List Int) (r : Bool) (w : World) (hr0 : Kd.C k63 w A0 l0.length l0) (hc0 : l0.length ≤ c0) (hr1_1 : Kd.C kI_q w A1_1 l1_1.length l1_1) (hc1_1 : l1_1.length ≤ c1_1) (hr2 : Kd.C kI_q w A2 l2.length l2) (hc2 : l2.length ≤ c2) (h : impl_planFits.f k l0 a1_0 l1_1 l2 = some r) :
    Calls Try.prog 57 #[.slice A0 l0.length c0, .agg #[.int .i64 a1_0, .slice A1_1 l1_1.length c1_1], .slice A2 l2.length c2] w fun e w' => e = .returned (.bool r) ∧ Below w.heap.size w w' := by
 have hu43 := Try.underlying43
 have hu63 := Try.underlying63
 have HR0 := Ae_q hr0
 have HC0 := Ae_q hc0
 clear hr0 hc0
 have HR1_1 := Ae_q hr1_1
 have HC1_1 := Ae_q hc1_1
 clear hr1_1 hc1_1
 have HR2 := Ae_q hr2
 have HC2 := Ae_q hc2
 clear hr2 hc2
 have HB := Ae_q (bR_q w.heap.size w)
 have H : (impl_planFits.l0 k l0 l2 l0 (l0.length : Int) 0 a1_0 l1_1) = some r := h
 clear h
 have H' := Ae_q H
 clear H
 go_enter Try.func57, Try.ntmps57
 go_wp2_with (first | ((with_reducible refine gD_q (N := 4) rfl ?_); refine bE_q ?hg (N := 4) ?hd (cs := #[.int .i64 a1_0, .slice A1_1 l1_1.length c1_1]) (t := 43) ?hr ?_; (case hd => rfl); (case hg => rfl); (case hr => exact m6_q); intro gb338 hg w' hbox hb; have BK338 := Ae_q (hbox); have GW338 := Ae_q ((by rw [hg]; exact (bZ_q (bel HB.out)) : w.heap.size ≤ gb338)); have GE338 := Ae_q ((by rw [hg]; exact (bZ_q (bel HB.out)) : w.heap.size ≤ gb338)); replace HB := Ae_q (bT_q (bel HB.out) hb); clear hb hbox hg))
 repeat (go_quiet (first | ((with_reducible refine gD_q (N := 4) rfl ?_); refine bE_q ?hg (N := 4) ?hd (cs := #[.int .i64 a1_0, .slice A1_1 l1_1.length c1_1]) (t := 43) ?hr ?_; (case hd => rfl); (case hg => rfl); (case hr => exact m6_q); intro gb338 hg w' hbox hb; have BK338 := Ae_q (hbox); have GW338 := Ae_q ((by rw [hg]; exact (bZ_q (bel HB.out)) : w.heap.size ≤ gb338)); have GE338 := Ae_q ((by rw [hg]; exact (bZ_q (bel HB.out)) : w.heap.size ≤ gb338)); replace HB := Ae_q (bT_q (bel HB.out) hb); clear hb hbox hg)); try go_wp2_with (first | ((with_reducible refine gD_q (N := 4) rfl ?_); refine bE_q ?hg (N := 4) ?hd (cs := #[.int .i64 a1_0, .slice A1_1 l1_1.length c1_1]) (t := 43) ?hr ?_; (case hd => rfl); (case hg => rfl); (case hr => exact m6_q); intro gb338 hg w' hbox hb; have BK338 := Ae_q (hbox); have GW338 := Ae_q ((by rw [hg]; exact (bZ_q (bel HB.out)) : w.heap.size ≤ gb338)); have GE338 := Ae_q ((by rw [hg]; exact (bZ_q (bel HB.out)) : w.heap.size ≤ gb338)); replace HB := Ae_q (bT_q (bel HB.out) hb); clear hb hbox hg)))
 go_loopg [17] k (fun kq v17 w' => ∃ (x17_1 : Int), v17 = .int .i64 x17_1 ∧ Aside0 (impl_planFits.l0 kq l0 l2 l0 (l0.length : Int) x17_1 a1_0 l1_1 = some r) ∧ Aside0 (kq ≤ k) ∧ Aside0 (w'.heap[gb338]? = some (.cells #[.int .i64 a1_0, (.slice A1_1 l1_1.length c1_1)] 43 (0, 0))) ∧ Aside0 (Below w.heap.size w w'))
 case atStart => exact ⟨(0), m5_q, H', ⟨nR_q _⟩, ⟨bup BK338.out⟩, ⟨m23_q⟩⟩
 case round =>
  clear H'
  try clear c1
  try clear c2
  try clear p2
  obtain ⟨x17_1, rfl, HA, HK1, BK338, HB⟩ := hrel
  cases gk with
  | zero => exact absurd HA.out (by simp [impl_planFits.l0])
  | succ k1 =>
   have H := HA.out
   clear HA
   simp only [impl_planFits.l0] at H
   by_cases c5 : x17_1 < (l0.length : Int)
   rotate_left
   ·rw [if_neg c5] at H
    have c5b0 : decide (x17_1 < (l0.length : Int)) = false := dF_q c5
    clear c5
    obtain rfl := oI_q H
    go_wp2
    repeat (go_quiet (fail); try go_wp2)
    go_ret
    exact ⟨m4_q, m23_q⟩
   rw [if_pos c5] at H
   have c5b0 : decide (x17_1 < (l0.length : Int)) = true := dT_q c5
   clear c5
   by_cases c6 : 0 ≤ x17_1
   rotate_left
   ·rw [if_neg c6] at H
    exact absurd H (by simp)
   rw [if_pos c6] at H
   have c6b0 : decide (0 ≤ x17_1) = true := dT_q c6
   clear c6
   by_cases c7 : x17_1 < (l0.length : Int)
   rotate_left
   ·rw [if_neg c7] at H
    exact absurd H (by simp)
   rw [if_pos c7] at H
   have c7b0 : decide (x17_1 < (l0.length : Int)) = true := dT_q c7
   clear c7
   have H' := Ae_q H
   clear H
   have p339 : 0 ≤ (x17_1 : Int) := oD_q (by assumption)
   have q339 : x17_1 < (l0.length : Int) := oD_q (by assumption)
   obtain ⟨ad339, A339_3, c339_3, e339, hx339_0, hx339_1, hx339_2, hx339_3, hl339_3, hi339_3⟩ := at_T63 HR0.out x17_1 p339 q339
   cases e339
   replace hx339_0 := cel HB.out hx339_0
   replace hx339_1 := cel HB.out hx339_1
   replace hx339_2 := cel HB.out hx339_2
   replace hx339_3 := cel HB.out hx339_3
   have HR339_3 := Ae_q hi339_3
   have HC339_3 := Ae_q hl339_3
   clear hi339_3 hl339_3
   replace p339 := eq_true p339
   replace q339 := eq_true q339
   go_wp2_with (first | ((with_reducible refine gD_q (N := 8) rfl ?_); refine bE_q ?hg (N := 8) ?hd (cs := #[.int .i64 0, .int .i64 0, .int .i64 0, .slice none 0 0]) (t := 63) ?hr ?_; (case hd => rfl); (case hg => rfl); (case hr => exact m6_q); intro gb340 hg w8 hbox hb; have BK340 := Ae_q (hbox); have GW340 := Ae_q ((by rw [hg]; exact (bZ_q m23_q) : w.heap.size ≤ gb340)); have GE340 := Ae_q ((by rw [hg]; exact (bZ_q m23_q) : w.heap.size ≤ gb340)); replace HB := Ae_q (bT_q m23_q hb); have NB338_340 := Ae_q ((by rw [hg]; exact nL_q (blk_lt (g := gb338) (o := .cells #[.int .i64 a1_0, .slice A1_1 l1_1.length c1_1] 43 (0, 0)) (bup BK338.out)) : gb338 ≠ gb340)); have NB340_338 := Ae_q ((by rw [hg]; exact nG_q (blk_lt (g := gb338) (o := .cells #[.int .i64 a1_0, .slice A1_1 l1_1.length c1_1] 43 (0, 0)) (bup BK338.out)) : gb340 ≠ gb338)); replace BK338 := Ae_q (bB_q (g := gb338) (o := .cells #[.int .i64 a1_0, .slice A1_1 l1_1.length c1_1] 43 (0, 0)) (bup BK338.out) hb); clear hb hbox hg; have hnb9 := NB340_338.out; have hnc9 := NB338_340.out; have hcz10_0 : cI w8 gb340 0 0 := cZ BK340 0 rfl; have hcz10_1 : cI w8 gb340 1 0 := cZ BK340 1 rfl; have hcz10_2 : cI w8 gb340 2 0 := cZ BK340 2 rfl; have hcz10_3 : w8.cell? ⟨gb340, 3, none⟩ = some (.slice none 0 0) := (bC_q BK340.out 3).trans rfl; have hfz10_0 := bF_q BK340.out 0; have hfz10_1 := bF_q BK340.out 1; have hfz10_2 := bF_q BK340.out 2; have hfz10_3 := bF_q BK340.out 3))
   repeat (go_quiet (first | ((with_reducible refine gD_q (N := 8) rfl ?_); refine bE_q ?hg (N := 8) ?hd (cs := #[.int .i64 0, .int .i64 0, .int .i64 0, .slice none 0 0]) (t := 63) ?hr ?_; (case hd => rfl); (case hg => rfl); (case hr => exact m6_q); intro gb340 hg w8 hbox hb; have BK340 := Ae_q (hbox); have GW340 := Ae_q ((by rw [hg]; exact (bZ_q m23_q) : w.heap.size ≤ gb340)); have GE340 := Ae_q ((by rw [hg]; exact (bZ_q m23_q) : w.heap.size ≤ gb340)); replace HB := Ae_q (bT_q m23_q hb); have NB338_340 := Ae_q ((by rw [hg]; exact nL_q (blk_lt (g := gb338) (o := .cells #[.int .i64 a1_0, .slice A1_1 l1_1.length c1_1] 43 (0, 0)) (bup BK338.out)) : gb338 ≠ gb340)); have NB340_338 := Ae_q ((by rw [hg]; exact nG_q (blk_lt (g := gb338) (o := .cells #[.int .i64 a1_0, .slice A1_1 l1_1.length c1_1] 43 (0, 0)) (bup BK338.out)) : gb340 ≠ gb338)); replace BK338 := Ae_q (bB_q (g := gb338) (o := .cells #[.int .i64 a1_0, .slice A1_1 l1_1.length c1_1] 43 (0, 0)) (bup BK338.out) hb); clear hb hbox hg; have hnb9 := NB340_338.out; have hnc9 := NB338_340.out; have hcz10_0 : cI w8 gb340 0 0 := cZ BK340 0 rfl; have hcz10_1 : cI w8 gb340 1 0 := cZ BK340 1 rfl; have hcz10_2 : cI w8 gb340 2 0 := cZ BK340 2 rfl; have hcz10_3 : w8.cell? ⟨gb340, 3, none⟩ = some (.slice none 0 0) := (bC_q BK340.out 3).trans rfl; have hfz10_0 := bF_q BK340.out 0; have hfz10_1 := bF_q BK340.out 1; have hfz10_2 := bF_q BK340.out 2; have hfz10_3 := bF_q BK340.out 3)); try go_wp2_with (first | ((with_reducible refine gD_q (N := 8) rfl ?_); refine bE_q ?hg (N := 8) ?hd (cs := #[.int .i64 0, .int .i64 0, .int .i64 0, .slice none 0 0]) (t := 63) ?hr ?_; (case hd => rfl); (case hg => rfl); (case hr => exact m6_q); intro gb340 hg w8 hbox hb; have BK340 := Ae_q (hbox); have GW340 := Ae_q ((by rw [hg]; exact (bZ_q m23_q) : w.heap.size ≤ gb340)); have GE340 := Ae_q ((by rw [hg]; exact (bZ_q m23_q) : w.heap.size ≤ gb340)); replace HB := Ae_q (bT_q m23_q hb); have NB338_340 := Ae_q ((by rw [hg]; exact nL_q (blk_lt (g := gb338) (o := .cells #[.int .i64 a1_0, .slice A1_1 l1_1.length c1_1] 43 (0, 0)) (bup BK338.out)) : gb338 ≠ gb340)); have NB340_338 := Ae_q ((by rw [hg]; exact nG_q (blk_lt (g := gb338) (o := .cells #[.int .i64 a1_0, .slice A1_1 l1_1.length c1_1] 43 (0, 0)) (bup BK338.out)) : gb340 ≠ gb338)); replace BK338 := Ae_q (bB_q (g := gb338) (o := .cells #[.int .i64 a1_0, .slice A1_1 l1_1.length c1_1] 43 (0, 0)) (bup BK338.out) hb); clear hb hbox hg; have hnb9 := NB340_338.out; have hnc9 := NB338_340.out; have hcz10_0 : cI w8 gb340 0 0 := cZ BK340 0 rfl; have hcz10_1 : cI w8 gb340 1 0 := cZ BK340 1 rfl; have hcz10_2 : cI w8 gb340 2 0 := cZ BK340 2 rfl; have hcz10_3 : w8.cell? ⟨gb340, 3, none⟩ = some (.slice none 0 0) := (bC_q BK340.out 3).trans rfl; have hfz10_0 := bF_q BK340.out 0; have hfz10_1 := bF_q BK340.out 1; have hfz10_2 := bF_q BK340.out 2; have hfz10_3 := bF_q BK340.out 3)))
   go_loopg [25] k1 (fun kq v25 w' => ∃ (x25_2 : Int), v25 = .int .i64 x25_2 ∧ Aside0 (impl_planFits.l1 kq l0 l2 x17_1 l0 (l0.length : Int) x17_1 ((rd_T63 l0 x17_1).f3) (((rd_T63 l0 x17_1).f3).length : Int) x25_2 a1_0 l1_1 = some r) ∧ Aside0 (kq ≤ k1) ∧ Aside0 (w'.heap[gb338]? = some (.cells #[.int .i64 a1_0, (.slice A1_1 l1_1.length c1_1)] 43 (0, 0))) ∧ Aside0 (w'.heap[gb340]? = some (.cells #[.int .i64 ((rd_T63 l0 x17_1).f0), .int .i64 ((rd_T63 l0 x17_1).f1), .int .i64 ((rd_T63 l0 x17_1).f2), (.slice A339_3 ((rd_T63 l0 x17_1).f3).length c339_3)] 63 (0, 0))) ∧ Aside0 (Below w.heap.size w w'))
   case atStart => exact ⟨(0), m5_q, H', ⟨nR_q _⟩, ⟨by (with_reducible repeat (first | refine bN_q ?_ _ | refine bW_q ?_ | refine bL_q ?_ _)); refine blk_far ?_ NB338_340.out _; (with_reducible repeat (first | refine bN_q ?_ _ | refine bW_q ?_ | refine bL_q ?_ _)); refine blk_far ?_ NB338_340.out _; (with_reducible repeat (first | refine bN_q ?_ _ | refine bW_q ?_ | refine bL_q ?_ _)); refine blk_far ?_ NB338_340.out _; (with_reducible repeat (first | refine bN_q ?_ _ | refine bW_q ?_ | refine bL_q ?_ _)); refine blk_far ?_ NB338_340.out _; (with_reducible repeat (first | refine bN_q ?_ _ | refine bW_q ?_ | refine bL_q ?_ _)); exact BK338.out⟩, ⟨by (with_reducible repeat (first | refine bN_q ?_ _ | refine bW_q ?_ | refine bL_q ?_ _)); refine blk_put (cs := #[.int .i64 ((rd_T63 l0 x17_1).f0), .int .i64 ((rd_T63 l0 x17_1).f1), .int .i64 ((rd_T63 l0 x17_1).f2), .slice none 0 0]) ?_ 3 _ rfl; (with_reducible repeat (first | refine bN_q ?_ _ | refine bW_q ?_ | refine bL_q ?_ _)); refine blk_put (cs := #[.int .i64 ((rd_T63 l0 x17_1).f0), .int .i64 ((rd_T63 l0 x17_1).f1), .int .i64 0, .slice none 0 0]) ?_ 2 _ rfl; (with_reducible repeat (first | refine bN_q ?_ _ | refine bW_q ?_ | refine bL_q ?_ _)); refine blk_put (cs := #[.int .i64 ((rd_T63 l0 x17_1).f0), .int .i64 0, .int .i64 0, .slice none 0 0]) ?_ 1 _ rfl; (with_reducible repeat (first | refine bN_q ?_ _ | refine bW_q ?_ | refine bL_q ?_ _)); refine blk_put (cs := #[.int .i64 0, .int .i64 0, .int .i64 0, .slice none 0 0]) ?_ 0 _ rfl; (with_reducible repeat (first | refine bN_q ?_ _ | refine bW_q ?_ | refine bL_q ?_ _)); exact BK340.out⟩, ⟨m11_q⟩⟩
   case round =>
    clear H'
    try clear c1
    try clear c2
    try clear p2
    try clear c3
    try clear p3
    try clear q3
    try clear hx3
    try clear c5
    try clear c5b0
    try clear c6
    try clear c6b0
    try clear c7
    try clear c7b0
    try clear c9
    try clear hcz10_0
    try clear hcz10_1
    try clear hcz10_2
    try clear hcz10_3
    try clear hfz10_0
    try clear hfz10_1
    try clear hfz10_2
    try clear hfz10_3
    try clear hx339_0
    try clear hx339_1
    try clear hx339_2
    try clear hx339_3
    try clear p2
    try clear p339
    try clear q339
    obtain ⟨x25_2, rfl, HA, HK2, BK338, BK340, HB⟩ := hrel
    cases gk with
    | zero => exact absurd HA.out (by simp [impl_planFits.l1])
    | succ k2 =>
     have H := HA.out
     clear HA
     simp only [impl_planFits.l1] at H
     by_cases c11 : x25_2 < (((rd_T63 l0 x17_1).f3).length : Int)
     ·rw [if_pos c11] at H
      have c11b0 : decide (x25_2 < (((rd_T63 l0 x17_1).f3).length : Int)) = true := dT_q c11
      clear c11
      by_cases c12 : 0 ≤ x25_2
      rotate_left
      ·rw [if_neg c12] at H
       exact absurd H (by simp)
      rw [if_pos c12] at H
      have c12b0 : decide (0 ≤ x25_2) = true := dT_q c12
      clear c12
      by_cases c13 : x25_2 < (((rd_T63 l0 x17_1).f3).length : Int)
      rotate_left
      ·rw [if_neg c13] at H
       exact absurd H (by simp)
      rw [if_pos c13] at H
      have c13b0 : decide (x25_2 < (((rd_T63 l0 x17_1).f3).length : Int)) = true := dT_q c13
      clear c13
      by_cases c14 : 0 ≤ x17_1
      rotate_left
      ·rw [if_neg c14] at H
       exact absurd H (by simp)
      rw [if_pos c14] at H
      have c14b0 : decide (0 ≤ x17_1) = true := dT_q c14
      clear c14
      by_cases c15 : x17_1 < (l2.length : Int)
      rotate_left
      ·rw [if_neg c15] at H
       exact absurd H (by simp)
      rw [if_pos c15] at H
      have c15b0 : decide (x17_1 < (l2.length : Int)) = true := dT_q c15
      clear c15
      by_cases c16 : 0 ≤ (rd ((rd_T63 l0 x17_1).f3) x25_2)
      rotate_left
      ·rw [if_neg c16] at H
       exact absurd H (by simp)
      rw [if_pos c16] at H
      have c16b0 : decide (0 ≤ (rd ((rd_T63 l0 x17_1).f3) x25_2)) = true := dT_q c16
      clear c16
      by_cases c17 : (rd ((rd_T63 l0 x17_1).f3) x25_2) < (l2.length : Int)
      rotate_left
      ·rw [if_neg c17] at H
       exact absurd H (by simp)
      rw [if_pos c17] at H
      have c17b0 : decide ((rd ((rd_T63 l0 x17_1).f3) x25_2) < (l2.length : Int)) = true := dT_q c17
      clear c17
      by_cases c18 : (rd ((rd_T63 l0 x17_1).f3) x25_2) < (l0.length : Int)
      rotate_left
      ·rw [if_neg c18] at H
       exact absurd H (by simp)
      rw [if_pos c18] at H
      have c18b0 : decide ((rd ((rd_T63 l0 x17_1).f3) x25_2) < (l0.length : Int)) = true := dT_q c18
      clear c18
      by_cases c19 : (rd l2 x17_1) < (wrap64 ((rd l2 (rd ((rd_T63 l0 x17_1).f3) x25_2)) + ((rd_T63 l0 (rd ((rd_T63 l0 x17_1).f3) x25_2)).f0)))
      ·rw [if_pos c19] at H
       have c19b0 : decide ((rd l2 x17_1) < (wrap64 ((rd l2 (rd ((rd_T63 l0 x17_1).f3) x25_2)) + ((rd_T63 l0 (rd ((rd_T63 l0 x17_1).f3) x25_2)).f0)))) = true := dT_q c19
       clear c19
       obtain rfl := oI_q H
       have p341 : 0 ≤ (x25_2 : Int) := oD_q (by assumption)
       have q341 : x25_2 < (((rd_T63 l0 x17_1).f3).length : Int) := oD_q (by assumption)
       obtain ⟨ad341, e341, hx341_0⟩ := aI_q HR339_3.out x25_2 p341 q341
       cases e341
       replace hx341_0 := cel HB.out hx341_0
       replace p341 := eq_true p341
       replace q341 := eq_true q341
       have p342 : 0 ≤ (x17_1 : Int) := oD_q (by assumption)
       have q342 : x17_1 < (l2.length : Int) := oD_q (by assumption)
       obtain ⟨ad342, e342, hx342_0⟩ := aI_q HR2.out x17_1 p342 q342
       cases e342
       replace hx342_0 := cel HB.out hx342_0
       replace p342 := eq_true p342
       replace q342 := eq_true q342
       have p343 : 0 ≤ ((rd ((rd_T63 l0 x17_1).f3) x25_2) : Int) := oD_q (by assumption)
       have q343 : (rd ((rd_T63 l0 x17_1).f3) x25_2) < (l2.length : Int) := oD_q (by assumption)
       obtain ⟨ad343, e343, hx343_0⟩ := aI_q HR2.out (rd ((rd_T63 l0 x17_1).f3) x25_2) p343 q343
       obtain rfl : ad342 = ad343 := (by injection e343)
       replace hx343_0 := cel HB.out hx343_0
       replace p343 := eq_true p343
       replace q343 := eq_true q343
       have p344 : 0 ≤ ((rd ((rd_T63 l0 x17_1).f3) x25_2) : Int) := oD_q (by assumption)
       have q344 : (rd ((rd_T63 l0 x17_1).f3) x25_2) < (l0.length : Int) := oD_q (by assumption)
       obtain ⟨ad344, A344_3, c344_3, e344, hx344_0, hx344_1, hx344_2, hx344_3, hl344_3, hi344_3⟩ := at_T63 HR0.out (rd ((rd_T63 l0 x17_1).f3) x25_2) p344 q344
       obtain rfl : ad339 = ad344 := (by injection e344)
       replace hx344_0 := cel HB.out hx344_0
       replace hx344_1 := cel HB.out hx344_1
       replace hx344_2 := cel HB.out hx344_2
       replace hx344_3 := cel HB.out hx344_3
       have HR344_3 := Ae_q hi344_3
       have HC344_3 := Ae_q hl344_3
       clear hi344_3 hl344_3
       replace p344 := eq_true p344
       replace q344 := eq_true q344
       go_wp2
       repeat (go_quiet (fail); try go_wp2)
       go_ret
       exact ⟨m4_q, m11_q⟩
      rw [if_neg c19] at H
      have c19b0 : decide ((rd l2 x17_1) < (wrap64 ((rd l2 (rd ((rd_T63 l0 x17_1).f3) x25_2)) + ((rd_T63 l0 (rd ((rd_T63 l0 x17_1).f3) x25_2)).f0)))) = false := dF_q c19
      clear c19
      have H' := Ae_q H
      clear H
      have p341 : 0 ≤ (x25_2 : Int) := oD_q (by assumption)
      have q341 : x25_2 < (((rd_T63 l0 x17_1).f3).length : Int) := oD_q (by assumption)
      obtain ⟨ad341, e341, hx341_0⟩ := aI_q HR339_3.out x25_2 p341 q341
      cases e341
      replace hx341_0 := cel HB.out hx341_0
      replace p341 := eq_true p341
      replace q341 := eq_true q341
      have p342 : 0 ≤ (x17_1 : Int) := oD_q (by assumption)
      have q342 : x17_1 < (l2.length : Int) := oD_q (by assumption)
      obtain ⟨ad342, e342, hx342_0⟩ := aI_q HR2.out x17_1 p342 q342
      cases e342
      replace hx342_0 := cel HB.out hx342_0
      replace p342 := eq_true p342
      replace q342 := eq_true q342
      have p343 : 0 ≤ ((rd ((rd_T63 l0 x17_1).f3) x25_2) : Int) := oD_q (by assumption)
      have q343 : (rd ((rd_T63 l0 x17_1).f3) x25_2) < (l2.length : Int) := oD_q (by assumption)
      obtain ⟨ad343, e343, hx343_0⟩ := aI_q HR2.out (rd ((rd_T63 l0 x17_1).f3) x25_2) p343 q343
      obtain rfl : ad342 = ad343 := (by injection e343)
      replace hx343_0 := cel HB.out hx343_0
      replace p343 := eq_true p343
      replace q343 := eq_true q343
      have p344 : 0 ≤ ((rd ((rd_T63 l0 x17_1).f3) x25_2) : Int) := oD_q (by assumption)
      have q344 : (rd ((rd_T63 l0 x17_1).f3) x25_2) < (l0.length : Int) := oD_q (by assumption)
      obtain ⟨ad344, A344_3, c344_3, e344, hx344_0, hx344_1, hx344_2, hx344_3, hl344_3, hi344_3⟩ := at_T63 HR0.out (rd ((rd_T63 l0 x17_1).f3) x25_2) p344 q344
      obtain rfl : ad339 = ad344 := (by injection e344)
      replace hx344_0 := cel HB.out hx344_0
      replace hx344_1 := cel HB.out hx344_1
      replace hx344_2 := cel HB.out hx344_2
      replace hx344_3 := cel HB.out hx344_3
      have HR344_3 := Ae_q hi344_3
      have HC344_3 := Ae_q hl344_3
      clear hi344_3 hl344_3
      replace p344 := eq_true p344
      replace q344 := eq_true q344
      go_wp2
      repeat (go_quiet (fail); try go_wp2)
      go_roundg k2
      case measure => have := HK1.out; have := HK2.out; omega
      case rel => exact ⟨(wrap64 (x25_2 + 1)), m5_q, H', ⟨by have := HK1.out; have := HK2.out; omega⟩, ⟨bup BK338.out⟩, ⟨bup BK340.out⟩, ⟨m11_q⟩⟩
     rw [if_neg c11] at H
     have c11b0 : decide (x25_2 < (((rd_T63 l0 x17_1).f3).length : Int)) = false := dF_q c11
     clear c11
     by_cases c20 : 0 ≤ x17_1
     rotate_left
     ·rw [if_neg c20] at H
      exact absurd H (by simp)
     rw [if_pos c20] at H
     have c20b0 : decide (0 ≤ x17_1) = true := dT_q c20
     clear c20
     by_cases c21 : x17_1 < (l2.length : Int)
     rotate_left
     ·rw [if_neg c21] at H
      exact absurd H (by simp)
     rw [if_pos c21] at H
     have c21b0 : decide (x17_1 < (l2.length : Int)) = true := dT_q c21
     clear c21
     replace H := oB_q.mp H
     obtain ⟨⟨t346, t347⟩, A220, H⟩ := H
     replace H : (if t346 > a1_0 then (some false) else (impl_planFits.l2 k2 l0 l2 l0 (l0.length : Int) x17_1 t347 (t347.length : Int) 0 a1_0 l1_1)) = some r := H
     have A22 := Ae_q A220
     clear A220
     by_cases c23 : t346 > a1_0
     ·rw [if_pos c23] at H
      have c23b0 : decide (a1_0 < t346) = true := dT_q c23
      clear c23
      obtain rfl := oI_q H
      have p345 : 0 ≤ (x17_1 : Int) := oD_q (by assumption)
      have q345 : x17_1 < (l2.length : Int) := oD_q (by assumption)
      obtain ⟨ad345, e345, hx345_0⟩ := aI_q HR2.out x17_1 p345 q345
      cases e345
      replace hx345_0 := cel HB.out hx345_0
      replace p345 := eq_true p345
      replace q345 := eq_true q345
      go_wp2_with (first | (go_at_call 71; (with_reducible refine (impl_useAt.calls k2 _ _ l0 _ _ l2 (rd l2 x17_1) t346 t347 _ ?side1 ?side2 ?side3 ?side4 A22.out).mono ?_); (case side1 => exact m20_q); (case side2 => exact m57_q); (case side3 => exact m28_q); (case side4 => exact m63_q); rintro e w24 ⟨v348, rfl, ho0, hb⟩; have HO349 := Ae_q (rL_q ho0 (bZ_q m11_q)); replace BK338 := Ae_q (bB_q (g := gb338) (o := .cells #[.int .i64 a1_0, .slice A1_1 l1_1.length c1_1] 43 (0, 0)) (bup BK338.out) hb); replace BK340 := Ae_q (bB_q (g := gb340) (o := .cells #[.int .i64 ((rd_T63 l0 x17_1).f0), .int .i64 ((rd_T63 l0 x17_1).f1), .int .i64 ((rd_T63 l0 x17_1).f2), .slice A339_3 ((rd_T63 l0 x17_1).f3).length c339_3] 63 (0, 0)) (bup BK340.out) hb); replace HB := Ae_q (bT_q m11_q hb); (try clear hb); (try clear hb2); (try clear hk); (try clear hi); (try clear ho0); have hnb25 := NB338_340.out; have hnc25 := NB340_338.out; have hcz26_0 : cI w24 gb338 0 a1_0 := cZ BK338 0 rfl; have hcz26_1 : w24.cell? ⟨gb338, 1, none⟩ = some (.slice A1_1 l1_1.length c1_1) := (bC_q BK338.out 1).trans rfl; have hfz26_0 := bF_q BK338.out 0; have hfz26_1 := bF_q BK338.out 1))
      repeat (go_quiet (first | (go_at_call 71; (with_reducible refine (impl_useAt.calls k2 _ _ l0 _ _ l2 (rd l2 x17_1) t346 t347 _ ?side1 ?side2 ?side3 ?side4 A22.out).mono ?_); (case side1 => exact m20_q); (case side2 => exact m57_q); (case side3 => exact m28_q); (case side4 => exact m63_q); rintro e w24 ⟨v348, rfl, ho0, hb⟩; have HO349 := Ae_q (rL_q ho0 (bZ_q m11_q)); replace BK338 := Ae_q (bB_q (g := gb338) (o := .cells #[.int .i64 a1_0, .slice A1_1 l1_1.length c1_1] 43 (0, 0)) (bup BK338.out) hb); replace BK340 := Ae_q (bB_q (g := gb340) (o := .cells #[.int .i64 ((rd_T63 l0 x17_1).f0), .int .i64 ((rd_T63 l0 x17_1).f1), .int .i64 ((rd_T63 l0 x17_1).f2), .slice A339_3 ((rd_T63 l0 x17_1).f3).length c339_3] 63 (0, 0)) (bup BK340.out) hb); replace HB := Ae_q (bT_q m11_q hb); (try clear hb); (try clear hb2); (try clear hk); (try clear hi); (try clear ho0); have hnb25 := NB338_340.out; have hnc25 := NB340_338.out; have hcz26_0 : cI w24 gb338 0 a1_0 := cZ BK338 0 rfl; have hcz26_1 : w24.cell? ⟨gb338, 1, none⟩ = some (.slice A1_1 l1_1.length c1_1) := (bC_q BK338.out 1).trans rfl; have hfz26_0 := bF_q BK338.out 0; have hfz26_1 := bF_q BK338.out 1)); try go_wp2_with (first | (go_at_call 71; (with_reducible refine (impl_useAt.calls k2 _ _ l0 _ _ l2 (rd l2 x17_1) t346 t347 _ ?side1 ?side2 ?side3 ?side4 A22.out).mono ?_); (case side1 => exact m20_q); (case side2 => exact m57_q); (case side3 => exact m28_q); (case side4 => exact m63_q); rintro e w24 ⟨v348, rfl, ho0, hb⟩; have HO349 := Ae_q (rL_q ho0 (bZ_q m11_q)); replace BK338 := Ae_q (bB_q (g := gb338) (o := .cells #[.int .i64 a1_0, .slice A1_1 l1_1.length c1_1] 43 (0, 0)) (bup BK338.out) hb); replace BK340 := Ae_q (bB_q (g := gb340) (o := .cells #[.int .i64 ((rd_T63 l0 x17_1).f0), .int .i64 ((rd_T63 l0 x17_1).f1), .int .i64 ((rd_T63 l0 x17_1).f2), .slice A339_3 ((rd_T63 l0 x17_1).f3).length c339_3] 63 (0, 0)) (bup BK340.out) hb); replace HB := Ae_q (bT_q m11_q hb); (try clear hb); (try clear hb2); (try clear hk); (try clear hi); (try clear ho0); have hnb25 := NB338_340.out; have hnc25 := NB340_338.out; have hcz26_0 : cI w24 gb338 0 a1_0 := cZ BK338 0 rfl; have hcz26_1 : w24.cell? ⟨gb338, 1, none⟩ = some (.slice A1_1 l1_1.length c1_1) := (bC_q BK338.out 1).trans rfl; have hfz26_0 := bF_q BK338.out 0; have hfz26_1 := bF_q BK338.out 1)))
      go_ret
      exact ⟨m4_q, m11_q⟩
     rw [if_neg c23] at H
     have c23b0 : decide (a1_0 < t346) = false := dF_q c23
     clear c23
     have H' := Ae_q H
     clear H
     have p345 : 0 ≤ (x17_1 : Int) := oD_q (by assumption)
     have q345 : x17_1 < (l2.length : Int) := oD_q (by assumption)
     obtain ⟨ad345, e345, hx345_0⟩ := aI_q HR2.out x17_1 p345 q345
     cases e345
     replace hx345_0 := cel HB.out hx345_0
     replace p345 := eq_true p345
     replace q345 := eq_true q345
     go_wp2_with (first | (go_at_call 71; (with_reducible refine (impl_useAt.calls k2 _ _ l0 _ _ l2 (rd l2 x17_1) t346 t347 _ ?side1 ?side2 ?side3 ?side4 A22.out).mono ?_); (case side1 => exact m20_q); (case side2 => exact m57_q); (case side3 => exact m28_q); (case side4 => exact m63_q); rintro e w27 ⟨v348, rfl, ho0, hb⟩; have HO349 := Ae_q (rL_q ho0 (bZ_q m11_q)); replace BK338 := Ae_q (bB_q (g := gb338) (o := .cells #[.int .i64 a1_0, .slice A1_1 l1_1.length c1_1] 43 (0, 0)) (bup BK338.out) hb); replace BK340 := Ae_q (bB_q (g := gb340) (o := .cells #[.int .i64 ((rd_T63 l0 x17_1).f0), .int .i64 ((rd_T63 l0 x17_1).f1), .int .i64 ((rd_T63 l0 x17_1).f2), .slice A339_3 ((rd_T63 l0 x17_1).f3).length c339_3] 63 (0, 0)) (bup BK340.out) hb); replace HB := Ae_q (bT_q m11_q hb); (try clear hb); (try clear hb2); (try clear hk); (try clear hi); (try clear ho0); have hnb28 := NB338_340.out; have hnc28 := NB340_338.out; have hcz29_0 : cI w27 gb338 0 a1_0 := cZ BK338 0 rfl; have hcz29_1 : w27.cell? ⟨gb338, 1, none⟩ = some (.slice A1_1 l1_1.length c1_1) := (bC_q BK338.out 1).trans rfl; have hfz29_0 := bF_q BK338.out 0; have hfz29_1 := bF_q BK338.out 1; obtain ⟨Ao30, co30, eo30⟩ := rS_q HO349.out; subst eo30))
     repeat (go_quiet (first | (go_at_call 71; (with_reducible refine (impl_useAt.calls k2 _ _ l0 _ _ l2 (rd l2 x17_1) t346 t347 _ ?side1 ?side2 ?side3 ?side4 A22.out).mono ?_); (case side1 => exact m20_q); (case side2 => exact m57_q); (case side3 => exact m28_q); (case side4 => exact m63_q); rintro e w27 ⟨v348, rfl, ho0, hb⟩; have HO349 := Ae_q (rL_q ho0 (bZ_q m11_q)); replace BK338 := Ae_q (bB_q (g := gb338) (o := .cells #[.int .i64 a1_0, .slice A1_1 l1_1.length c1_1] 43 (0, 0)) (bup BK338.out) hb); replace BK340 := Ae_q (bB_q (g := gb340) (o := .cells #[.int .i64 ((rd_T63 l0 x17_1).f0), .int .i64 ((rd_T63 l0 x17_1).f1), .int .i64 ((rd_T63 l0 x17_1).f2), .slice A339_3 ((rd_T63 l0 x17_1).f3).length c339_3] 63 (0, 0)) (bup BK340.out) hb); replace HB := Ae_q (bT_q m11_q hb); (try clear hb); (try clear hb2); (try clear hk); (try clear hi); (try clear ho0); have hnb28 := NB338_340.out; have hnc28 := NB340_338.out; have hcz29_0 : cI w27 gb338 0 a1_0 := cZ BK338 0 rfl; have hcz29_1 : w27.cell? ⟨gb338, 1, none⟩ = some (.slice A1_1 l1_1.length c1_1) := (bC_q BK338.out 1).trans rfl; have hfz29_0 := bF_q BK338.out 0; have hfz29_1 := bF_q BK338.out 1; obtain ⟨Ao30, co30, eo30⟩ := rS_q HO349.out; subst eo30)); try go_wp2_with (first | (go_at_call 71; (with_reducible refine (impl_useAt.calls k2 _ _ l0 _ _ l2 (rd l2 x17_1) t346 t347 _ ?side1 ?side2 ?side3 ?side4 A22.out).mono ?_); (case side1 => exact m20_q); (case side2 => exact m57_q); (case side3 => exact m28_q); (case side4 => exact m63_q); rintro e w27 ⟨v348, rfl, ho0, hb⟩; have HO349 := Ae_q (rL_q ho0 (bZ_q m11_q)); replace BK338 := Ae_q (bB_q (g := gb338) (o := .cells #[.int .i64 a1_0, .slice A1_1 l1_1.length c1_1] 43 (0, 0)) (bup BK338.out) hb); replace BK340 := Ae_q (bB_q (g := gb340) (o := .cells #[.int .i64 ((rd_T63 l0 x17_1).f0), .int .i64 ((rd_T63 l0 x17_1).f1), .int .i64 ((rd_T63 l0 x17_1).f2), .slice A339_3 ((rd_T63 l0 x17_1).f3).length c339_3] 63 (0, 0)) (bup BK340.out) hb); replace HB := Ae_q (bT_q m11_q hb); (try clear hb); (try clear hb2); (try clear hk); (try clear hi); (try clear ho0); have hnb28 := NB338_340.out; have hnc28 := NB340_338.out; have hcz29_0 : cI w27 gb338 0 a1_0 := cZ BK338 0 rfl; have hcz29_1 : w27.cell? ⟨gb338, 1, none⟩ = some (.slice A1_1 l1_1.length c1_1) := (bC_q BK338.out 1).trans rfl; have hfz29_0 := bF_q BK338.out 0; have hfz29_1 := bF_q BK338.out 1; obtain ⟨Ao30, co30, eo30⟩ := rS_q HO349.out; subst eo30)))
     go_loopg [61] k2 (fun kq v61 w' => ∃ (x61_3 : Int), v61 = .int .i64 x61_3 ∧ Aside0 (impl_planFits.l2 kq l0 l2 l0 (l0.length : Int) x17_1 t347 (t347.length : Int) x61_3 a1_0 l1_1 = some r) ∧ Aside0 (kq ≤ k2) ∧ Aside0 (Kd.R kI_q 3 w' w.heap.size (fun _ => True) (.slice Ao30 t347.length co30) t347) ∧ Aside0 (w'.heap[gb338]? = some (.cells #[.int .i64 a1_0, (.slice A1_1 l1_1.length c1_1)] 43 (0, 0))) ∧ Aside0 (w'.heap[gb340]? = some (.cells #[.int .i64 ((rd_T63 l0 x17_1).f0), .int .i64 ((rd_T63 l0 x17_1).f1), .int .i64 ((rd_T63 l0 x17_1).f2), (.slice A339_3 ((rd_T63 l0 x17_1).f3).length c339_3)] 63 (0, 0))) ∧ Aside0 (Below w.heap.size w w'))
     case atStart => exact ⟨(0), m5_q, H', ⟨nR_q _⟩, ⟨rup HO349.out⟩, ⟨bup BK338.out⟩, ⟨bup BK340.out⟩, ⟨m11_q⟩⟩
     case round =>
      clear H'
      try clear c1
      try clear c2
      try clear p2
      try clear c3
      try clear p3
      try clear q3
      try clear hx3
      try clear c5
      try clear c5b0
      try clear c6
      try clear c6b0
      try clear p6
      try clear c7
      try clear c7b0
      try clear c9
      try clear c11
      try clear c11b0
      try clear c12
      try clear c12b0
      try clear c13
      try clear c13b0
      try clear c14
      try clear c14b0
      try clear c15
      try clear c15b0
      try clear c16
      try clear c16b0
      try clear c17
      try clear c17b0
      try clear c18
      try clear c18b0
      try clear c19
      try clear c19b0
      try clear c20
      try clear c20b0
      try clear c21
      try clear c21b0
      try clear c23
      try clear c23b0
      try clear c25
      try clear c28
      try clear hcz10_0
      try clear hcz10_1
      try clear hcz10_2
      try clear hcz10_3
      try clear hcz26_0
      try clear hcz26_1
      try clear hcz29_0
      try clear hcz29_1
      try clear hfz10_0
      try clear hfz10_1
      try clear hfz10_2
      try clear hfz10_3
      try clear hfz26_0
      try clear hfz26_1
      try clear hfz29_0
      try clear hfz29_1
      try clear hx339_0
      try clear hx339_1
      try clear hx339_2
      try clear hx339_3
      try clear hx341_0
      try clear hx342_0
      try clear hx343_0
      try clear hx344_0
      try clear hx344_1
      try clear hx344_2
      try clear hx344_3
      try clear hx345_0
      try clear p2
      try clear p3
      try clear p339
      try clear p341
      try clear p342
      try clear p343
      try clear p344
      try clear p345
      try clear q3
      try clear q339
      try clear q341
      try clear q342
      try clear q343
      try clear q344
      try clear q345
      obtain ⟨x61_3, rfl, HA, HK3, HO_59, BK338, BK340, HB⟩ := hrel
      cases gk with
      | zero => exact absurd HA.out (by simp [impl_planFits.l2])
      | succ k3 =>
       have H := HA.out
       clear HA
       simp only [impl_planFits.l2] at H
       by_cases c31 : x61_3 < (t347.length : Int)
       rotate_left
       ·rw [if_neg c31] at H
        have c31b0 : decide (x61_3 < (t347.length : Int)) = false := dF_q c31
        clear c31
        have H' := Ae_q H
        clear H
        go_wp2
        repeat (go_quiet (fail); try go_wp2)
        go_roundg k3
        case measure => have := HK1.out; have := HK2.out; have := HK3.out; omega
        case rel => exact ⟨(wrap64 (x17_1 + 1)), m5_q, H', ⟨by have := HK1.out; have := HK2.out; have := HK3.out; omega⟩, ⟨bup BK338.out⟩, ⟨m11_q⟩⟩
       rw [if_pos c31] at H
       have c31b0 : decide (x61_3 < (t347.length : Int)) = true := dT_q c31
       clear c31
       by_cases c32 : 0 ≤ x61_3
       rotate_left
       ·rw [if_neg c32] at H
        exact absurd H (by simp)
       rw [if_pos c32] at H
       have c32b0 : decide (0 ≤ x61_3) = true := dT_q c32
       clear c32
       by_cases c33 : x61_3 < (t347.length : Int)
       rotate_left
       ·rw [if_neg c33] at H
        exact absurd H (by simp)
       rw [if_pos c33] at H
       have c33b0 : decide (x61_3 < (t347.length : Int)) = true := dT_q c33
       clear c33
       by_cases c34 : x61_3 < (l1_1.length : Int)
       rotate_left
       ·rw [if_neg c34] at H
        exact absurd H (by simp)
       rw [if_pos c34] at H
       have c34b0 : decide (x61_3 < (l1_1.length : Int)) = true := dT_q c34
       clear c34
       by_cases c35 : (rd t347 x61_3) > (rd l1_1 x61_3)
       ·rw [if_pos c35] at H
        have c35b0 : decide ((rd l1_1 x61_3) < (rd t347 x61_3)) = true := dT_q c35
        clear c35
        obtain rfl := oI_q H
        have p350 : 0 ≤ (x61_3 : Int) := oD_q (by assumption)
        have q350 : x61_3 < (t347.length : Int) := oD_q (by assumption)
        obtain ⟨ad350, e350, hx350_0⟩ := aI_q (rR_q HO_59.out).2.2 x61_3 p350 q350
        cases e350
        replace p350 := eq_true p350
        replace q350 := eq_true q350
        have hnb36 := NB338_340.out
        have hnc36 := NB340_338.out
        have hcz37_0 : cI wr gb338 0 a1_0 := cZ BK338 0 rfl
        have hcz37_1 : wr.cell? ⟨gb338, 1, none⟩ = some (.slice A1_1 l1_1.length c1_1) := (bC_q BK338.out 1).trans rfl
        have hfz37_0 := bF_q BK338.out 0
        have hfz37_1 := bF_q BK338.out 1
        have p351 : 0 ≤ (x61_3 : Int) := oD_q (by assumption)
        have q351 : x61_3 < (l1_1.length : Int) := oD_q (by assumption)
        obtain ⟨ad351, e351, hx351_0⟩ := aI_q HR1_1.out x61_3 p351 q351
        cases e351
        replace hx351_0 := cel HB.out hx351_0
        replace p351 := eq_true p351
        replace q351 := eq_true q351
        go_wp2
        repeat (go_quiet (fail); try go_wp2)
        go_ret
        exact ⟨m4_q, m11_q⟩
       rw [if_neg c35] at H
       have c35b0 : decide ((rd l1_1 x61_3) < (rd t347 x61_3)) = false := dF_q c35
       clear c35
       have H' := Ae_q H
       clear H
       have p350 : 0 ≤ (x61_3 : Int) := oD_q (by assumption)
       have q350 : x61_3 < (t347.length : Int) := oD_q (by assumption)
       obtain ⟨ad350, e350, hx350_0⟩ := aI_q (rR_q HO_59.out).2.2 x61_3 p350 q350
       cases e350
       replace p350 := eq_true p350
       replace q350 := eq_true q350
       have hnb38 := NB338_340.out
       have hnc38 := NB340_338.out
       have hcz39_0 : cI wr gb338 0 a1_0 := cZ BK338 0 rfl
       have hcz39_1 : wr.cell? ⟨gb338, 1, none⟩ = some (.slice A1_1 l1_1.length c1_1) := (bC_q BK338.out 1).trans rfl
       have hfz39_0 := bF_q BK338.out 0
       have hfz39_1 := bF_q BK338.out 1
       have p351 : 0 ≤ (x61_3 : Int) := oD_q (by assumption)
       have q351 : x61_3 < (l1_1.length : Int) := oD_q (by assumption)
       obtain ⟨ad351, e351, hx351_0⟩ := aI_q HR1_1.out x61_3 p351 q351
       cases e351
       replace hx351_0 := cel HB.out hx351_0
       replace p351 := eq_true p351
       replace q351 := eq_true q351
       go_wp2
       repeat (go_quiet (fail); try go_wp2)
       go_roundg k3
       case measure => have := HK1.out; have := HK2.out; have := HK3.out; omega
       case rel => exact ⟨(wrap64 (x61_3 + 1)), m5_q, H', ⟨by have := HK1.out; have := HK2.out; have := HK3.out; omega⟩, ⟨rup HO_59.out⟩, ⟨bup BK338.out⟩, ⟨bup BK340.out⟩, ⟨m11_q⟩⟩

end Go.Proofs.Ytfnpiacmlahegaa.PRp
