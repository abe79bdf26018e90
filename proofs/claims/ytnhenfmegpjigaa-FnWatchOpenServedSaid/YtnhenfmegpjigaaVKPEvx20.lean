import Derived.Test.YtnhenfmegpjigaaVKPEvx0
import Derived.Test.YtnhenfmegpjigaaVKPEvx1
import Derived.Test.YtnhenfmegpjigaaVKPEvx3
namespace Go.Proofs.Ytnhenfmegpjigaa.PEv
open Go.RowKit Go.Proofs.YtnhenfmegpjigaaW.PrintWords Go.Proofs.YtnhenfmegpjigaaW.PrintLast Go.Proofs.YtnhenfmegpjigaaW.PrintMore
attribute [local go_sem] max2_int min2_int max_two min_two max_three min_three max_four min_four
set_option linter.unusedVariables false
set_option linter.unusedSimpArgs false

def spec_l91Guest.l0 : Nat → Int → List Int → Int → Int → Int → Int → Option (Int × Int × Int × Int)
 | 0, _, _, _, _, _, _ => none
 | k + 1, x6, x1000, x1001, x458000, x458001, x458002 => if x6 < 8 then ((spec_l6Rd_pick.f k x1000 x1001 6).bind fun bt458 => (if bt458.1 = 0 then ((spec_l3Weight.f k x6).bind fun t460 => (spec_l91Guest.l0 k (wrap64 (x6 + 1)) x1000 bt458.2 x458000 x458001 (wrap64 (x458002 + t460)))) else (spec_l91Guest.l0 k (wrap64 (x6 + 1)) x1000 bt458.2 x458000 x458001 x458002))) else ((spec_l6Rd_pick.f k x1000 x1001 60).bind fun bt461 => (if bt461.1 = 0 then ((spec_l6Rd_pick.f k x1000 bt461.2 2).bind fun bt463 => (some (x458000, wrap64 (bt463.1 * 5), x458002, bt463.2))) else (if bt461.1 = 1 then ((some (([0, 99, 100] : List Int) : List Int)).bind fun y465 => ((spec_l6Rd_pick.f k x1000 bt461.2 3).bind fun bt468 => (if 0 ≤ bt468.1 then (if bt468.1 < (y465.length : Int) then (some (rd y465 bt468.1, x458001, x458002, bt468.2)) else (none)) else (none)))) else (some (x458000, x458001, x458002, bt461.2)))))
def spec_l91Guest.f (k : Nat) (s0_0 : List Int) (s0_1 : Int) (a1 : Int) : Option (Int × Int × Int × Int) := (spec_l6Rd_pick.f k s0_0 s0_1 4).bind fun bt455 => (spec_l91Guest.l0 k 0 s0_0 bt455.2 a1 (wrap64 (1 + bt455.1)) 0)
set_option maxHeartbeats 8000000 in
set_option maxRecDepth 100000 in
theorem spec_l91Guest.calls (k : Nat) (g : Nat) (s0_0 : List Int) (s0_1 : Int) (a1 : Int) (r1 : Int) (r2 : Int) (r3 : Int) (r4 : Int) (w0 w : World) (hI : IsS81 w0 w g s0_0 s0_1) (hB : Below w0.heap.size w0 w) (h : spec_l91Guest.f k s0_0 s0_1 a1 = some (r1, r2, r3, r4)) :
    Calls Try.prog 68 #[.pointer (some ⟨g, 0, none⟩), .int .i64 a1] w fun e w' => e = .returned (.agg #[.int .i64 r1, .int .i64 r2, .int .i64 r3]) ∧ IsS81 w0 w' g s0_0 r4 ∧ Below w0.heap.size w0 w' ∧ KeepBut w w' g none := by
 have hu50 := Try.underlying50
 have HI0 := Ae_q hI
 have HK := Ae_q (KeepBut.refl w g none)
 have HL := Ae_q hB.size
 clear hI
 have HW0 := Ae_q hB.size
 have HB := Ae_q hB
 clear hB
 have H : ((spec_l6Rd_pick.f k s0_0 s0_1 4).bind fun bt455 => (spec_l91Guest.l0 k 0 s0_0 bt455.2 a1 (wrap64 (1 + bt455.1)) 0)) = some (r1, r2, r3, r4) := h
 clear h
 replace H := oB_q.mp H
 obtain ⟨⟨t455, t456⟩, A30, H⟩ := H
 replace H : (spec_l91Guest.l0 k 0 s0_0 t456 a1 (wrap64 (1 + t455)) 0) = some (r1, r2, r3, r4) := H
 have A3 := Ae_q A30
 clear A30
 have H' := Ae_q H
 clear H
 go_enter Try.func68, Try.ntmps68
 go_wp2_with (first | ((with_reducible refine gD_q (N := 4) rfl ?_); refine bE_q ?hg (N := 4) ?hd (cs := #[.int .i64 0, .int .i64 0, .int .i64 0]) (t := 50) ?hr ?_; (case hd => rfl); (case hg => rfl); (case hr => first | (go_simp; done) | (go_simp; rfl)); intro gb454 hg w4 hbox hb; have n0_ := Ae_q (IsS81.below (by repeat (with_reducible first | exact HI0.out | apply i2_q | apply i1_q | apply i0_q | apply i3_q)) hb); have n1_ := Ae_q (kT_q (by repeat (with_reducible first | exact HK.out | apply kS_q | apply kN_q | apply kD_q | apply kA_q)) (kO_q hb g none) (.inl rfl)); have n2_ := Ae_q (bT_q (by repeat (with_reducible first | exact HB.out | apply bA_q | apply pB_q | apply bD_q | refine bS_q ?_ (i5_q HI0.out))) hb); have n3_ := Ae_q (hbox); have n4_ := Ae_q ((by rw [hg]; exact (keep_size (w := w) (g := g) (row := none) (by repeat (with_reducible first | exact HK.out | apply kS_q | apply kN_q | apply kD_q | apply kA_q))) : w.heap.size ≤ gb454)); have n5_ := Ae_q ((nT_q HW0.out (by rw [hg]; exact (keep_size (w := w) (g := g) (row := none) (by repeat (with_reducible first | exact HK.out | apply kS_q | apply kN_q | apply kD_q | apply kA_q))) : w.heap.size ≤ gb454) : w0.heap.size ≤ gb454)); have n6_ := Ae_q ((by rw [hg]; exact nL_q (IsS81.lt (show IsS81 w0 _ g s0_0 s0_1 from by repeat (with_reducible first | exact HI0.out | apply i2_q | apply i1_q | apply i0_q | apply i3_q))) : g ≠ gb454)); have n7_ := Ae_q ((by rw [hg]; exact nG_q (IsS81.lt (show IsS81 w0 _ g s0_0 s0_1 from by repeat (with_reducible first | exact HI0.out | apply i2_q | apply i1_q | apply i0_q | apply i3_q))) : gb454 ≠ g)); clear HI0; clear HK; clear HB; have HI0 := n0_; have HK := n1_; have HB := n2_; have BK454 := n3_; have GW454 := n4_; have GE454 := n5_; have NB0_454 := n6_; have NB454_0 := n7_; clear n0_ n1_ n2_ n3_ n4_ n5_ n6_ n7_; clear hb hbox hg) | ((with_reducible refine gC_q (f := 49) rfl ?_); refine gL_q (some 9) rfl rfl Try.func49 (by kernel_rfl) rfl #[.pointer (some ⟨g, 0, none⟩), .int .i64 4] rfl (by (try simp only [lM_q, lC_q, lN_q]); first | done | rfl | (simp only [lD_q, lT_q]; rfl)) ?_; (with_reducible refine (spec_l6Rd_pick.calls k g s0_0 s0_1 4 t455 t456 w0 _ ?side1 ?side2 A3.out).mono ?_); (case side1 => repeat (with_reducible first | exact HI0.out | apply i2_q | apply i1_q | apply i0_q | apply i3_q | refine i4_q ?_ NB0_454.out _)); (case side2 => repeat (with_reducible first | exact HB.out | apply bA_q | apply pB_q | apply bD_q | refine bS_q ?_ (i5_q HI0.out) | refine bS_q ?_ GE454.out)); rintro e w5 ⟨rfl, hi, hb, hk⟩; refine ⟨_, rfl, ?_⟩; have n0_ := Ae_q (kB_q hk (g' := gb454) (o := .cells #[.int .i64 0, .int .i64 0, .int .i64 0] 50 (0, 0)) (bup BK454.out) NB454_0.out (by simp)); have n1_ := Ae_q (kT_q (by repeat (with_reducible first | exact HK.out | apply kS_q | apply kN_q | apply kD_q | apply kA_q | refine kF_q ?_ GW454.out _)) hk (.inl rfl)); have n2_ := Ae_q (hb); have n3_ := Ae_q (hi); clear BK454; clear HK; clear HB; clear HI0; have BK454 := n0_; have HK := n1_; have HB := n2_; have HI0 := n3_; clear n0_ n1_ n2_ n3_; (try clear hb); (try clear hb2); (try clear hk); (try clear hi)) | ((with_reducible refine gD_q (N := 5) rfl ?_); refine bE_q ?hg (N := 5) ?hd (cs := #[.int .i64 0, .int .i64 0, .int .i64 0]) (t := 50) ?hr ?_; (case hd => rfl); (case hg => rfl); (case hr => first | (go_simp; done) | (go_simp; rfl)); intro gb457 hg w6 hbox hb; have n0_ := Ae_q (IsS81.below (by repeat (with_reducible first | exact HI0.out | apply i2_q | apply i1_q | apply i0_q | apply i3_q | refine i4_q ?_ NB0_454.out _)) hb); have n1_ := Ae_q (bB_q (g := gb454) (o := .cells #[.int .i64 0, .int .i64 0, .int .i64 0] 50 (0, 0)) (bup BK454.out) hb); have n2_ := Ae_q (kT_q (by repeat (with_reducible first | exact HK.out | apply kS_q | apply kN_q | apply kD_q | apply kA_q | refine kF_q ?_ GW454.out _)) (kO_q hb g none) (.inl rfl)); have n3_ := Ae_q (bT_q (by repeat (with_reducible first | exact HB.out | apply bA_q | apply pB_q | apply bD_q | refine bS_q ?_ (i5_q HI0.out) | refine bS_q ?_ GE454.out)) hb); have n4_ := Ae_q (hbox); have n5_ := Ae_q ((by rw [hg]; exact (keep_size (w := w) (g := g) (row := none) (by repeat (with_reducible first | exact HK.out | apply kS_q | apply kN_q | apply kD_q | apply kA_q | refine kF_q ?_ GW454.out _))) : w.heap.size ≤ gb457)); have n6_ := Ae_q ((nT_q HW0.out (by rw [hg]; exact (keep_size (w := w) (g := g) (row := none) (by repeat (with_reducible first | exact HK.out | apply kS_q | apply kN_q | apply kD_q | apply kA_q | refine kF_q ?_ GW454.out _))) : w.heap.size ≤ gb457) : w0.heap.size ≤ gb457)); have n7_ := Ae_q ((by rw [hg]; exact nL_q (blk_lt (g := gb454) (o := .cells #[.int .i64 0, .int .i64 0, .int .i64 0] 50 (0, 0)) (bup BK454.out)) : gb454 ≠ gb457)); have n8_ := Ae_q ((by rw [hg]; exact nG_q (blk_lt (g := gb454) (o := .cells #[.int .i64 0, .int .i64 0, .int .i64 0] 50 (0, 0)) (bup BK454.out)) : gb457 ≠ gb454)); have n9_ := Ae_q ((by rw [hg]; exact nL_q (IsS81.lt (show IsS81 w0 _ g s0_0 t456 from by repeat (with_reducible first | exact HI0.out | apply i2_q | apply i1_q | apply i0_q | apply i3_q | refine i4_q ?_ NB0_454.out _))) : g ≠ gb457)); have n10_ := Ae_q ((by rw [hg]; exact nG_q (IsS81.lt (show IsS81 w0 _ g s0_0 t456 from by repeat (with_reducible first | exact HI0.out | apply i2_q | apply i1_q | apply i0_q | apply i3_q | refine i4_q ?_ NB0_454.out _))) : gb457 ≠ g)); clear HI0; clear BK454; clear HK; clear HB; have HI0 := n0_; have BK454 := n1_; have HK := n2_; have HB := n3_; have BK457 := n4_; have GW457 := n5_; have GE457 := n6_; have NB454_457 := n7_; have NB457_454 := n8_; have NB0_457 := n9_; have NB457_0 := n10_; clear n0_ n1_ n2_ n3_ n4_ n5_ n6_ n7_ n8_ n9_ n10_; clear hb hbox hg; have hnb7 := NB457_454.out; have hnc7 := NB454_457.out; have hnb8 := NB457_0.out; have hnc8 := NB0_457.out; have hcz9_0 : cI w6 gb457 0 0 := cZ BK457 0 rfl; have hcz9_1 : cI w6 gb457 1 0 := cZ BK457 1 rfl; have hcz9_2 : cI w6 gb457 2 0 := cZ BK457 2 rfl; have hfz9_0 := bF_q BK457.out 0; have hfz9_1 := bF_q BK457.out 1; have hfz9_2 := bF_q BK457.out 2))
 go_loopg [6] k (fun kq v6 w' => ∃ (x6_1 : Int) (x1001_1 : Int) (x458002_1 : Int), v6 = .int .i64 x6_1 ∧ Aside0 (spec_l91Guest.l0 kq x6_1 s0_0 x1001_1 a1 (wrap64 (1 + t455)) x458002_1 = some (r1, r2, r3, r4)) ∧ Aside0 (kq ≤ k) ∧ Aside0 (w'.heap[gb454]? = some (.cells #[.int .i64 0, .int .i64 0, .int .i64 0] 50 (0, 0))) ∧ Aside0 (w'.heap[gb457]? = some (.cells #[.int .i64 a1, .int .i64 (wrap64 (1 + t455)), .int .i64 x458002_1] 50 (0, 0))) ∧ Aside0 (IsS81 w0 w' g s0_0 x1001_1) ∧ Aside0 (KeepBut w w' g none) ∧ Aside0 (Below w0.heap.size w0 w'))
 case atStart => exact ⟨(0), (t456), (0), (by first | rfl | (simp; done) | (simp [*]; done)), H', ⟨nR_q _⟩, ⟨by (with_reducible repeat (first | refine bN_q ?_ _ | refine bW_q ?_ | refine bL_q ?_ _)); refine blk_far ?_ NB454_457.out _; (with_reducible repeat (first | refine bN_q ?_ _ | refine bW_q ?_ | refine bL_q ?_ _)); refine blk_far ?_ NB454_457.out _; (with_reducible repeat (first | refine bN_q ?_ _ | refine bW_q ?_ | refine bL_q ?_ _)); refine blk_far ?_ NB454_457.out _; (with_reducible repeat (first | refine bN_q ?_ _ | refine bW_q ?_ | refine bL_q ?_ _)); exact BK454.out⟩, ⟨by (with_reducible repeat (first | refine bN_q ?_ _ | refine bW_q ?_ | refine bL_q ?_ _)); refine blk_put (cs := #[.int .i64 a1, .int .i64 (wrap64 (1 + t455)), .int .i64 0]) ?_ 2 _ rfl; (with_reducible repeat (first | refine bN_q ?_ _ | refine bW_q ?_ | refine bL_q ?_ _)); refine blk_put (cs := #[.int .i64 a1, .int .i64 0, .int .i64 0]) ?_ 1 _ rfl; (with_reducible repeat (first | refine bN_q ?_ _ | refine bW_q ?_ | refine bL_q ?_ _)); refine blk_put (cs := #[.int .i64 0, .int .i64 0, .int .i64 0]) ?_ 0 _ rfl; (with_reducible repeat (first | refine bN_q ?_ _ | refine bW_q ?_ | refine bL_q ?_ _)); exact BK457.out⟩, ⟨by repeat (with_reducible first | exact HI0.out | apply i2_q | apply i1_q | apply i0_q | apply i3_q | refine i4_q ?_ NB0_454.out _ | refine i4_q ?_ NB0_457.out _)⟩, ⟨by repeat (with_reducible first | exact HK.out | apply kS_q | apply kN_q | apply kD_q | apply kA_q | refine kF_q ?_ GW454.out _ | refine kF_q ?_ GW457.out _)⟩, ⟨by repeat (with_reducible first | exact HB.out | apply bA_q | apply pB_q | apply bD_q | refine bS_q ?_ (i5_q HI0.out) | refine bS_q ?_ GE454.out | refine bS_q ?_ GE457.out)⟩⟩
 case round =>
  clear H'
  try clear p2
  try clear c4
  try clear c6
  try clear p6
  try clear c7
  try clear c8
  try clear hcz9_0
  try clear hcz9_1
  try clear hcz9_2
  try clear hfz9_0
  try clear hfz9_1
  try clear hfz9_2
  obtain ⟨x6_1, x1001_1, x458002_1, rfl, HA, HK1, BK454, BK457, HI0, HK, HB⟩ := hrel
  cases gk with
  | zero => exact absurd HA.out (by simp [spec_l91Guest.l0])
  | succ k1 =>
   have H := HA.out
   clear HA
   simp only [spec_l91Guest.l0] at H
   by_cases c10 : x6_1 < 8
   ·rw [if_pos c10] at H
    have c10b0 : decide (x6_1 < 8) = true := dT_q c10
    clear c10
    replace H := oB_q.mp H
    obtain ⟨⟨t458, t459⟩, A110, H⟩ := H
    replace H : (if t458 = 0 then ((spec_l3Weight.f k1 x6_1).bind fun t460 => (spec_l91Guest.l0 k1 (wrap64 (x6_1 + 1)) s0_0 t459 a1 (wrap64 (1 + t455)) (wrap64 (x458002_1 + t460)))) else (spec_l91Guest.l0 k1 (wrap64 (x6_1 + 1)) s0_0 t459 a1 (wrap64 (1 + t455)) x458002_1)) = some (r1, r2, r3, r4) := H
    have A11 := Ae_q A110
    clear A110
    by_cases c12 : t458 = 0
    rotate_left
    ·rw [if_neg c12] at H
     have c12b0 : (t458 == 0) = false := fN_q.mpr c12
     have c12b1 : (t458 != 0) = true := nI_q.mpr c12
     have H' := Ae_q H
     clear H
     go_wp2_with (first | ((with_reducible refine gC_q (f := 49) rfl ?_); refine gL_q (some 17) rfl rfl Try.func49 (by kernel_rfl) rfl #[.pointer (some ⟨g, 0, none⟩), .int .i64 6] rfl (by (try simp only [lM_q, lC_q, lN_q]); first | done | rfl | (simp only [lD_q, lT_q]; rfl)) ?_; (with_reducible refine (spec_l6Rd_pick.calls k1 g s0_0 x1001_1 6 t458 t459 w0 _ ?side1 ?side2 A11.out).mono ?_); (case side1 => repeat (with_reducible first | exact HI0.out | apply i2_q | apply i1_q | apply i0_q | apply i3_q | refine i4_q ?_ NB0_454.out _ | refine i4_q ?_ NB0_457.out _)); (case side2 => repeat (with_reducible first | exact HB.out | apply bA_q | apply pB_q | apply bD_q | refine bS_q ?_ (i5_q HI0.out) | refine bS_q ?_ GE454.out | refine bS_q ?_ GE457.out)); rintro e w17 ⟨rfl, hi, hb, hk⟩; refine ⟨_, rfl, ?_⟩; have n0_ := Ae_q (kB_q hk (g' := gb454) (o := .cells #[.int .i64 0, .int .i64 0, .int .i64 0] 50 (0, 0)) (bup BK454.out) NB454_0.out (by simp)); have n1_ := Ae_q (kB_q hk (g' := gb457) (o := .cells #[.int .i64 a1, .int .i64 (wrap64 (1 + t455)), .int .i64 x458002_1] 50 (0, 0)) (bup BK457.out) NB457_0.out (by simp)); have n2_ := Ae_q (kT_q (by repeat (with_reducible first | exact HK.out | apply kS_q | apply kN_q | apply kD_q | apply kA_q | refine kF_q ?_ GW454.out _ | refine kF_q ?_ GW457.out _)) hk (.inl rfl)); have n3_ := Ae_q (hb); have n4_ := Ae_q (hi); clear BK454; clear BK457; clear HK; clear HB; clear HI0; have BK454 := n0_; have BK457 := n1_; have HK := n2_; have HB := n3_; have HI0 := n4_; clear n0_ n1_ n2_ n3_ n4_; (try clear hb); (try clear hb2); (try clear hk); (try clear hi)))
     go_roundg k1
     case measure => have := HK1.out; omega
     case rel => exact ⟨(wrap64 (x6_1 + 1)), (t459), (x458002_1), (by first | rfl | (simp; done) | (simp [*]; done)), H', ⟨by have := HK1.out; omega⟩, ⟨bup BK454.out⟩, ⟨bup BK457.out⟩, ⟨by repeat (with_reducible first | exact HI0.out | apply i2_q | apply i1_q | apply i0_q | apply i3_q | refine i4_q ?_ NB0_454.out _ | refine i4_q ?_ NB0_457.out _)⟩, ⟨by repeat (with_reducible first | exact HK.out | apply kS_q | apply kN_q | apply kD_q | apply kA_q | refine kF_q ?_ GW454.out _ | refine kF_q ?_ GW457.out _)⟩, ⟨by repeat (with_reducible first | exact HB.out | apply bA_q | apply pB_q | apply bD_q | refine bS_q ?_ (i5_q HI0.out) | refine bS_q ?_ GE454.out | refine bS_q ?_ GE457.out)⟩⟩
    rw [if_pos c12] at H
    have c12b0 : (t458 == 0) = true := beq_iff_eq.mpr c12
    have c12b1 : (t458 != 0) = false := nE_q.mpr c12
    clear c12
    replace H := oB_q.mp H
    obtain ⟨t460, A130, H⟩ := H
    replace H : (spec_l91Guest.l0 k1 (wrap64 (x6_1 + 1)) s0_0 t459 a1 (wrap64 (1 + t455)) (wrap64 (x458002_1 + t460))) = some (r1, r2, r3, r4) := H
    have A13 := Ae_q A130
    clear A130
    have H' := Ae_q H
    clear H
    try go_wp2_with (first | ((with_reducible refine gC_q (f := 49) rfl ?_); refine gL_q (some 17) rfl rfl Try.func49 (by kernel_rfl) rfl #[.pointer (some ⟨g, 0, none⟩), .int .i64 6] rfl (by (try simp only [lM_q, lC_q, lN_q]); first | done | rfl | (simp only [lD_q, lT_q]; rfl)) ?_; (with_reducible refine (spec_l6Rd_pick.calls k1 g s0_0 x1001_1 6 t458 t459 w0 _ ?side1 ?side2 A11.out).mono ?_); (case side1 => repeat (with_reducible first | exact HI0.out | apply i2_q | apply i1_q | apply i0_q | apply i3_q | refine i4_q ?_ NB0_454.out _ | refine i4_q ?_ NB0_457.out _)); (case side2 => repeat (with_reducible first | exact HB.out | apply bA_q | apply pB_q | apply bD_q | refine bS_q ?_ (i5_q HI0.out) | refine bS_q ?_ GE454.out | refine bS_q ?_ GE457.out)); rintro e w14 ⟨rfl, hi, hb, hk⟩; refine ⟨_, rfl, ?_⟩; have n0_ := Ae_q (kB_q hk (g' := gb454) (o := .cells #[.int .i64 0, .int .i64 0, .int .i64 0] 50 (0, 0)) (bup BK454.out) NB454_0.out (by simp)); have n1_ := Ae_q (kB_q hk (g' := gb457) (o := .cells #[.int .i64 a1, .int .i64 (wrap64 (1 + t455)), .int .i64 x458002_1] 50 (0, 0)) (bup BK457.out) NB457_0.out (by simp)); have n2_ := Ae_q (kT_q (by repeat (with_reducible first | exact HK.out | apply kS_q | apply kN_q | apply kD_q | apply kA_q | refine kF_q ?_ GW454.out _ | refine kF_q ?_ GW457.out _)) hk (.inl rfl)); have n3_ := Ae_q (hb); have n4_ := Ae_q (hi); clear BK454; clear BK457; clear HK; clear HB; clear HI0; have BK454 := n0_; have BK457 := n1_; have HK := n2_; have HB := n3_; have HI0 := n4_; clear n0_ n1_ n2_ n3_ n4_; (try clear hb); (try clear hb2); (try clear hk); (try clear hi)))
    have n0_ := Ae_q (bW_q BK454.out)
    have n1_ := Ae_q (bW_q BK457.out)
    have n2_ := Ae_q (i0_q HI0.out)
    have n3_ := Ae_q (kD_q HK.out)
    have n4_ := Ae_q (bD_q HB.out)
    clear BK454
    clear BK457
    clear HI0
    clear HK
    clear HB
    have BK454 := n0_
    have BK457 := n1_
    have HI0 := n2_
    have HK := n3_
    have HB := n4_
    clear n0_ n1_ n2_ n3_ n4_
    refine start_ (n := 7) (S := fun w' => w'.cell? ⟨gb457, 0, none⟩ = some (.int .i64 a1) ∧ w'.cell? ⟨gb457, 1, none⟩ = some (.int .i64 (wrap64 (1 + t455))) ∧ w'.cell? ⟨gb457, 2, none⟩ = some (.int .i64 x458002_1)) (ds := [6]) #[false, false, false, false, false, false, false] (by kernel_rfl) rfl rfl ⟨(bC_q BK457.out 0).trans rfl, (bC_q BK457.out 1).trans rfl, (bC_q BK457.out 2).trans rfl⟩ (fun hHeld => ?_)
    generalize w14.drew = w15 at BK454 BK457 HI0 HK HB hHeld ⊢
    refine pure_ (i := 0) (N := some 19) (v := ?_) (a' := ?_) #[true, false, false, false, false, false, false] rfl rfl (by kernel_rfl) (fun _ _ _ h => h) (Or.inl ⟨by rfl, ?_⟩) ?_ ?_
    rotate_left
    ·intro w'
     go_simp
     with_reducible rfl
    rotate_left
    ·simp only [pS_q]
     rfl
    refine pure_ (i := 2) (N := some 21) (v := ?_) (a' := ?_) #[true, false, true, false, false, false, false] rfl rfl (by kernel_rfl) (fun _ _ _ h => h) (Or.inl ⟨by rfl, ?_⟩) ?_ ?_
    rotate_left
    ·intro w'
     go_simp
     with_reducible rfl
    rotate_left
    ·simp only [pS_q]
     rfl
    refine take_ (i := 1) (N := some 20) (v := ?_) (a' := ?_) #[true, true, true, false, false, false, false] rfl rfl (by kernel_rfl) (fun _ _ _ h => h) (Or.inl ⟨by rfl, ?_⟩) hHeld ?_ ?_
    rotate_left
    ·rintro w' ⟨s0, s1, s2⟩
     go_simp
     with_reducible rfl
    rotate_left
    ·simp only [pS_q]
     rfl
    refine one_ (i := 3) (N := some 22) #[true, true, true, true, false, false, false] rfl rfl (by kernel_rfl) (by decide) (fun K hK => ?_)
    refine goes_ Try.func73 (by kernel_rfl) rfl #[.int .i64 x6_1] (by rfl) rfl rfl (by (try simp only [lM_q, lC_q, lN_q]); first | done | rfl | (simp only [lD_q, lT_q]; rfl)) ?_
    with_reducible refine (spec_l3Weight.calls k1 x6_1 t460 _ A13.out).mono ?_
    rintro e w' ⟨rfl, ⟨nd, rfl⟩⟩
    refine ⟨_, rfl, ?_⟩
    refine hK.out _ _ ⟨(bC_q BK457.out 0).trans rfl, (bC_q BK457.out 1).trans rfl, (bC_q BK457.out 2).trans rfl⟩ (fun hHeld => ?_)
    clear hK K
    refine norm_ (a' := ?_) ?_ ?_
    rotate_left
    ·show Act.put _ (some 22) _ = _
     simp only [pS_q]
     rfl
    refine pure_ (i := 4) (N := some 23) (v := ?_) (a' := ?_) #[true, true, true, true, true, false, false] rfl rfl (by kernel_rfl) (fun _ _ _ h => h) (Or.inl ⟨by rfl, ?_⟩) ?_ ?_
    rotate_left
    ·intro w'
     go_simp
     with_reducible rfl
    rotate_left
    ·simp only [pS_q]
     rfl
    refine pure_ (i := 5) (N := some 24) (v := ?_) (a' := ?_) #[true, true, true, true, true, true, false] rfl rfl (by kernel_rfl) (fun _ _ _ h => h) (Or.inl ⟨by rfl, ?_⟩) ?_ ?_
    rotate_left
    ·intro w'
     go_simp
     with_reducible rfl
    rotate_left
    ·simp only [pS_q]
     rfl
    refine last_ (i := 6) (N := none) #[true, true, true, true, true, true, true] rfl rfl (by kernel_rfl) (by decide) (fun K hK => ?_)
    have hs16 : cI w15 gb457 2 x458002_1 := cZ BK457 2 rfl
    have hfs16 := bF_q BK457.out 2
    have hns16_0 := NB454_457.out
    have hms16_0 := NB457_454.out
    refine skip_ (w1 := ?_) (by rfl) rfl ?_ ?_
    rotate_left
    ·go_simp
     rfl
    refine hK.out _ _ ?_
    clear hK K
    refine done_ (by kernel_rfl) ?_
    try go_wp2
    go_roundg k1
    case measure => have := HK1.out; omega
    case rel => exact ⟨(wrap64 (x6_1 + 1)), (t459), (wrap64 (x458002_1 + t460)), (by first | rfl | (simp; done) | (simp [*]; done)), H', ⟨by have := HK1.out; omega⟩, ⟨by (with_reducible repeat (first | refine bN_q ?_ _ | refine bW_q ?_ | refine bL_q ?_ _)); refine blk_far ?_ NB454_457.out _; (with_reducible repeat (first | refine bN_q ?_ _ | refine bW_q ?_ | refine bL_q ?_ _)); exact BK454.out⟩, ⟨by (with_reducible repeat (first | refine bN_q ?_ _ | refine bW_q ?_ | refine bL_q ?_ _)); refine blk_put (cs := #[.int .i64 a1, .int .i64 (wrap64 (1 + t455)), .int .i64 x458002_1]) ?_ 2 _ rfl; (with_reducible repeat (first | refine bN_q ?_ _ | refine bW_q ?_ | refine bL_q ?_ _)); exact BK457.out⟩, ⟨by repeat (with_reducible first | exact HI0.out | apply i2_q | apply i1_q | apply i0_q | apply i3_q | refine i4_q ?_ NB0_454.out _ | refine i4_q ?_ NB0_457.out _)⟩, ⟨by repeat (with_reducible first | exact HK.out | apply kS_q | apply kN_q | apply kD_q | apply kA_q | refine kF_q ?_ GW454.out _ | refine kF_q ?_ GW457.out _)⟩, ⟨by repeat (with_reducible first | exact HB.out | apply bA_q | apply pB_q | apply bD_q | refine bS_q ?_ (i5_q HI0.out) | refine bS_q ?_ GE454.out | refine bS_q ?_ GE457.out)⟩⟩
   rw [if_neg c10] at H
   have c10b0 : decide (x6_1 < 8) = false := dF_q c10
   clear c10
   replace H := oB_q.mp H
   obtain ⟨⟨t461, t462⟩, A180, H⟩ := H
   replace H : (if t461 = 0 then ((spec_l6Rd_pick.f k1 s0_0 t462 2).bind fun bt463 => (some (a1, wrap64 (bt463.1 * 5), x458002_1, bt463.2))) else (if t461 = 1 then ((some (([0, 99, 100] : List Int) : List Int)).bind fun y465 => ((spec_l6Rd_pick.f k1 s0_0 t462 3).bind fun bt468 => (if 0 ≤ bt468.1 then (if bt468.1 < (y465.length : Int) then (some (rd y465 bt468.1, (wrap64 (1 + t455)), x458002_1, bt468.2)) else (none)) else (none)))) else (some (a1, (wrap64 (1 + t455)), x458002_1, t462)))) = some (r1, r2, r3, r4) := H
   have A18 := Ae_q A180
   clear A180
   by_cases c19 : t461 = 0
   ·rw [if_pos c19] at H
    have c19b0 : (t461 == 0) = true := beq_iff_eq.mpr c19
    have c19b1 : (t461 != 0) = false := nE_q.mpr c19
    clear c19
    replace H := oB_q.mp H
    obtain ⟨⟨t463, t464⟩, A200, H⟩ := H
    replace H : (some (a1, wrap64 (t463 * 5), x458002_1, t464)) = some (r1, r2, r3, r4) := H
    have A20 := Ae_q A200
    clear A200
    simp only [oE_q, pE_q] at H
    obtain ⟨rfl, rfl, rfl, rfl⟩ := H
    go_wp2_with (first | ((with_reducible refine gC_q (f := 49) rfl ?_); refine gL_q (some 26) rfl rfl Try.func49 (by kernel_rfl) rfl #[.pointer (some ⟨g, 0, none⟩), .int .i64 60] rfl (by (try simp only [lM_q, lC_q, lN_q]); first | done | rfl | (simp only [lD_q, lT_q]; rfl)) ?_; (with_reducible refine (spec_l6Rd_pick.calls k1 g s0_0 x1001_1 60 t461 t462 w0 _ ?side1 ?side2 A18.out).mono ?_); (case side1 => repeat (with_reducible first | exact HI0.out | apply i2_q | apply i1_q | apply i0_q | apply i3_q | refine i4_q ?_ NB0_454.out _ | refine i4_q ?_ NB0_457.out _)); (case side2 => repeat (with_reducible first | exact HB.out | apply bA_q | apply pB_q | apply bD_q | refine bS_q ?_ (i5_q HI0.out) | refine bS_q ?_ GE454.out | refine bS_q ?_ GE457.out)); rintro e w21 ⟨rfl, hi, hb, hk⟩; refine ⟨_, rfl, ?_⟩; have n0_ := Ae_q (kB_q hk (g' := gb454) (o := .cells #[.int .i64 0, .int .i64 0, .int .i64 0] 50 (0, 0)) (bup BK454.out) NB454_0.out (by simp)); have n1_ := Ae_q (kB_q hk (g' := gb457) (o := .cells #[.int .i64 a1, .int .i64 (wrap64 (1 + t455)), .int .i64 x458002_1] 50 (0, 0)) (bup BK457.out) NB457_0.out (by simp)); have n2_ := Ae_q (kT_q (by repeat (with_reducible first | exact HK.out | apply kS_q | apply kN_q | apply kD_q | apply kA_q | refine kF_q ?_ GW454.out _ | refine kF_q ?_ GW457.out _)) hk (.inl rfl)); have n3_ := Ae_q (hb); have n4_ := Ae_q (hi); clear BK454; clear BK457; clear HK; clear HB; clear HI0; have BK454 := n0_; have BK457 := n1_; have HK := n2_; have HB := n3_; have HI0 := n4_; clear n0_ n1_ n2_ n3_ n4_; (try clear hb); (try clear hb2); (try clear hk); (try clear hi)) | ((with_reducible refine gC_q (f := 49) rfl ?_); refine gL_q (some 30) rfl rfl Try.func49 (by kernel_rfl) rfl #[.pointer (some ⟨g, 0, none⟩), .int .i64 2] rfl (by (try simp only [lM_q, lC_q, lN_q]); first | done | rfl | (simp only [lD_q, lT_q]; rfl)) ?_; (with_reducible refine (spec_l6Rd_pick.calls k1 g s0_0 t462 2 t463 t464 w0 _ ?side1 ?side2 A20.out).mono ?_); (case side1 => repeat (with_reducible first | exact HI0.out | apply i2_q | apply i1_q | apply i0_q | apply i3_q | refine i4_q ?_ NB0_454.out _ | refine i4_q ?_ NB0_457.out _)); (case side2 => repeat (with_reducible first | exact HB.out | apply bA_q | apply pB_q | apply bD_q | refine bS_q ?_ (i5_q HI0.out) | refine bS_q ?_ GE454.out | refine bS_q ?_ GE457.out)); rintro e w22 ⟨rfl, hi, hb, hk⟩; refine ⟨_, rfl, ?_⟩; have n0_ := Ae_q (kB_q hk (g' := gb454) (o := .cells #[.int .i64 0, .int .i64 0, .int .i64 0] 50 (0, 0)) (bup BK454.out) NB454_0.out (by simp)); have n1_ := Ae_q (kB_q hk (g' := gb457) (o := .cells #[.int .i64 a1, .int .i64 (wrap64 (1 + t455)), .int .i64 x458002_1] 50 (0, 0)) (bup BK457.out) NB457_0.out (by simp)); have n2_ := Ae_q (kT_q (by repeat (with_reducible first | exact HK.out | apply kS_q | apply kN_q | apply kD_q | apply kA_q | refine kF_q ?_ GW454.out _ | refine kF_q ?_ GW457.out _)) hk (.inl rfl)); have n3_ := Ae_q (hb); have n4_ := Ae_q (hi); clear BK454; clear BK457; clear HK; clear HB; clear HI0; have BK454 := n0_; have BK457 := n1_; have HK := n2_; have HB := n3_; have HI0 := n4_; clear n0_ n1_ n2_ n3_ n4_; (try clear hb); (try clear hb2); (try clear hk); (try clear hi); have hnb23 := NB457_454.out; have hnc23 := NB454_457.out; have hnb24 := NB457_0.out; have hnc24 := NB0_457.out; have hcz25_0 : cI w22 gb457 0 a1 := cZ BK457 0 rfl; have hcz25_1 : cI w22 gb457 1 (wrap64 (1 + t455)) := cZ BK457 1 rfl; have hcz25_2 : cI w22 gb457 2 x458002_1 := cZ BK457 2 rfl; have hfz25_0 := bF_q BK457.out 0; have hfz25_1 := bF_q BK457.out 1; have hfz25_2 := bF_q BK457.out 2; have hnb26 := NB454_0.out; have hnc26 := NB0_454.out; have hcz27_0 : cI w22 gb454 0 0 := cZ BK454 0 rfl; have hcz27_1 : cI w22 gb454 1 0 := cZ BK454 1 rfl; have hcz27_2 : cI w22 gb454 2 0 := cZ BK454 2 rfl; have hfz27_0 := bF_q BK454.out 0; have hfz27_1 := bF_q BK454.out 1; have hfz27_2 := bF_q BK454.out 2))
    refine bodyPost_ret (results_cell_row rfl _ _ gb454 50 #[.int .i64 a1, .int .i64 (wrap64 (t463 * 5)), .int .i64 x458002_1] (0, 0) _ rfl (by (with_reducible repeat (first | refine bN_q ?_ _ | refine bW_q ?_ | refine bL_q ?_ _)); refine blk_put (cs := #[.int .i64 a1, .int .i64 (wrap64 (t463 * 5)), .int .i64 0]) ?_ 2 _ rfl; (with_reducible repeat (first | refine bN_q ?_ _ | refine bW_q ?_ | refine bL_q ?_ _)); refine blk_put (cs := #[.int .i64 a1, .int .i64 0, .int .i64 0]) ?_ 1 _ rfl; (with_reducible repeat (first | refine bN_q ?_ _ | refine bW_q ?_ | refine bL_q ?_ _)); refine blk_put (cs := #[.int .i64 0, .int .i64 0, .int .i64 0]) ?_ 0 _ rfl; (with_reducible repeat (first | refine bN_q ?_ _ | refine bW_q ?_ | refine bL_q ?_ _)); refine blk_far ?_ NB454_457.out _; (with_reducible repeat (first | refine bN_q ?_ _ | refine bW_q ?_ | refine bL_q ?_ _)); exact BK454.out) Try.underlying50 rfl (by kernel_rfl)) rfl ?_
    exact ⟨by first | rfl | (simp [eN_q, eS_q] <;> rfl) | (simp [*, eN_q, eS_q] <;> rfl), by repeat (with_reducible first | exact HI0.out | apply i2_q | apply i1_q | apply i0_q | apply i3_q | refine i4_q ?_ NB0_454.out _ | refine i4_q ?_ NB0_457.out _), by repeat (with_reducible first | exact HB.out | apply bA_q | apply pB_q | apply bD_q | refine bS_q ?_ (i5_q HI0.out) | refine bS_q ?_ GE454.out | refine bS_q ?_ GE457.out), by repeat (with_reducible first | exact HK.out | apply kS_q | apply kN_q | apply kD_q | apply kA_q | refine kF_q ?_ GW454.out _ | refine kF_q ?_ GW457.out _)⟩
   rw [if_neg c19] at H
   have c19b0 : (t461 == 0) = false := fN_q.mpr c19
   have c19b1 : (t461 != 0) = true := nI_q.mpr c19
   by_cases c28 : t461 = 1
   rotate_left
   ·rw [if_neg c28] at H
    have c28b0 : (t461 == 1) = false := fN_q.mpr c28
    have c28b1 : (t461 != 1) = true := nI_q.mpr c28
    simp only [oE_q, pE_q] at H
    obtain ⟨rfl, rfl, rfl, rfl⟩ := H
    go_wp2_with (first | ((with_reducible refine gC_q (f := 49) rfl ?_); refine gL_q (some 26) rfl rfl Try.func49 (by kernel_rfl) rfl #[.pointer (some ⟨g, 0, none⟩), .int .i64 60] rfl (by (try simp only [lM_q, lC_q, lN_q]); first | done | rfl | (simp only [lD_q, lT_q]; rfl)) ?_; (with_reducible refine (spec_l6Rd_pick.calls k1 g s0_0 x1001_1 60 t461 t462 w0 _ ?side1 ?side2 A18.out).mono ?_); (case side1 => repeat (with_reducible first | exact HI0.out | apply i2_q | apply i1_q | apply i0_q | apply i3_q | refine i4_q ?_ NB0_454.out _ | refine i4_q ?_ NB0_457.out _)); (case side2 => repeat (with_reducible first | exact HB.out | apply bA_q | apply pB_q | apply bD_q | refine bS_q ?_ (i5_q HI0.out) | refine bS_q ?_ GE454.out | refine bS_q ?_ GE457.out)); rintro e w42 ⟨rfl, hi, hb, hk⟩; refine ⟨_, rfl, ?_⟩; have n0_ := Ae_q (kB_q hk (g' := gb454) (o := .cells #[.int .i64 0, .int .i64 0, .int .i64 0] 50 (0, 0)) (bup BK454.out) NB454_0.out (by simp)); have n1_ := Ae_q (kB_q hk (g' := gb457) (o := .cells #[.int .i64 a1, .int .i64 (wrap64 (1 + t455)), .int .i64 x458002_1] 50 (0, 0)) (bup BK457.out) NB457_0.out (by simp)); have n2_ := Ae_q (kT_q (by repeat (with_reducible first | exact HK.out | apply kS_q | apply kN_q | apply kD_q | apply kA_q | refine kF_q ?_ GW454.out _ | refine kF_q ?_ GW457.out _)) hk (.inl rfl)); have n3_ := Ae_q (hb); have n4_ := Ae_q (hi); clear BK454; clear BK457; clear HK; clear HB; clear HI0; have BK454 := n0_; have BK457 := n1_; have HK := n2_; have HB := n3_; have HI0 := n4_; clear n0_ n1_ n2_ n3_ n4_; (try clear hb); (try clear hb2); (try clear hk); (try clear hi); have hnb43 := NB457_454.out; have hnc43 := NB454_457.out; have hnb44 := NB457_0.out; have hnc44 := NB0_457.out; have hcz45_0 : cI w42 gb457 0 a1 := cZ BK457 0 rfl; have hcz45_1 : cI w42 gb457 1 (wrap64 (1 + t455)) := cZ BK457 1 rfl; have hcz45_2 : cI w42 gb457 2 x458002_1 := cZ BK457 2 rfl; have hfz45_0 := bF_q BK457.out 0; have hfz45_1 := bF_q BK457.out 1; have hfz45_2 := bF_q BK457.out 2; have hnb46 := NB454_0.out; have hnc46 := NB0_454.out; have hcz47_0 : cI w42 gb454 0 0 := cZ BK454 0 rfl; have hcz47_1 : cI w42 gb454 1 0 := cZ BK454 1 rfl; have hcz47_2 : cI w42 gb454 2 0 := cZ BK454 2 rfl; have hfz47_0 := bF_q BK454.out 0; have hfz47_1 := bF_q BK454.out 1; have hfz47_2 := bF_q BK454.out 2))
    refine bodyPost_ret (results_cell_row rfl _ _ gb454 50 #[.int .i64 a1, .int .i64 (wrap64 (1 + t455)), .int .i64 x458002_1] (0, 0) _ rfl (by (with_reducible repeat (first | refine bN_q ?_ _ | refine bW_q ?_ | refine bL_q ?_ _)); refine blk_put (cs := #[.int .i64 a1, .int .i64 (wrap64 (1 + t455)), .int .i64 0]) ?_ 2 _ rfl; (with_reducible repeat (first | refine bN_q ?_ _ | refine bW_q ?_ | refine bL_q ?_ _)); refine blk_put (cs := #[.int .i64 a1, .int .i64 0, .int .i64 0]) ?_ 1 _ rfl; (with_reducible repeat (first | refine bN_q ?_ _ | refine bW_q ?_ | refine bL_q ?_ _)); refine blk_put (cs := #[.int .i64 0, .int .i64 0, .int .i64 0]) ?_ 0 _ rfl; (with_reducible repeat (first | refine bN_q ?_ _ | refine bW_q ?_ | refine bL_q ?_ _)); exact BK454.out) Try.underlying50 rfl (by kernel_rfl)) rfl ?_
    exact ⟨by first | rfl | (simp [eN_q, eS_q] <;> rfl) | (simp [*, eN_q, eS_q] <;> rfl), by repeat (with_reducible first | exact HI0.out | apply i2_q | apply i1_q | apply i0_q | apply i3_q | refine i4_q ?_ NB0_454.out _ | refine i4_q ?_ NB0_457.out _), by repeat (with_reducible first | exact HB.out | apply bA_q | apply pB_q | apply bD_q | refine bS_q ?_ (i5_q HI0.out) | refine bS_q ?_ GE454.out | refine bS_q ?_ GE457.out), by repeat (with_reducible first | exact HK.out | apply kS_q | apply kN_q | apply kD_q | apply kA_q | refine kF_q ?_ GW454.out _ | refine kF_q ?_ GW457.out _)⟩
   rw [if_pos c28] at H
   have c28b0 : (t461 == 1) = true := beq_iff_eq.mpr c28
   have c28b1 : (t461 != 1) = false := nE_q.mpr c28
   clear c28
   obtain ⟨y465, hy465⟩ : ∃ y_ : List Int, y_ = (([0, 99, 100] : List Int)) := ⟨_, rfl⟩
   replace H : ((spec_l6Rd_pick.f k1 s0_0 t462 3).bind fun bt468 => (if 0 ≤ bt468.1 then (if bt468.1 < (y465.length : Int) then (some (rd y465 bt468.1, (wrap64 (1 + t455)), x458002_1, bt468.2)) else (none)) else (none))) = some (r1, r2, r3, r4) := by first | (rw [hy465]; with_reducible exact H) | (have H2_ := (oS_q _ _).symm.trans H; rw [hy465]; with_reducible exact H2_) | (have H2_ := (oS_q _ _).symm.trans H; with_reducible exact H2_) | with_reducible exact H | (rw [hy465]; exact H) | exact H
   have Ny465 := Ae_q hy465
   clear hy465
   replace H := oB_q.mp H
   obtain ⟨⟨t468, t469⟩, A290, H⟩ := H
   replace H : (if 0 ≤ t468 then (if t468 < (y465.length : Int) then (some (rd y465 t468, (wrap64 (1 + t455)), x458002_1, t469)) else (none)) else (none)) = some (r1, r2, r3, r4) := H
   have A29 := Ae_q A290
   clear A290
   by_cases c30 : 0 ≤ t468
   rotate_left
   ·rw [if_neg c30] at H
    exact absurd H (by simp)
   rw [if_pos c30] at H
   have c30b0 : decide (0 ≤ t468) = true := dT_q c30
   clear c30
   by_cases c31 : t468 < (y465.length : Int)
   rotate_left
   ·rw [if_neg c31] at H
    exact absurd H (by simp)
   rw [if_pos c31] at H
   have c31b0 : decide (t468 < (y465.length : Int)) = true := dT_q c31
   clear c31
   simp only [oE_q, pE_q] at H
   obtain ⟨rfl, rfl, rfl, rfl⟩ := H
   go_wp2_with (first | ((with_reducible refine gC_q (f := 49) rfl ?_); refine gL_q (some 26) rfl rfl Try.func49 (by kernel_rfl) rfl #[.pointer (some ⟨g, 0, none⟩), .int .i64 60] rfl (by (try simp only [lM_q, lC_q, lN_q]); first | done | rfl | (simp only [lD_q, lT_q]; rfl)) ?_; (with_reducible refine (spec_l6Rd_pick.calls k1 g s0_0 x1001_1 60 t461 t462 w0 _ ?side1 ?side2 A18.out).mono ?_); (case side1 => repeat (with_reducible first | exact HI0.out | apply i2_q | apply i1_q | apply i0_q | apply i3_q | refine i4_q ?_ NB0_454.out _ | refine i4_q ?_ NB0_457.out _)); (case side2 => repeat (with_reducible first | exact HB.out | apply bA_q | apply pB_q | apply bD_q | refine bS_q ?_ (i5_q HI0.out) | refine bS_q ?_ GE454.out | refine bS_q ?_ GE457.out)); rintro e w32 ⟨rfl, hi, hb, hk⟩; refine ⟨_, rfl, ?_⟩; have n0_ := Ae_q (kB_q hk (g' := gb454) (o := .cells #[.int .i64 0, .int .i64 0, .int .i64 0] 50 (0, 0)) (bup BK454.out) NB454_0.out (by simp)); have n1_ := Ae_q (kB_q hk (g' := gb457) (o := .cells #[.int .i64 a1, .int .i64 (wrap64 (1 + t455)), .int .i64 x458002_1] 50 (0, 0)) (bup BK457.out) NB457_0.out (by simp)); have n2_ := Ae_q (kT_q (by repeat (with_reducible first | exact HK.out | apply kS_q | apply kN_q | apply kD_q | apply kA_q | refine kF_q ?_ GW454.out _ | refine kF_q ?_ GW457.out _)) hk (.inl rfl)); have n3_ := Ae_q (hb); have n4_ := Ae_q (hi); clear BK454; clear BK457; clear HK; clear HB; clear HI0; have BK454 := n0_; have BK457 := n1_; have HK := n2_; have HB := n3_; have HI0 := n4_; clear n0_ n1_ n2_ n3_ n4_; (try clear hb); (try clear hb2); (try clear hk); (try clear hi)) | ((with_reducible refine gD_q (N := 35) rfl ?_); refine Kd.R_lit kI_q _ 3 ?hg (N := 35) ?hd (xs := ([0, 99, 100] : List Int)) (inner := [.int .i64 0, .int .i64 99, .int .i64 100]) (ok := fun _ => True) (okp := fun _ => True) ?hr ?hp (fun _ hk => hk) trivial (bR_q _ _) (nR_q _) (by simp) ?_; (case hd => rfl); (case hg => rfl); (case hr => first | (go_simp; done) | (go_simp; rfl)); (case hp => exact (Reps.one (show Kd.M kI_q _ _ _ 0 [.int .i64 0] from rfl) (Reps.one (show Kd.M kI_q _ _ _ 99 [.int .i64 99] from rfl) (Reps.one (show Kd.M kI_q _ _ _ 100 [.int .i64 100] from rfl) (Reps.none _ _))))); intro v466 w33 ho34 hb hg_ hnew_; clear hg_ hnew_; (first | rw [← Ny465.out] at ho34 | (simp only [Int.reduceToNat] at ho34; rw [← Ny465.out] at ho34)); have n0_ := Ae_q (rL_q ho34 (keep_size (w := w) (g := g) (row := none) (by repeat (with_reducible first | exact HK.out | apply kS_q | apply kN_q | apply kD_q | apply kA_q | refine kF_q ?_ GW454.out _ | refine kF_q ?_ GW457.out _)))); have n1_ := Ae_q (bB_q (g := gb454) (o := .cells #[.int .i64 0, .int .i64 0, .int .i64 0] 50 (0, 0)) (bup BK454.out) hb); have n2_ := Ae_q (bB_q (g := gb457) (o := .cells #[.int .i64 a1, .int .i64 (wrap64 (1 + t455)), .int .i64 x458002_1] 50 (0, 0)) (bup BK457.out) hb); have n3_ := Ae_q (IsS81.below (by repeat (with_reducible first | exact HI0.out | apply i2_q | apply i1_q | apply i0_q | apply i3_q | refine i4_q ?_ NB0_454.out _ | refine i4_q ?_ NB0_457.out _)) hb); have n4_ := Ae_q (kT_q (by repeat (with_reducible first | exact HK.out | apply kS_q | apply kN_q | apply kD_q | apply kA_q | refine kF_q ?_ GW454.out _ | refine kF_q ?_ GW457.out _)) (kO_q hb g none) (.inl rfl)); have n5_ := Ae_q (bT_q (by repeat (with_reducible first | exact HB.out | apply bA_q | apply pB_q | apply bD_q | refine bS_q ?_ (i5_q HI0.out) | refine bS_q ?_ GE454.out | refine bS_q ?_ GE457.out)) hb); clear BK454; clear BK457; clear HI0; clear HK; clear HB; have HO467 := n0_; have BK454 := n1_; have BK457 := n2_; have HI0 := n3_; have HK := n4_; have HB := n5_; clear n0_ n1_ n2_ n3_ n4_ n5_; clear hb ho34) | ((with_reducible refine gC_q (f := 49) rfl ?_); refine gL_q (some 37) rfl rfl Try.func49 (by kernel_rfl) rfl #[.pointer (some ⟨g, 0, none⟩), .int .i64 3] rfl (by (try simp only [lM_q, lC_q, lN_q]); first | done | rfl | (simp only [lD_q, lT_q]; rfl)) ?_; (with_reducible refine (spec_l6Rd_pick.calls k1 g s0_0 t462 3 t468 t469 w0 _ ?side1 ?side2 A29.out).mono ?_); (case side1 => repeat (with_reducible first | exact HI0.out | apply i2_q | apply i1_q | apply i0_q | apply i3_q | refine i4_q ?_ NB0_454.out _ | refine i4_q ?_ NB0_457.out _)); (case side2 => repeat (with_reducible first | exact HB.out | apply bA_q | apply pB_q | apply bD_q | refine bS_q ?_ (i5_q HI0.out) | refine bS_q ?_ GE454.out | refine bS_q ?_ GE457.out)); rintro e w35 ⟨rfl, hi, hb, hk⟩; refine ⟨_, rfl, ?_⟩; have n0_ := Ae_q (kB_q hk (g' := gb454) (o := .cells #[.int .i64 0, .int .i64 0, .int .i64 0] 50 (0, 0)) (bup BK454.out) NB454_0.out (by simp)); have n1_ := Ae_q (kB_q hk (g' := gb457) (o := .cells #[.int .i64 a1, .int .i64 (wrap64 (1 + t455)), .int .i64 x458002_1] 50 (0, 0)) (bup BK457.out) NB457_0.out (by simp)); have n2_ := Ae_q (rM_q (rK_q (i6_q (show IsS81 w0 _ g s0_0 t462 from by repeat (with_reducible first | exact HI0.out | apply i2_q | apply i1_q | apply i0_q | apply i3_q | refine i4_q ?_ NB0_454.out _ | refine i4_q ?_ NB0_457.out _)) (rup HO467.out) (by decide)) hk (fun _ h => h.2)) (fun _ h => h.1)); have n3_ := Ae_q (kT_q (by repeat (with_reducible first | exact HK.out | apply kS_q | apply kN_q | apply kD_q | apply kA_q | refine kF_q ?_ GW454.out _ | refine kF_q ?_ GW457.out _)) hk (.inl rfl)); have n4_ := Ae_q (hb); have n5_ := Ae_q (hi); clear BK454; clear BK457; clear HO467; clear HK; clear HB; clear HI0; have BK454 := n0_; have BK457 := n1_; have HO467 := n2_; have HK := n3_; have HB := n4_; have HI0 := n5_; clear n0_ n1_ n2_ n3_ n4_ n5_; (try clear hb); (try clear hb2); (try clear hk); (try clear hi); obtain ⟨Ao36, co36, eo36⟩ := rS_q HO467.out; subst eo36; have p470 : 0 ≤ (t468 : Int) := oD_q (by assumption); have q470 : t468 < (y465.length : Int) := oD_q (by assumption); obtain ⟨ad470, e470, hx470_0⟩ := aI_q (rR_q HO467.out).2.2 t468 p470 q470; cases e470; replace p470 := eq_true p470; replace q470 := eq_true q470; have hnb37 := NB457_454.out; have hnc37 := NB454_457.out; have hnb38 := NB457_0.out; have hnc38 := NB0_457.out; have hcz39_0 : cI w35 gb457 0 a1 := cZ BK457 0 rfl; have hcz39_1 : cI w35 gb457 1 (wrap64 (1 + t455)) := cZ BK457 1 rfl; have hcz39_2 : cI w35 gb457 2 x458002_1 := cZ BK457 2 rfl; have hfz39_0 := bF_q BK457.out 0; have hfz39_1 := bF_q BK457.out 1; have hfz39_2 := bF_q BK457.out 2; have hnb40 := NB454_0.out; have hnc40 := NB0_454.out; have hcz41_0 : cI w35 gb454 0 0 := cZ BK454 0 rfl; have hcz41_1 : cI w35 gb454 1 0 := cZ BK454 1 rfl; have hcz41_2 : cI w35 gb454 2 0 := cZ BK454 2 rfl; have hfz41_0 := bF_q BK454.out 0; have hfz41_1 := bF_q BK454.out 1; have hfz41_2 := bF_q BK454.out 2))
   refine bodyPost_ret (results_cell_row rfl _ _ gb454 50 #[.int .i64 (rd y465 t468), .int .i64 (wrap64 (1 + t455)), .int .i64 x458002_1] (0, 0) _ rfl (by (with_reducible repeat (first | refine bN_q ?_ _ | refine bW_q ?_ | refine bL_q ?_ _)); refine blk_put (cs := #[.int .i64 (rd y465 t468), .int .i64 (wrap64 (1 + t455)), .int .i64 0]) ?_ 2 _ rfl; (with_reducible repeat (first | refine bN_q ?_ _ | refine bW_q ?_ | refine bL_q ?_ _)); refine blk_put (cs := #[.int .i64 (rd y465 t468), .int .i64 0, .int .i64 0]) ?_ 1 _ rfl; (with_reducible repeat (first | refine bN_q ?_ _ | refine bW_q ?_ | refine bL_q ?_ _)); refine blk_put (cs := #[.int .i64 0, .int .i64 0, .int .i64 0]) ?_ 0 _ rfl; (with_reducible repeat (first | refine bN_q ?_ _ | refine bW_q ?_ | refine bL_q ?_ _)); refine blk_far ?_ NB454_457.out _; (with_reducible repeat (first | refine bN_q ?_ _ | refine bW_q ?_ | refine bL_q ?_ _)); exact BK454.out) Try.underlying50 rfl (by kernel_rfl)) rfl ?_
   exact ⟨by first | rfl | (simp [eN_q, eS_q] <;> rfl) | (simp [*, eN_q, eS_q] <;> rfl), by repeat (with_reducible first | exact HI0.out | apply i2_q | apply i1_q | apply i0_q | apply i3_q | refine i4_q ?_ NB0_454.out _ | refine i4_q ?_ NB0_457.out _), by repeat (with_reducible first | exact HB.out | apply bA_q | apply pB_q | apply bD_q | refine bS_q ?_ (i5_q HI0.out) | refine bS_q ?_ GE454.out | refine bS_q ?_ GE457.out), by repeat (with_reducible first | exact HK.out | apply kS_q | apply kN_q | apply kD_q | apply kA_q | refine kF_q ?_ GW454.out _ | refine kF_q ?_ GW457.out _)⟩

mutual
def spec_l91Guests.j0 : Nat → List (S50) → Int → List Int → Int → Option ((List (S50)) × Int)
 | 0, _, _, _, _ => none
 | k + 1, x3, x4, x1000, x1001 => spec_l91Guests.l0 k x3 x4 0 x1000 x1001
def spec_l91Guests.l0 : Nat → List (S50) → Int → Int → List Int → Int → Option ((List (S50)) × Int)
 | 0, _, _, _, _, _ => none
 | k + 1, x3, x4, x5, x1000, x1001 => if x5 < x4 then ((spec_l6Rd_pick.f k x1000 x1001 2).bind fun bt480 => ((spec_l91Guest.f k x1000 bt480.2 (wrap64 ((wrap64 ((wrap64 (2 * x5)) + 1)) + bt480.1))).bind fun bt482 => (if x3.length < 5864062014805 then (spec_l91Guests.l0 k (x3 ++ [(⟨bt482.1, bt482.2.1, bt482.2.2.1⟩ : S50)]) x4 (wrap64 (x5 + 1)) x1000 bt482.2.2.2) else (none)))) else (some (x3, x1001))
end
def spec_l91Guests.f (k : Nat) (s0_0 : List Int) (s0_1 : Int) : Option ((List (S50)) × Int) := (some (([] : List (S50)) : List (S50))).bind fun y471 => ((spec_l6Rd_pick.f k s0_0 s0_1 8).bind fun bt474 => ((spec_l6Rd_pick.f k s0_0 bt474.2 20).bind fun bt476 => (if bt476.1 = 0 then ((spec_l6Rd_pick.f k s0_0 bt476.2 2).bind fun bt478 => (spec_l91Guests.j0 k y471 (wrap64 (10 + bt478.1)) s0_0 bt478.2)) else (spec_l91Guests.j0 k y471 bt474.1 s0_0 bt476.2))))
set_option maxHeartbeats 8000000 in
set_option maxRecDepth 100000 in
theorem spec_l91Guests.calls (k : Nat) (g : Nat) (s0_0 : List Int) (s0_1 : Int) (r1 : List (S50)) (r2 : Int) (w0 w : World) (hI : IsS81 w0 w g s0_0 s0_1) (hB : Below w0.heap.size w0 w) (h : spec_l91Guests.f k s0_0 s0_1 = some (r1, r2)) :
    Calls Try.prog 53 #[.pointer (some ⟨g, 0, none⟩)] w fun e w' => ∃ v0_ : Value, e = .returned (v0_) ∧ Kd.R k50 50 w' w.heap.size (fun _ => True) v0_ r1 ∧ IsS81 w0 w' g s0_0 r2 ∧ Below w0.heap.size w0 w' ∧ KeepBut w w' g none := by
 have HI0 := Ae_q hI
 have HK := Ae_q (KeepBut.refl w g none)
 have HL := Ae_q hB.size
 clear hI
 have HW0 := Ae_q hB.size
 have HB := Ae_q hB
 clear hB
 have H : ((some (([] : List (S50)) : List (S50))).bind fun y471 => ((spec_l6Rd_pick.f k s0_0 s0_1 8).bind fun bt474 => ((spec_l6Rd_pick.f k s0_0 bt474.2 20).bind fun bt476 => (if bt476.1 = 0 then ((spec_l6Rd_pick.f k s0_0 bt476.2 2).bind fun bt478 => (spec_l91Guests.j0 k y471 (wrap64 (10 + bt478.1)) s0_0 bt478.2)) else (spec_l91Guests.j0 k y471 bt474.1 s0_0 bt476.2))))) = some (r1, r2) := h
 clear h
 obtain ⟨y471, hy471⟩ : ∃ y_ : List (S50), y_ = (([] : List (S50))) := ⟨_, rfl⟩
 replace H : ((spec_l6Rd_pick.f k s0_0 s0_1 8).bind fun bt474 => ((spec_l6Rd_pick.f k s0_0 bt474.2 20).bind fun bt476 => (if bt476.1 = 0 then ((spec_l6Rd_pick.f k s0_0 bt476.2 2).bind fun bt478 => (spec_l91Guests.j0 k y471 (wrap64 (10 + bt478.1)) s0_0 bt478.2)) else (spec_l91Guests.j0 k y471 bt474.1 s0_0 bt476.2)))) = some (r1, r2) := by first | (rw [hy471]; with_reducible exact H) | (have H2_ := (oS_q _ _).symm.trans H; rw [hy471]; with_reducible exact H2_) | (have H2_ := (oS_q _ _).symm.trans H; with_reducible exact H2_) | with_reducible exact H | (rw [hy471]; exact H) | exact H
 have Ny471 := Ae_q hy471
 clear hy471
 replace H := oB_q.mp H
 obtain ⟨⟨t474, t475⟩, A20, H⟩ := H
 replace H : ((spec_l6Rd_pick.f k s0_0 t475 20).bind fun bt476 => (if bt476.1 = 0 then ((spec_l6Rd_pick.f k s0_0 bt476.2 2).bind fun bt478 => (spec_l91Guests.j0 k y471 (wrap64 (10 + bt478.1)) s0_0 bt478.2)) else (spec_l91Guests.j0 k y471 t474 s0_0 bt476.2))) = some (r1, r2) := H
 have A2 := Ae_q A20
 clear A20
 replace H := oB_q.mp H
 obtain ⟨⟨t476, t477⟩, A30, H⟩ := H
 replace H : (if t476 = 0 then ((spec_l6Rd_pick.f k s0_0 t477 2).bind fun bt478 => (spec_l91Guests.j0 k y471 (wrap64 (10 + bt478.1)) s0_0 bt478.2)) else (spec_l91Guests.j0 k y471 t474 s0_0 t477)) = some (r1, r2) := H
 have A3 := Ae_q A30
 clear A30
 have HC4 := Ae_q H
 clear H
 go_enter Try.func53, Try.ntmps53
 go_upto_if 11 with (first | ((with_reducible refine gD_q (N := 6) rfl ?_); refine Kd.R_lit k50 _ 50 ?hg (N := 6) ?hd (xs := ([] : List (S50))) (inner := []) (ok := fun _ => True) (okp := fun _ => True) ?hr ?hp (fun _ hk => hk) trivial (bR_q _ _) (nR_q _) (by simp) ?_; (case hd => rfl); (case hg => rfl); (case hr => first | (go_simp; done) | (go_simp; rfl)); (case hp => exact (Reps.none _ _)); intro v472 w5 ho6 hb hg_ hnew_; clear hg_ hnew_; (first | rw [← Ny471.out] at ho6 | (simp only [Int.reduceToNat] at ho6; rw [← Ny471.out] at ho6)); have n0_ := Ae_q (rL_q ho6 (keep_size (w := w) (g := g) (row := none) (by repeat (with_reducible first | exact HK.out | apply kS_q | apply kN_q | apply kD_q | apply kA_q)))); have n1_ := Ae_q (IsS81.below (by repeat (with_reducible first | exact HI0.out | apply i2_q | apply i1_q | apply i0_q | apply i3_q)) hb); have n2_ := Ae_q (kT_q (by repeat (with_reducible first | exact HK.out | apply kS_q | apply kN_q | apply kD_q | apply kA_q)) (kO_q hb g none) (.inl rfl)); have n3_ := Ae_q (bT_q (by repeat (with_reducible first | exact HB.out | apply bA_q | apply pB_q | apply bD_q | refine bS_q ?_ (i5_q HI0.out))) hb); clear HI0; clear HK; clear HB; have HO473 := n0_; have HI0 := n1_; have HK := n2_; have HB := n3_; clear n0_ n1_ n2_ n3_; clear hb ho6) | ((with_reducible refine gC_q (f := 49) rfl ?_); refine gL_q (some 8) rfl rfl Try.func49 (by kernel_rfl) rfl #[.pointer (some ⟨g, 0, none⟩), .int .i64 8] rfl (by (try simp only [lM_q, lC_q, lN_q]); first | done | rfl | (simp only [lD_q, lT_q]; rfl)) ?_; (with_reducible refine (spec_l6Rd_pick.calls k g s0_0 s0_1 8 t474 t475 w0 _ ?side1 ?side2 A2.out).mono ?_); (case side1 => repeat (with_reducible first | exact HI0.out | apply i2_q | apply i1_q | apply i0_q | apply i3_q)); (case side2 => repeat (with_reducible first | exact HB.out | apply bA_q | apply pB_q | apply bD_q | refine bS_q ?_ (i5_q HI0.out))); rintro e w7 ⟨rfl, hi, hb, hk⟩; refine ⟨_, rfl, ?_⟩; have n0_ := Ae_q (rM_q (rK_q (i6_q (show IsS81 w0 _ g s0_0 s0_1 from by repeat (with_reducible first | exact HI0.out | apply i2_q | apply i1_q | apply i0_q | apply i3_q)) (rup HO473.out) (by decide)) hk (fun _ h => h.2)) (fun _ h => h.1)); have n1_ := Ae_q (kT_q (by repeat (with_reducible first | exact HK.out | apply kS_q | apply kN_q | apply kD_q | apply kA_q)) hk (.inl rfl)); have n2_ := Ae_q (hb); have n3_ := Ae_q (hi); clear HO473; clear HK; clear HB; clear HI0; have HO473 := n0_; have HK := n1_; have HB := n2_; have HI0 := n3_; clear n0_ n1_ n2_ n3_; (try clear hb); (try clear hb2); (try clear hk); (try clear hi)) | ((with_reducible refine gC_q (f := 49) rfl ?_); refine gL_q (some 10) rfl rfl Try.func49 (by kernel_rfl) rfl #[.pointer (some ⟨g, 0, none⟩), .int .i64 20] rfl (by (try simp only [lM_q, lC_q, lN_q]); first | done | rfl | (simp only [lD_q, lT_q]; rfl)) ?_; (with_reducible refine (spec_l6Rd_pick.calls k g s0_0 t475 20 t476 t477 w0 _ ?side1 ?side2 A3.out).mono ?_); (case side1 => repeat (with_reducible first | exact HI0.out | apply i2_q | apply i1_q | apply i0_q | apply i3_q)); (case side2 => repeat (with_reducible first | exact HB.out | apply bA_q | apply pB_q | apply bD_q | refine bS_q ?_ (i5_q HI0.out))); rintro e w8 ⟨rfl, hi, hb, hk⟩; refine ⟨_, rfl, ?_⟩; have n0_ := Ae_q (rM_q (rK_q (i6_q (show IsS81 w0 _ g s0_0 t475 from by repeat (with_reducible first | exact HI0.out | apply i2_q | apply i1_q | apply i0_q | apply i3_q)) (rup HO473.out) (by decide)) hk (fun _ h => h.2)) (fun _ h => h.1)); have n1_ := Ae_q (kT_q (by repeat (with_reducible first | exact HK.out | apply kS_q | apply kN_q | apply kD_q | apply kA_q)) hk (.inl rfl)); have n2_ := Ae_q (hb); have n3_ := Ae_q (hi); clear HO473; clear HK; clear HB; clear HI0; have HO473 := n0_; have HK := n1_; have HB := n2_; have HI0 := n3_; clear n0_ n1_ n2_ n3_; (try clear hb); (try clear hb2); (try clear hk); (try clear hi)))
 (try simp only [Act.put, sA_q, sZ_q, sS_q])
 go_cut [4] (fun v4 wc => ∃ (kq : Nat) (x4_3 : Int) (x1001_3 : Int), v4 = .int .i64 x4_3 ∧ Aside0 (spec_l91Guests.j0 kq y471 x4_3 s0_0 x1001_3 = some (r1, r2)) ∧ Aside0 (kq ≤ k) ∧ Aside0 (Kd.R k50 50 wc w.heap.size (fun _ => True) v472 y471) ∧ Aside0 (IsS81 w0 wc g s0_0 x1001_3) ∧ Aside0 (KeepBut w wc g none) ∧ Aside0 (Below w0.heap.size w0 wc))
 case first =>
  have H := HC4.out
  clear HC4
  by_cases c9 : t476 = 0
  rotate_left
  ·rw [if_neg c9] at H
   have c9b0 : (t476 == 0) = false := fN_q.mpr c9
   have c9b1 : (t476 != 0) = true := nI_q.mpr c9
   (first | rw [c9b0] | (simp only [i64_w, i32_w]; rw [c9b0]) | skip)
   have H' := Ae_q H
   clear H
   go_wp2
   go_meet
   case rel => exact ⟨_, (t474), (t477), (by first | rfl | (simp; done) | (simp [*]; done)), H', ⟨by first | omega | exact nR_q _⟩, ⟨rup HO473.out⟩, ⟨by repeat (with_reducible first | exact HI0.out | apply i2_q | apply i1_q | apply i0_q | apply i3_q)⟩, ⟨by repeat (with_reducible first | exact HK.out | apply kS_q | apply kN_q | apply kD_q | apply kA_q)⟩, ⟨by repeat (with_reducible first | exact HB.out | apply bA_q | apply pB_q | apply bD_q | refine bS_q ?_ (i5_q HI0.out))⟩⟩
  rw [if_pos c9] at H
  have c9b0 : (t476 == 0) = true := beq_iff_eq.mpr c9
  have c9b1 : (t476 != 0) = false := nE_q.mpr c9
  clear c9
  (first | rw [c9b0] | (simp only [i64_w, i32_w]; rw [c9b0]) | skip)
  replace H := oB_q.mp H
  obtain ⟨⟨t478, t479⟩, A100, H⟩ := H
  replace H : (spec_l91Guests.j0 k y471 (wrap64 (10 + t478)) s0_0 t479) = some (r1, r2) := H
  have A10 := Ae_q A100
  clear A100
  have H' := Ae_q H
  clear H
  go_wp2_with (first | ((with_reducible refine gC_q (f := 49) rfl ?_); refine gL_q (some 13) rfl rfl Try.func49 (by kernel_rfl) rfl #[.pointer (some ⟨g, 0, none⟩), .int .i64 2] rfl (by (try simp only [lM_q, lC_q, lN_q]); first | done | rfl | (simp only [lD_q, lT_q]; rfl)) ?_; (with_reducible refine (spec_l6Rd_pick.calls k g s0_0 t477 2 t478 t479 w0 _ ?side1 ?side2 A10.out).mono ?_); (case side1 => repeat (with_reducible first | exact HI0.out | apply i2_q | apply i1_q | apply i0_q | apply i3_q)); (case side2 => repeat (with_reducible first | exact HB.out | apply bA_q | apply pB_q | apply bD_q | refine bS_q ?_ (i5_q HI0.out))); rintro e w11 ⟨rfl, hi, hb, hk⟩; refine ⟨_, rfl, ?_⟩; have n0_ := Ae_q (rM_q (rK_q (i6_q (show IsS81 w0 _ g s0_0 t477 from by repeat (with_reducible first | exact HI0.out | apply i2_q | apply i1_q | apply i0_q | apply i3_q)) (rup HO473.out) (by decide)) hk (fun _ h => h.2)) (fun _ h => h.1)); have n1_ := Ae_q (kT_q (by repeat (with_reducible first | exact HK.out | apply kS_q | apply kN_q | apply kD_q | apply kA_q)) hk (.inl rfl)); have n2_ := Ae_q (hb); have n3_ := Ae_q (hi); clear HO473; clear HK; clear HB; clear HI0; have HO473 := n0_; have HK := n1_; have HB := n2_; have HI0 := n3_; clear n0_ n1_ n2_ n3_; (try clear hb); (try clear hb2); (try clear hk); (try clear hi)))
  go_meet
  case rel => exact ⟨_, (wrap64 (10 + t478)), (t479), (by first | rfl | (simp; done) | (simp [*]; done)), H', ⟨by first | omega | exact nR_q _⟩, ⟨rup HO473.out⟩, ⟨by repeat (with_reducible first | exact HI0.out | apply i2_q | apply i1_q | apply i0_q | apply i3_q)⟩, ⟨by repeat (with_reducible first | exact HK.out | apply kS_q | apply kN_q | apply kD_q | apply kA_q)⟩, ⟨by repeat (with_reducible first | exact HB.out | apply bA_q | apply pB_q | apply bD_q | refine bS_q ?_ (i5_q HI0.out))⟩⟩
 case rest =>
  clear HC4
  try clear p2
  try clear c4
  try clear c5
  try clear p6
  try clear c9
  try clear c9b0
  try clear c9b1
  obtain ⟨kq, x4_3, x1001_3, rfl, HA, HJ3, HO_3, HI0, HK, HB⟩ := hcut
  cases kq with
  | zero => exact absurd HA.out (by simp [spec_l91Guests.j0])
  | succ kj3 =>
   have H := HA.out
   clear HA
   simp only [spec_l91Guests.j0] at H
   have H' := Ae_q H
   clear H
   go_wp2
   go_loopg [3, 5] kj3 (fun kq v3 v5 w' => ∃ (x3_2 : List (S50)) (x5_2 : Int) (x1001_2 : Int), v5 = .int .i64 x5_2 ∧ Aside0 (spec_l91Guests.l0 kq x3_2 x4_3 x5_2 s0_0 x1001_2 = some (r1, r2)) ∧ Aside0 (kq ≤ kj3) ∧ Aside0 (Kd.R k50 50 w' w.heap.size (fun _ => True) v3 x3_2) ∧ Aside0 (IsS81 w0 w' g s0_0 x1001_2) ∧ Aside0 (KeepBut w w' g none) ∧ Aside0 (Below w0.heap.size w0 w'))
   case atStart => exact ⟨(y471), (0), (x1001_3), (by first | rfl | (simp; done) | (simp [*]; done)), H', ⟨nR_q _⟩, ⟨rup HO_3.out⟩, ⟨by repeat (with_reducible first | exact HI0.out | apply i2_q | apply i1_q | apply i0_q | apply i3_q)⟩, ⟨by repeat (with_reducible first | exact HK.out | apply kS_q | apply kN_q | apply kD_q | apply kA_q)⟩, ⟨by repeat (with_reducible first | exact HB.out | apply bA_q | apply pB_q | apply bD_q | refine bS_q ?_ (i5_q HI0.out))⟩⟩
   case round =>
    clear H'
    try clear p2
    try clear c4
    try clear c5
    try clear p6
    try clear c9
    try clear c9b0
    try clear c9b1
    try clear p2
    try clear p6
    obtain ⟨x3_2, x5_2, x1001_2, rfl, HA, HK2, HO_3, HI0, HK, HB⟩ := hrel
    cases gk with
    | zero => exact absurd HA.out (by simp [spec_l91Guests.l0])
    | succ k2 =>
     have H := HA.out
     clear HA
     simp only [spec_l91Guests.l0] at H
     by_cases c12 : x5_2 < x4_3
     rotate_left
     ·rw [if_neg c12] at H
      have c12b0 : decide (x5_2 < x4_3) = false := dF_q c12
      clear c12
      simp only [oE_q, pE_q] at H
      obtain ⟨rfl, rfl⟩ := H
      go_wp2
      go_ret
      exact ⟨_, by first | rfl | (simp [eN_q, eS_q] <;> rfl) | (simp [*, eN_q, eS_q] <;> rfl), rup HO_3.out, by repeat (with_reducible first | exact HI0.out | apply i2_q | apply i1_q | apply i0_q | apply i3_q), by repeat (with_reducible first | exact HB.out | apply bA_q | apply pB_q | apply bD_q | refine bS_q ?_ (i5_q HI0.out)), by repeat (with_reducible first | exact HK.out | apply kS_q | apply kN_q | apply kD_q | apply kA_q)⟩
     rw [if_pos c12] at H
     have c12b0 : decide (x5_2 < x4_3) = true := dT_q c12
     clear c12
     replace H := oB_q.mp H
     obtain ⟨⟨t480, t481⟩, A130, H⟩ := H
     replace H : ((spec_l91Guest.f k2 s0_0 t481 (wrap64 ((wrap64 ((wrap64 (2 * x5_2)) + 1)) + t480))).bind fun bt482 => (if x3_2.length < 5864062014805 then (spec_l91Guests.l0 k2 (x3_2 ++ [(⟨bt482.1, bt482.2.1, bt482.2.2.1⟩ : S50)]) x4_3 (wrap64 (x5_2 + 1)) s0_0 bt482.2.2.2) else (none))) = some (r1, r2) := H
     have A13 := Ae_q A130
     clear A130
     replace H := oB_q.mp H
     obtain ⟨⟨t482, t483, t484, t485⟩, A140, H⟩ := H
     replace H : (if x3_2.length < 5864062014805 then (spec_l91Guests.l0 k2 (x3_2 ++ [(⟨t482, t483, t484⟩ : S50)]) x4_3 (wrap64 (x5_2 + 1)) s0_0 t485) else (none)) = some (r1, r2) := H
     have A14 := Ae_q A140
     clear A140
     by_cases c15 : x3_2.length < 5864062014805
     rotate_left
     ·rw [if_neg c15] at H
      exact absurd H (by simp)
     rw [if_pos c15] at H
     have LMc15 := Ae_q c15
     clear c15
     obtain ⟨y486, hy486⟩ : ∃ y_ : List (S50), y_ = (x3_2 ++ [(⟨t482, t483, t484⟩ : S50)]) := ⟨_, rfl⟩
     replace H : (spec_l91Guests.l0 k2 y486 x4_3 (wrap64 (x5_2 + 1)) s0_0 t485) = some (r1, r2) := by first | (rw [hy486]; with_reducible exact H) | (have H2_ := (oS_q _ _).symm.trans H; rw [hy486]; with_reducible exact H2_) | (have H2_ := (oS_q _ _).symm.trans H; with_reducible exact H2_) | with_reducible exact H | (rw [hy486]; exact H) | exact H
     have Ny486 := Ae_q hy486
     clear hy486
     have H' := Ae_q H
     clear H
     go_wp2_with (first | ((with_reducible refine gC_q (f := 49) rfl ?_); refine gL_q (some 26) rfl rfl Try.func49 (by kernel_rfl) rfl #[.pointer (some ⟨g, 0, none⟩), .int .i64 2] rfl (by (try simp only [lM_q, lC_q, lN_q]); first | done | rfl | (simp only [lD_q, lT_q]; rfl)) ?_; (with_reducible refine (spec_l6Rd_pick.calls k2 g s0_0 x1001_2 2 t480 t481 w0 _ ?side1 ?side2 A13.out).mono ?_); (case side1 => repeat (with_reducible first | exact HI0.out | apply i2_q | apply i1_q | apply i0_q | apply i3_q)); (case side2 => repeat (with_reducible first | exact HB.out | apply bA_q | apply pB_q | apply bD_q | refine bS_q ?_ (i5_q HI0.out))); rintro e w16 ⟨rfl, hi, hb, hk⟩; refine ⟨_, rfl, ?_⟩; have n0_ := Ae_q (rM_q (rK_q (i6_q (show IsS81 w0 _ g s0_0 x1001_2 from by repeat (with_reducible first | exact HI0.out | apply i2_q | apply i1_q | apply i0_q | apply i3_q)) (rup HO_3.out) (by decide)) hk (fun _ h => h.2)) (fun _ h => h.1)); have n1_ := Ae_q (kT_q (by repeat (with_reducible first | exact HK.out | apply kS_q | apply kN_q | apply kD_q | apply kA_q)) hk (.inl rfl)); have n2_ := Ae_q (hb); have n3_ := Ae_q (hi); clear HO_3; clear HK; clear HB; clear HI0; have HO_3 := n0_; have HK := n1_; have HB := n2_; have HI0 := n3_; clear n0_ n1_ n2_ n3_; (try clear hb); (try clear hb2); (try clear hk); (try clear hi)) | ((with_reducible refine gC_q (f := 68) rfl ?_); refine gL_q (some 28) rfl rfl Try.func68 (by kernel_rfl) rfl #[.pointer (some ⟨g, 0, none⟩), .int .i64 (wrap64 ((wrap64 ((wrap64 (2 * x5_2)) + 1)) + t480))] rfl (by (try simp only [lM_q, lC_q, lN_q]); first | done | rfl | (simp only [lD_q, lT_q]; rfl)) ?_; (with_reducible refine (spec_l91Guest.calls k2 g s0_0 t481 (wrap64 ((wrap64 ((wrap64 (2 * x5_2)) + 1)) + t480)) t482 t483 t484 t485 w0 _ ?side1 ?side2 A14.out).mono ?_); (case side1 => repeat (with_reducible first | exact HI0.out | apply i2_q | apply i1_q | apply i0_q | apply i3_q)); (case side2 => repeat (with_reducible first | exact HB.out | apply bA_q | apply pB_q | apply bD_q | refine bS_q ?_ (i5_q HI0.out))); rintro e w17 ⟨rfl, hi, hb, hk⟩; refine ⟨_, rfl, ?_⟩; have n0_ := Ae_q (rM_q (rK_q (i6_q (show IsS81 w0 _ g s0_0 t481 from by repeat (with_reducible first | exact HI0.out | apply i2_q | apply i1_q | apply i0_q | apply i3_q)) (rup HO_3.out) (by decide)) hk (fun _ h => h.2)) (fun _ h => h.1)); have n1_ := Ae_q (kT_q (by repeat (with_reducible first | exact HK.out | apply kS_q | apply kN_q | apply kD_q | apply kA_q)) hk (.inl rfl)); have n2_ := Ae_q (hb); have n3_ := Ae_q (hi); clear HO_3; clear HK; clear HB; clear HI0; have HO_3 := n0_; have HK := n1_; have HB := n2_; have HI0 := n3_; clear n0_ n1_ n2_ n3_; (try clear hb); (try clear hb2); (try clear hk); (try clear hi)) | ((with_reducible refine gate_builtin (b := .append) (xs := #[.tmp 20, .tmp 29]) rfl ?_); at_builtin; refine Kd.R_append k50 w.heap.size rfl (.tmp 20) (.tmp 29) 44 50 (.agg #[(.int .i64 0), (.int .i64 0), (.int .i64 0)]) 24 rfl Try.underlying44 info50 rfl (by decide) (by omega) u3 x3_2 (⟨t482, t483, t484⟩ : S50) [.int .i64 t482, .int .i64 t483, .int .i64 t484] (fun _ => True) (fun _ => False) rfl rfl ?aP (fun _ hk => hk.elim) ?aF ?aO (bR_q _ _) ?aS ?aL ?_; (case aP => exact k50_mkM _ _ _ (⟨t482, t483, t484⟩ : S50)); (case aF => exact (fun _ _ => trivial)); (case aO => exact (rup HO_3.out)); (case aS => exact (keep_size (w := w) (g := g) (row := none) (by repeat (with_reducible first | exact HK.out | apply kS_q | apply kN_q | apply kD_q | apply kA_q)))); (case aL => have := LMc15.out; omega); intro v487 w18 ho hb hg hat; rw [← Ny486.out] at ho; have n0_ := Ae_q (IsS81.grown (by repeat (with_reducible first | exact HI0.out | apply i2_q | apply i1_q | apply i0_q | apply i3_q)) hg (IsS81.own_ne HI0.out HO_3.out (by decide))); have n1_ := Ae_q (below_weaken (by repeat (with_reducible first | exact HB.out | apply bA_q | apply pB_q | apply bD_q | refine bS_q ?_ (i5_q HI0.out))) HL.out hb); have n2_ := Ae_q (kT_q (by repeat (with_reducible first | exact HK.out | apply kS_q | apply kN_q | apply kD_q | apply kA_q)) (KeepBut.of_grown hg g) (Kd.R_base2 HO_3.out)); have n3_ := Ae_q (ho); clear HI0; clear HB; clear HK; clear HO_3; have HI0 := n0_; have HB := n1_; have HK := n2_; have HO488 := n3_; clear n0_ n1_ n2_ n3_; clear ho hb hg hat))
     go_roundg k2
     case measure => have := HJ3.out; have := HK2.out; omega
     case rel => exact ⟨(y486), (wrap64 (x5_2 + 1)), (t485), (by first | rfl | (simp; done) | (simp [*]; done)), H', ⟨by have := HJ3.out; have := HK2.out; omega⟩, ⟨rup HO488.out⟩, ⟨by repeat (with_reducible first | exact HI0.out | apply i2_q | apply i1_q | apply i0_q | apply i3_q)⟩, ⟨by repeat (with_reducible first | exact HK.out | apply kS_q | apply kN_q | apply kD_q | apply kA_q)⟩, ⟨by repeat (with_reducible first | exact HB.out | apply bA_q | apply pB_q | apply bD_q | refine bS_q ?_ (i5_q HI0.out))⟩⟩

def spec_DrawWatchWrong.f (k : Nat) (l0 : List Int) : Option ((List (S50)) × (List (S27))) := (spec_l6Open.f l0).bind fun bt489 => ((spec_l91Guests.f k bt489.1 bt489.2).bind fun bt492 => ((spec_l92Events.f k bt489.1 bt492.2).bind fun bt496 => (some (bt492.1, bt496.1))))
set_option maxHeartbeats 8000000 in
set_option maxRecDepth 100000 in
theorem spec_DrawWatchWrong.calls (k : Nat) (A0 : Option Addr) (c0 : Nat) (l0 : List Int) (r1 : List (S50)) (r2 : List (S27)) (w : World) (hr0 : Kd.C (Kd.int .u8) w A0 l0.length l0) (hc0 : l0.length ≤ c0) (h : spec_DrawWatchWrong.f k l0 = some (r1, r2)) :
    Calls Try.prog 33 #[.slice A0 l0.length c0] w fun e w' => ∃ v0_ v1_ : Value, e = .returned (.tuple #[v0_, v1_]) ∧ Kd.R k50 50 w' w.heap.size (fun _ => True) v0_ r1 ∧ Kd.R k27 27 w' w.heap.size (fun _ => True) v1_ r2 ∧ Below w.heap.size w w' := by
 have HR0 := Ae_q hr0
 have HC0 := Ae_q hc0
 clear hr0 hc0
 have HB := Ae_q (bR_q w.heap.size w)
 have H : ((spec_l6Open.f l0).bind fun bt489 => ((spec_l91Guests.f k bt489.1 bt489.2).bind fun bt492 => ((spec_l92Events.f k bt489.1 bt492.2).bind fun bt496 => (some (bt492.1, bt496.1))))) = some (r1, r2) := h
 clear h
 replace H := oB_q.mp H
 obtain ⟨⟨t489, t490⟩, A20, H⟩ := H
 replace H : ((spec_l91Guests.f k t489 t490).bind fun bt492 => ((spec_l92Events.f k t489 bt492.2).bind fun bt496 => (some (bt492.1, bt496.1)))) = some (r1, r2) := H
 have A2 := Ae_q A20
 clear A20
 replace H := oB_q.mp H
 obtain ⟨⟨t492, t495⟩, A30, H⟩ := H
 replace H : ((spec_l92Events.f k t489 t495).bind fun bt496 => (some (t492, bt496.1))) = some (r1, r2) := H
 have A3 := Ae_q A30
 clear A30
 replace H := oB_q.mp H
 obtain ⟨⟨t496, t499⟩, A40, H⟩ := H
 replace H : (some (t492, t496)) = some (r1, r2) := H
 have A4 := Ae_q A40
 clear A40
 simp only [oE_q, pE_q] at H
 obtain ⟨rfl, rfl⟩ := H
 go_enter Try.func33, Try.ntmps33
 go_wp2_with (first | ((with_reducible refine gC_q (f := 43) rfl ?_); refine gL_q (some 7) rfl rfl Try.func43 (by kernel_rfl) rfl #[.slice A0 l0.length c0] rfl (by (try simp only [lM_q, lC_q, lN_q]); first | done | rfl | (simp only [lD_q, lT_q]; rfl)) ?_; (with_reducible refine (spec_l6Open.calls _ _ l0 t489 t490 w _ ?side1 ?side2 ?side3 A2.out).mono ?_); (case side1 => repeat (with_reducible first | exact HB.out | apply bA_q | apply pB_q | apply bD_q)); (case side2 => exact HR0.out); (case side3 => exact HC0.out); rintro e w5 ⟨g491, rfl, hi, hb, hb2⟩; refine ⟨_, rfl, ?_⟩; have n0_ := Ae_q (hb); have n1_ := Ae_q (hi); clear HB; have HB := n0_; have HI491 := n1_; clear n0_ n1_; (try clear hb); (try clear hb2); (try clear hk); (try clear hi)) | ((with_reducible refine gC_q (f := 53) rfl ?_); refine gL_q (some 9) rfl rfl Try.func53 (by kernel_rfl) rfl #[.pointer (some ⟨g491, 0, none⟩)] rfl (by (try simp only [lM_q, lC_q, lN_q]); first | done | rfl | (simp only [lD_q, lT_q]; rfl)) ?_; (with_reducible refine (spec_l91Guests.calls k g491 t489 t490 t492 t495 w _ ?side1 ?side2 A3.out).mono ?_); (case side1 => repeat (with_reducible first | exact HI491.out | apply i2_q | apply i1_q | apply i0_q | apply i3_q)); (case side2 => repeat (with_reducible first | exact HB.out | apply bA_q | apply pB_q | apply bD_q | refine bS_q ?_ (i5_q HI491.out))); rintro e w6 ⟨v493, rfl, ho0, hi, hb, hk⟩; refine ⟨_, rfl, ?_⟩; have n0_ := Ae_q (rL_q ho0 (bZ_q (by repeat (with_reducible first | exact HB.out | apply bA_q | apply pB_q | apply bD_q | refine bS_q ?_ (i5_q HI491.out))))); have n1_ := Ae_q (hb); have n2_ := Ae_q (hi); clear HB; clear HI491; have HO494 := n0_; have HB := n1_; have HI491 := n2_; clear n0_ n1_ n2_; (try clear hb); (try clear hb2); (try clear hk); (try clear hi); (try clear ho0)) | ((with_reducible refine gC_q (f := 42) rfl ?_); refine gL_q (some 12) rfl rfl Try.func42 (by kernel_rfl) rfl #[.pointer (some ⟨g491, 0, none⟩)] rfl (by (try simp only [lM_q, lC_q, lN_q]); first | done | rfl | (simp only [lD_q, lT_q]; rfl)) ?_; (with_reducible refine (spec_l92Events.calls k g491 t489 t495 t496 t499 w _ ?side1 ?side2 A4.out).mono ?_); (case side1 => repeat (with_reducible first | exact HI491.out | apply i2_q | apply i1_q | apply i0_q | apply i3_q)); (case side2 => repeat (with_reducible first | exact HB.out | apply bA_q | apply pB_q | apply bD_q | refine bS_q ?_ (i5_q HI491.out))); rintro e w7 ⟨v497, rfl, ho0, hi, hb, hk⟩; refine ⟨_, rfl, ?_⟩; have n0_ := Ae_q (rM_q (rK_q (i6_q (show IsS81 w _ g491 t489 t495 from by repeat (with_reducible first | exact HI491.out | apply i2_q | apply i1_q | apply i0_q | apply i3_q)) (rup HO494.out) (by decide)) hk (fun _ h => h.2)) (fun _ h => h.1)); have n1_ := Ae_q (rL_q ho0 (bZ_q (by repeat (with_reducible first | exact HB.out | apply bA_q | apply pB_q | apply bD_q | refine bS_q ?_ (i5_q HI491.out))))); have n2_ := Ae_q (hb); have n3_ := Ae_q (hi); clear HO494; clear HB; clear HI491; have HO494 := n0_; have HO498 := n1_; have HB := n2_; have HI491 := n3_; clear n0_ n1_ n2_ n3_; (try clear hb); (try clear hb2); (try clear hk); (try clear hi); (try clear ho0)))
 go_ret2
 exact ⟨_, _, by first | rfl | (simp [eN_q, eS_q] <;> rfl) | (simp [*, eN_q, eS_q] <;> rfl), rup HO494.out, rup HO498.out, by repeat (with_reducible first | exact HB.out | apply bA_q | apply pB_q | apply bD_q | refine bS_q ?_ (i5_q HI491.out))⟩

def impl_guestValid.f (a0_0 : Int) (a0_1 : Int) (a0_2 : Int) : Option (Bool) := (impl_within.f a0_0 1 99).bind fun t501 => (if t501 = true then ((impl_within.f a0_1 1 4).bind fun t502 => (if t502 = true then ((impl_isSet.f a0_2).bind fun t503 => (some t503)) else (some false))) else (some false))
set_option maxHeartbeats 8000000 in
set_option maxRecDepth 100000 in
theorem impl_guestValid.calls (a0_0 : Int) (a0_1 : Int) (a0_2 : Int) (r : Bool) (w : World) (h : impl_guestValid.f a0_0 a0_1 a0_2 = some r) :
    Calls Try.prog 58 #[.agg #[.int .i64 a0_0, .int .i64 a0_1, .int .i64 a0_2]] w fun e w' => e = .returned (.bool r) ∧ Below w.heap.size w w' := by
 have hu50 := Try.underlying50
 have HB := Ae_q (bR_q w.heap.size w)
 have H : ((impl_within.f a0_0 1 99).bind fun t501 => (if t501 = true then ((impl_within.f a0_1 1 4).bind fun t502 => (if t502 = true then ((impl_isSet.f a0_2).bind fun t503 => (some t503)) else (some false))) else (some false))) = some r := h
 clear h
 replace H := oB_q.mp H
 obtain ⟨t501, A20, H⟩ := H
 replace H : (if t501 = true then ((impl_within.f a0_1 1 4).bind fun t502 => (if t502 = true then ((impl_isSet.f a0_2).bind fun t503 => (some t503)) else (some false))) else (some false)) = some r := H
 have A2 := Ae_q A20
 clear A20
 by_cases c3 : t501 = true
 rotate_left
 ·replace c3 := fM_q.mpr c3
  subst c3
  have H1 : (some false) = some r := by rw [if_neg (show ¬ (false = true) by decide)] at H; exact H
  clear H
  have H := H1
  clear H1
  obtain rfl := oI_q H
  go_enter Try.func58, Try.ntmps58
  go_wp2_with (first | ((with_reducible refine gD_q (N := 1) rfl ?_); refine bE_q ?hg (N := 1) ?hd (cs := #[.int .i64 a0_0, .int .i64 a0_1, .int .i64 a0_2]) (t := 50) ?hr ?_; (case hd => rfl); (case hg => rfl); (case hr => first | (go_simp; done) | (go_simp; rfl)); intro gb500 hg w11 hbox hb; have n0_ := Ae_q (bT_q (bel HB.out) hb); have n1_ := Ae_q (hbox); have n2_ := Ae_q ((by rw [hg]; exact (bZ_q (bel HB.out)) : w.heap.size ≤ gb500)); have n3_ := Ae_q ((by rw [hg]; exact (bZ_q (bel HB.out)) : w.heap.size ≤ gb500)); clear HB; have HB := n0_; have BK500 := n1_; have GW500 := n2_; have GE500 := n3_; clear n0_ n1_ n2_ n3_; clear hb hbox hg; have hcz12_0 : cI w11 gb500 0 a0_0 := cZ BK500 0 rfl; have hcz12_1 : cI w11 gb500 1 a0_1 := cZ BK500 1 rfl; have hcz12_2 : cI w11 gb500 2 a0_2 := cZ BK500 2 rfl; have hfz12_0 := bF_q BK500.out 0; have hfz12_1 := bF_q BK500.out 1; have hfz12_2 := bF_q BK500.out 2) | ((with_reducible refine gC_q (f := 66) rfl ?_); refine gL_q (some 5) rfl rfl Try.func66 (by kernel_rfl) rfl #[.int .i64 a0_0, .int .i64 1, .int .i64 99] rfl (by (try simp only [lM_q, lC_q, lN_q]); first | done | rfl | (simp only [lD_q, lT_q]; rfl)) ?_; (with_reducible refine (impl_within.calls a0_0 1 99 false _ A2.out).mono ?_); rintro e w' ⟨rfl, ⟨nd, rfl⟩⟩; refine ⟨_, rfl, ?_⟩))
  go_ret
  exact ⟨by first | rfl | (simp [eN_q, eS_q] <;> rfl) | (simp [*, eN_q, eS_q] <;> rfl), by repeat (with_reducible first | exact HB.out | apply bA_q | apply pB_q | apply bD_q | refine bS_q ?_ GE500.out)⟩
 subst c3
 have H1 : ((impl_within.f a0_1 1 4).bind fun t502 => (if t502 = true then ((impl_isSet.f a0_2).bind fun t503 => (some t503)) else (some false))) = some r := by rw [if_pos rfl] at H; exact H
 clear H
 have H := H1
 clear H1
 replace H := oB_q.mp H
 obtain ⟨t502, A40, H⟩ := H
 replace H : (if t502 = true then ((impl_isSet.f a0_2).bind fun t503 => (some t503)) else (some false)) = some r := H
 have A4 := Ae_q A40
 clear A40
 by_cases c5 : t502 = true
 rotate_left
 ·replace c5 := fM_q.mpr c5
  subst c5
  have H1 : (some false) = some r := by rw [if_neg (show ¬ (false = true) by decide)] at H; exact H
  clear H
  have H := H1
  clear H1
  obtain rfl := oI_q H
  go_enter Try.func58, Try.ntmps58
  go_wp2_with (first | ((with_reducible refine gD_q (N := 1) rfl ?_); refine bE_q ?hg (N := 1) ?hd (cs := #[.int .i64 a0_0, .int .i64 a0_1, .int .i64 a0_2]) (t := 50) ?hr ?_; (case hd => rfl); (case hg => rfl); (case hr => first | (go_simp; done) | (go_simp; rfl)); intro gb500 hg w9 hbox hb; have n0_ := Ae_q (bT_q (bel HB.out) hb); have n1_ := Ae_q (hbox); have n2_ := Ae_q ((by rw [hg]; exact (bZ_q (bel HB.out)) : w.heap.size ≤ gb500)); have n3_ := Ae_q ((by rw [hg]; exact (bZ_q (bel HB.out)) : w.heap.size ≤ gb500)); clear HB; have HB := n0_; have BK500 := n1_; have GW500 := n2_; have GE500 := n3_; clear n0_ n1_ n2_ n3_; clear hb hbox hg; have hcz10_0 : cI w9 gb500 0 a0_0 := cZ BK500 0 rfl; have hcz10_1 : cI w9 gb500 1 a0_1 := cZ BK500 1 rfl; have hcz10_2 : cI w9 gb500 2 a0_2 := cZ BK500 2 rfl; have hfz10_0 := bF_q BK500.out 0; have hfz10_1 := bF_q BK500.out 1; have hfz10_2 := bF_q BK500.out 2) | ((with_reducible refine gC_q (f := 66) rfl ?_); refine gL_q (some 5) rfl rfl Try.func66 (by kernel_rfl) rfl #[.int .i64 a0_0, .int .i64 1, .int .i64 99] rfl (by (try simp only [lM_q, lC_q, lN_q]); first | done | rfl | (simp only [lD_q, lT_q]; rfl)) ?_; (with_reducible refine (impl_within.calls a0_0 1 99 true _ A2.out).mono ?_); rintro e w' ⟨rfl, ⟨nd, rfl⟩⟩; refine ⟨_, rfl, ?_⟩) | (go_at_call 66; (with_reducible refine (impl_within.calls a0_1 1 4 false _ A4.out).mono ?_); rintro e w' ⟨rfl, ⟨nd, rfl⟩⟩))
  go_ret
  exact ⟨by first | rfl | (simp [eN_q, eS_q] <;> rfl) | (simp [*, eN_q, eS_q] <;> rfl), by repeat (with_reducible first | exact HB.out | apply bA_q | apply pB_q | apply bD_q | refine bS_q ?_ GE500.out)⟩
 subst c5
 have H1 : ((impl_isSet.f a0_2).bind fun t503 => (some t503)) = some r := by rw [if_pos rfl] at H; exact H
 clear H
 have H := H1
 clear H1
 replace H := oB_q.mp H
 obtain ⟨t503, A60, H⟩ := H
 replace H : (some t503) = some r := H
 have A6 := Ae_q A60
 clear A60
 obtain rfl := oI_q H
 go_enter Try.func58, Try.ntmps58
 go_wp2_with (first | ((with_reducible refine gD_q (N := 1) rfl ?_); refine bE_q ?hg (N := 1) ?hd (cs := #[.int .i64 a0_0, .int .i64 a0_1, .int .i64 a0_2]) (t := 50) ?hr ?_; (case hd => rfl); (case hg => rfl); (case hr => first | (go_simp; done) | (go_simp; rfl)); intro gb500 hg w7 hbox hb; have n0_ := Ae_q (bT_q (bel HB.out) hb); have n1_ := Ae_q (hbox); have n2_ := Ae_q ((by rw [hg]; exact (bZ_q (bel HB.out)) : w.heap.size ≤ gb500)); have n3_ := Ae_q ((by rw [hg]; exact (bZ_q (bel HB.out)) : w.heap.size ≤ gb500)); clear HB; have HB := n0_; have BK500 := n1_; have GW500 := n2_; have GE500 := n3_; clear n0_ n1_ n2_ n3_; clear hb hbox hg; have hcz8_0 : cI w7 gb500 0 a0_0 := cZ BK500 0 rfl; have hcz8_1 : cI w7 gb500 1 a0_1 := cZ BK500 1 rfl; have hcz8_2 : cI w7 gb500 2 a0_2 := cZ BK500 2 rfl; have hfz8_0 := bF_q BK500.out 0; have hfz8_1 := bF_q BK500.out 1; have hfz8_2 := bF_q BK500.out 2) | ((with_reducible refine gC_q (f := 66) rfl ?_); refine gL_q (some 5) rfl rfl Try.func66 (by kernel_rfl) rfl #[.int .i64 a0_0, .int .i64 1, .int .i64 99] rfl (by (try simp only [lM_q, lC_q, lN_q]); first | done | rfl | (simp only [lD_q, lT_q]; rfl)) ?_; (with_reducible refine (impl_within.calls a0_0 1 99 true _ A2.out).mono ?_); rintro e w' ⟨rfl, ⟨nd, rfl⟩⟩; refine ⟨_, rfl, ?_⟩) | (go_at_call 66; (with_reducible refine (impl_within.calls a0_1 1 4 true _ A4.out).mono ?_); rintro e w' ⟨rfl, ⟨nd, rfl⟩⟩) | (go_at_call 59; (with_reducible refine (impl_isSet.calls a0_2 t503 _ A6.out).mono ?_); rintro e w' ⟨rfl, ⟨nd, rfl⟩⟩))
 go_ret
 exact ⟨by first | rfl | (simp [eN_q, eS_q] <;> rfl) | (simp [*, eN_q, eS_q] <;> rfl), by repeat (with_reducible first | exact HB.out | apply bA_q | apply pB_q | apply bD_q | refine bS_q ?_ GE500.out)⟩

end Go.Proofs.Ytnhenfmegpjigaa.PEv
