import Derived.Test.YtfnpiacmlahegaaVSPRpx0
import Derived.Test.YtfnpiacmlahegaaVSPRpx3
import Derived.Test.YtfnpiacmlahegaaVSPRpx5
import Derived.Test.YtfnpiacmlahegaaVSPRpx6
import Derived.Test.YtfnpiacmlahegaaVSPRpx15
import Derived.Test.YtfnpiacmlahegaaVSPRpx20
namespace Go.Proofs.Ytfnpiacmlahegaa.PRp
open Go.RowKit Go.Proofs.YtfnpiacmlahegaaW.PrintWords Go.Proofs.YtfnpiacmlahegaaW.PrintLast Go.Proofs.YtfnpiacmlahegaaW.PrintMore
attribute [local go_sem] max2_int min2_int max_two min_two max_three min_three max_four min_four
set_option linter.unusedVariables false
set_option linter.unusedSimpArgs false

def laws_eqKitchen.f (k : Nat) (a0_0 : Int) (l0_1 : List Int) (a1_0 : Int) (l1_1 : List Int) : Option (Bool) := if a0_0 = a1_0 then ((laws_eqIntS.f k l0_1 l1_1).bind fun t380 => (if t380 = true then (some true) else (some false))) else (some false)
set_option maxHeartbeats 8000000 in
set_option maxRecDepth 100000 in
theorem laws_eqKitchen.calls (k : Nat) (a0_0 : Int) (A0_1 : Option Addr) (c0_1 : Nat) (l0_1 : List Int) (a1_0 : Int) (A1_1 : Option Addr) (c1_1 : Nat) (l1_1 : List Int) (r : Bool) (w : World) (hr0_1 : Kd.C kI_q w A0_1 l0_1.length l0_1) (hc0_1 : l0_1.length ≤ c0_1) (hr1_1 : Kd.C kI_q w A1_1 l1_1.length l1_1) (hc1_1 : l1_1.length ≤ c1_1) (h : laws_eqKitchen.f k a0_0 l0_1 a1_0 l1_1 = some r) :
    Calls Try.prog 25 #[.agg #[.int .i64 a0_0, .slice A0_1 l0_1.length c0_1], .agg #[.int .i64 a1_0, .slice A1_1 l1_1.length c1_1]] w fun e w' => e = .returned (.bool r) ∧ Below w.heap.size w w' := by
 have hu43 := Try.underlying43
 have HR0_1 := Ae_q hr0_1
 have HC0_1 := Ae_q hc0_1
 clear hr0_1 hc0_1
 have HR1_1 := Ae_q hr1_1
 have HC1_1 := Ae_q hc1_1
 clear hr1_1 hc1_1
 have HB := Ae_q (bR_q w.heap.size w)
 have H : (if a0_0 = a1_0 then ((laws_eqIntS.f k l0_1 l1_1).bind fun t380 => (if t380 = true then (some true) else (some false))) else (some false)) = some r := h
 clear h
 by_cases c3 : a0_0 = a1_0
 rotate_left
 ·rw [if_neg c3] at H
  have c3b0 : (a0_0 == a1_0) = false := fN_q.mpr c3
  have c3b1 : (a0_0 != a1_0) = true := nI_q.mpr c3
  obtain rfl := oI_q H
  go_enter Try.func25, Try.ntmps25
  go_wp2_with (first | ((with_reducible refine gD_q (N := 2) rfl ?_); refine bE_q ?hg (N := 2) ?hd (cs := #[.int .i64 a0_0, .slice A0_1 l0_1.length c0_1]) (t := 43) ?hr ?_; (case hd => rfl); (case hg => rfl); (case hr => exact m6_q); intro gb378 hg w' hbox hb; have BK378 := Ae_q (hbox); have GW378 := Ae_q ((by rw [hg]; exact (bZ_q (bel HB.out)) : w.heap.size ≤ gb378)); have GE378 := Ae_q ((by rw [hg]; exact (bZ_q (bel HB.out)) : w.heap.size ≤ gb378)); replace HB := Ae_q (bT_q (bel HB.out) hb); clear hb hbox hg) | ((with_reducible refine gD_q (N := 3) rfl ?_); refine bE_q ?hg (N := 3) ?hd (cs := #[.int .i64 a1_0, .slice A1_1 l1_1.length c1_1]) (t := 43) ?hr ?_; (case hd => rfl); (case hg => rfl); (case hr => exact m6_q); intro gb379 hg w17 hbox hb; have BK379 := Ae_q (hbox); have GW379 := Ae_q ((by rw [hg]; exact (bZ_q m34_q) : w.heap.size ≤ gb379)); have GE379 := Ae_q ((by rw [hg]; exact (bZ_q m34_q) : w.heap.size ≤ gb379)); replace HB := Ae_q (bT_q m34_q hb); have NB378_379 := Ae_q ((by rw [hg]; exact nL_q (blk_lt (g := gb378) (o := .cells #[.int .i64 a0_0, .slice A0_1 l0_1.length c0_1] 43 (0, 0)) (bup BK378.out)) : gb378 ≠ gb379)); have NB379_378 := Ae_q ((by rw [hg]; exact nG_q (blk_lt (g := gb378) (o := .cells #[.int .i64 a0_0, .slice A0_1 l0_1.length c0_1] 43 (0, 0)) (bup BK378.out)) : gb379 ≠ gb378)); replace BK378 := Ae_q (bB_q (g := gb378) (o := .cells #[.int .i64 a0_0, .slice A0_1 l0_1.length c0_1] 43 (0, 0)) (bup BK378.out) hb); clear hb hbox hg; have hnb18 := NB378_379.out; have hnc18 := NB379_378.out; have hcz19_0 : cI w17 gb378 0 a0_0 := cZ BK378 0 rfl; have hcz19_1 : w17.cell? ⟨gb378, 1, none⟩ = some (.slice A0_1 l0_1.length c0_1) := (bC_q BK378.out 1).trans rfl; have hfz19_0 := bF_q BK378.out 0; have hfz19_1 := bF_q BK378.out 1; have hcz20_0 : cI w17 gb379 0 a1_0 := cZ BK379 0 rfl; have hcz20_1 : w17.cell? ⟨gb379, 1, none⟩ = some (.slice A1_1 l1_1.length c1_1) := (bC_q BK379.out 1).trans rfl; have hfz20_0 := bF_q BK379.out 0; have hfz20_1 := bF_q BK379.out 1))
  go_ret
  exact ⟨m4_q, m70_q⟩
 rw [if_pos c3] at H
 have c3b0 : (a0_0 == a1_0) = true := beq_iff_eq.mpr c3
 have c3b1 : (a0_0 != a1_0) = false := nE_q.mpr c3
 clear c3
 replace H := oB_q.mp H
 obtain ⟨t380, A40, H⟩ := H
 replace H : (if t380 = true then (some true) else (some false)) = some r := H
 have A4 := Ae_q A40
 clear A40
 by_cases c5 : t380 = true
 ·subst c5
  have H1 : (some true) = some r := by rw [if_pos rfl] at H; exact H
  clear H
  have H := H1
  clear H1
  obtain rfl := oI_q H
  go_enter Try.func25, Try.ntmps25
  go_wp2_with (first | ((with_reducible refine gD_q (N := 2) rfl ?_); refine bE_q ?hg (N := 2) ?hd (cs := #[.int .i64 a0_0, .slice A0_1 l0_1.length c0_1]) (t := 43) ?hr ?_; (case hd => rfl); (case hg => rfl); (case hr => exact m6_q); intro gb378 hg w' hbox hb; have BK378 := Ae_q (hbox); have GW378 := Ae_q ((by rw [hg]; exact (bZ_q (bel HB.out)) : w.heap.size ≤ gb378)); have GE378 := Ae_q ((by rw [hg]; exact (bZ_q (bel HB.out)) : w.heap.size ≤ gb378)); replace HB := Ae_q (bT_q (bel HB.out) hb); clear hb hbox hg) | ((with_reducible refine gD_q (N := 3) rfl ?_); refine bE_q ?hg (N := 3) ?hd (cs := #[.int .i64 a1_0, .slice A1_1 l1_1.length c1_1]) (t := 43) ?hr ?_; (case hd => rfl); (case hg => rfl); (case hr => exact m6_q); intro gb379 hg w7 hbox hb; have BK379 := Ae_q (hbox); have GW379 := Ae_q ((by rw [hg]; exact (bZ_q m34_q) : w.heap.size ≤ gb379)); have GE379 := Ae_q ((by rw [hg]; exact (bZ_q m34_q) : w.heap.size ≤ gb379)); replace HB := Ae_q (bT_q m34_q hb); have NB378_379 := Ae_q ((by rw [hg]; exact nL_q (blk_lt (g := gb378) (o := .cells #[.int .i64 a0_0, .slice A0_1 l0_1.length c0_1] 43 (0, 0)) (bup BK378.out)) : gb378 ≠ gb379)); have NB379_378 := Ae_q ((by rw [hg]; exact nG_q (blk_lt (g := gb378) (o := .cells #[.int .i64 a0_0, .slice A0_1 l0_1.length c0_1] 43 (0, 0)) (bup BK378.out)) : gb379 ≠ gb378)); replace BK378 := Ae_q (bB_q (g := gb378) (o := .cells #[.int .i64 a0_0, .slice A0_1 l0_1.length c0_1] 43 (0, 0)) (bup BK378.out) hb); clear hb hbox hg; have hnb8 := NB378_379.out; have hnc8 := NB379_378.out; have hcz9_0 : cI w7 gb378 0 a0_0 := cZ BK378 0 rfl; have hcz9_1 : w7.cell? ⟨gb378, 1, none⟩ = some (.slice A0_1 l0_1.length c0_1) := (bC_q BK378.out 1).trans rfl; have hfz9_0 := bF_q BK378.out 0; have hfz9_1 := bF_q BK378.out 1; have hcz10_0 : cI w7 gb379 0 a1_0 := cZ BK379 0 rfl; have hcz10_1 : w7.cell? ⟨gb379, 1, none⟩ = some (.slice A1_1 l1_1.length c1_1) := (bC_q BK379.out 1).trans rfl; have hfz10_0 := bF_q BK379.out 0; have hfz10_1 := bF_q BK379.out 1) | ((with_reducible refine gC_q (f := 16) rfl ?_); refine gL_q (some 14) rfl rfl Try.func16 m7_q rfl #[.slice A0_1 l0_1.length c0_1, .slice A1_1 l1_1.length c1_1] rfl m1_q ?_; (with_reducible refine (laws_eqIntS.calls k _ _ l0_1 _ _ l1_1 true _ ?side1 ?side2 ?side3 ?side4 A4.out).mono ?_); (case side1 => exact m120_q); (case side2 => exact HC0_1.out); (case side3 => exact m32_q); (case side4 => exact m64_q); rintro e w' ⟨rfl, ⟨nd, rfl⟩⟩; refine ⟨_, rfl, ?_⟩))
  go_ret
  exact ⟨m4_q, m70_q⟩
 replace c5 := fM_q.mpr c5
 subst c5
 have H1 : (some false) = some r := by rw [if_neg (show ¬ (false = true) by decide)] at H; exact H
 clear H
 have H := H1
 clear H1
 obtain rfl := oI_q H
 go_enter Try.func25, Try.ntmps25
 go_wp2_with (first | ((with_reducible refine gD_q (N := 2) rfl ?_); refine bE_q ?hg (N := 2) ?hd (cs := #[.int .i64 a0_0, .slice A0_1 l0_1.length c0_1]) (t := 43) ?hr ?_; (case hd => rfl); (case hg => rfl); (case hr => exact m6_q); intro gb378 hg w' hbox hb; have BK378 := Ae_q (hbox); have GW378 := Ae_q ((by rw [hg]; exact (bZ_q (bel HB.out)) : w.heap.size ≤ gb378)); have GE378 := Ae_q ((by rw [hg]; exact (bZ_q (bel HB.out)) : w.heap.size ≤ gb378)); replace HB := Ae_q (bT_q (bel HB.out) hb); clear hb hbox hg) | ((with_reducible refine gD_q (N := 3) rfl ?_); refine bE_q ?hg (N := 3) ?hd (cs := #[.int .i64 a1_0, .slice A1_1 l1_1.length c1_1]) (t := 43) ?hr ?_; (case hd => rfl); (case hg => rfl); (case hr => exact m6_q); intro gb379 hg w12 hbox hb; have BK379 := Ae_q (hbox); have GW379 := Ae_q ((by rw [hg]; exact (bZ_q m34_q) : w.heap.size ≤ gb379)); have GE379 := Ae_q ((by rw [hg]; exact (bZ_q m34_q) : w.heap.size ≤ gb379)); replace HB := Ae_q (bT_q m34_q hb); have NB378_379 := Ae_q ((by rw [hg]; exact nL_q (blk_lt (g := gb378) (o := .cells #[.int .i64 a0_0, .slice A0_1 l0_1.length c0_1] 43 (0, 0)) (bup BK378.out)) : gb378 ≠ gb379)); have NB379_378 := Ae_q ((by rw [hg]; exact nG_q (blk_lt (g := gb378) (o := .cells #[.int .i64 a0_0, .slice A0_1 l0_1.length c0_1] 43 (0, 0)) (bup BK378.out)) : gb379 ≠ gb378)); replace BK378 := Ae_q (bB_q (g := gb378) (o := .cells #[.int .i64 a0_0, .slice A0_1 l0_1.length c0_1] 43 (0, 0)) (bup BK378.out) hb); clear hb hbox hg; have hnb13 := NB378_379.out; have hnc13 := NB379_378.out; have hcz14_0 : cI w12 gb378 0 a0_0 := cZ BK378 0 rfl; have hcz14_1 : w12.cell? ⟨gb378, 1, none⟩ = some (.slice A0_1 l0_1.length c0_1) := (bC_q BK378.out 1).trans rfl; have hfz14_0 := bF_q BK378.out 0; have hfz14_1 := bF_q BK378.out 1; have hcz15_0 : cI w12 gb379 0 a1_0 := cZ BK379 0 rfl; have hcz15_1 : w12.cell? ⟨gb379, 1, none⟩ = some (.slice A1_1 l1_1.length c1_1) := (bC_q BK379.out 1).trans rfl; have hfz15_0 := bF_q BK379.out 0; have hfz15_1 := bF_q BK379.out 1) | ((with_reducible refine gC_q (f := 16) rfl ?_); refine gL_q (some 14) rfl rfl Try.func16 m7_q rfl #[.slice A0_1 l0_1.length c0_1, .slice A1_1 l1_1.length c1_1] rfl m1_q ?_; (with_reducible refine (laws_eqIntS.calls k _ _ l0_1 _ _ l1_1 false _ ?side1 ?side2 ?side3 ?side4 A4.out).mono ?_); (case side1 => exact m120_q); (case side2 => exact HC0_1.out); (case side3 => exact m32_q); (case side4 => exact m64_q); rintro e w' ⟨rfl, ⟨nd, rfl⟩⟩; refine ⟨_, rfl, ?_⟩))
 go_ret
 exact ⟨m4_q, m70_q⟩

def laws_markKitchen.f (k : Nat) (a0_0 : Int) (l0_1 : List Int) (a1 : Int) : Option (Int × List Int) := (laws_markIntS.f k l0_1 a1).bind fun bt382 => (some (bt382.1, bt382.2))
set_option maxHeartbeats 8000000 in
set_option maxRecDepth 100000 in
theorem laws_markKitchen.calls (k : Nat) (a0_0 : Int) (P0_1_ : Nat → Prop) (u9000_ : Value) (l0_1 : List Int) (a1 : Int) (r1 : Int) (r2 : List Int) (w0 w : World) (hB : Below w0.heap.size w0 w) (ho0_1 : Kd.R kI_q 3 w w0.heap.size P0_1_ u9000_ l0_1) (h : laws_markKitchen.f k a0_0 l0_1 a1 = some (r1, r2)) :
    Calls Try.prog 26 #[.agg #[.int .i64 a0_0, u9000_], .int .i64 a1] w fun e w' => e = .returned (.int .i64 r1) ∧ Kd.R kI_q 3 w' w0.heap.size (fun k_ => (P0_1_ k_ ∨ w.heap.size ≤ k_)) u9000_ r2 ∧ Below w0.heap.size w0 w' ∧ Kept w w' (fun k_ => P0_1_ k_) := by
 have hu43 := Try.underlying43
 have HO0_1 := Ae_q (show Kd.R kI_q 3 w w0.heap.size (fun k_ => (P0_1_ k_ ∨ w.heap.size ≤ k_)) u9000_ l0_1 from rM_q ho0_1 (fun k_ hk => (.inl hk)))
 have HK := Ae_q (Kept.refl w (fun k_ => P0_1_ k_))
 have HW0 := Ae_q hB.size
 have HB := Ae_q hB
 clear hB
 have H : ((laws_markIntS.f k l0_1 a1).bind fun bt382 => (some (bt382.1, bt382.2))) = some (r1, r2) := h
 clear h
 replace H := oB_q.mp H
 obtain ⟨⟨t382, t383⟩, A30, H⟩ := H
 replace H : (some (t382, t383)) = some (r1, r2) := H
 have A3 := Ae_q A30
 clear A30
 simp only [oE_q, pE_q] at H
 obtain ⟨rfl, rfl⟩ := H
 obtain ⟨Ao4, co4, eo4⟩ := rS_q HO0_1.out
 subst eo4
 go_enter Try.func26, Try.ntmps26
 go_wp2_with (first | ((with_reducible refine gD_q (N := 2) rfl ?_); refine bE_q ?hg (N := 2) ?hd (cs := #[.int .i64 a0_0, .slice Ao4 l0_1.length co4]) (t := 43) ?hr ?_; (case hd => rfl); (case hg => rfl); (case hr => exact m6_q); intro gb381 hg w5 hbox hb; replace HO0_1 := Ae_q (rO_q (rup HO0_1.out) hb); have BK381 := Ae_q (hbox); have GW381 := Ae_q ((by rw [hg]; exact (by first | exact HK.out.1 | exact (show Kept w _ (fun k_ => P0_1_ k_) from by repeat (with_reducible first | exact HK.out | apply Kept.alloc | apply Kept.drewN | apply Kept.drew)).1) : w.heap.size ≤ gb381)); replace HK := Ae_q (Kept.below (S := (fun k_ => P0_1_ k_)) m59_q hb); have GE381 := Ae_q ((by rw [hg]; exact (bZ_q (bel HB.out)) : w0.heap.size ≤ gb381)); replace HB := Ae_q (bT_q (bel HB.out) hb); clear hb hbox hg; have hcz6_0 : cI w5 gb381 0 a0_0 := cZ BK381 0 rfl; have hcz6_1 : w5.cell? ⟨gb381, 1, none⟩ = some (.slice Ao4 l0_1.length co4) := (bC_q BK381.out 1).trans rfl; have hfz6_0 := bF_q BK381.out 0; have hfz6_1 := bF_q BK381.out 1) | ((with_reducible refine gC_q (f := 19) rfl ?_); refine gL_q (some 8) rfl rfl Try.func19 m7_q rfl #[.slice Ao4 l0_1.length co4, .int .i64 a1] rfl m1_q ?_; (with_reducible refine (laws_markIntS.calls k (fun k_ => some k_ = (.slice Ao4 l0_1.length co4 : Value).ownBlock) (.slice Ao4 l0_1.length co4) l0_1 a1 t382 t383 w0 _ ?side1 ?side2 A3.out).mono ?_); (case side1 => exact m110_q); (case side2 => exact Kd.R_tight rfl HO0_1.out); rintro e w7 ⟨rfl, hy0, hb, hkp⟩; refine ⟨_, rfl, ?_⟩; replace BK381 := Ae_q (blk_kept (bup BK381.out) hkp (fun hs_ => (fun e_ => (Kd.R_ne HO0_1.out BK381.out (by decide)) e_) hs_)); replace HK := Ae_q (Kept.then_ (S := (fun k_ => P0_1_ k_)) m90_q hkp (fun k_ hs_ => (fun e_ => (HO0_1.out.1 k_ e_.symm)) hs_)); replace HO0_1 := Ae_q (Kd.R_reok rfl hy0 (fun k_ e_ => HO0_1.out.1 k_ e_)); replace HB := Ae_q (hb); (try clear hb); (try clear hkp); (try clear hy0)))
 go_ret
 exact ⟨m4_q, rup HO0_1.out, m110_q, m90_q⟩

end Go.Proofs.Ytfnpiacmlahegaa.PRp
