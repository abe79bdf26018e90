import Derived.Test.YtfnpiacmlahegaaVSPRpx0
import Derived.Test.YtfnpiacmlahegaaVSPRpx2
import Derived.Test.YtfnpiacmlahegaaVSPRpx10
import Derived.Test.YtfnpiacmlahegaaVSPRpx12
import Derived.Test.YtfnpiacmlahegaaVSPRpx24
namespace Go.Proofs.Ytfnpiacmlahegaa.PRp
open Go.RowKit Go.Proofs.YtfnpiacmlahegaaW.PrintWords Go.Proofs.YtfnpiacmlahegaaW.PrintLast Go.Proofs.YtfnpiacmlahegaaW.PrintMore
attribute [local go_sem] max2_int min2_int max_two min_two max_three min_three max_four min_four
set_option linter.unusedVariables false
set_option linter.unusedSimpArgs false

mutual
def spec_OutageRepair.j0 : Nat → List (S63) → List Int → List Int → Bool → Int → List Int → Int → Int → Int → Option (List Int × Bool)
 | 0, _, _, _, _, _, _, _, _, _ => none
 | k + 1, x0, x2, x10, x23, x465000, x465001, x466000, x466001, x466002 => if x23 = true then (some (x10, false)) else (spec_OutageRepair.l0 k x0 x2 x10 0 x465000 x465001 x466000 x466001 x466002)
def spec_OutageRepair.l0 : Nat → List (S63) → List Int → List Int → Int → Int → List Int → Int → Int → Int → Option (List Int × Bool)
 | 0, _, _, _, _, _, _, _, _, _ => none
 | k + 1, x0, x2, x10, x11, x465000, x465001, x466000, x466001, x466002 => if x11 < (x0.length : Int) then (if 0 ≤ x11 then (if x11 < (x2.length : Int) then ((spec_l32After.f k x0 x10 x11).bind fun t472 => (spec_OutageRepair.l1 k x0 x2 x10 x11 (mx (rd x2 x11) t472) x465000 x465001 x466000 x466001 x466002)) else (none)) else (none)) else (some (x10, true))
def spec_OutageRepair.l1 : Nat → List (S63) → List Int → List Int → Int → Int → Int → List Int → Int → Int → Int → Option (List Int × Bool)
 | 0, _, _, _, _, _, _, _, _, _, _ => none
 | k + 1, x0, x2, x10, x11, x12, x465000, x465001, x466000, x466001, x466002 => if 0 ≤ x11 then (if x11 < (x0.length : Int) then ((spec_l33Hit.f ((rd_T63 x0 x11).f0) ((rd_T63 x0 x11).f1) ((rd_T63 x0 x11).f2) ((rd_T63 x0 x11).f3) x12 x466000 x466001 x466002).bind fun t474 => (if t474 = true then (spec_OutageRepair.l1 k x0 x2 x10 x11 (wrap64 (x12 + 1)) x465000 x465001 x466000 x466001 x466002) else ((some (([] : List Int) : List Int)).bind fun y475 => (if y475.length + x10.length < 17592186044416 then ((some (y475 ++ x10 : List Int)).bind fun y478 => ((some (([x12] : List Int) : List Int)).bind fun y481 => (if y478.length + y481.length < 17592186044416 then ((spec_l32Room.f k x0 x465000 x465001 (y478 ++ y481)).bind fun t487 => (if t487 = true then (if x12 > 999 then (some ((([] : List Int)), false)) else ((some (([x12] : List Int) : List Int)).bind fun y491 => (if x10.length + y491.length < 17592186044416 then (spec_OutageRepair.l0 k x0 x2 (x10 ++ y491) (wrap64 (x11 + 1)) x465000 x465001 x466000 x466001 x466002) else (none)))) else (spec_OutageRepair.l1 k x0 x2 x10 x11 (wrap64 (x12 + 1)) x465000 x465001 x466000 x466001 x466002))) else (none)))) else (none))))) else (none)) else (none)
end
def spec_OutageRepair.f (k : Nat) (l0 : List (S63)) (a1_0 : Int) (l1_1 : List Int) (l2 : List Int) (a3_0 : Int) (a3_1 : Int) (a3_2 : Int) : Option (List Int × Bool) := (some (([] : List Int) : List Int)).bind fun y466 => ((spec_PlanValid.f k l0 a1_0 l1_1 l2).bind fun t469 => (if t469 = true then ((spec_l33Outage.f a3_0 a3_1 a3_2).bind fun t470 => (spec_OutageRepair.j0 k l0 l2 y466 (!t470) a1_0 l1_1 a3_0 a3_1 a3_2)) else (spec_OutageRepair.j0 k l0 l2 y466 true a1_0 l1_1 a3_0 a3_1 a3_2)))
def spec_OutageRepair.T7 : Bool × List (List Nat × List Nat) := (true, [([], []), ([], []), ([0, 1], [0, 1]), ([2], [2]), ([], []), ([], []), ([], []), ([4, 5, 6], [4, 5, 6]), ([3, 7], [3, 7]), ([8, 7, 0, 1, 2, 3, 4, 5, 6, 7, 8], [8])])
def spec_OutageRepair.B7 : List Nat := [0, 0, 3, 7, 0, 0, 0, 112, 255, 511]
theorem spec_OutageRepair.tab7 : rtab .any (opsOf Try.f29 7) = spec_OutageRepair.T7 := by kernel_rfl
theorem spec_OutageRepair.bits7 : waitsOk spec_OutageRepair.T7.2 spec_OutageRepair.B7 = true := by kernel_rfl
def spec_OutageRepair.T8 : Bool × List (List Nat × List Nat) := (true, [([], []), ([], []), ([0, 1], [0, 1]), ([2], [2]), ([], []), ([], []), ([3, 4, 5], [3, 4, 5]), ([6, 6], [6]), ([7], [7]), ([7], [7]), ([7], [7]), ([7], [7]), ([10, 11, 7, 7], [7, 10, 11]), ([7], [7]), ([13, 7], [7, 13]), ([12, 14, 12, 7], [7, 12, 14]), ([8, 9, 15, 15, 7], [7, 8, 9, 15]), ([16, 7], [7, 16]), ([7, 17], [7, 17])])
def spec_OutageRepair.B8 : List Nat := [0, 0, 3, 7, 0, 0, 63, 127, 255, 255, 255, 255, 3327, 255, 8447, 31999, 65535, 131071, 262143]
theorem spec_OutageRepair.tab8 : rtab .any (opsOf Try.f29 8) = spec_OutageRepair.T8 := by kernel_rfl
theorem spec_OutageRepair.bits8 : waitsOk spec_OutageRepair.T8.2 spec_OutageRepair.B8 = true := by kernel_rfl
set_option maxHeartbeats 8000000 in
set_option maxRecDepth 100000 in
theorem spec_OutageRepair.calls (k : Nat) (A0 : Option Addr) (c0 : Nat) (l0 : List (S63)) (a1_0 : Int) (A1_1 : Option Addr) (c1_1 : Nat) (l1_1 : List Int) (A2 : Option Addr) (c2 : Nat) (l2 : List Int) (a3_0 : Int) (a3_1 : Int) (a3_2 : Int) (r1 : List Int) (r2 : Bool) (w : World) (hr0 : Kd.C k63 w A0 l0.length l0) (hc0 : l0.length ≤ c0) (hr1_1 : Kd.C kI_q w A1_1 l1_1.length l1_1) (hc1_1 : l1_1.length ≤ c1_1) (hr2 : Kd.C kI_q w A2 l2.length l2) (hc2 : l2.length ≤ c2) (h : spec_OutageRepair.f k l0 a1_0 l1_1 l2 a3_0 a3_1 a3_2 = some (r1, r2)) :
    Calls Try.prog 29 #[.slice A0 l0.length c0, .agg #[.int .i64 a1_0, .slice A1_1 l1_1.length c1_1], .slice A2 l2.length c2, .agg #[.int .i64 a3_0, .int .i64 a3_1, .int .i64 a3_2]] w fun e w' => ∃ v0_ : Value, e = .returned (.tuple #[v0_, .bool r2]) ∧ Kd.R kI_q 3 w' w.heap.size (fun _ => True) v0_ r1 ∧ Below w.heap.size w w' := by
 have hu43 := Try.underlying43
 have hu31 := Try.underlying31
 have hu63 := Try.underlying63
 have HR0 := Ae_q hr0
 have HC0 := Ae_q hc0
 clear hr0 hc0
 have HR1_1 := Ae_q hr1_1
 have HC1_1 := Ae_q hc1_1
 clear hr1_1 hc1_1
 have HR2 := Ae_q hr2
 have HC2 := Ae_q hc2
 clear hr2 hc2
 have HB := Ae_q (bR_q w.heap.size w)
 have H : ((some (([] : List Int) : List Int)).bind fun y466 => ((spec_PlanValid.f k l0 a1_0 l1_1 l2).bind fun t469 => (if t469 = true then ((spec_l33Outage.f a3_0 a3_1 a3_2).bind fun t470 => (spec_OutageRepair.j0 k l0 l2 y466 (!t470) a1_0 l1_1 a3_0 a3_1 a3_2)) else (spec_OutageRepair.j0 k l0 l2 y466 true a1_0 l1_1 a3_0 a3_1 a3_2)))) = some (r1, r2) := h
 clear h
 obtain ⟨y466, hy466⟩ : ∃ y_ : List Int, y_ = (([] : List Int)) := ⟨_, rfl⟩
 replace H : ((spec_PlanValid.f k l0 a1_0 l1_1 l2).bind fun t469 => (if t469 = true then ((spec_l33Outage.f a3_0 a3_1 a3_2).bind fun t470 => (spec_OutageRepair.j0 k l0 l2 y466 (!t470) a1_0 l1_1 a3_0 a3_1 a3_2)) else (spec_OutageRepair.j0 k l0 l2 y466 true a1_0 l1_1 a3_0 a3_1 a3_2))) = some (r1, r2) := by first | (rw [hy466]; with_reducible exact H) | (have H2_ := (oS_q _ _).symm.trans H; rw [hy466]; with_reducible exact H2_) | (have H2_ := (oS_q _ _).symm.trans H; with_reducible exact H2_) | with_reducible exact H | (rw [hy466]; exact H) | exact H
 have Ny466 := Ae_q hy466
 clear hy466
 have HC5 := Ae_q H
 clear H
 go_enter Try.func29, Try.ntmps29
 go_upto_region 2 with (first | ((first | ((with_reducible refine gD_q (N := 5) rfl ?_); (try (refine gate_guard (by rfl) ?_; dsimp only)); refine bE_q ?hg (N := 5) ?hd (cs := #[.int .i64 a1_0, .slice A1_1 l1_1.length c1_1]) (t := 43) ?hr ?_; (case hd => rfl); (case hg => rfl); (case hr => exact m6_q); intro gb464 hg w' hbox hb; have BK464 := Ae_q (hbox); have GW464 := Ae_q ((by rw [hg]; exact (bZ_q (bel HB.out)) : w.heap.size ≤ gb464)); have GE464 := Ae_q ((by rw [hg]; exact (bZ_q (bel HB.out)) : w.heap.size ≤ gb464)); replace HB := Ae_q (bT_q (bel HB.out) hb)) | ((with_reducible refine gD_q (N := 7) rfl ?_); (try (refine gate_guard (by rfl) ?_; dsimp only)); refine bE_q ?hg (N := 7) ?hd (cs := #[.int .i64 a3_0, .int .i64 a3_1, .int .i64 a3_2]) (t := 31) ?hr ?_; (case hd => rfl); (case hg => rfl); (case hr => exact m6_q); intro gb465 hg w' hbox hb; have BK465 := Ae_q (hbox); have GW465 := Ae_q ((by rw [hg]; exact (bZ_q m88_q) : w.heap.size ≤ gb465)); have GE465 := Ae_q ((by rw [hg]; exact (bZ_q m88_q) : w.heap.size ≤ gb465)); replace HB := Ae_q (bT_q m88_q hb); have NB464_465 := Ae_q ((by rw [hg]; exact nL_q (blk_lt (g := gb464) (o := .cells #[.int .i64 a1_0, .slice A1_1 l1_1.length c1_1] 43 (0, 0)) (bup BK464.out)) : gb464 ≠ gb465)); have NB465_464 := Ae_q ((by rw [hg]; exact nG_q (blk_lt (g := gb464) (o := .cells #[.int .i64 a1_0, .slice A1_1 l1_1.length c1_1] 43 (0, 0)) (bup BK464.out)) : gb465 ≠ gb464)); replace BK464 := Ae_q (bB_q (g := gb464) (o := .cells #[.int .i64 a1_0, .slice A1_1 l1_1.length c1_1] 43 (0, 0)) (bup BK464.out) hb))); clear hb hbox hg) | ((with_reducible refine gD_q (N := 13) rfl ?_); (try (refine gate_guard (by rfl) ?_; dsimp only)); refine Kd.R_lit kI_q _ 3 ?hg (N := 13) ?hd (xs := ([] : List Int)) (inner := []) (ok := fun _ => True) (okp := fun _ => True) ?hr ?hp (fun _ hk => hk) trivial (bR_q _ _) (nR_q _) (by simp) ?_; (case hd => rfl); (case hg => rfl); (case hr => exact m6_q); (case hp => exact m111_q); intro v467 w8 ho9 hb hg_ hnew_; clear hg_ hnew_; (first | rw [← Ny466.out] at ho9 | (simp only [Int.reduceToNat] at ho9; rw [← Ny466.out] at ho9)); have HO468 := Ae_q (rL_q ho9 (bZ_q m0_q)); replace BK464 := Ae_q (bB_q (g := gb464) (o := .cells #[.int .i64 a1_0, .slice A1_1 l1_1.length c1_1] 43 (0, 0)) (bup BK464.out) hb); replace BK465 := Ae_q (bB_q (g := gb465) (o := .cells #[.int .i64 a3_0, .int .i64 a3_1, .int .i64 a3_2] 31 (0, 0)) (bup BK465.out) hb); replace HB := Ae_q (bT_q m0_q hb); clear hb ho9))
 (try simp only [Act.put, sA_q, sZ_q, sS_q])
 go_cut [23] (fun v23 wc => ∃ (kq : Nat) (x23_4 : Bool), v23 = .bool x23_4 ∧ Aside0 (spec_OutageRepair.j0 kq l0 l2 y466 x23_4 a1_0 l1_1 a3_0 a3_1 a3_2 = some (r1, r2)) ∧ Aside0 (kq ≤ k) ∧ Aside0 (Kd.R kI_q 3 wc w.heap.size (fun _ => True) v467 y466) ∧ Aside0 (wc.heap[gb464]? = some (.cells #[.int .i64 a1_0, (.slice A1_1 l1_1.length c1_1)] 43 (0, 0))) ∧ Aside0 (wc.heap[gb465]? = some (.cells #[.int .i64 a3_0, .int .i64 a3_1, .int .i64 a3_2] 31 (0, 0))) ∧ Aside0 (Below w.heap.size w wc))
 case first =>
  have H := HC5.out
  clear HC5
  replace H := oB_q.mp H
  obtain ⟨t469, A100, H⟩ := H
  replace H : (if t469 = true then ((spec_l33Outage.f a3_0 a3_1 a3_2).bind fun t470 => (spec_OutageRepair.j0 k l0 l2 y466 (!t470) a1_0 l1_1 a3_0 a3_1 a3_2)) else (spec_OutageRepair.j0 k l0 l2 y466 true a1_0 l1_1 a3_0 a3_1 a3_2)) = some (r1, r2) := H
  have A10 := Ae_q A100
  clear A100
  by_cases c11 : t469 = true
  rotate_left
  ·replace c11 := fM_q.mpr c11
   subst c11
   have H1 : (spec_OutageRepair.j0 k l0 l2 y466 true a1_0 l1_1 a3_0 a3_1 a3_2) = some (r1, r2) := by rw [if_neg (show ¬ (false = true) by decide)] at H; exact H
   clear H
   have H := H1
   clear H1
   have H' := Ae_q H
   clear H
   have hnb18 := NB464_465.out
   have hnc18 := NB465_464.out
   have hcz19_0 : cI w8 gb464 0 a1_0 := cZ BK464 0 rfl
   have hcz19_1 : w8.cell? ⟨gb464, 1, none⟩ = some (.slice A1_1 l1_1.length c1_1) := (bC_q BK464.out 1).trans rfl
   have hfz19_0 := bF_q BK464.out 0
   have hfz19_1 := bF_q BK464.out 1
   go_wp2_with (first | ((with_reducible refine gC_q (f := 56) rfl ?_); refine gL_q (some 17) rfl rfl Try.func56 m7_q rfl #[.slice A0 l0.length c0, .agg #[.int .i64 a1_0, .slice A1_1 l1_1.length c1_1], .slice A2 l2.length c2] rfl m1_q ?_; (with_reducible refine (spec_PlanValid.calls k _ _ l0 a1_0 _ _ l1_1 _ _ l2 false _ ?side1 ?side2 ?side3 ?side4 ?side5 ?side6 A10.out).mono ?_); (case side1 => exact m20_q); (case side2 => exact m57_q); (case side3 => exact m32_q); (case side4 => exact m64_q); (case side5 => exact m28_q); (case side6 => exact m63_q); rintro e w' ⟨rfl, hb⟩; refine ⟨_, rfl, ?_⟩; replace HO468 := Ae_q (rO_q (rup HO468.out) hb); replace BK464 := Ae_q (bB_q (g := gb464) (o := .cells #[.int .i64 a1_0, .slice A1_1 l1_1.length c1_1] 43 (0, 0)) (bup BK464.out) hb); replace BK465 := Ae_q (bB_q (g := gb465) (o := .cells #[.int .i64 a3_0, .int .i64 a3_1, .int .i64 a3_2] 31 (0, 0)) (bup BK465.out) hb); replace HB := Ae_q (bT_q m0_q hb); (try clear hb); (try clear hb2); (try clear hk); (try clear hi)))
   go_meet
   case rel => exact ⟨_, (true), m5_q, H', ⟨m106_q⟩, ⟨rup HO468.out⟩, ⟨bup BK464.out⟩, ⟨bup BK465.out⟩, ⟨m0_q⟩⟩
  subst c11
  have H1 : ((spec_l33Outage.f a3_0 a3_1 a3_2).bind fun t470 => (spec_OutageRepair.j0 k l0 l2 y466 (!t470) a1_0 l1_1 a3_0 a3_1 a3_2)) = some (r1, r2) := by rw [if_pos rfl] at H; exact H
  clear H
  have H := H1
  clear H1
  replace H := oB_q.mp H
  obtain ⟨t470, A120, H⟩ := H
  replace H : (spec_OutageRepair.j0 k l0 l2 y466 (!t470) a1_0 l1_1 a3_0 a3_1 a3_2) = some (r1, r2) := H
  have A12 := Ae_q A120
  clear A120
  have H' := Ae_q H
  clear H
  have hnb13 := NB464_465.out
  have hnc13 := NB465_464.out
  have hcz14_0 : cI w8 gb464 0 a1_0 := cZ BK464 0 rfl
  have hcz14_1 : w8.cell? ⟨gb464, 1, none⟩ = some (.slice A1_1 l1_1.length c1_1) := (bC_q BK464.out 1).trans rfl
  have hfz14_0 := bF_q BK464.out 0
  have hfz14_1 := bF_q BK464.out 1
  go_wp2_with (first | ((with_reducible refine gC_q (f := 56) rfl ?_); refine gL_q (some 17) rfl rfl Try.func56 m7_q rfl #[.slice A0 l0.length c0, .agg #[.int .i64 a1_0, .slice A1_1 l1_1.length c1_1], .slice A2 l2.length c2] rfl m1_q ?_; (with_reducible refine (spec_PlanValid.calls k _ _ l0 a1_0 _ _ l1_1 _ _ l2 true _ ?side1 ?side2 ?side3 ?side4 ?side5 ?side6 A10.out).mono ?_); (case side1 => exact m20_q); (case side2 => exact m57_q); (case side3 => exact m32_q); (case side4 => exact m64_q); (case side5 => exact m28_q); (case side6 => exact m63_q); rintro e w15 ⟨rfl, hb⟩; refine ⟨_, rfl, ?_⟩; replace HO468 := Ae_q (rO_q (rup HO468.out) hb); replace BK464 := Ae_q (bB_q (g := gb464) (o := .cells #[.int .i64 a1_0, .slice A1_1 l1_1.length c1_1] 43 (0, 0)) (bup BK464.out) hb); replace BK465 := Ae_q (bB_q (g := gb465) (o := .cells #[.int .i64 a3_0, .int .i64 a3_1, .int .i64 a3_2] 31 (0, 0)) (bup BK465.out) hb); replace HB := Ae_q (bT_q m0_q hb); (try clear hb); (try clear hb2); (try clear hk); (try clear hi); have hcz16_0 : cI w15 gb465 0 a3_0 := cZ BK465 0 rfl; have hcz16_1 : cI w15 gb465 1 a3_1 := cZ BK465 1 rfl; have hcz16_2 : cI w15 gb465 2 a3_2 := cZ BK465 2 rfl; have hfz16_0 := bF_q BK465.out 0; have hfz16_1 := bF_q BK465.out 1; have hfz16_2 := bF_q BK465.out 2) | (go_at_call 35; (with_reducible refine (spec_l33Outage.calls a3_0 a3_1 a3_2 t470 _ A12.out).mono ?_); rintro e w' ⟨rfl, hb⟩; replace HO468 := Ae_q (rO_q (rup HO468.out) hb); replace BK464 := Ae_q (bB_q (g := gb464) (o := .cells #[.int .i64 a1_0, .slice A1_1 l1_1.length c1_1] 43 (0, 0)) (bup BK464.out) hb); replace BK465 := Ae_q (bB_q (g := gb465) (o := .cells #[.int .i64 a3_0, .int .i64 a3_1, .int .i64 a3_2] 31 (0, 0)) (bup BK465.out) hb); replace HB := Ae_q (bT_q m0_q hb); (try clear hb); (try clear hb2); (try clear hk); (try clear hi)))
  go_meet
  case rel => exact ⟨_, (!t470), m5_q, H', ⟨m106_q⟩, ⟨rup HO468.out⟩, ⟨bup BK464.out⟩, ⟨bup BK465.out⟩, ⟨m0_q⟩⟩
 case rest =>
  clear HC5
  try clear c1
  try clear c2
  try clear p2
  try clear c5
  try clear c11
  try clear c13
  try clear c18
  try clear hcz14_0
  try clear hcz14_1
  try clear hcz16_0
  try clear hcz16_1
  try clear hcz16_2
  try clear hcz19_0
  try clear hcz19_1
  try clear hfz14_0
  try clear hfz14_1
  try clear hfz16_0
  try clear hfz16_1
  try clear hfz16_2
  try clear hfz19_0
  try clear hfz19_1
  obtain ⟨kq, x23_4, rfl, HA, HJ4, HO_10, BK464, BK465, HB⟩ := hcut
  cases kq with
  | zero => exact absurd HA.out (by simp [spec_OutageRepair.j0])
  | succ kj4 =>
   have H := HA.out
   clear HA
   simp only [spec_OutageRepair.j0] at H
   by_cases c21 : x23_4 = true
   ·subst c21
    have H1 : (some (y466, false)) = some (r1, r2) := by rw [if_pos rfl] at H; exact H
    clear H
    have H := H1
    clear H1
    simp only [oE_q, pE_q] at H
    obtain ⟨rfl, rfl⟩ := H
    go_wp2
    go_ret2
    exact ⟨_, m4_q, rup HO_10.out, m0_q⟩
   replace c21 := fM_q.mpr c21
   subst c21
   have H1 : (spec_OutageRepair.l0 kj4 l0 l2 y466 0 a1_0 l1_1 a3_0 a3_1 a3_2) = some (r1, r2) := by rw [if_neg (show ¬ (false = true) by decide)] at H; exact H
   clear H
   have H := H1
   clear H1
   have H' := Ae_q H
   clear H
   go_wp2
   go_loopg [10, 11] kj4 (fun kq v10 v11 w' => ∃ (x10_2 : List Int) (x11_2 : Int), v11 = .int .i64 x11_2 ∧ Aside0 (spec_OutageRepair.l0 kq l0 l2 x10_2 x11_2 a1_0 l1_1 a3_0 a3_1 a3_2 = some (r1, r2)) ∧ Aside0 (kq ≤ kj4) ∧ Aside0 (Kd.R kI_q 3 w' w.heap.size (fun _ => True) v10 x10_2) ∧ Aside0 (w'.heap[gb464]? = some (.cells #[.int .i64 a1_0, (.slice A1_1 l1_1.length c1_1)] 43 (0, 0))) ∧ Aside0 (w'.heap[gb465]? = some (.cells #[.int .i64 a3_0, .int .i64 a3_1, .int .i64 a3_2] 31 (0, 0))) ∧ Aside0 (Below w.heap.size w w'))
   case atStart => exact ⟨(y466), (0), m5_q, H', ⟨nR_q _⟩, ⟨rup HO_10.out⟩, ⟨bup BK464.out⟩, ⟨bup BK465.out⟩, ⟨m0_q⟩⟩
   case round =>
    clear H'
    try clear c1
    try clear c2
    try clear p2
    try clear c5
    try clear c11
    try clear c13
    try clear c18
    try clear c21
    try clear hcz14_0
    try clear hcz14_1
    try clear hcz16_0
    try clear hcz16_1
    try clear hcz16_2
    try clear hcz19_0
    try clear hcz19_1
    try clear hfz14_0
    try clear hfz14_1
    try clear hfz16_0
    try clear hfz16_1
    try clear hfz16_2
    try clear hfz19_0
    try clear hfz19_1
    try clear p2
    obtain ⟨x10_2, x11_2, rfl, HA, HK2, HO_10, BK464, BK465, HB⟩ := hrel
    cases gk with
    | zero => exact absurd HA.out (by simp [spec_OutageRepair.l0])
    | succ k2 =>
     have H := HA.out
     clear HA
     simp only [spec_OutageRepair.l0] at H
     by_cases c22 : x11_2 < (l0.length : Int)
     rotate_left
     ·rw [if_neg c22] at H
      have c22b0 : decide (x11_2 < (l0.length : Int)) = false := dF_q c22
      clear c22
      simp only [oE_q, pE_q] at H
      obtain ⟨rfl, rfl⟩ := H
      go_wp2
      go_ret2
      exact ⟨_, m4_q, rup HO_10.out, m0_q⟩
     rw [if_pos c22] at H
     have c22b0 : decide (x11_2 < (l0.length : Int)) = true := dT_q c22
     clear c22
     by_cases c23 : 0 ≤ x11_2
     rotate_left
     ·rw [if_neg c23] at H
      exact absurd H (by simp)
     rw [if_pos c23] at H
     have c23b0 : decide (0 ≤ x11_2) = true := dT_q c23
     clear c23
     by_cases c24 : x11_2 < (l2.length : Int)
     rotate_left
     ·rw [if_neg c24] at H
      exact absurd H (by simp)
     rw [if_pos c24] at H
     have c24b0 : decide (x11_2 < (l2.length : Int)) = true := dT_q c24
     clear c24
     replace H := oB_q.mp H
     obtain ⟨t472, A250, H⟩ := H
     replace H : (spec_OutageRepair.l1 k2 l0 l2 x10_2 x11_2 (mx (rd l2 x11_2) t472) a1_0 l1_1 a3_0 a3_1 a3_2) = some (r1, r2) := H
     have A25 := Ae_q A250
     clear A250
     obtain ⟨ji26, hji26⟩ : ∃ j_ : Int, (mx (rd l2 x11_2) t472) = j_ := ⟨_, rfl⟩
     replace H : (spec_OutageRepair.l1 k2 l0 l2 x10_2 x11_2 ji26 a1_0 l1_1 a3_0 a3_1 a3_2) = some (r1, r2) := by first | (rw [hji26] at H; exact H) | (simp only [hji26] at H ⊢; exact H)
     (try rw [hji26] at A25)
     have hji26_ : (if (rd l2 x11_2) < t472 then t472 else (rd l2 x11_2)) = ji26 := hji26
     have H' := Ae_q H
     clear H
     try go_wp2
     replace HO_10 := Ae_q (rD_q HO_10.out)
     replace BK464 := Ae_q (bW_q BK464.out)
     replace BK465 := Ae_q (bW_q BK465.out)
     replace HB := Ae_q (bD_q HB.out)
     have p471 : 0 ≤ (x11_2 : Int) := oD_q (by assumption)
     have q471 : x11_2 < (l2.length : Int) := oD_q (by assumption)
     obtain ⟨ad471, e471, hx471_0⟩ := aI_q HR2.out x11_2 p471 q471
     have hw471_0 := hx471_0
     cases e471
     replace hx471_0 := cel HB.out hx471_0
     replace p471 := eq_true p471
     replace q471 := eq_true q471
     obtain ⟨Ao28, co28, eo28⟩ := rS_q HO_10.out
     (first | subst eo28 | (injection eo28 with f1_ f2_ f3_; have f4_ := f1_.symm; have f5_ := f3_.symm; clear f1_ f2_ f3_; subst f4_; subst f5_))
     refine start_ (n := 10) (S := fun w' => w'.cell? (ad471.add (x11_2).toNat) = some (.int .i64 (rd l2 x11_2))) (ds := []) #[false, false, false, false, false, false, false, false, false, false] m7_q rfl rfl ((cel HB.out hw471_0)) (fun hHeld => ?_); refine with_tabW spec_OutageRepair.tab7 spec_OutageRepair.bits7 (fun HT_ HW_ => ?_)
     generalize wr.drew = w27 at HO_10 BK464 BK465 HB hx471_0 hHeld ⊢
     refine pJ HT_ 0 31 rfl rfl ?_
     refine pJ HT_ 1 32 rfl rfl ?_
     refine pJ HT_ 2 33 rfl rfl ?_
     refine pJ HT_ 4 35 rfl rfl ?_
     refine pJ HT_ 5 36 rfl rfl ?_
     refine pJ HT_ 6 37 rfl rfl ?_
     refine take_ (i := 3) (N := some 34) (v := ?_) (a' := ?_) #[true, true, true, true, true, true, true, false, false, false] rfl rfl (take_ofW HT_.out HW_.out m7_q) (fun _ _ _ h => h) (Or.inl ⟨by rfl, ?_⟩) hHeld ?_ ?_
     rotate_left
     ·intro w' s0
      go_simp
      with_reducible rfl
     rotate_left
     ·simp only [pS_q]
      rfl
     refine one_ (i := 7) (N := some 38) #[true, true, true, true, true, true, true, true, false, false] rfl rfl (one_of HT_.out m7_q) (by decide) (fun K hK => ?_)
     refine goes_ Try.func46 m7_q rfl #[.slice A0 l0.length c0, .slice Ao28 x10_2.length co28, .int .i64 x11_2] (by rfl) rfl rfl m1_q ?_
     with_reducible refine (spec_l32After.calls k2 _ _ l0 _ _ x10_2 x11_2 t472 _ ?side1 ?side2 ?side3 ?side4 A25.out).mono ?_
     (case side1 => exact m20_q)
     (case side2 => exact m57_q)
     (case side3 => exact m62_q)
     (case side4 => exact m112_q)
     rintro e w' ⟨rfl, hb⟩
     refine ⟨_, rfl, ?_⟩
     replace HO_10 := Ae_q (rO_q (rup HO_10.out) hb)
     replace BK464 := Ae_q (bB_q (g := gb464) (o := .cells #[.int .i64 a1_0, .slice A1_1 l1_1.length c1_1] 43 (0, 0)) (bup BK464.out) hb)
     replace BK465 := Ae_q (bB_q (g := gb465) (o := .cells #[.int .i64 a3_0, .int .i64 a3_1, .int .i64 a3_2] 31 (0, 0)) (bup BK465.out) hb)
     replace HB := Ae_q (bT_q m0_q hb)
     (try clear hb)
     (try clear hb2)
     (try clear hk)
     (try clear hi)
     refine hK.out _ _ ((cel HB.out hw471_0)) (fun hHeld => ?_)
     clear hK K
     refine nJ_q ?_
     refine pJ HT_ 8 39 rfl rfl ?_
     refine pJ HT_ 9 12 rfl rfl ?_
     refine done_ (done_of HT_.out m7_q) ?_
     try go_wp2
     go_loopg [12] k2 (fun kq v12 w' => ∃ (x12_3 : Int), v12 = .int .i64 x12_3 ∧ Aside0 (spec_OutageRepair.l1 kq l0 l2 x10_2 x11_2 x12_3 a1_0 l1_1 a3_0 a3_1 a3_2 = some (r1, r2)) ∧ Aside0 (kq ≤ k2) ∧ Aside0 (Kd.R kI_q 3 w' w.heap.size (fun _ => True) (.slice Ao28 x10_2.length co28) x10_2) ∧ Aside0 (w'.heap[gb464]? = some (.cells #[.int .i64 a1_0, (.slice A1_1 l1_1.length c1_1)] 43 (0, 0))) ∧ Aside0 (w'.heap[gb465]? = some (.cells #[.int .i64 a3_0, .int .i64 a3_1, .int .i64 a3_2] 31 (0, 0))) ∧ Aside0 (Below w.heap.size w w'))
     case atStart => exact ⟨(ji26), (by first | rfl | (simp; done) | (simp only [← hji26] <;> (first | rfl | simp)) | (simp [*]; done)), H', ⟨nR_q _⟩, ⟨rup HO_10.out⟩, ⟨bup BK464.out⟩, ⟨bup BK465.out⟩, ⟨m0_q⟩⟩
     case round =>
      clear H'
      try clear c1
      try clear c2
      try clear p2
      try clear c4
      try clear p4
      try clear q4
      try clear hx4
      try clear c5
      try clear c11
      try clear c13
      try clear c18
      try clear c21
      try clear c22
      try clear c22b0
      try clear c23
      try clear c23b0
      try clear c24
      try clear c24b0
      try clear c29
      try clear hcz14_0
      try clear hcz14_1
      try clear hcz16_0
      try clear hcz16_1
      try clear hcz16_2
      try clear hcz19_0
      try clear hcz19_1
      try clear hfz14_0
      try clear hfz14_1
      try clear hfz16_0
      try clear hfz16_1
      try clear hfz16_2
      try clear hfz19_0
      try clear hfz19_1
      try clear hx471_0
      try clear p2
      try clear p471
      try clear q471
      obtain ⟨x12_3, rfl, HA, HK3, HO_10, BK464, BK465, HB⟩ := hrel
      cases gk with
      | zero => exact absurd HA.out (by simp [spec_OutageRepair.l1])
      | succ k3 =>
       have H := HA.out
       clear HA
       simp only [spec_OutageRepair.l1] at H
       by_cases c30 : 0 ≤ x11_2
       rotate_left
       ·rw [if_neg c30] at H
        exact absurd H (by simp)
       rw [if_pos c30] at H
       have c30b0 : decide (0 ≤ x11_2) = true := dT_q c30
       clear c30
       by_cases c31 : x11_2 < (l0.length : Int)
       rotate_left
       ·rw [if_neg c31] at H
        exact absurd H (by simp)
       rw [if_pos c31] at H
       have c31b0 : decide (x11_2 < (l0.length : Int)) = true := dT_q c31
       clear c31
       replace H := oB_q.mp H
       obtain ⟨t474, A320, H⟩ := H
       replace H : (if t474 = true then (spec_OutageRepair.l1 k3 l0 l2 x10_2 x11_2 (wrap64 (x12_3 + 1)) a1_0 l1_1 a3_0 a3_1 a3_2) else ((some (([] : List Int) : List Int)).bind fun y475 => (if y475.length + x10_2.length < 17592186044416 then ((some (y475 ++ x10_2 : List Int)).bind fun y478 => ((some (([x12_3] : List Int) : List Int)).bind fun y481 => (if y478.length + y481.length < 17592186044416 then ((spec_l32Room.f k3 l0 a1_0 l1_1 (y478 ++ y481)).bind fun t487 => (if t487 = true then (if x12_3 > 999 then (some ((([] : List Int)), false)) else ((some (([x12_3] : List Int) : List Int)).bind fun y491 => (if x10_2.length + y491.length < 17592186044416 then (spec_OutageRepair.l0 k3 l0 l2 (x10_2 ++ y491) (wrap64 (x11_2 + 1)) a1_0 l1_1 a3_0 a3_1 a3_2) else (none)))) else (spec_OutageRepair.l1 k3 l0 l2 x10_2 x11_2 (wrap64 (x12_3 + 1)) a1_0 l1_1 a3_0 a3_1 a3_2))) else (none)))) else (none)))) = some (r1, r2) := H
       have A32 := Ae_q A320
       clear A320
       by_cases c33 : t474 = true
       ·subst c33
        have H1 : (spec_OutageRepair.l1 k3 l0 l2 x10_2 x11_2 (wrap64 (x12_3 + 1)) a1_0 l1_1 a3_0 a3_1 a3_2) = some (r1, r2) := by rw [if_pos rfl] at H; exact H
        clear H
        have H := H1
        clear H1
        have H' := Ae_q H
        clear H
        try go_wp2
        replace HO_10 := Ae_q (rD_q HO_10.out)
        replace BK464 := Ae_q (bW_q BK464.out)
        replace BK465 := Ae_q (bW_q BK465.out)
        replace HB := Ae_q (bD_q HB.out)
        have p473 : 0 ≤ (x11_2 : Int) := oD_q (by assumption)
        have q473 : x11_2 < (l0.length : Int) := oD_q (by assumption)
        obtain ⟨ad473, A473_3, c473_3, e473, hx473_0, hx473_1, hx473_2, hx473_3, hl473_3, hi473_3⟩ := at_T63 HR0.out x11_2 p473 q473
        have hw473_3 := hx473_3
        have hw473_2 := hx473_2
        have hw473_1 := hx473_1
        have hw473_0 := hx473_0
        cases e473
        replace hx473_0 := cel HB.out hx473_0
        replace hx473_1 := cel HB.out hx473_1
        replace hx473_2 := cel HB.out hx473_2
        replace hx473_3 := cel HB.out hx473_3
        have HR473_3 := Ae_q hi473_3
        have HC473_3 := Ae_q hl473_3
        clear hi473_3 hl473_3
        replace p473 := eq_true p473
        replace q473 := eq_true q473
        refine start_ (n := 19) (S := fun w' => w'.cell? ⟨gb465, 0, none⟩ = some (.int .i64 a3_0) ∧ w'.cell? ⟨gb465, 1, none⟩ = some (.int .i64 a3_1) ∧ w'.cell? ⟨gb465, 2, none⟩ = some (.int .i64 a3_2) ∧ w'.cell? (ad473.add ((x11_2).toNat * 4)) = some (.int .i64 ((rd_T63 l0 x11_2).f0)) ∧ w'.cell? ⟨(ad473.add ((x11_2).toNat * 4)).block, (ad473.add ((x11_2).toNat * 4)).off + 1, none⟩ = some (.int .i64 ((rd_T63 l0 x11_2).f1)) ∧ w'.cell? ⟨(ad473.add ((x11_2).toNat * 4)).block, (ad473.add ((x11_2).toNat * 4)).off + 2, none⟩ = some (.int .i64 ((rd_T63 l0 x11_2).f2)) ∧ w'.cell? ⟨(ad473.add ((x11_2).toNat * 4)).block, (ad473.add ((x11_2).toNat * 4)).off + 3, none⟩ = some (.slice A473_3 ((rd_T63 l0 x11_2).f3).length c473_3)) (ds := []) #[false, false, false, false, false, false, false, false, false, false, false, false, false, false, false, false, false, false, false] m7_q rfl rfl ⟨(bC_q BK465.out 0).trans rfl, (bC_q BK465.out 1).trans rfl, (bC_q BK465.out 2).trans rfl, (cel HB.out hw473_0), (cel HB.out hw473_1), (cel HB.out hw473_2), (cel HB.out hw473_3)⟩ (fun hHeld => ?_); refine with_tabW spec_OutageRepair.tab8 spec_OutageRepair.bits8 (fun HT_ HW_ => ?_)
        generalize wr.drew = w34 at HO_10 BK464 BK465 HB HR473_3 hx473_0 hx473_1 hx473_2 hx473_3 hHeld ⊢
        refine pJ HT_ 0 40 rfl rfl ?_
        refine pJ HT_ 1 41 rfl rfl ?_
        refine pJ HT_ 2 42 rfl rfl ?_
        refine pJ HT_ 4 44 rfl rfl ?_
        refine take_ (i := 3) (N := some 43) (v := ?_) (a' := ?_) #[true, true, true, true, true, false, false, false, false, false, false, false, false, false, false, false, false, false, false] rfl rfl (take_ofW HT_.out HW_.out m7_q) (fun _ _ _ h => h) (Or.inl ⟨by rfl, ?_⟩) hHeld ?_ ?_
        rotate_left
        ·rintro w' ⟨s0, s1, s2, s3, s4, s5, s6⟩
         go_simp
         with_reducible rfl
        rotate_left
        ·simp only [pS_q]
         rfl
        refine take_ (i := 5) (N := some 45) (v := ?_) (a' := ?_) #[true, true, true, true, true, true, false, false, false, false, false, false, false, false, false, false, false, false, false] rfl rfl (take_ofW HT_.out HW_.out m7_q) (fun _ _ _ h => h) (Or.inl ⟨by rfl, ?_⟩) hHeld ?_ ?_
        rotate_left
        ·rintro w' ⟨s0, s1, s2, s3, s4, s5, s6⟩
         go_simp
         with_reducible rfl
        rotate_left
        ·simp only [pS_q]
         rfl
        refine one_ (i := 6) (N := some 46) #[true, true, true, true, true, true, true, false, false, false, false, false, false, false, false, false, false, false, false] rfl rfl (one_of HT_.out m7_q) (by decide) (fun K hK => ?_)
        refine goes_ Try.func36 m7_q rfl #[.agg #[.int .i64 ((rd_T63 l0 x11_2).f0), .int .i64 ((rd_T63 l0 x11_2).f1), .int .i64 ((rd_T63 l0 x11_2).f2), .slice A473_3 ((rd_T63 l0 x11_2).f3).length c473_3], .int .i64 x12_3, .agg #[.int .i64 a3_0, .int .i64 a3_1, .int .i64 a3_2]] (by rfl) rfl rfl m1_q ?_
        with_reducible refine (spec_l33Hit.calls ((rd_T63 l0 x11_2).f0) ((rd_T63 l0 x11_2).f1) ((rd_T63 l0 x11_2).f2) _ _ ((rd_T63 l0 x11_2).f3) x12_3 a3_0 a3_1 a3_2 true _ ?side1 ?side2 A32.out).mono ?_
        (case side1 => exact m117_q)
        (case side2 => exact HC473_3.out)
        rintro e w' ⟨rfl, hb⟩
        refine ⟨_, rfl, ?_⟩
        replace HO_10 := Ae_q (rO_q (rup HO_10.out) hb)
        replace BK464 := Ae_q (bB_q (g := gb464) (o := .cells #[.int .i64 a1_0, .slice A1_1 l1_1.length c1_1] 43 (0, 0)) (bup BK464.out) hb)
        replace BK465 := Ae_q (bB_q (g := gb465) (o := .cells #[.int .i64 a3_0, .int .i64 a3_1, .int .i64 a3_2] 31 (0, 0)) (bup BK465.out) hb)
        replace HB := Ae_q (bT_q m0_q hb)
        (try clear hb)
        (try clear hb2)
        (try clear hk)
        (try clear hi)
        refine hK.out _ _ ⟨(bC_q BK465.out 0).trans rfl, (bC_q BK465.out 1).trans rfl, (bC_q BK465.out 2).trans rfl, (cel HB.out hw473_0), (cel HB.out hw473_1), (cel HB.out hw473_2), (cel HB.out hw473_3)⟩ (fun hHeld => ?_)
        clear hK K
        refine nJ_q ?_
        refine pJ HT_ 7 47 rfl rfl ?_
        refine pV HT_ 8 48 rfl rfl ?_
        refine pV HT_ 9 49 rfl rfl ?_
        refine pV HT_ 10 50 rfl rfl ?_
        refine pV HT_ 11 51 rfl rfl ?_
        refine pV HT_ 12 52 rfl rfl ?_
        refine pV HT_ 13 53 rfl rfl ?_
        refine pV HT_ 14 54 rfl rfl ?_
        refine pV HT_ 15 55 rfl rfl ?_
        refine pV HT_ 16 56 rfl rfl ?_
        refine pV HT_ 17 57 rfl rfl ?_
        refine pJ HT_ 18 58 rfl rfl ?_
        refine done_ (done_of HT_.out m7_q) ?_
        try go_wp2
        go_roundg k3
        case measure => have := HJ4.out; have := HK2.out; have := HK3.out; omega
        case rel => exact ⟨(wrap64 (x12_3 + 1)), m5_q, H', ⟨m116_q⟩, ⟨rup HO_10.out⟩, ⟨bup BK464.out⟩, ⟨bup BK465.out⟩, ⟨m0_q⟩⟩
       replace c33 := fM_q.mpr c33
       subst c33
       have H1 : ((some (([] : List Int) : List Int)).bind fun y475 => (if y475.length + x10_2.length < 17592186044416 then ((some (y475 ++ x10_2 : List Int)).bind fun y478 => ((some (([x12_3] : List Int) : List Int)).bind fun y481 => (if y478.length + y481.length < 17592186044416 then ((spec_l32Room.f k3 l0 a1_0 l1_1 (y478 ++ y481)).bind fun t487 => (if t487 = true then (if x12_3 > 999 then (some ((([] : List Int)), false)) else ((some (([x12_3] : List Int) : List Int)).bind fun y491 => (if x10_2.length + y491.length < 17592186044416 then (spec_OutageRepair.l0 k3 l0 l2 (x10_2 ++ y491) (wrap64 (x11_2 + 1)) a1_0 l1_1 a3_0 a3_1 a3_2) else (none)))) else (spec_OutageRepair.l1 k3 l0 l2 x10_2 x11_2 (wrap64 (x12_3 + 1)) a1_0 l1_1 a3_0 a3_1 a3_2))) else (none)))) else (none))) = some (r1, r2) := by rw [if_neg (show ¬ (false = true) by decide)] at H; exact H
       clear H
       have H := H1
       clear H1
       obtain ⟨y475, hy475⟩ : ∃ y_ : List Int, y_ = (([] : List Int)) := ⟨_, rfl⟩
       replace H : (if y475.length + x10_2.length < 17592186044416 then ((some (y475 ++ x10_2 : List Int)).bind fun y478 => ((some (([x12_3] : List Int) : List Int)).bind fun y481 => (if y478.length + y481.length < 17592186044416 then ((spec_l32Room.f k3 l0 a1_0 l1_1 (y478 ++ y481)).bind fun t487 => (if t487 = true then (if x12_3 > 999 then (some ((([] : List Int)), false)) else ((some (([x12_3] : List Int) : List Int)).bind fun y491 => (if x10_2.length + y491.length < 17592186044416 then (spec_OutageRepair.l0 k3 l0 l2 (x10_2 ++ y491) (wrap64 (x11_2 + 1)) a1_0 l1_1 a3_0 a3_1 a3_2) else (none)))) else (spec_OutageRepair.l1 k3 l0 l2 x10_2 x11_2 (wrap64 (x12_3 + 1)) a1_0 l1_1 a3_0 a3_1 a3_2))) else (none)))) else (none)) = some (r1, r2) := by first | (rw [hy475]; with_reducible exact H) | (have H2_ := (oS_q _ _).symm.trans H; rw [hy475]; with_reducible exact H2_) | (have H2_ := (oS_q _ _).symm.trans H; with_reducible exact H2_) | with_reducible exact H | (rw [hy475]; exact H) | exact H
       have Ny475 := Ae_q hy475
       clear hy475
       by_cases c36 : y475.length + x10_2.length < 17592186044416
       rotate_left
       ·rw [if_neg c36] at H
        exact absurd H (by simp)
       rw [if_pos c36] at H
       have LMc36 := Ae_q c36
       clear c36
       obtain ⟨y478, hy478⟩ : ∃ y_ : List Int, y_ = (y475 ++ x10_2) := ⟨_, rfl⟩
       replace H : ((some (([x12_3] : List Int) : List Int)).bind fun y481 => (if y478.length + y481.length < 17592186044416 then ((spec_l32Room.f k3 l0 a1_0 l1_1 (y478 ++ y481)).bind fun t487 => (if t487 = true then (if x12_3 > 999 then (some ((([] : List Int)), false)) else ((some (([x12_3] : List Int) : List Int)).bind fun y491 => (if x10_2.length + y491.length < 17592186044416 then (spec_OutageRepair.l0 k3 l0 l2 (x10_2 ++ y491) (wrap64 (x11_2 + 1)) a1_0 l1_1 a3_0 a3_1 a3_2) else (none)))) else (spec_OutageRepair.l1 k3 l0 l2 x10_2 x11_2 (wrap64 (x12_3 + 1)) a1_0 l1_1 a3_0 a3_1 a3_2))) else (none))) = some (r1, r2) := by first | (rw [hy478]; with_reducible exact H) | (have H2_ := (oS_q _ _).symm.trans H; rw [hy478]; with_reducible exact H2_) | (have H2_ := (oS_q _ _).symm.trans H; with_reducible exact H2_) | with_reducible exact H | (rw [hy478]; exact H) | exact H
       have Ny478 := Ae_q hy478
       clear hy478
       obtain ⟨y481, hy481⟩ : ∃ y_ : List Int, y_ = (([x12_3] : List Int)) := ⟨_, rfl⟩
       replace H : (if y478.length + y481.length < 17592186044416 then ((spec_l32Room.f k3 l0 a1_0 l1_1 (y478 ++ y481)).bind fun t487 => (if t487 = true then (if x12_3 > 999 then (some ((([] : List Int)), false)) else ((some (([x12_3] : List Int) : List Int)).bind fun y491 => (if x10_2.length + y491.length < 17592186044416 then (spec_OutageRepair.l0 k3 l0 l2 (x10_2 ++ y491) (wrap64 (x11_2 + 1)) a1_0 l1_1 a3_0 a3_1 a3_2) else (none)))) else (spec_OutageRepair.l1 k3 l0 l2 x10_2 x11_2 (wrap64 (x12_3 + 1)) a1_0 l1_1 a3_0 a3_1 a3_2))) else (none)) = some (r1, r2) := by first | (rw [hy481]; with_reducible exact H) | (have H2_ := (oS_q _ _).symm.trans H; rw [hy481]; with_reducible exact H2_) | (have H2_ := (oS_q _ _).symm.trans H; with_reducible exact H2_) | with_reducible exact H | (rw [hy481]; exact H) | exact H
       have Ny481 := Ae_q hy481
       clear hy481
       by_cases c37 : y478.length + y481.length < 17592186044416
       rotate_left
       ·rw [if_neg c37] at H
        exact absurd H (by simp)
       rw [if_pos c37] at H
       have LMc37 := Ae_q c37
       clear c37
       obtain ⟨y484, hy484⟩ : ∃ y_ : List Int, y_ = (y478 ++ y481) := ⟨_, rfl⟩
       replace H : ((spec_l32Room.f k3 l0 a1_0 l1_1 y484).bind fun t487 => (if t487 = true then (if x12_3 > 999 then (some ((([] : List Int)), false)) else ((some (([x12_3] : List Int) : List Int)).bind fun y491 => (if x10_2.length + y491.length < 17592186044416 then (spec_OutageRepair.l0 k3 l0 l2 (x10_2 ++ y491) (wrap64 (x11_2 + 1)) a1_0 l1_1 a3_0 a3_1 a3_2) else (none)))) else (spec_OutageRepair.l1 k3 l0 l2 x10_2 x11_2 (wrap64 (x12_3 + 1)) a1_0 l1_1 a3_0 a3_1 a3_2))) = some (r1, r2) := by first | (rw [hy484]; with_reducible exact H) | (have H2_ := (oS_q _ _).symm.trans H; rw [hy484]; with_reducible exact H2_) | (have H2_ := (oS_q _ _).symm.trans H; with_reducible exact H2_) | with_reducible exact H | (rw [hy484]; exact H) | exact H
       have Ny484 := Ae_q hy484
       clear hy484
       replace H := oB_q.mp H
       obtain ⟨t487, A380, H⟩ := H
       replace H : (if t487 = true then (if x12_3 > 999 then (some ((([] : List Int)), false)) else ((some (([x12_3] : List Int) : List Int)).bind fun y491 => (if x10_2.length + y491.length < 17592186044416 then (spec_OutageRepair.l0 k3 l0 l2 (x10_2 ++ y491) (wrap64 (x11_2 + 1)) a1_0 l1_1 a3_0 a3_1 a3_2) else (none)))) else (spec_OutageRepair.l1 k3 l0 l2 x10_2 x11_2 (wrap64 (x12_3 + 1)) a1_0 l1_1 a3_0 a3_1 a3_2)) = some (r1, r2) := H
       have A38 := Ae_q A380
       clear A380
       by_cases c39 : t487 = true
       rotate_left
       ·replace c39 := fM_q.mpr c39
        subst c39
        have H1 : (spec_OutageRepair.l1 k3 l0 l2 x10_2 x11_2 (wrap64 (x12_3 + 1)) a1_0 l1_1 a3_0 a3_1 a3_2) = some (r1, r2) := by rw [if_neg (show ¬ (false = true) by decide)] at H; exact H
        clear H
        have H := H1
        clear H1
        have H' := Ae_q H
        clear H
        try go_wp2
        replace HO_10 := Ae_q (rD_q HO_10.out)
        replace BK464 := Ae_q (bW_q BK464.out)
        replace BK465 := Ae_q (bW_q BK465.out)
        replace HB := Ae_q (bD_q HB.out)
        have p473 : 0 ≤ (x11_2 : Int) := oD_q (by assumption)
        have q473 : x11_2 < (l0.length : Int) := oD_q (by assumption)
        obtain ⟨ad473, A473_3, c473_3, e473, hx473_0, hx473_1, hx473_2, hx473_3, hl473_3, hi473_3⟩ := at_T63 HR0.out x11_2 p473 q473
        have hw473_3 := hx473_3
        have hw473_2 := hx473_2
        have hw473_1 := hx473_1
        have hw473_0 := hx473_0
        cases e473
        replace hx473_0 := cel HB.out hx473_0
        replace hx473_1 := cel HB.out hx473_1
        replace hx473_2 := cel HB.out hx473_2
        replace hx473_3 := cel HB.out hx473_3
        have HR473_3 := Ae_q hi473_3
        have HC473_3 := Ae_q hl473_3
        clear hi473_3 hl473_3
        replace p473 := eq_true p473
        replace q473 := eq_true q473
        refine start_ (n := 19) (S := fun w' => w'.cell? ⟨gb465, 0, none⟩ = some (.int .i64 a3_0) ∧ w'.cell? ⟨gb465, 1, none⟩ = some (.int .i64 a3_1) ∧ w'.cell? ⟨gb465, 2, none⟩ = some (.int .i64 a3_2) ∧ w'.cell? ⟨gb464, 0, none⟩ = some (.int .i64 a1_0) ∧ w'.cell? ⟨gb464, 1, none⟩ = some (.slice A1_1 l1_1.length c1_1) ∧ w'.cell? (ad473.add ((x11_2).toNat * 4)) = some (.int .i64 ((rd_T63 l0 x11_2).f0)) ∧ w'.cell? ⟨(ad473.add ((x11_2).toNat * 4)).block, (ad473.add ((x11_2).toNat * 4)).off + 1, none⟩ = some (.int .i64 ((rd_T63 l0 x11_2).f1)) ∧ w'.cell? ⟨(ad473.add ((x11_2).toNat * 4)).block, (ad473.add ((x11_2).toNat * 4)).off + 2, none⟩ = some (.int .i64 ((rd_T63 l0 x11_2).f2)) ∧ w'.cell? ⟨(ad473.add ((x11_2).toNat * 4)).block, (ad473.add ((x11_2).toNat * 4)).off + 3, none⟩ = some (.slice A473_3 ((rd_T63 l0 x11_2).f3).length c473_3)) (ds := []) #[false, false, false, false, false, false, false, false, false, false, false, false, false, false, false, false, false, false, false] m7_q rfl rfl ⟨(bC_q BK465.out 0).trans rfl, (bC_q BK465.out 1).trans rfl, (bC_q BK465.out 2).trans rfl, (bC_q BK464.out 0).trans rfl, (bC_q BK464.out 1).trans rfl, (cel HB.out hw473_0), (cel HB.out hw473_1), (cel HB.out hw473_2), (cel HB.out hw473_3)⟩ (fun hHeld => ?_); refine with_tabW spec_OutageRepair.tab8 spec_OutageRepair.bits8 (fun HT_ HW_ => ?_)
        generalize wr.drew = w72 at HO_10 BK464 BK465 HB HR473_3 hx473_0 hx473_1 hx473_2 hx473_3 hHeld ⊢
        refine pJ HT_ 0 40 rfl rfl ?_
        refine pJ HT_ 1 41 rfl rfl ?_
        refine pJ HT_ 2 42 rfl rfl ?_
        refine pJ HT_ 4 44 rfl rfl ?_
        refine take_ (i := 3) (N := some 43) (v := ?_) (a' := ?_) #[true, true, true, true, true, false, false, false, false, false, false, false, false, false, false, false, false, false, false] rfl rfl (take_ofW HT_.out HW_.out m7_q) (fun _ _ _ h => h) (Or.inl ⟨by rfl, ?_⟩) hHeld ?_ ?_
        rotate_left
        ·rintro w' ⟨s0, s1, s2, s3, s4, s5, s6, s7, s8⟩
         go_simp
         with_reducible rfl
        rotate_left
        ·simp only [pS_q]
         rfl
        refine take_ (i := 5) (N := some 45) (v := ?_) (a' := ?_) #[true, true, true, true, true, true, false, false, false, false, false, false, false, false, false, false, false, false, false] rfl rfl (take_ofW HT_.out HW_.out m7_q) (fun _ _ _ h => h) (Or.inl ⟨by rfl, ?_⟩) hHeld ?_ ?_
        rotate_left
        ·rintro w' ⟨s0, s1, s2, s3, s4, s5, s6, s7, s8⟩
         go_simp
         with_reducible rfl
        rotate_left
        ·simp only [pS_q]
         rfl
        refine one_ (i := 6) (N := some 46) #[true, true, true, true, true, true, true, false, false, false, false, false, false, false, false, false, false, false, false] rfl rfl (one_of HT_.out m7_q) (by decide) (fun K hK => ?_)
        refine goes_ Try.func36 m7_q rfl #[.agg #[.int .i64 ((rd_T63 l0 x11_2).f0), .int .i64 ((rd_T63 l0 x11_2).f1), .int .i64 ((rd_T63 l0 x11_2).f2), .slice A473_3 ((rd_T63 l0 x11_2).f3).length c473_3], .int .i64 x12_3, .agg #[.int .i64 a3_0, .int .i64 a3_1, .int .i64 a3_2]] (by rfl) rfl rfl m1_q ?_
        with_reducible refine (spec_l33Hit.calls ((rd_T63 l0 x11_2).f0) ((rd_T63 l0 x11_2).f1) ((rd_T63 l0 x11_2).f2) _ _ ((rd_T63 l0 x11_2).f3) x12_3 a3_0 a3_1 a3_2 false _ ?side1 ?side2 A32.out).mono ?_
        (case side1 => exact m117_q)
        (case side2 => exact HC473_3.out)
        rintro e w' ⟨rfl, hb⟩
        refine ⟨_, rfl, ?_⟩
        replace HO_10 := Ae_q (rO_q (rup HO_10.out) hb)
        replace BK464 := Ae_q (bB_q (g := gb464) (o := .cells #[.int .i64 a1_0, .slice A1_1 l1_1.length c1_1] 43 (0, 0)) (bup BK464.out) hb)
        replace BK465 := Ae_q (bB_q (g := gb465) (o := .cells #[.int .i64 a3_0, .int .i64 a3_1, .int .i64 a3_2] 31 (0, 0)) (bup BK465.out) hb)
        replace HB := Ae_q (bT_q m0_q hb)
        (try clear hb)
        (try clear hb2)
        (try clear hk)
        (try clear hi)
        refine hK.out _ _ ⟨(bC_q BK465.out 0).trans rfl, (bC_q BK465.out 1).trans rfl, (bC_q BK465.out 2).trans rfl, (bC_q BK464.out 0).trans rfl, (bC_q BK464.out 1).trans rfl, (cel HB.out hw473_0), (cel HB.out hw473_1), (cel HB.out hw473_2), (cel HB.out hw473_3)⟩ (fun hHeld => ?_)
        clear hK K
        refine nJ_q ?_
        refine pJ HT_ 7 47 rfl rfl ?_
        refine pJ HT_ 8 48 rfl rfl ?_
        refine pJ HT_ 11 51 rfl rfl ?_
        refine pJ HT_ 13 53 rfl rfl ?_
        refine take_ (i := 9) (N := some 49) (v := ?_) (a' := ?_) #[true, true, true, true, true, true, true, true, true, true, false, true, false, true, false, false, false, false, false] rfl rfl (take_ofW HT_.out HW_.out m7_q) (fun _ _ _ h => h) (Or.inl ⟨by rfl, ?_⟩) hHeld ?_ ?_
        rotate_left
        ·rintro w' ⟨s0, s1, s2, s3, s4, s5, s6, s7, s8⟩
         go_simp
         with_reducible rfl
        rotate_left
        ·simp only [pS_q]
         rfl
        refine join_ (σ := Value × Value × Value) 4 #[true, true, true, true, true, true, true, true, true, true, true, true, true, true, true, false, false, false, false] (fun s_ => [(50, s_.1), (52, s_.2.1), (54, s_.2.2)]) (fun s_ w' => (w'.cell? ⟨gb465, 0, none⟩ = some (.int .i64 a3_0) ∧ w'.cell? ⟨gb465, 1, none⟩ = some (.int .i64 a3_1) ∧ w'.cell? ⟨gb465, 2, none⟩ = some (.int .i64 a3_2) ∧ w'.cell? ⟨gb464, 0, none⟩ = some (.int .i64 a1_0) ∧ w'.cell? ⟨gb464, 1, none⟩ = some (.slice A1_1 l1_1.length c1_1) ∧ w'.cell? (ad473.add ((x11_2).toNat * 4)) = some (.int .i64 ((rd_T63 l0 x11_2).f0)) ∧ w'.cell? ⟨(ad473.add ((x11_2).toNat * 4)).block, (ad473.add ((x11_2).toNat * 4)).off + 1, none⟩ = some (.int .i64 ((rd_T63 l0 x11_2).f1)) ∧ w'.cell? ⟨(ad473.add ((x11_2).toNat * 4)).block, (ad473.add ((x11_2).toNat * 4)).off + 2, none⟩ = some (.int .i64 ((rd_T63 l0 x11_2).f2)) ∧ w'.cell? ⟨(ad473.add ((x11_2).toNat * 4)).block, (ad473.add ((x11_2).toNat * 4)).off + 3, none⟩ = some (.slice A473_3 ((rd_T63 l0 x11_2).f3).length c473_3)) ∧ (Kd.R kI_q 3 w' w.heap.size (fun k_ => some k_ ≠ (s_.2.2 : Value).ownBlock ∧ some k_ ≠ (.slice Ao28 x10_2.length co28 : Value).ownBlock) s_.2.1 y478) ∧ (Kd.R kI_q 3 w' w.heap.size (fun k_ => some k_ ≠ (s_.2.1 : Value).ownBlock ∧ some k_ ≠ (.slice Ao28 x10_2.length co28 : Value).ownBlock) s_.2.2 y481) ∧ (Kd.R kI_q 3 w' w.heap.size (fun k_ => some k_ ≠ (s_.2.1 : Value).ownBlock ∧ some k_ ≠ (s_.2.2 : Value).ownBlock) (.slice Ao28 x10_2.length co28) x10_2) ∧ (w'.heap[gb464]? = some (.cells #[.int .i64 a1_0, .slice A1_1 l1_1.length c1_1] 43 (0, 0))) ∧ (w'.heap[gb465]? = some (.cells #[.int .i64 a3_0, .int .i64 a3_1, .int .i64 a3_2] 31 (0, 0))) ∧ (Below w.heap.size w w')) ?_ ?_
        rotate_left
        ·intro hCont
         refine two_ (i := 10) (j := 14) (Ni := some 50) (Nj := some 54) #[true, true, true, true, true, true, true, true, true, true, true, true, false, true, false, false, false, false, false] #[true, true, true, true, true, true, true, true, true, true, false, true, false, true, true, false, false, false, false] rfl rfl rfl rfl (two_of HT_.out m7_q) (by decide) (by decide) (fun K hK => ?_) (fun K hK => ?_)
         ·skip
          refine rI_q kI_q _ 3 ?hg (N := 50) ?hd (xs := ([] : List Int)) (inner := []) (ok := fun _ => True) (okp := fun _ => True) ?hr ?hp (fun _ hk => hk) trivial (bR_q _ _) (nR_q _) (by simp) ?_; (case hd => rfl); (case hg => rfl); (case hr => exact m6_q); (case hp => exact m111_q)
          intro v476 w74 ho75 hb hg_ hnew_
          clear hg_ hnew_
          (first | rw [← Ny475.out] at ho75 | (simp only [Int.reduceToNat] at ho75; rw [← Ny475.out] at ho75))
          have HO477 := Ae_q (rL_q (rW_q ho75 (rT_q (rup HO_10.out))) (bZ_q m0_q))
          replace HO_10 := Ae_q (rE_q (rup HO_10.out) (rB_q ho75) hb)
          replace BK464 := Ae_q (bB_q (g := gb464) (o := .cells #[.int .i64 a1_0, .slice A1_1 l1_1.length c1_1] 43 (0, 0)) (bup BK464.out) hb)
          replace BK465 := Ae_q (bB_q (g := gb465) (o := .cells #[.int .i64 a3_0, .int .i64 a3_1, .int .i64 a3_2] 31 (0, 0)) (bup BK465.out) hb)
          replace HB := Ae_q (bT_q m0_q hb)
          clear hb ho75
          refine hK.out _ _ ⟨(bC_q BK465.out 0).trans rfl, (bC_q BK465.out 1).trans rfl, (bC_q BK465.out 2).trans rfl, (bC_q BK464.out 0).trans rfl, (bC_q BK464.out 1).trans rfl, (cel HB.out hw473_0), (cel HB.out hw473_1), (cel HB.out hw473_2), (cel HB.out hw473_3)⟩ (fun hHeld => ?_)
          clear hK K
          refine nJ_q ?_
          refine two_ (i := 12) (j := 14) (Ni := some 52) (Nj := some 54) #[true, true, true, true, true, true, true, true, true, true, true, true, true, true, false, false, false, false, false] #[true, true, true, true, true, true, true, true, true, true, true, true, false, true, true, false, false, false, false] rfl rfl rfl rfl (two_of HT_.out m7_q) (by decide) (by decide) (fun K hK => ?_) (fun K hK => ?_)
          ·skip
           refine rP_q kI_q (w0 := w) w.heap.size (by rfl) (.tmp 50) (.tmp 51) 23 3 (.int .i64 0) 8 rfl Try.underlying23 info3 rfl (by decide) (by omega) v476 y475 x10_2 _ _ _ (fun k_ => some k_ ≠ (.slice Ao28 x10_2.length co28 : Value).ownBlock) (fun _ => False) rfl rfl ?aO ?aR (fun _ _ h => h) (fun _ h => h.elim) ?aF ?aB ?aS ?aL ?_
           (case aR => exact m62_q)
           (case aB => exact m0_q)
           (case aF => exact m113_q)
           (case aO => exact m81_q)
           (case aS => exact m128_q)
           (case aL => exact m103_q)
           intro v479 w76 ho hb hg hat
           rw [← Ny478.out] at ho
           replace HO_10 := Ae_q (rF_q (ok := (fun _ => True)) (rup HO_10.out) hg hat)
           replace BK464 := Ae_q (bG_q (g := gb464) (o := .cells #[.int .i64 a1_0, .slice A1_1 l1_1.length c1_1] 43 (0, 0)) (bup BK464.out) hg (Kd.R_ne HO477.out BK464.out (by decide)))
           replace BK465 := Ae_q (bG_q (g := gb465) (o := .cells #[.int .i64 a3_0, .int .i64 a3_1, .int .i64 a3_2] 31 (0, 0)) (bup BK465.out) hg (Kd.R_ne HO477.out BK465.out (by decide)))
           replace HB := Ae_q (hb)
           have HO480 := Ae_q (ho)
           clear HO477
           clear ho hb hg hat
           refine hK.out _ _ ⟨(bC_q BK465.out 0).trans rfl, (bC_q BK465.out 1).trans rfl, (bC_q BK465.out 2).trans rfl, (bC_q BK464.out 0).trans rfl, (bC_q BK464.out 1).trans rfl, (cel HB.out hw473_0), (cel HB.out hw473_1), (cel HB.out hw473_2), (cel HB.out hw473_3)⟩ (fun hHeld => ?_)
           clear hK K
           refine nJ_q ?_
           refine one_ (i := 14) (N := some 54) #[true, true, true, true, true, true, true, true, true, true, true, true, true, true, true, false, false, false, false] rfl rfl (one_of HT_.out m7_q) (by decide) (fun K hK => ?_)
           refine rI_q kI_q _ 3 ?hg (N := 54) ?hd (xs := ([x12_3] : List Int)) (inner := [.int .i64 x12_3]) (ok := fun _ => True) (okp := fun _ => True) ?hr ?hp (fun _ hk => hk) trivial (bR_q _ _) (nR_q _) (by simp) ?_; (case hd => rfl); (case hg => rfl); (case hr => exact m6_q); (case hp => exact m42_q)
           intro v482 w77 ho78 hb hg_ hnew_
           clear hg_ hnew_
           (first | rw [← Ny481.out] at ho78 | (simp only [Int.reduceToNat] at ho78; rw [← Ny481.out] at ho78))
           have HO483 := Ae_q (rL_q (rW_q (rW_q ho78 (rT_q (rup HO_10.out))) (rT_q (rup HO480.out))) (bZ_q m0_q))
           replace HO_10 := Ae_q (rE_q (rup HO_10.out) (rB_q ho78) hb)
           replace HO480 := Ae_q (rE_q (rup HO480.out) (rB_q ho78) hb)
           replace BK464 := Ae_q (bB_q (g := gb464) (o := .cells #[.int .i64 a1_0, .slice A1_1 l1_1.length c1_1] 43 (0, 0)) (bup BK464.out) hb)
           replace BK465 := Ae_q (bB_q (g := gb465) (o := .cells #[.int .i64 a3_0, .int .i64 a3_1, .int .i64 a3_2] 31 (0, 0)) (bup BK465.out) hb)
           replace HB := Ae_q (bT_q m0_q hb)
           clear hb ho78
           refine hK.out _ _ ⟨(bC_q BK465.out 0).trans rfl, (bC_q BK465.out 1).trans rfl, (bC_q BK465.out 2).trans rfl, (bC_q BK464.out 0).trans rfl, (bC_q BK464.out 1).trans rfl, (cel HB.out hw473_0), (cel HB.out hw473_1), (cel HB.out hw473_2), (cel HB.out hw473_3)⟩ (fun hHeld => ?_)
           clear hK K
           refine nJ_q ?_
           exact norm_ m47_q (hCont (v476, v479, v482) _ ⟨hHeld, m19_q, m76_q, m48_q, (bup BK464.out), (bup BK465.out), m0_q⟩)
          skip
          refine rI_q kI_q _ 3 ?hg (N := 54) ?hd (xs := ([x12_3] : List Int)) (inner := [.int .i64 x12_3]) (ok := fun _ => True) (okp := fun _ => True) ?hr ?hp (fun _ hk => hk) trivial (bR_q _ _) (nR_q _) (by simp) ?_; (case hd => rfl); (case hg => rfl); (case hr => exact m6_q); (case hp => exact m42_q)
          intro v482 w76 ho77 hb hg_ hnew_
          clear hg_ hnew_
          (first | rw [← Ny481.out] at ho77 | (simp only [Int.reduceToNat] at ho77; rw [← Ny481.out] at ho77))
          have HO483 := Ae_q (rL_q (rW_q (rW_q ho77 (rT_q (rup HO_10.out))) (rT_q (rup HO477.out))) (bZ_q m0_q))
          replace HO_10 := Ae_q (rE_q (rup HO_10.out) (rB_q ho77) hb)
          replace HO477 := Ae_q (rE_q (rup HO477.out) (rB_q ho77) hb)
          replace BK464 := Ae_q (bB_q (g := gb464) (o := .cells #[.int .i64 a1_0, .slice A1_1 l1_1.length c1_1] 43 (0, 0)) (bup BK464.out) hb)
          replace BK465 := Ae_q (bB_q (g := gb465) (o := .cells #[.int .i64 a3_0, .int .i64 a3_1, .int .i64 a3_2] 31 (0, 0)) (bup BK465.out) hb)
          replace HB := Ae_q (bT_q m0_q hb)
          clear hb ho77
          refine hK.out _ _ ⟨(bC_q BK465.out 0).trans rfl, (bC_q BK465.out 1).trans rfl, (bC_q BK465.out 2).trans rfl, (bC_q BK464.out 0).trans rfl, (bC_q BK464.out 1).trans rfl, (cel HB.out hw473_0), (cel HB.out hw473_1), (cel HB.out hw473_2), (cel HB.out hw473_3)⟩ (fun hHeld => ?_)
          clear hK K
          refine nJ_q ?_
          refine one_ (i := 12) (N := some 52) #[true, true, true, true, true, true, true, true, true, true, true, true, true, true, true, false, false, false, false] rfl rfl (one_of HT_.out m7_q) (by decide) (fun K hK => ?_)
          refine rP_q kI_q (w0 := w) w.heap.size (by rfl) (.tmp 50) (.tmp 51) 23 3 (.int .i64 0) 8 rfl Try.underlying23 info3 rfl (by decide) (by omega) v476 y475 x10_2 _ _ _ (fun k_ => some k_ ≠ (.slice Ao28 x10_2.length co28 : Value).ownBlock ∧ some k_ ≠ (v482 : Value).ownBlock) (fun _ => False) rfl rfl ?aO ?aR (fun _ _ h => h) (fun _ h => h.elim) ?aF ?aB ?aS ?aL ?_
          (case aR => exact m62_q)
          (case aB => exact m0_q)
          (case aF => exact m38_q)
          (case aO => exact m49_q)
          (case aS => exact m128_q)
          (case aL => exact m103_q)
          intro v479 w78 ho hb hg hat
          rw [← Ny478.out] at ho
          replace HO_10 := Ae_q (rF_q (ok := (fun k_ => some k_ ≠ (v482 : Value).ownBlock)) m77_q hg hat)
          replace BK464 := Ae_q (bG_q (g := gb464) (o := .cells #[.int .i64 a1_0, .slice A1_1 l1_1.length c1_1] 43 (0, 0)) (bup BK464.out) hg (Kd.R_ne HO477.out BK464.out (by decide)))
          replace BK465 := Ae_q (bG_q (g := gb465) (o := .cells #[.int .i64 a3_0, .int .i64 a3_1, .int .i64 a3_2] 31 (0, 0)) (bup BK465.out) hg (Kd.R_ne HO477.out BK465.out (by decide)))
          replace HO483 := Ae_q (rF_q (ok := (fun k_ => some k_ ≠ (.slice Ao28 x10_2.length co28 : Value).ownBlock)) m50_q hg hat)
          replace HB := Ae_q (hb)
          have HO480 := Ae_q (ho)
          clear HO477
          clear ho hb hg hat
          refine hK.out _ _ ⟨(bC_q BK465.out 0).trans rfl, (bC_q BK465.out 1).trans rfl, (bC_q BK465.out 2).trans rfl, (bC_q BK464.out 0).trans rfl, (bC_q BK464.out 1).trans rfl, (cel HB.out hw473_0), (cel HB.out hw473_1), (cel HB.out hw473_2), (cel HB.out hw473_3)⟩ (fun hHeld => ?_)
          clear hK K
          refine nJ_q ?_
          exact norm_ m47_q (hCont (v476, v479, v482) _ ⟨hHeld, m19_q, m29_q, m30_q, (bup BK464.out), (bup BK465.out), m0_q⟩)
         skip
         refine rI_q kI_q _ 3 ?hg (N := 54) ?hd (xs := ([x12_3] : List Int)) (inner := [.int .i64 x12_3]) (ok := fun _ => True) (okp := fun _ => True) ?hr ?hp (fun _ hk => hk) trivial (bR_q _ _) (nR_q _) (by simp) ?_; (case hd => rfl); (case hg => rfl); (case hr => exact m6_q); (case hp => exact m42_q)
         intro v482 w74 ho75 hb hg_ hnew_
         clear hg_ hnew_
         (first | rw [← Ny481.out] at ho75 | (simp only [Int.reduceToNat] at ho75; rw [← Ny481.out] at ho75))
         have HO483 := Ae_q (rL_q (rW_q ho75 (rT_q (rup HO_10.out))) (bZ_q m0_q))
         replace HO_10 := Ae_q (rE_q (rup HO_10.out) (rB_q ho75) hb)
         replace BK464 := Ae_q (bB_q (g := gb464) (o := .cells #[.int .i64 a1_0, .slice A1_1 l1_1.length c1_1] 43 (0, 0)) (bup BK464.out) hb)
         replace BK465 := Ae_q (bB_q (g := gb465) (o := .cells #[.int .i64 a3_0, .int .i64 a3_1, .int .i64 a3_2] 31 (0, 0)) (bup BK465.out) hb)
         replace HB := Ae_q (bT_q m0_q hb)
         clear hb ho75
         refine hK.out _ _ ⟨(bC_q BK465.out 0).trans rfl, (bC_q BK465.out 1).trans rfl, (bC_q BK465.out 2).trans rfl, (bC_q BK464.out 0).trans rfl, (bC_q BK464.out 1).trans rfl, (cel HB.out hw473_0), (cel HB.out hw473_1), (cel HB.out hw473_2), (cel HB.out hw473_3)⟩ (fun hHeld => ?_)
         clear hK K
         refine nJ_q ?_
         refine one_ (i := 10) (N := some 50) #[true, true, true, true, true, true, true, true, true, true, true, true, false, true, true, false, false, false, false] rfl rfl (one_of HT_.out m7_q) (by decide) (fun K hK => ?_)
         refine rI_q kI_q _ 3 ?hg (N := 50) ?hd (xs := ([] : List Int)) (inner := []) (ok := fun _ => True) (okp := fun _ => True) ?hr ?hp (fun _ hk => hk) trivial (bR_q _ _) (nR_q _) (by simp) ?_; (case hd => rfl); (case hg => rfl); (case hr => exact m6_q); (case hp => exact m111_q)
         intro v476 w76 ho77 hb hg_ hnew_
         clear hg_ hnew_
         (first | rw [← Ny475.out] at ho77 | (simp only [Int.reduceToNat] at ho77; rw [← Ny475.out] at ho77))
         have HO477 := Ae_q (rL_q (rW_q (rW_q ho77 (rT_q (rup HO_10.out))) (rT_q (rup HO483.out))) (bZ_q m0_q))
         replace HO_10 := Ae_q (rE_q (rup HO_10.out) (rB_q ho77) hb)
         replace HO483 := Ae_q (rE_q (rup HO483.out) (rB_q ho77) hb)
         replace BK464 := Ae_q (bB_q (g := gb464) (o := .cells #[.int .i64 a1_0, .slice A1_1 l1_1.length c1_1] 43 (0, 0)) (bup BK464.out) hb)
         replace BK465 := Ae_q (bB_q (g := gb465) (o := .cells #[.int .i64 a3_0, .int .i64 a3_1, .int .i64 a3_2] 31 (0, 0)) (bup BK465.out) hb)
         replace HB := Ae_q (bT_q m0_q hb)
         clear hb ho77
         refine hK.out _ _ ⟨(bC_q BK465.out 0).trans rfl, (bC_q BK465.out 1).trans rfl, (bC_q BK465.out 2).trans rfl, (bC_q BK464.out 0).trans rfl, (bC_q BK464.out 1).trans rfl, (cel HB.out hw473_0), (cel HB.out hw473_1), (cel HB.out hw473_2), (cel HB.out hw473_3)⟩ (fun hHeld => ?_)
         clear hK K
         refine nJ_q ?_
         refine one_ (i := 12) (N := some 52) #[true, true, true, true, true, true, true, true, true, true, true, true, true, true, true, false, false, false, false] rfl rfl (one_of HT_.out m7_q) (by decide) (fun K hK => ?_)
         refine rP_q kI_q (w0 := w) w.heap.size (by rfl) (.tmp 50) (.tmp 51) 23 3 (.int .i64 0) 8 rfl Try.underlying23 info3 rfl (by decide) (by omega) v476 y475 x10_2 _ _ _ (fun k_ => some k_ ≠ (.slice Ao28 x10_2.length co28 : Value).ownBlock ∧ some k_ ≠ (v482 : Value).ownBlock) (fun _ => False) rfl rfl ?aO ?aR (fun _ _ h => h) (fun _ h => h.elim) ?aF ?aB ?aS ?aL ?_
         (case aR => exact m62_q)
         (case aB => exact m0_q)
         (case aF => exact m38_q)
         (case aO => exact m49_q)
         (case aS => exact m128_q)
         (case aL => exact m103_q)
         intro v479 w78 ho hb hg hat
         rw [← Ny478.out] at ho
         replace HO_10 := Ae_q (rF_q (ok := (fun k_ => some k_ ≠ (v482 : Value).ownBlock)) m48_q hg hat)
         replace BK464 := Ae_q (bG_q (g := gb464) (o := .cells #[.int .i64 a1_0, .slice A1_1 l1_1.length c1_1] 43 (0, 0)) (bup BK464.out) hg (Kd.R_ne HO477.out BK464.out (by decide)))
         replace BK465 := Ae_q (bG_q (g := gb465) (o := .cells #[.int .i64 a3_0, .int .i64 a3_1, .int .i64 a3_2] 31 (0, 0)) (bup BK465.out) hg (Kd.R_ne HO477.out BK465.out (by decide)))
         replace HO483 := Ae_q (rF_q (ok := (fun k_ => some k_ ≠ (.slice Ao28 x10_2.length co28 : Value).ownBlock)) m50_q hg hat)
         replace HB := Ae_q (hb)
         have HO480 := Ae_q (ho)
         clear HO477
         clear ho hb hg hat
         refine hK.out _ _ ⟨(bC_q BK465.out 0).trans rfl, (bC_q BK465.out 1).trans rfl, (bC_q BK465.out 2).trans rfl, (bC_q BK464.out 0).trans rfl, (bC_q BK464.out 1).trans rfl, (cel HB.out hw473_0), (cel HB.out hw473_1), (cel HB.out hw473_2), (cel HB.out hw473_3)⟩ (fun hHeld => ?_)
         clear hK K
         refine nJ_q ?_
         exact norm_ m47_q (hCont (v476, v479, v482) _ ⟨hHeld, m19_q, m29_q, m30_q, (bup BK464.out), (bup BK465.out), m0_q⟩)
        rintro ⟨v476, v479, v482⟩ w79 ⟨hS_, h0_, h1_, h2_, h3_, h4_, h5_⟩
        have n0_ : Aside0 (Kd.R kI_q 3 w79 w.heap.size (fun k_ => some k_ ≠ (v482 : Value).ownBlock ∧ some k_ ≠ (.slice Ao28 x10_2.length co28 : Value).ownBlock) v479 y478) := ⟨h0_⟩
        have n1_ : Aside0 (Kd.R kI_q 3 w79 w.heap.size (fun k_ => some k_ ≠ (v479 : Value).ownBlock ∧ some k_ ≠ (.slice Ao28 x10_2.length co28 : Value).ownBlock) v482 y481) := ⟨h1_⟩
        have n2_ : Aside0 (Kd.R kI_q 3 w79 w.heap.size (fun k_ => some k_ ≠ (v479 : Value).ownBlock ∧ some k_ ≠ (v482 : Value).ownBlock) (.slice Ao28 x10_2.length co28) x10_2) := ⟨h2_⟩
        have n3_ : Aside0 (w79.heap[gb464]? = some (.cells #[.int .i64 a1_0, .slice A1_1 l1_1.length c1_1] 43 (0, 0))) := ⟨h3_⟩
        have n4_ : Aside0 (w79.heap[gb465]? = some (.cells #[.int .i64 a3_0, .int .i64 a3_1, .int .i64 a3_2] 31 (0, 0))) := ⟨h4_⟩
        have n5_ : Aside0 (Below w.heap.size w w79) := ⟨h5_⟩
        clear HO_10
        clear BK464
        clear BK465
        clear HB
        clear h0_ h1_ h2_ h3_ h4_ h5_
        have HO480 := n0_
        have HO483 := n1_
        have HO_10 := n2_
        have BK464 := n3_
        have BK465 := n4_
        have HB := n5_
        clear n0_ n1_ n2_ n3_ n4_ n5_
        have hHeld : w79.cell? ⟨gb465, 0, none⟩ = some (.int .i64 a3_0) ∧ w79.cell? ⟨gb465, 1, none⟩ = some (.int .i64 a3_1) ∧ w79.cell? ⟨gb465, 2, none⟩ = some (.int .i64 a3_2) ∧ w79.cell? ⟨gb464, 0, none⟩ = some (.int .i64 a1_0) ∧ w79.cell? ⟨gb464, 1, none⟩ = some (.slice A1_1 l1_1.length c1_1) ∧ w79.cell? (ad473.add ((x11_2).toNat * 4)) = some (.int .i64 ((rd_T63 l0 x11_2).f0)) ∧ w79.cell? ⟨(ad473.add ((x11_2).toNat * 4)).block, (ad473.add ((x11_2).toNat * 4)).off + 1, none⟩ = some (.int .i64 ((rd_T63 l0 x11_2).f1)) ∧ w79.cell? ⟨(ad473.add ((x11_2).toNat * 4)).block, (ad473.add ((x11_2).toNat * 4)).off + 2, none⟩ = some (.int .i64 ((rd_T63 l0 x11_2).f2)) ∧ w79.cell? ⟨(ad473.add ((x11_2).toNat * 4)).block, (ad473.add ((x11_2).toNat * 4)).off + 3, none⟩ = some (.slice A473_3 ((rd_T63 l0 x11_2).f3).length c473_3) := hS_
        obtain ⟨Ao81, co81, eo81⟩ := rS_q HO483.out
        (first | subst eo81 | (injection eo81 with f1_ f2_ f3_; have f4_ := f1_.symm; have f5_ := f3_.symm; clear f1_ f2_ f3_; subst f4_; subst f5_))
        refine norm_ (a' := ?_) ?_ ?_
        rotate_left
        ·simp only [putAll, Act.put, sA_q, sZ_q, sS_q]
         rfl
        refine one_ (i := 15) (N := some 55) #[true, true, true, true, true, true, true, true, true, true, true, true, true, true, true, true, false, false, false] rfl rfl (one_of HT_.out m7_q) (by decide) (fun K hK => ?_)
        refine rP_q kI_q (w0 := w) w.heap.size (by rfl) (.tmp 52) (.tmp 54) 23 3 (.int .i64 0) 8 rfl Try.underlying23 info3 rfl (by decide) (by omega) v479 y478 y481 _ _ _ (fun k_ => some k_ ≠ (.slice Ao28 x10_2.length co28 : Value).ownBlock ∧ some k_ ≠ (.slice Ao81 y481.length co81 : Value).ownBlock) (fun _ => False) rfl rfl ?aO ?aR (fun _ _ h => h) (fun _ h => h.elim) ?aF ?aB ?aS ?aL ?_
        (case aR => exact cup (rR_q HO483.out).2.2)
        (case aB => exact m0_q)
        (case aF => exact m38_q)
        (case aO => exact m19_q)
        (case aS => exact m128_q)
        (case aL => have := LMc37.out; omega)
        intro v485 w80 ho hb hg hat
        rw [← Ny484.out] at ho
        replace HO_10 := Ae_q (rF_q (ok := (fun k_ => some k_ ≠ (.slice Ao81 y481.length co81 : Value).ownBlock)) m30_q hg hat)
        replace BK464 := Ae_q (bG_q (g := gb464) (o := .cells #[.int .i64 a1_0, .slice A1_1 l1_1.length c1_1] 43 (0, 0)) (bup BK464.out) hg (Kd.R_ne HO480.out BK464.out (by decide)))
        replace BK465 := Ae_q (bG_q (g := gb465) (o := .cells #[.int .i64 a3_0, .int .i64 a3_1, .int .i64 a3_2] 31 (0, 0)) (bup BK465.out) hg (Kd.R_ne HO480.out BK465.out (by decide)))
        replace HO483 := Ae_q (rF_q (ok := (fun k_ => some k_ ≠ (.slice Ao28 x10_2.length co28 : Value).ownBlock)) m29_q hg hat)
        replace HB := Ae_q (hb)
        have HO486 := Ae_q (ho)
        clear HO480
        clear ho hb hg hat
        obtain ⟨Ao82, co82, eo82⟩ := rS_q HO486.out
        (first | subst eo82 | (injection eo82 with f1_ f2_ f3_; have f4_ := f1_.symm; have f5_ := f3_.symm; clear f1_ f2_ f3_; subst f4_; subst f5_))
        refine hK.out _ _ ⟨(bC_q BK465.out 0).trans rfl, (bC_q BK465.out 1).trans rfl, (bC_q BK465.out 2).trans rfl, (bC_q BK464.out 0).trans rfl, (bC_q BK464.out 1).trans rfl, (cel HB.out hw473_0), (cel HB.out hw473_1), (cel HB.out hw473_2), (cel HB.out hw473_3)⟩ (fun hHeld => ?_)
        clear hK K
        refine nJ_q ?_
        refine one_ (i := 16) (N := some 56) #[true, true, true, true, true, true, true, true, true, true, true, true, true, true, true, true, true, false, false] rfl rfl (one_of HT_.out m7_q) (by decide) (fun K hK => ?_)
        refine goes_ Try.func47 m7_q rfl #[.slice (some ad473) l0.length c0, .agg #[.int .i64 a1_0, .slice A1_1 l1_1.length c1_1], .slice Ao82 y484.length co82] (by rfl) rfl rfl m1_q ?_
        with_reducible refine (spec_l32Room.calls k3 _ _ l0 a1_0 _ _ l1_1 _ _ y484 false _ ?side1 ?side2 ?side3 ?side4 ?side5 ?side6 A38.out).mono ?_
        (case side1 => exact m20_q)
        (case side2 => exact m57_q)
        (case side3 => exact m32_q)
        (case side4 => exact m64_q)
        (case side5 => exact cup (rR_q HO486.out).2.2)
        (case side6 => exact (rR_q HO486.out).2.1)
        rintro e w' ⟨rfl, hb⟩
        refine ⟨_, rfl, ?_⟩
        replace HO_10 := Ae_q (rO_q (rup HO_10.out) hb)
        replace HO483 := Ae_q (rO_q (rup HO483.out) hb)
        replace HO486 := Ae_q (rO_q (rup HO486.out) hb)
        replace BK464 := Ae_q (bB_q (g := gb464) (o := .cells #[.int .i64 a1_0, .slice A1_1 l1_1.length c1_1] 43 (0, 0)) (bup BK464.out) hb)
        replace BK465 := Ae_q (bB_q (g := gb465) (o := .cells #[.int .i64 a3_0, .int .i64 a3_1, .int .i64 a3_2] 31 (0, 0)) (bup BK465.out) hb)
        replace HB := Ae_q (bT_q m0_q hb)
        (try clear hb)
        (try clear hb2)
        (try clear hk)
        (try clear hi)
        refine hK.out _ _ ⟨(bC_q BK465.out 0).trans rfl, (bC_q BK465.out 1).trans rfl, (bC_q BK465.out 2).trans rfl, (bC_q BK464.out 0).trans rfl, (bC_q BK464.out 1).trans rfl, (cel HB.out hw473_0), (cel HB.out hw473_1), (cel HB.out hw473_2), (cel HB.out hw473_3)⟩ (fun hHeld => ?_)
        clear hK K
        refine nJ_q ?_
        refine pJ HT_ 17 57 rfl rfl ?_
        refine pJ HT_ 18 58 rfl rfl ?_
        refine done_ (done_of HT_.out m7_q) ?_
        try go_wp2
        go_roundg k3
        case measure => have := HJ4.out; have := HK2.out; have := HK3.out; omega
        case rel => exact ⟨(wrap64 (x12_3 + 1)), m5_q, H', ⟨m116_q⟩, ⟨by (with_reducible repeat (first | apply rA_q | apply rN_q | apply rD_q)); exact rM_q HO_10.out (fun _ hk => trivial)⟩, ⟨bup BK464.out⟩, ⟨bup BK465.out⟩, ⟨m0_q⟩⟩
       subst c39
       have H1 : (if x12_3 > 999 then (some ((([] : List Int)), false)) else ((some (([x12_3] : List Int) : List Int)).bind fun y491 => (if x10_2.length + y491.length < 17592186044416 then (spec_OutageRepair.l0 k3 l0 l2 (x10_2 ++ y491) (wrap64 (x11_2 + 1)) a1_0 l1_1 a3_0 a3_1 a3_2) else (none)))) = some (r1, r2) := by rw [if_pos rfl] at H; exact H
       clear H
       have H := H1
       clear H1
       by_cases c40 : x12_3 > 999
       ·rw [if_pos c40] at H
        have c40b0 : decide (999 < x12_3) = true := dT_q c40
        clear c40
        obtain ⟨y488, hy488⟩ : ∃ y_ : List Int, y_ = (([] : List Int)) := ⟨_, rfl⟩
        replace H : (some (y488, false)) = some (r1, r2) := by first | (rw [hy488]; with_reducible exact H) | (have H2_ := (oS_q _ _).symm.trans H; rw [hy488]; with_reducible exact H2_) | (have H2_ := (oS_q _ _).symm.trans H; with_reducible exact H2_) | with_reducible exact H | (rw [hy488]; exact H) | exact H
        have Ny488 := Ae_q hy488
        clear hy488
        simp only [oE_q, pE_q] at H
        obtain ⟨rfl, rfl⟩ := H
        try go_wp2
        replace HO_10 := Ae_q (rD_q HO_10.out)
        replace BK464 := Ae_q (bW_q BK464.out)
        replace BK465 := Ae_q (bW_q BK465.out)
        replace HB := Ae_q (bD_q HB.out)
        have p473 : 0 ≤ (x11_2 : Int) := oD_q (by assumption)
        have q473 : x11_2 < (l0.length : Int) := oD_q (by assumption)
        obtain ⟨ad473, A473_3, c473_3, e473, hx473_0, hx473_1, hx473_2, hx473_3, hl473_3, hi473_3⟩ := at_T63 HR0.out x11_2 p473 q473
        have hw473_3 := hx473_3
        have hw473_2 := hx473_2
        have hw473_1 := hx473_1
        have hw473_0 := hx473_0
        cases e473
        replace hx473_0 := cel HB.out hx473_0
        replace hx473_1 := cel HB.out hx473_1
        replace hx473_2 := cel HB.out hx473_2
        replace hx473_3 := cel HB.out hx473_3
        have HR473_3 := Ae_q hi473_3
        have HC473_3 := Ae_q hl473_3
        clear hi473_3 hl473_3
        replace p473 := eq_true p473
        replace q473 := eq_true q473
        refine start_ (n := 19) (S := fun w' => w'.cell? ⟨gb465, 0, none⟩ = some (.int .i64 a3_0) ∧ w'.cell? ⟨gb465, 1, none⟩ = some (.int .i64 a3_1) ∧ w'.cell? ⟨gb465, 2, none⟩ = some (.int .i64 a3_2) ∧ w'.cell? ⟨gb464, 0, none⟩ = some (.int .i64 a1_0) ∧ w'.cell? ⟨gb464, 1, none⟩ = some (.slice A1_1 l1_1.length c1_1) ∧ w'.cell? (ad473.add ((x11_2).toNat * 4)) = some (.int .i64 ((rd_T63 l0 x11_2).f0)) ∧ w'.cell? ⟨(ad473.add ((x11_2).toNat * 4)).block, (ad473.add ((x11_2).toNat * 4)).off + 1, none⟩ = some (.int .i64 ((rd_T63 l0 x11_2).f1)) ∧ w'.cell? ⟨(ad473.add ((x11_2).toNat * 4)).block, (ad473.add ((x11_2).toNat * 4)).off + 2, none⟩ = some (.int .i64 ((rd_T63 l0 x11_2).f2)) ∧ w'.cell? ⟨(ad473.add ((x11_2).toNat * 4)).block, (ad473.add ((x11_2).toNat * 4)).off + 3, none⟩ = some (.slice A473_3 ((rd_T63 l0 x11_2).f3).length c473_3)) (ds := []) #[false, false, false, false, false, false, false, false, false, false, false, false, false, false, false, false, false, false, false] m7_q rfl rfl ⟨(bC_q BK465.out 0).trans rfl, (bC_q BK465.out 1).trans rfl, (bC_q BK465.out 2).trans rfl, (bC_q BK464.out 0).trans rfl, (bC_q BK464.out 1).trans rfl, (cel HB.out hw473_0), (cel HB.out hw473_1), (cel HB.out hw473_2), (cel HB.out hw473_3)⟩ (fun hHeld => ?_); refine with_tabW spec_OutageRepair.tab8 spec_OutageRepair.bits8 (fun HT_ HW_ => ?_)
        generalize wr.drew = w41 at HO_10 BK464 BK465 HB HR473_3 hx473_0 hx473_1 hx473_2 hx473_3 hHeld ⊢
        refine pJ HT_ 0 40 rfl rfl ?_
        refine pJ HT_ 1 41 rfl rfl ?_
        refine pJ HT_ 2 42 rfl rfl ?_
        refine pJ HT_ 4 44 rfl rfl ?_
        refine take_ (i := 3) (N := some 43) (v := ?_) (a' := ?_) #[true, true, true, true, true, false, false, false, false, false, false, false, false, false, false, false, false, false, false] rfl rfl (take_ofW HT_.out HW_.out m7_q) (fun _ _ _ h => h) (Or.inl ⟨by rfl, ?_⟩) hHeld ?_ ?_
        rotate_left
        ·rintro w' ⟨s0, s1, s2, s3, s4, s5, s6, s7, s8⟩
         go_simp
         with_reducible rfl
        rotate_left
        ·simp only [pS_q]
         rfl
        refine take_ (i := 5) (N := some 45) (v := ?_) (a' := ?_) #[true, true, true, true, true, true, false, false, false, false, false, false, false, false, false, false, false, false, false] rfl rfl (take_ofW HT_.out HW_.out m7_q) (fun _ _ _ h => h) (Or.inl ⟨by rfl, ?_⟩) hHeld ?_ ?_
        rotate_left
        ·rintro w' ⟨s0, s1, s2, s3, s4, s5, s6, s7, s8⟩
         go_simp
         with_reducible rfl
        rotate_left
        ·simp only [pS_q]
         rfl
        refine one_ (i := 6) (N := some 46) #[true, true, true, true, true, true, true, false, false, false, false, false, false, false, false, false, false, false, false] rfl rfl (one_of HT_.out m7_q) (by decide) (fun K hK => ?_)
        refine goes_ Try.func36 m7_q rfl #[.agg #[.int .i64 ((rd_T63 l0 x11_2).f0), .int .i64 ((rd_T63 l0 x11_2).f1), .int .i64 ((rd_T63 l0 x11_2).f2), .slice A473_3 ((rd_T63 l0 x11_2).f3).length c473_3], .int .i64 x12_3, .agg #[.int .i64 a3_0, .int .i64 a3_1, .int .i64 a3_2]] (by rfl) rfl rfl m1_q ?_
        with_reducible refine (spec_l33Hit.calls ((rd_T63 l0 x11_2).f0) ((rd_T63 l0 x11_2).f1) ((rd_T63 l0 x11_2).f2) _ _ ((rd_T63 l0 x11_2).f3) x12_3 a3_0 a3_1 a3_2 false _ ?side1 ?side2 A32.out).mono ?_
        (case side1 => exact m117_q)
        (case side2 => exact HC473_3.out)
        rintro e w' ⟨rfl, hb⟩
        refine ⟨_, rfl, ?_⟩
        replace HO_10 := Ae_q (rO_q (rup HO_10.out) hb)
        replace BK464 := Ae_q (bB_q (g := gb464) (o := .cells #[.int .i64 a1_0, .slice A1_1 l1_1.length c1_1] 43 (0, 0)) (bup BK464.out) hb)
        replace BK465 := Ae_q (bB_q (g := gb465) (o := .cells #[.int .i64 a3_0, .int .i64 a3_1, .int .i64 a3_2] 31 (0, 0)) (bup BK465.out) hb)
        replace HB := Ae_q (bT_q m0_q hb)
        (try clear hb)
        (try clear hb2)
        (try clear hk)
        (try clear hi)
        refine hK.out _ _ ⟨(bC_q BK465.out 0).trans rfl, (bC_q BK465.out 1).trans rfl, (bC_q BK465.out 2).trans rfl, (bC_q BK464.out 0).trans rfl, (bC_q BK464.out 1).trans rfl, (cel HB.out hw473_0), (cel HB.out hw473_1), (cel HB.out hw473_2), (cel HB.out hw473_3)⟩ (fun hHeld => ?_)
        clear hK K
        refine nJ_q ?_
        refine pJ HT_ 7 47 rfl rfl ?_
        refine pJ HT_ 8 48 rfl rfl ?_
        refine pJ HT_ 11 51 rfl rfl ?_
        refine pJ HT_ 13 53 rfl rfl ?_
        refine take_ (i := 9) (N := some 49) (v := ?_) (a' := ?_) #[true, true, true, true, true, true, true, true, true, true, false, true, false, true, false, false, false, false, false] rfl rfl (take_ofW HT_.out HW_.out m7_q) (fun _ _ _ h => h) (Or.inl ⟨by rfl, ?_⟩) hHeld ?_ ?_
        rotate_left
        ·rintro w' ⟨s0, s1, s2, s3, s4, s5, s6, s7, s8⟩
         go_simp
         with_reducible rfl
        rotate_left
        ·simp only [pS_q]
         rfl
        refine join_ (σ := Value × Value × Value) 4 #[true, true, true, true, true, true, true, true, true, true, true, true, true, true, true, false, false, false, false] (fun s_ => [(50, s_.1), (52, s_.2.1), (54, s_.2.2)]) (fun s_ w' => (w'.cell? ⟨gb465, 0, none⟩ = some (.int .i64 a3_0) ∧ w'.cell? ⟨gb465, 1, none⟩ = some (.int .i64 a3_1) ∧ w'.cell? ⟨gb465, 2, none⟩ = some (.int .i64 a3_2) ∧ w'.cell? ⟨gb464, 0, none⟩ = some (.int .i64 a1_0) ∧ w'.cell? ⟨gb464, 1, none⟩ = some (.slice A1_1 l1_1.length c1_1) ∧ w'.cell? (ad473.add ((x11_2).toNat * 4)) = some (.int .i64 ((rd_T63 l0 x11_2).f0)) ∧ w'.cell? ⟨(ad473.add ((x11_2).toNat * 4)).block, (ad473.add ((x11_2).toNat * 4)).off + 1, none⟩ = some (.int .i64 ((rd_T63 l0 x11_2).f1)) ∧ w'.cell? ⟨(ad473.add ((x11_2).toNat * 4)).block, (ad473.add ((x11_2).toNat * 4)).off + 2, none⟩ = some (.int .i64 ((rd_T63 l0 x11_2).f2)) ∧ w'.cell? ⟨(ad473.add ((x11_2).toNat * 4)).block, (ad473.add ((x11_2).toNat * 4)).off + 3, none⟩ = some (.slice A473_3 ((rd_T63 l0 x11_2).f3).length c473_3)) ∧ (Kd.R kI_q 3 w' w.heap.size (fun k_ => some k_ ≠ (s_.2.2 : Value).ownBlock ∧ some k_ ≠ (.slice Ao28 x10_2.length co28 : Value).ownBlock) s_.2.1 y478) ∧ (Kd.R kI_q 3 w' w.heap.size (fun k_ => some k_ ≠ (s_.2.1 : Value).ownBlock ∧ some k_ ≠ (.slice Ao28 x10_2.length co28 : Value).ownBlock) s_.2.2 y481) ∧ (Kd.R kI_q 3 w' w.heap.size (fun k_ => some k_ ≠ (s_.2.1 : Value).ownBlock ∧ some k_ ≠ (s_.2.2 : Value).ownBlock) (.slice Ao28 x10_2.length co28) x10_2) ∧ (w'.heap[gb464]? = some (.cells #[.int .i64 a1_0, .slice A1_1 l1_1.length c1_1] 43 (0, 0))) ∧ (w'.heap[gb465]? = some (.cells #[.int .i64 a3_0, .int .i64 a3_1, .int .i64 a3_2] 31 (0, 0))) ∧ (Below w.heap.size w w')) ?_ ?_
        rotate_left
        ·intro hCont
         refine two_ (i := 10) (j := 14) (Ni := some 50) (Nj := some 54) #[true, true, true, true, true, true, true, true, true, true, true, true, false, true, false, false, false, false, false] #[true, true, true, true, true, true, true, true, true, true, false, true, false, true, true, false, false, false, false] rfl rfl rfl rfl (two_of HT_.out m7_q) (by decide) (by decide) (fun K hK => ?_) (fun K hK => ?_)
         ·skip
          refine rI_q kI_q _ 3 ?hg (N := 50) ?hd (xs := ([] : List Int)) (inner := []) (ok := fun _ => True) (okp := fun _ => True) ?hr ?hp (fun _ hk => hk) trivial (bR_q _ _) (nR_q _) (by simp) ?_; (case hd => rfl); (case hg => rfl); (case hr => exact m6_q); (case hp => exact m111_q)
          intro v476 w43 ho44 hb hg_ hnew_
          clear hg_ hnew_
          (first | rw [← Ny475.out] at ho44 | (simp only [Int.reduceToNat] at ho44; rw [← Ny475.out] at ho44))
          have HO477 := Ae_q (rL_q (rW_q ho44 (rT_q (rup HO_10.out))) (bZ_q m0_q))
          replace HO_10 := Ae_q (rE_q (rup HO_10.out) (rB_q ho44) hb)
          replace BK464 := Ae_q (bB_q (g := gb464) (o := .cells #[.int .i64 a1_0, .slice A1_1 l1_1.length c1_1] 43 (0, 0)) (bup BK464.out) hb)
          replace BK465 := Ae_q (bB_q (g := gb465) (o := .cells #[.int .i64 a3_0, .int .i64 a3_1, .int .i64 a3_2] 31 (0, 0)) (bup BK465.out) hb)
          replace HB := Ae_q (bT_q m0_q hb)
          clear hb ho44
          refine hK.out _ _ ⟨(bC_q BK465.out 0).trans rfl, (bC_q BK465.out 1).trans rfl, (bC_q BK465.out 2).trans rfl, (bC_q BK464.out 0).trans rfl, (bC_q BK464.out 1).trans rfl, (cel HB.out hw473_0), (cel HB.out hw473_1), (cel HB.out hw473_2), (cel HB.out hw473_3)⟩ (fun hHeld => ?_)
          clear hK K
          refine nJ_q ?_
          refine two_ (i := 12) (j := 14) (Ni := some 52) (Nj := some 54) #[true, true, true, true, true, true, true, true, true, true, true, true, true, true, false, false, false, false, false] #[true, true, true, true, true, true, true, true, true, true, true, true, false, true, true, false, false, false, false] rfl rfl rfl rfl (two_of HT_.out m7_q) (by decide) (by decide) (fun K hK => ?_) (fun K hK => ?_)
          ·skip
           refine rP_q kI_q (w0 := w) w.heap.size (by rfl) (.tmp 50) (.tmp 51) 23 3 (.int .i64 0) 8 rfl Try.underlying23 info3 rfl (by decide) (by omega) v476 y475 x10_2 _ _ _ (fun k_ => some k_ ≠ (.slice Ao28 x10_2.length co28 : Value).ownBlock) (fun _ => False) rfl rfl ?aO ?aR (fun _ _ h => h) (fun _ h => h.elim) ?aF ?aB ?aS ?aL ?_
           (case aR => exact m62_q)
           (case aB => exact m0_q)
           (case aF => exact m113_q)
           (case aO => exact m81_q)
           (case aS => exact m128_q)
           (case aL => exact m103_q)
           intro v479 w45 ho hb hg hat
           rw [← Ny478.out] at ho
           replace HO_10 := Ae_q (rF_q (ok := (fun _ => True)) (rup HO_10.out) hg hat)
           replace BK464 := Ae_q (bG_q (g := gb464) (o := .cells #[.int .i64 a1_0, .slice A1_1 l1_1.length c1_1] 43 (0, 0)) (bup BK464.out) hg (Kd.R_ne HO477.out BK464.out (by decide)))
           replace BK465 := Ae_q (bG_q (g := gb465) (o := .cells #[.int .i64 a3_0, .int .i64 a3_1, .int .i64 a3_2] 31 (0, 0)) (bup BK465.out) hg (Kd.R_ne HO477.out BK465.out (by decide)))
           replace HB := Ae_q (hb)
           have HO480 := Ae_q (ho)
           clear HO477
           clear ho hb hg hat
           refine hK.out _ _ ⟨(bC_q BK465.out 0).trans rfl, (bC_q BK465.out 1).trans rfl, (bC_q BK465.out 2).trans rfl, (bC_q BK464.out 0).trans rfl, (bC_q BK464.out 1).trans rfl, (cel HB.out hw473_0), (cel HB.out hw473_1), (cel HB.out hw473_2), (cel HB.out hw473_3)⟩ (fun hHeld => ?_)
           clear hK K
           refine nJ_q ?_
           refine one_ (i := 14) (N := some 54) #[true, true, true, true, true, true, true, true, true, true, true, true, true, true, true, false, false, false, false] rfl rfl (one_of HT_.out m7_q) (by decide) (fun K hK => ?_)
           refine rI_q kI_q _ 3 ?hg (N := 54) ?hd (xs := ([x12_3] : List Int)) (inner := [.int .i64 x12_3]) (ok := fun _ => True) (okp := fun _ => True) ?hr ?hp (fun _ hk => hk) trivial (bR_q _ _) (nR_q _) (by simp) ?_; (case hd => rfl); (case hg => rfl); (case hr => exact m6_q); (case hp => exact m42_q)
           intro v482 w46 ho47 hb hg_ hnew_
           clear hg_ hnew_
           (first | rw [← Ny481.out] at ho47 | (simp only [Int.reduceToNat] at ho47; rw [← Ny481.out] at ho47))
           have HO483 := Ae_q (rL_q (rW_q (rW_q ho47 (rT_q (rup HO_10.out))) (rT_q (rup HO480.out))) (bZ_q m0_q))
           replace HO_10 := Ae_q (rE_q (rup HO_10.out) (rB_q ho47) hb)
           replace HO480 := Ae_q (rE_q (rup HO480.out) (rB_q ho47) hb)
           replace BK464 := Ae_q (bB_q (g := gb464) (o := .cells #[.int .i64 a1_0, .slice A1_1 l1_1.length c1_1] 43 (0, 0)) (bup BK464.out) hb)
           replace BK465 := Ae_q (bB_q (g := gb465) (o := .cells #[.int .i64 a3_0, .int .i64 a3_1, .int .i64 a3_2] 31 (0, 0)) (bup BK465.out) hb)
           replace HB := Ae_q (bT_q m0_q hb)
           clear hb ho47
           refine hK.out _ _ ⟨(bC_q BK465.out 0).trans rfl, (bC_q BK465.out 1).trans rfl, (bC_q BK465.out 2).trans rfl, (bC_q BK464.out 0).trans rfl, (bC_q BK464.out 1).trans rfl, (cel HB.out hw473_0), (cel HB.out hw473_1), (cel HB.out hw473_2), (cel HB.out hw473_3)⟩ (fun hHeld => ?_)
           clear hK K
           refine nJ_q ?_
           exact norm_ m47_q (hCont (v476, v479, v482) _ ⟨hHeld, m19_q, m76_q, m48_q, (bup BK464.out), (bup BK465.out), m0_q⟩)
          skip
          refine rI_q kI_q _ 3 ?hg (N := 54) ?hd (xs := ([x12_3] : List Int)) (inner := [.int .i64 x12_3]) (ok := fun _ => True) (okp := fun _ => True) ?hr ?hp (fun _ hk => hk) trivial (bR_q _ _) (nR_q _) (by simp) ?_; (case hd => rfl); (case hg => rfl); (case hr => exact m6_q); (case hp => exact m42_q)
          intro v482 w45 ho46 hb hg_ hnew_
          clear hg_ hnew_
          (first | rw [← Ny481.out] at ho46 | (simp only [Int.reduceToNat] at ho46; rw [← Ny481.out] at ho46))
          have HO483 := Ae_q (rL_q (rW_q (rW_q ho46 (rT_q (rup HO_10.out))) (rT_q (rup HO477.out))) (bZ_q m0_q))
          replace HO_10 := Ae_q (rE_q (rup HO_10.out) (rB_q ho46) hb)
          replace HO477 := Ae_q (rE_q (rup HO477.out) (rB_q ho46) hb)
          replace BK464 := Ae_q (bB_q (g := gb464) (o := .cells #[.int .i64 a1_0, .slice A1_1 l1_1.length c1_1] 43 (0, 0)) (bup BK464.out) hb)
          replace BK465 := Ae_q (bB_q (g := gb465) (o := .cells #[.int .i64 a3_0, .int .i64 a3_1, .int .i64 a3_2] 31 (0, 0)) (bup BK465.out) hb)
          replace HB := Ae_q (bT_q m0_q hb)
          clear hb ho46
          refine hK.out _ _ ⟨(bC_q BK465.out 0).trans rfl, (bC_q BK465.out 1).trans rfl, (bC_q BK465.out 2).trans rfl, (bC_q BK464.out 0).trans rfl, (bC_q BK464.out 1).trans rfl, (cel HB.out hw473_0), (cel HB.out hw473_1), (cel HB.out hw473_2), (cel HB.out hw473_3)⟩ (fun hHeld => ?_)
          clear hK K
          refine nJ_q ?_
          refine one_ (i := 12) (N := some 52) #[true, true, true, true, true, true, true, true, true, true, true, true, true, true, true, false, false, false, false] rfl rfl (one_of HT_.out m7_q) (by decide) (fun K hK => ?_)
          refine rP_q kI_q (w0 := w) w.heap.size (by rfl) (.tmp 50) (.tmp 51) 23 3 (.int .i64 0) 8 rfl Try.underlying23 info3 rfl (by decide) (by omega) v476 y475 x10_2 _ _ _ (fun k_ => some k_ ≠ (.slice Ao28 x10_2.length co28 : Value).ownBlock ∧ some k_ ≠ (v482 : Value).ownBlock) (fun _ => False) rfl rfl ?aO ?aR (fun _ _ h => h) (fun _ h => h.elim) ?aF ?aB ?aS ?aL ?_
          (case aR => exact m62_q)
          (case aB => exact m0_q)
          (case aF => exact m38_q)
          (case aO => exact m49_q)
          (case aS => exact m128_q)
          (case aL => exact m103_q)
          intro v479 w47 ho hb hg hat
          rw [← Ny478.out] at ho
          replace HO_10 := Ae_q (rF_q (ok := (fun k_ => some k_ ≠ (v482 : Value).ownBlock)) m77_q hg hat)
          replace BK464 := Ae_q (bG_q (g := gb464) (o := .cells #[.int .i64 a1_0, .slice A1_1 l1_1.length c1_1] 43 (0, 0)) (bup BK464.out) hg (Kd.R_ne HO477.out BK464.out (by decide)))
          replace BK465 := Ae_q (bG_q (g := gb465) (o := .cells #[.int .i64 a3_0, .int .i64 a3_1, .int .i64 a3_2] 31 (0, 0)) (bup BK465.out) hg (Kd.R_ne HO477.out BK465.out (by decide)))
          replace HO483 := Ae_q (rF_q (ok := (fun k_ => some k_ ≠ (.slice Ao28 x10_2.length co28 : Value).ownBlock)) m50_q hg hat)
          replace HB := Ae_q (hb)
          have HO480 := Ae_q (ho)
          clear HO477
          clear ho hb hg hat
          refine hK.out _ _ ⟨(bC_q BK465.out 0).trans rfl, (bC_q BK465.out 1).trans rfl, (bC_q BK465.out 2).trans rfl, (bC_q BK464.out 0).trans rfl, (bC_q BK464.out 1).trans rfl, (cel HB.out hw473_0), (cel HB.out hw473_1), (cel HB.out hw473_2), (cel HB.out hw473_3)⟩ (fun hHeld => ?_)
          clear hK K
          refine nJ_q ?_
          exact norm_ m47_q (hCont (v476, v479, v482) _ ⟨hHeld, m19_q, m29_q, m30_q, (bup BK464.out), (bup BK465.out), m0_q⟩)
         skip
         refine rI_q kI_q _ 3 ?hg (N := 54) ?hd (xs := ([x12_3] : List Int)) (inner := [.int .i64 x12_3]) (ok := fun _ => True) (okp := fun _ => True) ?hr ?hp (fun _ hk => hk) trivial (bR_q _ _) (nR_q _) (by simp) ?_; (case hd => rfl); (case hg => rfl); (case hr => exact m6_q); (case hp => exact m42_q)
         intro v482 w43 ho44 hb hg_ hnew_
         clear hg_ hnew_
         (first | rw [← Ny481.out] at ho44 | (simp only [Int.reduceToNat] at ho44; rw [← Ny481.out] at ho44))
         have HO483 := Ae_q (rL_q (rW_q ho44 (rT_q (rup HO_10.out))) (bZ_q m0_q))
         replace HO_10 := Ae_q (rE_q (rup HO_10.out) (rB_q ho44) hb)
         replace BK464 := Ae_q (bB_q (g := gb464) (o := .cells #[.int .i64 a1_0, .slice A1_1 l1_1.length c1_1] 43 (0, 0)) (bup BK464.out) hb)
         replace BK465 := Ae_q (bB_q (g := gb465) (o := .cells #[.int .i64 a3_0, .int .i64 a3_1, .int .i64 a3_2] 31 (0, 0)) (bup BK465.out) hb)
         replace HB := Ae_q (bT_q m0_q hb)
         clear hb ho44
         refine hK.out _ _ ⟨(bC_q BK465.out 0).trans rfl, (bC_q BK465.out 1).trans rfl, (bC_q BK465.out 2).trans rfl, (bC_q BK464.out 0).trans rfl, (bC_q BK464.out 1).trans rfl, (cel HB.out hw473_0), (cel HB.out hw473_1), (cel HB.out hw473_2), (cel HB.out hw473_3)⟩ (fun hHeld => ?_)
         clear hK K
         refine nJ_q ?_
         refine one_ (i := 10) (N := some 50) #[true, true, true, true, true, true, true, true, true, true, true, true, false, true, true, false, false, false, false] rfl rfl (one_of HT_.out m7_q) (by decide) (fun K hK => ?_)
         refine rI_q kI_q _ 3 ?hg (N := 50) ?hd (xs := ([] : List Int)) (inner := []) (ok := fun _ => True) (okp := fun _ => True) ?hr ?hp (fun _ hk => hk) trivial (bR_q _ _) (nR_q _) (by simp) ?_; (case hd => rfl); (case hg => rfl); (case hr => exact m6_q); (case hp => exact m111_q)
         intro v476 w45 ho46 hb hg_ hnew_
         clear hg_ hnew_
         (first | rw [← Ny475.out] at ho46 | (simp only [Int.reduceToNat] at ho46; rw [← Ny475.out] at ho46))
         have HO477 := Ae_q (rL_q (rW_q (rW_q ho46 (rT_q (rup HO_10.out))) (rT_q (rup HO483.out))) (bZ_q m0_q))
         replace HO_10 := Ae_q (rE_q (rup HO_10.out) (rB_q ho46) hb)
         replace HO483 := Ae_q (rE_q (rup HO483.out) (rB_q ho46) hb)
         replace BK464 := Ae_q (bB_q (g := gb464) (o := .cells #[.int .i64 a1_0, .slice A1_1 l1_1.length c1_1] 43 (0, 0)) (bup BK464.out) hb)
         replace BK465 := Ae_q (bB_q (g := gb465) (o := .cells #[.int .i64 a3_0, .int .i64 a3_1, .int .i64 a3_2] 31 (0, 0)) (bup BK465.out) hb)
         replace HB := Ae_q (bT_q m0_q hb)
         clear hb ho46
         refine hK.out _ _ ⟨(bC_q BK465.out 0).trans rfl, (bC_q BK465.out 1).trans rfl, (bC_q BK465.out 2).trans rfl, (bC_q BK464.out 0).trans rfl, (bC_q BK464.out 1).trans rfl, (cel HB.out hw473_0), (cel HB.out hw473_1), (cel HB.out hw473_2), (cel HB.out hw473_3)⟩ (fun hHeld => ?_)
         clear hK K
         refine nJ_q ?_
         refine one_ (i := 12) (N := some 52) #[true, true, true, true, true, true, true, true, true, true, true, true, true, true, true, false, false, false, false] rfl rfl (one_of HT_.out m7_q) (by decide) (fun K hK => ?_)
         refine rP_q kI_q (w0 := w) w.heap.size (by rfl) (.tmp 50) (.tmp 51) 23 3 (.int .i64 0) 8 rfl Try.underlying23 info3 rfl (by decide) (by omega) v476 y475 x10_2 _ _ _ (fun k_ => some k_ ≠ (.slice Ao28 x10_2.length co28 : Value).ownBlock ∧ some k_ ≠ (v482 : Value).ownBlock) (fun _ => False) rfl rfl ?aO ?aR (fun _ _ h => h) (fun _ h => h.elim) ?aF ?aB ?aS ?aL ?_
         (case aR => exact m62_q)
         (case aB => exact m0_q)
         (case aF => exact m38_q)
         (case aO => exact m49_q)
         (case aS => exact m128_q)
         (case aL => exact m103_q)
         intro v479 w47 ho hb hg hat
         rw [← Ny478.out] at ho
         replace HO_10 := Ae_q (rF_q (ok := (fun k_ => some k_ ≠ (v482 : Value).ownBlock)) m48_q hg hat)
         replace BK464 := Ae_q (bG_q (g := gb464) (o := .cells #[.int .i64 a1_0, .slice A1_1 l1_1.length c1_1] 43 (0, 0)) (bup BK464.out) hg (Kd.R_ne HO477.out BK464.out (by decide)))
         replace BK465 := Ae_q (bG_q (g := gb465) (o := .cells #[.int .i64 a3_0, .int .i64 a3_1, .int .i64 a3_2] 31 (0, 0)) (bup BK465.out) hg (Kd.R_ne HO477.out BK465.out (by decide)))
         replace HO483 := Ae_q (rF_q (ok := (fun k_ => some k_ ≠ (.slice Ao28 x10_2.length co28 : Value).ownBlock)) m50_q hg hat)
         replace HB := Ae_q (hb)
         have HO480 := Ae_q (ho)
         clear HO477
         clear ho hb hg hat
         refine hK.out _ _ ⟨(bC_q BK465.out 0).trans rfl, (bC_q BK465.out 1).trans rfl, (bC_q BK465.out 2).trans rfl, (bC_q BK464.out 0).trans rfl, (bC_q BK464.out 1).trans rfl, (cel HB.out hw473_0), (cel HB.out hw473_1), (cel HB.out hw473_2), (cel HB.out hw473_3)⟩ (fun hHeld => ?_)
         clear hK K
         refine nJ_q ?_
         exact norm_ m47_q (hCont (v476, v479, v482) _ ⟨hHeld, m19_q, m29_q, m30_q, (bup BK464.out), (bup BK465.out), m0_q⟩)
        rintro ⟨v476, v479, v482⟩ w48 ⟨hS_, h0_, h1_, h2_, h3_, h4_, h5_⟩
        have n0_ : Aside0 (Kd.R kI_q 3 w48 w.heap.size (fun k_ => some k_ ≠ (v482 : Value).ownBlock ∧ some k_ ≠ (.slice Ao28 x10_2.length co28 : Value).ownBlock) v479 y478) := ⟨h0_⟩
        have n1_ : Aside0 (Kd.R kI_q 3 w48 w.heap.size (fun k_ => some k_ ≠ (v479 : Value).ownBlock ∧ some k_ ≠ (.slice Ao28 x10_2.length co28 : Value).ownBlock) v482 y481) := ⟨h1_⟩
        have n2_ : Aside0 (Kd.R kI_q 3 w48 w.heap.size (fun k_ => some k_ ≠ (v479 : Value).ownBlock ∧ some k_ ≠ (v482 : Value).ownBlock) (.slice Ao28 x10_2.length co28) x10_2) := ⟨h2_⟩
        have n3_ : Aside0 (w48.heap[gb464]? = some (.cells #[.int .i64 a1_0, .slice A1_1 l1_1.length c1_1] 43 (0, 0))) := ⟨h3_⟩
        have n4_ : Aside0 (w48.heap[gb465]? = some (.cells #[.int .i64 a3_0, .int .i64 a3_1, .int .i64 a3_2] 31 (0, 0))) := ⟨h4_⟩
        have n5_ : Aside0 (Below w.heap.size w w48) := ⟨h5_⟩
        clear HO_10
        clear BK464
        clear BK465
        clear HB
        clear h0_ h1_ h2_ h3_ h4_ h5_
        have HO480 := n0_
        have HO483 := n1_
        have HO_10 := n2_
        have BK464 := n3_
        have BK465 := n4_
        have HB := n5_
        clear n0_ n1_ n2_ n3_ n4_ n5_
        have hHeld : w48.cell? ⟨gb465, 0, none⟩ = some (.int .i64 a3_0) ∧ w48.cell? ⟨gb465, 1, none⟩ = some (.int .i64 a3_1) ∧ w48.cell? ⟨gb465, 2, none⟩ = some (.int .i64 a3_2) ∧ w48.cell? ⟨gb464, 0, none⟩ = some (.int .i64 a1_0) ∧ w48.cell? ⟨gb464, 1, none⟩ = some (.slice A1_1 l1_1.length c1_1) ∧ w48.cell? (ad473.add ((x11_2).toNat * 4)) = some (.int .i64 ((rd_T63 l0 x11_2).f0)) ∧ w48.cell? ⟨(ad473.add ((x11_2).toNat * 4)).block, (ad473.add ((x11_2).toNat * 4)).off + 1, none⟩ = some (.int .i64 ((rd_T63 l0 x11_2).f1)) ∧ w48.cell? ⟨(ad473.add ((x11_2).toNat * 4)).block, (ad473.add ((x11_2).toNat * 4)).off + 2, none⟩ = some (.int .i64 ((rd_T63 l0 x11_2).f2)) ∧ w48.cell? ⟨(ad473.add ((x11_2).toNat * 4)).block, (ad473.add ((x11_2).toNat * 4)).off + 3, none⟩ = some (.slice A473_3 ((rd_T63 l0 x11_2).f3).length c473_3) := hS_
        obtain ⟨Ao50, co50, eo50⟩ := rS_q HO483.out
        (first | subst eo50 | (injection eo50 with f1_ f2_ f3_; have f4_ := f1_.symm; have f5_ := f3_.symm; clear f1_ f2_ f3_; subst f4_; subst f5_))
        refine norm_ (a' := ?_) ?_ ?_
        rotate_left
        ·simp only [putAll, Act.put, sA_q, sZ_q, sS_q]
         rfl
        refine one_ (i := 15) (N := some 55) #[true, true, true, true, true, true, true, true, true, true, true, true, true, true, true, true, false, false, false] rfl rfl (one_of HT_.out m7_q) (by decide) (fun K hK => ?_)
        refine rP_q kI_q (w0 := w) w.heap.size (by rfl) (.tmp 52) (.tmp 54) 23 3 (.int .i64 0) 8 rfl Try.underlying23 info3 rfl (by decide) (by omega) v479 y478 y481 _ _ _ (fun k_ => some k_ ≠ (.slice Ao28 x10_2.length co28 : Value).ownBlock ∧ some k_ ≠ (.slice Ao50 y481.length co50 : Value).ownBlock) (fun _ => False) rfl rfl ?aO ?aR (fun _ _ h => h) (fun _ h => h.elim) ?aF ?aB ?aS ?aL ?_
        (case aR => exact cup (rR_q HO483.out).2.2)
        (case aB => exact m0_q)
        (case aF => exact m38_q)
        (case aO => exact m19_q)
        (case aS => exact m128_q)
        (case aL => have := LMc37.out; omega)
        intro v485 w49 ho hb hg hat
        rw [← Ny484.out] at ho
        replace HO_10 := Ae_q (rF_q (ok := (fun k_ => some k_ ≠ (.slice Ao50 y481.length co50 : Value).ownBlock)) m30_q hg hat)
        replace BK464 := Ae_q (bG_q (g := gb464) (o := .cells #[.int .i64 a1_0, .slice A1_1 l1_1.length c1_1] 43 (0, 0)) (bup BK464.out) hg (Kd.R_ne HO480.out BK464.out (by decide)))
        replace BK465 := Ae_q (bG_q (g := gb465) (o := .cells #[.int .i64 a3_0, .int .i64 a3_1, .int .i64 a3_2] 31 (0, 0)) (bup BK465.out) hg (Kd.R_ne HO480.out BK465.out (by decide)))
        replace HO483 := Ae_q (rF_q (ok := (fun k_ => some k_ ≠ (.slice Ao28 x10_2.length co28 : Value).ownBlock)) m29_q hg hat)
        replace HB := Ae_q (hb)
        have HO486 := Ae_q (ho)
        clear HO480
        clear ho hb hg hat
        obtain ⟨Ao51, co51, eo51⟩ := rS_q HO486.out
        (first | subst eo51 | (injection eo51 with f1_ f2_ f3_; have f4_ := f1_.symm; have f5_ := f3_.symm; clear f1_ f2_ f3_; subst f4_; subst f5_))
        refine hK.out _ _ ⟨(bC_q BK465.out 0).trans rfl, (bC_q BK465.out 1).trans rfl, (bC_q BK465.out 2).trans rfl, (bC_q BK464.out 0).trans rfl, (bC_q BK464.out 1).trans rfl, (cel HB.out hw473_0), (cel HB.out hw473_1), (cel HB.out hw473_2), (cel HB.out hw473_3)⟩ (fun hHeld => ?_)
        clear hK K
        refine nJ_q ?_
        refine one_ (i := 16) (N := some 56) #[true, true, true, true, true, true, true, true, true, true, true, true, true, true, true, true, true, false, false] rfl rfl (one_of HT_.out m7_q) (by decide) (fun K hK => ?_)
        refine goes_ Try.func47 m7_q rfl #[.slice (some ad473) l0.length c0, .agg #[.int .i64 a1_0, .slice A1_1 l1_1.length c1_1], .slice Ao51 y484.length co51] (by rfl) rfl rfl m1_q ?_
        with_reducible refine (spec_l32Room.calls k3 _ _ l0 a1_0 _ _ l1_1 _ _ y484 true _ ?side1 ?side2 ?side3 ?side4 ?side5 ?side6 A38.out).mono ?_
        (case side1 => exact m20_q)
        (case side2 => exact m57_q)
        (case side3 => exact m32_q)
        (case side4 => exact m64_q)
        (case side5 => exact cup (rR_q HO486.out).2.2)
        (case side6 => exact (rR_q HO486.out).2.1)
        rintro e w' ⟨rfl, hb⟩
        refine ⟨_, rfl, ?_⟩
        replace HO_10 := Ae_q (rO_q (rup HO_10.out) hb)
        replace HO483 := Ae_q (rO_q (rup HO483.out) hb)
        replace HO486 := Ae_q (rO_q (rup HO486.out) hb)
        replace BK464 := Ae_q (bB_q (g := gb464) (o := .cells #[.int .i64 a1_0, .slice A1_1 l1_1.length c1_1] 43 (0, 0)) (bup BK464.out) hb)
        replace BK465 := Ae_q (bB_q (g := gb465) (o := .cells #[.int .i64 a3_0, .int .i64 a3_1, .int .i64 a3_2] 31 (0, 0)) (bup BK465.out) hb)
        replace HB := Ae_q (bT_q m0_q hb)
        (try clear hb)
        (try clear hb2)
        (try clear hk)
        (try clear hi)
        refine hK.out _ _ ⟨(bC_q BK465.out 0).trans rfl, (bC_q BK465.out 1).trans rfl, (bC_q BK465.out 2).trans rfl, (bC_q BK464.out 0).trans rfl, (bC_q BK464.out 1).trans rfl, (cel HB.out hw473_0), (cel HB.out hw473_1), (cel HB.out hw473_2), (cel HB.out hw473_3)⟩ (fun hHeld => ?_)
        clear hK K
        refine nJ_q ?_
        refine pJ HT_ 17 57 rfl rfl ?_
        refine pJ HT_ 18 58 rfl rfl ?_
        refine done_ (done_of HT_.out m7_q) ?_
        try go_wp2_with (first | ((with_reducible refine gD_q (N := 63) rfl ?_); (try (refine gate_guard (by rfl) ?_; dsimp only)); refine Kd.R_lit kI_q _ 3 ?hg (N := 63) ?hd (xs := ([] : List Int)) (inner := []) (ok := fun _ => True) (okp := fun _ => True) ?hr ?hp (fun _ hk => hk) trivial (bR_q _ _) (nR_q _) (by simp) ?_; (case hd => rfl); (case hg => rfl); (case hr => exact m6_q); (case hp => exact m111_q); intro v489 w53 ho54 hb hg_ hnew_; clear hg_ hnew_; (first | rw [← Ny488.out] at ho54 | (simp only [Int.reduceToNat] at ho54; rw [← Ny488.out] at ho54)); have HO490 := Ae_q (rL_q (rW_q (rW_q (rW_q ho54 (rT_q (rup HO_10.out))) (rT_q (rup HO483.out))) (rT_q (rup HO486.out))) (bZ_q m0_q)); replace HO_10 := Ae_q (rE_q (rup HO_10.out) (rB_q ho54) hb); replace HO483 := Ae_q (rE_q (rup HO483.out) (rB_q ho54) hb); replace HO486 := Ae_q (rE_q (rup HO486.out) (rB_q ho54) hb); replace BK464 := Ae_q (bB_q (g := gb464) (o := .cells #[.int .i64 a1_0, .slice A1_1 l1_1.length c1_1] 43 (0, 0)) (bup BK464.out) hb); replace BK465 := Ae_q (bB_q (g := gb465) (o := .cells #[.int .i64 a3_0, .int .i64 a3_1, .int .i64 a3_2] 31 (0, 0)) (bup BK465.out) hb); replace HB := Ae_q (bT_q m0_q hb); clear hb ho54))
        go_ret2
        exact ⟨_, by first | rfl | (simp [eN_q, eS_q] <;> rfl) | (simp only [← hji26]; first | rfl | (simp [eN_q, eS_q] <;> rfl)) | (simp [*, eN_q, eS_q] <;> rfl), by (with_reducible repeat (first | apply rA_q | apply rN_q | apply rD_q)); exact rM_q HO490.out (fun _ hk => trivial), m0_q⟩
       rw [if_neg c40] at H
       have c40b0 : decide (999 < x12_3) = false := dF_q c40
       clear c40
       obtain ⟨y491, hy491⟩ : ∃ y_ : List Int, y_ = (([x12_3] : List Int)) := ⟨_, rfl⟩
       replace H : (if x10_2.length + y491.length < 17592186044416 then (spec_OutageRepair.l0 k3 l0 l2 (x10_2 ++ y491) (wrap64 (x11_2 + 1)) a1_0 l1_1 a3_0 a3_1 a3_2) else (none)) = some (r1, r2) := by first | (rw [hy491]; with_reducible exact H) | (have H2_ := (oS_q _ _).symm.trans H; rw [hy491]; with_reducible exact H2_) | (have H2_ := (oS_q _ _).symm.trans H; with_reducible exact H2_) | with_reducible exact H | (rw [hy491]; exact H) | exact H
       have Ny491 := Ae_q hy491
       clear hy491
       by_cases c55 : x10_2.length + y491.length < 17592186044416
       rotate_left
       ·rw [if_neg c55] at H
        exact absurd H (by simp)
       rw [if_pos c55] at H
       have LMc55 := Ae_q c55
       clear c55
       obtain ⟨y494, hy494⟩ : ∃ y_ : List Int, y_ = (x10_2 ++ y491) := ⟨_, rfl⟩
       replace H : (spec_OutageRepair.l0 k3 l0 l2 y494 (wrap64 (x11_2 + 1)) a1_0 l1_1 a3_0 a3_1 a3_2) = some (r1, r2) := by first | (rw [hy494]; with_reducible exact H) | (have H2_ := (oS_q _ _).symm.trans H; rw [hy494]; with_reducible exact H2_) | (have H2_ := (oS_q _ _).symm.trans H; with_reducible exact H2_) | with_reducible exact H | (rw [hy494]; exact H) | exact H
       have Ny494 := Ae_q hy494
       clear hy494
       have H' := Ae_q H
       clear H
       try go_wp2
       replace HO_10 := Ae_q (rD_q HO_10.out)
       replace BK464 := Ae_q (bW_q BK464.out)
       replace BK465 := Ae_q (bW_q BK465.out)
       replace HB := Ae_q (bD_q HB.out)
       have p473 : 0 ≤ (x11_2 : Int) := oD_q (by assumption)
       have q473 : x11_2 < (l0.length : Int) := oD_q (by assumption)
       obtain ⟨ad473, A473_3, c473_3, e473, hx473_0, hx473_1, hx473_2, hx473_3, hl473_3, hi473_3⟩ := at_T63 HR0.out x11_2 p473 q473
       have hw473_3 := hx473_3
       have hw473_2 := hx473_2
       have hw473_1 := hx473_1
       have hw473_0 := hx473_0
       cases e473
       replace hx473_0 := cel HB.out hx473_0
       replace hx473_1 := cel HB.out hx473_1
       replace hx473_2 := cel HB.out hx473_2
       replace hx473_3 := cel HB.out hx473_3
       have HR473_3 := Ae_q hi473_3
       have HC473_3 := Ae_q hl473_3
       clear hi473_3 hl473_3
       replace p473 := eq_true p473
       replace q473 := eq_true q473
       refine start_ (n := 19) (S := fun w' => w'.cell? ⟨gb465, 0, none⟩ = some (.int .i64 a3_0) ∧ w'.cell? ⟨gb465, 1, none⟩ = some (.int .i64 a3_1) ∧ w'.cell? ⟨gb465, 2, none⟩ = some (.int .i64 a3_2) ∧ w'.cell? ⟨gb464, 0, none⟩ = some (.int .i64 a1_0) ∧ w'.cell? ⟨gb464, 1, none⟩ = some (.slice A1_1 l1_1.length c1_1) ∧ w'.cell? (ad473.add ((x11_2).toNat * 4)) = some (.int .i64 ((rd_T63 l0 x11_2).f0)) ∧ w'.cell? ⟨(ad473.add ((x11_2).toNat * 4)).block, (ad473.add ((x11_2).toNat * 4)).off + 1, none⟩ = some (.int .i64 ((rd_T63 l0 x11_2).f1)) ∧ w'.cell? ⟨(ad473.add ((x11_2).toNat * 4)).block, (ad473.add ((x11_2).toNat * 4)).off + 2, none⟩ = some (.int .i64 ((rd_T63 l0 x11_2).f2)) ∧ w'.cell? ⟨(ad473.add ((x11_2).toNat * 4)).block, (ad473.add ((x11_2).toNat * 4)).off + 3, none⟩ = some (.slice A473_3 ((rd_T63 l0 x11_2).f3).length c473_3)) (ds := []) #[false, false, false, false, false, false, false, false, false, false, false, false, false, false, false, false, false, false, false] m7_q rfl rfl ⟨(bC_q BK465.out 0).trans rfl, (bC_q BK465.out 1).trans rfl, (bC_q BK465.out 2).trans rfl, (bC_q BK464.out 0).trans rfl, (bC_q BK464.out 1).trans rfl, (cel HB.out hw473_0), (cel HB.out hw473_1), (cel HB.out hw473_2), (cel HB.out hw473_3)⟩ (fun hHeld => ?_); refine with_tabW spec_OutageRepair.tab8 spec_OutageRepair.bits8 (fun HT_ HW_ => ?_)
       generalize wr.drew = w56 at HO_10 BK464 BK465 HB HR473_3 hx473_0 hx473_1 hx473_2 hx473_3 hHeld ⊢
       refine pJ HT_ 0 40 rfl rfl ?_
       refine pJ HT_ 1 41 rfl rfl ?_
       refine pJ HT_ 2 42 rfl rfl ?_
       refine pJ HT_ 4 44 rfl rfl ?_
       refine take_ (i := 3) (N := some 43) (v := ?_) (a' := ?_) #[true, true, true, true, true, false, false, false, false, false, false, false, false, false, false, false, false, false, false] rfl rfl (take_ofW HT_.out HW_.out m7_q) (fun _ _ _ h => h) (Or.inl ⟨by rfl, ?_⟩) hHeld ?_ ?_
       rotate_left
       ·rintro w' ⟨s0, s1, s2, s3, s4, s5, s6, s7, s8⟩
        go_simp
        with_reducible rfl
       rotate_left
       ·simp only [pS_q]
        rfl
       refine take_ (i := 5) (N := some 45) (v := ?_) (a' := ?_) #[true, true, true, true, true, true, false, false, false, false, false, false, false, false, false, false, false, false, false] rfl rfl (take_ofW HT_.out HW_.out m7_q) (fun _ _ _ h => h) (Or.inl ⟨by rfl, ?_⟩) hHeld ?_ ?_
       rotate_left
       ·rintro w' ⟨s0, s1, s2, s3, s4, s5, s6, s7, s8⟩
        go_simp
        with_reducible rfl
       rotate_left
       ·simp only [pS_q]
        rfl
       refine one_ (i := 6) (N := some 46) #[true, true, true, true, true, true, true, false, false, false, false, false, false, false, false, false, false, false, false] rfl rfl (one_of HT_.out m7_q) (by decide) (fun K hK => ?_)
       refine goes_ Try.func36 m7_q rfl #[.agg #[.int .i64 ((rd_T63 l0 x11_2).f0), .int .i64 ((rd_T63 l0 x11_2).f1), .int .i64 ((rd_T63 l0 x11_2).f2), .slice A473_3 ((rd_T63 l0 x11_2).f3).length c473_3], .int .i64 x12_3, .agg #[.int .i64 a3_0, .int .i64 a3_1, .int .i64 a3_2]] (by rfl) rfl rfl m1_q ?_
       with_reducible refine (spec_l33Hit.calls ((rd_T63 l0 x11_2).f0) ((rd_T63 l0 x11_2).f1) ((rd_T63 l0 x11_2).f2) _ _ ((rd_T63 l0 x11_2).f3) x12_3 a3_0 a3_1 a3_2 false _ ?side1 ?side2 A32.out).mono ?_
       (case side1 => exact m117_q)
       (case side2 => exact HC473_3.out)
       rintro e w' ⟨rfl, hb⟩
       refine ⟨_, rfl, ?_⟩
       replace HO_10 := Ae_q (rO_q (rup HO_10.out) hb)
       replace BK464 := Ae_q (bB_q (g := gb464) (o := .cells #[.int .i64 a1_0, .slice A1_1 l1_1.length c1_1] 43 (0, 0)) (bup BK464.out) hb)
       replace BK465 := Ae_q (bB_q (g := gb465) (o := .cells #[.int .i64 a3_0, .int .i64 a3_1, .int .i64 a3_2] 31 (0, 0)) (bup BK465.out) hb)
       replace HB := Ae_q (bT_q m0_q hb)
       (try clear hb)
       (try clear hb2)
       (try clear hk)
       (try clear hi)
       refine hK.out _ _ ⟨(bC_q BK465.out 0).trans rfl, (bC_q BK465.out 1).trans rfl, (bC_q BK465.out 2).trans rfl, (bC_q BK464.out 0).trans rfl, (bC_q BK464.out 1).trans rfl, (cel HB.out hw473_0), (cel HB.out hw473_1), (cel HB.out hw473_2), (cel HB.out hw473_3)⟩ (fun hHeld => ?_)
       clear hK K
       refine nJ_q ?_
       refine pJ HT_ 7 47 rfl rfl ?_
       refine pJ HT_ 8 48 rfl rfl ?_
       refine pJ HT_ 11 51 rfl rfl ?_
       refine pJ HT_ 13 53 rfl rfl ?_
       refine take_ (i := 9) (N := some 49) (v := ?_) (a' := ?_) #[true, true, true, true, true, true, true, true, true, true, false, true, false, true, false, false, false, false, false] rfl rfl (take_ofW HT_.out HW_.out m7_q) (fun _ _ _ h => h) (Or.inl ⟨by rfl, ?_⟩) hHeld ?_ ?_
       rotate_left
       ·rintro w' ⟨s0, s1, s2, s3, s4, s5, s6, s7, s8⟩
        go_simp
        with_reducible rfl
       rotate_left
       ·simp only [pS_q]
        rfl
       refine join_ (σ := Value × Value × Value) 4 #[true, true, true, true, true, true, true, true, true, true, true, true, true, true, true, false, false, false, false] (fun s_ => [(50, s_.1), (52, s_.2.1), (54, s_.2.2)]) (fun s_ w' => (w'.cell? ⟨gb465, 0, none⟩ = some (.int .i64 a3_0) ∧ w'.cell? ⟨gb465, 1, none⟩ = some (.int .i64 a3_1) ∧ w'.cell? ⟨gb465, 2, none⟩ = some (.int .i64 a3_2) ∧ w'.cell? ⟨gb464, 0, none⟩ = some (.int .i64 a1_0) ∧ w'.cell? ⟨gb464, 1, none⟩ = some (.slice A1_1 l1_1.length c1_1) ∧ w'.cell? (ad473.add ((x11_2).toNat * 4)) = some (.int .i64 ((rd_T63 l0 x11_2).f0)) ∧ w'.cell? ⟨(ad473.add ((x11_2).toNat * 4)).block, (ad473.add ((x11_2).toNat * 4)).off + 1, none⟩ = some (.int .i64 ((rd_T63 l0 x11_2).f1)) ∧ w'.cell? ⟨(ad473.add ((x11_2).toNat * 4)).block, (ad473.add ((x11_2).toNat * 4)).off + 2, none⟩ = some (.int .i64 ((rd_T63 l0 x11_2).f2)) ∧ w'.cell? ⟨(ad473.add ((x11_2).toNat * 4)).block, (ad473.add ((x11_2).toNat * 4)).off + 3, none⟩ = some (.slice A473_3 ((rd_T63 l0 x11_2).f3).length c473_3)) ∧ (Kd.R kI_q 3 w' w.heap.size (fun k_ => some k_ ≠ (s_.2.2 : Value).ownBlock ∧ some k_ ≠ (.slice Ao28 x10_2.length co28 : Value).ownBlock) s_.2.1 y478) ∧ (Kd.R kI_q 3 w' w.heap.size (fun k_ => some k_ ≠ (s_.2.1 : Value).ownBlock ∧ some k_ ≠ (.slice Ao28 x10_2.length co28 : Value).ownBlock) s_.2.2 y481) ∧ (Kd.R kI_q 3 w' w.heap.size (fun k_ => some k_ ≠ (s_.2.1 : Value).ownBlock ∧ some k_ ≠ (s_.2.2 : Value).ownBlock) (.slice Ao28 x10_2.length co28) x10_2) ∧ (w'.heap[gb464]? = some (.cells #[.int .i64 a1_0, .slice A1_1 l1_1.length c1_1] 43 (0, 0))) ∧ (w'.heap[gb465]? = some (.cells #[.int .i64 a3_0, .int .i64 a3_1, .int .i64 a3_2] 31 (0, 0))) ∧ (Below w.heap.size w w')) ?_ ?_
       rotate_left
       ·intro hCont
        refine two_ (i := 10) (j := 14) (Ni := some 50) (Nj := some 54) #[true, true, true, true, true, true, true, true, true, true, true, true, false, true, false, false, false, false, false] #[true, true, true, true, true, true, true, true, true, true, false, true, false, true, true, false, false, false, false] rfl rfl rfl rfl (two_of HT_.out m7_q) (by decide) (by decide) (fun K hK => ?_) (fun K hK => ?_)
        ·skip
         refine rI_q kI_q _ 3 ?hg (N := 50) ?hd (xs := ([] : List Int)) (inner := []) (ok := fun _ => True) (okp := fun _ => True) ?hr ?hp (fun _ hk => hk) trivial (bR_q _ _) (nR_q _) (by simp) ?_; (case hd => rfl); (case hg => rfl); (case hr => exact m6_q); (case hp => exact m111_q)
         intro v476 w58 ho59 hb hg_ hnew_
         clear hg_ hnew_
         (first | rw [← Ny475.out] at ho59 | (simp only [Int.reduceToNat] at ho59; rw [← Ny475.out] at ho59))
         have HO477 := Ae_q (rL_q (rW_q ho59 (rT_q (rup HO_10.out))) (bZ_q m0_q))
         replace HO_10 := Ae_q (rE_q (rup HO_10.out) (rB_q ho59) hb)
         replace BK464 := Ae_q (bB_q (g := gb464) (o := .cells #[.int .i64 a1_0, .slice A1_1 l1_1.length c1_1] 43 (0, 0)) (bup BK464.out) hb)
         replace BK465 := Ae_q (bB_q (g := gb465) (o := .cells #[.int .i64 a3_0, .int .i64 a3_1, .int .i64 a3_2] 31 (0, 0)) (bup BK465.out) hb)
         replace HB := Ae_q (bT_q m0_q hb)
         clear hb ho59
         refine hK.out _ _ ⟨(bC_q BK465.out 0).trans rfl, (bC_q BK465.out 1).trans rfl, (bC_q BK465.out 2).trans rfl, (bC_q BK464.out 0).trans rfl, (bC_q BK464.out 1).trans rfl, (cel HB.out hw473_0), (cel HB.out hw473_1), (cel HB.out hw473_2), (cel HB.out hw473_3)⟩ (fun hHeld => ?_)
         clear hK K
         refine nJ_q ?_
         refine two_ (i := 12) (j := 14) (Ni := some 52) (Nj := some 54) #[true, true, true, true, true, true, true, true, true, true, true, true, true, true, false, false, false, false, false] #[true, true, true, true, true, true, true, true, true, true, true, true, false, true, true, false, false, false, false] rfl rfl rfl rfl (two_of HT_.out m7_q) (by decide) (by decide) (fun K hK => ?_) (fun K hK => ?_)
         ·skip
          refine rP_q kI_q (w0 := w) w.heap.size (by rfl) (.tmp 50) (.tmp 51) 23 3 (.int .i64 0) 8 rfl Try.underlying23 info3 rfl (by decide) (by omega) v476 y475 x10_2 _ _ _ (fun k_ => some k_ ≠ (.slice Ao28 x10_2.length co28 : Value).ownBlock) (fun _ => False) rfl rfl ?aO ?aR (fun _ _ h => h) (fun _ h => h.elim) ?aF ?aB ?aS ?aL ?_
          (case aR => exact m62_q)
          (case aB => exact m0_q)
          (case aF => exact m113_q)
          (case aO => exact m81_q)
          (case aS => exact m128_q)
          (case aL => exact m103_q)
          intro v479 w60 ho hb hg hat
          rw [← Ny478.out] at ho
          replace HO_10 := Ae_q (rF_q (ok := (fun _ => True)) (rup HO_10.out) hg hat)
          replace BK464 := Ae_q (bG_q (g := gb464) (o := .cells #[.int .i64 a1_0, .slice A1_1 l1_1.length c1_1] 43 (0, 0)) (bup BK464.out) hg (Kd.R_ne HO477.out BK464.out (by decide)))
          replace BK465 := Ae_q (bG_q (g := gb465) (o := .cells #[.int .i64 a3_0, .int .i64 a3_1, .int .i64 a3_2] 31 (0, 0)) (bup BK465.out) hg (Kd.R_ne HO477.out BK465.out (by decide)))
          replace HB := Ae_q (hb)
          have HO480 := Ae_q (ho)
          clear HO477
          clear ho hb hg hat
          refine hK.out _ _ ⟨(bC_q BK465.out 0).trans rfl, (bC_q BK465.out 1).trans rfl, (bC_q BK465.out 2).trans rfl, (bC_q BK464.out 0).trans rfl, (bC_q BK464.out 1).trans rfl, (cel HB.out hw473_0), (cel HB.out hw473_1), (cel HB.out hw473_2), (cel HB.out hw473_3)⟩ (fun hHeld => ?_)
          clear hK K
          refine nJ_q ?_
          refine one_ (i := 14) (N := some 54) #[true, true, true, true, true, true, true, true, true, true, true, true, true, true, true, false, false, false, false] rfl rfl (one_of HT_.out m7_q) (by decide) (fun K hK => ?_)
          refine rI_q kI_q _ 3 ?hg (N := 54) ?hd (xs := ([x12_3] : List Int)) (inner := [.int .i64 x12_3]) (ok := fun _ => True) (okp := fun _ => True) ?hr ?hp (fun _ hk => hk) trivial (bR_q _ _) (nR_q _) (by simp) ?_; (case hd => rfl); (case hg => rfl); (case hr => exact m6_q); (case hp => exact m42_q)
          intro v482 w61 ho62 hb hg_ hnew_
          clear hg_ hnew_
          (first | rw [← Ny481.out] at ho62 | (simp only [Int.reduceToNat] at ho62; rw [← Ny481.out] at ho62))
          have HO483 := Ae_q (rL_q (rW_q (rW_q ho62 (rT_q (rup HO_10.out))) (rT_q (rup HO480.out))) (bZ_q m0_q))
          replace HO_10 := Ae_q (rE_q (rup HO_10.out) (rB_q ho62) hb)
          replace HO480 := Ae_q (rE_q (rup HO480.out) (rB_q ho62) hb)
          replace BK464 := Ae_q (bB_q (g := gb464) (o := .cells #[.int .i64 a1_0, .slice A1_1 l1_1.length c1_1] 43 (0, 0)) (bup BK464.out) hb)
          replace BK465 := Ae_q (bB_q (g := gb465) (o := .cells #[.int .i64 a3_0, .int .i64 a3_1, .int .i64 a3_2] 31 (0, 0)) (bup BK465.out) hb)
          replace HB := Ae_q (bT_q m0_q hb)
          clear hb ho62
          refine hK.out _ _ ⟨(bC_q BK465.out 0).trans rfl, (bC_q BK465.out 1).trans rfl, (bC_q BK465.out 2).trans rfl, (bC_q BK464.out 0).trans rfl, (bC_q BK464.out 1).trans rfl, (cel HB.out hw473_0), (cel HB.out hw473_1), (cel HB.out hw473_2), (cel HB.out hw473_3)⟩ (fun hHeld => ?_)
          clear hK K
          refine nJ_q ?_
          exact norm_ m47_q (hCont (v476, v479, v482) _ ⟨hHeld, m19_q, m76_q, m48_q, (bup BK464.out), (bup BK465.out), m0_q⟩)
         skip
         refine rI_q kI_q _ 3 ?hg (N := 54) ?hd (xs := ([x12_3] : List Int)) (inner := [.int .i64 x12_3]) (ok := fun _ => True) (okp := fun _ => True) ?hr ?hp (fun _ hk => hk) trivial (bR_q _ _) (nR_q _) (by simp) ?_; (case hd => rfl); (case hg => rfl); (case hr => exact m6_q); (case hp => exact m42_q)
         intro v482 w60 ho61 hb hg_ hnew_
         clear hg_ hnew_
         (first | rw [← Ny481.out] at ho61 | (simp only [Int.reduceToNat] at ho61; rw [← Ny481.out] at ho61))
         have HO483 := Ae_q (rL_q (rW_q (rW_q ho61 (rT_q (rup HO_10.out))) (rT_q (rup HO477.out))) (bZ_q m0_q))
         replace HO_10 := Ae_q (rE_q (rup HO_10.out) (rB_q ho61) hb)
         replace HO477 := Ae_q (rE_q (rup HO477.out) (rB_q ho61) hb)
         replace BK464 := Ae_q (bB_q (g := gb464) (o := .cells #[.int .i64 a1_0, .slice A1_1 l1_1.length c1_1] 43 (0, 0)) (bup BK464.out) hb)
         replace BK465 := Ae_q (bB_q (g := gb465) (o := .cells #[.int .i64 a3_0, .int .i64 a3_1, .int .i64 a3_2] 31 (0, 0)) (bup BK465.out) hb)
         replace HB := Ae_q (bT_q m0_q hb)
         clear hb ho61
         refine hK.out _ _ ⟨(bC_q BK465.out 0).trans rfl, (bC_q BK465.out 1).trans rfl, (bC_q BK465.out 2).trans rfl, (bC_q BK464.out 0).trans rfl, (bC_q BK464.out 1).trans rfl, (cel HB.out hw473_0), (cel HB.out hw473_1), (cel HB.out hw473_2), (cel HB.out hw473_3)⟩ (fun hHeld => ?_)
         clear hK K
         refine nJ_q ?_
         refine one_ (i := 12) (N := some 52) #[true, true, true, true, true, true, true, true, true, true, true, true, true, true, true, false, false, false, false] rfl rfl (one_of HT_.out m7_q) (by decide) (fun K hK => ?_)
         refine rP_q kI_q (w0 := w) w.heap.size (by rfl) (.tmp 50) (.tmp 51) 23 3 (.int .i64 0) 8 rfl Try.underlying23 info3 rfl (by decide) (by omega) v476 y475 x10_2 _ _ _ (fun k_ => some k_ ≠ (.slice Ao28 x10_2.length co28 : Value).ownBlock ∧ some k_ ≠ (v482 : Value).ownBlock) (fun _ => False) rfl rfl ?aO ?aR (fun _ _ h => h) (fun _ h => h.elim) ?aF ?aB ?aS ?aL ?_
         (case aR => exact m62_q)
         (case aB => exact m0_q)
         (case aF => exact m38_q)
         (case aO => exact m49_q)
         (case aS => exact m128_q)
         (case aL => exact m103_q)
         intro v479 w62 ho hb hg hat
         rw [← Ny478.out] at ho
         replace HO_10 := Ae_q (rF_q (ok := (fun k_ => some k_ ≠ (v482 : Value).ownBlock)) m77_q hg hat)
         replace BK464 := Ae_q (bG_q (g := gb464) (o := .cells #[.int .i64 a1_0, .slice A1_1 l1_1.length c1_1] 43 (0, 0)) (bup BK464.out) hg (Kd.R_ne HO477.out BK464.out (by decide)))
         replace BK465 := Ae_q (bG_q (g := gb465) (o := .cells #[.int .i64 a3_0, .int .i64 a3_1, .int .i64 a3_2] 31 (0, 0)) (bup BK465.out) hg (Kd.R_ne HO477.out BK465.out (by decide)))
         replace HO483 := Ae_q (rF_q (ok := (fun k_ => some k_ ≠ (.slice Ao28 x10_2.length co28 : Value).ownBlock)) m50_q hg hat)
         replace HB := Ae_q (hb)
         have HO480 := Ae_q (ho)
         clear HO477
         clear ho hb hg hat
         refine hK.out _ _ ⟨(bC_q BK465.out 0).trans rfl, (bC_q BK465.out 1).trans rfl, (bC_q BK465.out 2).trans rfl, (bC_q BK464.out 0).trans rfl, (bC_q BK464.out 1).trans rfl, (cel HB.out hw473_0), (cel HB.out hw473_1), (cel HB.out hw473_2), (cel HB.out hw473_3)⟩ (fun hHeld => ?_)
         clear hK K
         refine nJ_q ?_
         exact norm_ m47_q (hCont (v476, v479, v482) _ ⟨hHeld, m19_q, m29_q, m30_q, (bup BK464.out), (bup BK465.out), m0_q⟩)
        skip
        refine rI_q kI_q _ 3 ?hg (N := 54) ?hd (xs := ([x12_3] : List Int)) (inner := [.int .i64 x12_3]) (ok := fun _ => True) (okp := fun _ => True) ?hr ?hp (fun _ hk => hk) trivial (bR_q _ _) (nR_q _) (by simp) ?_; (case hd => rfl); (case hg => rfl); (case hr => exact m6_q); (case hp => exact m42_q)
        intro v482 w58 ho59 hb hg_ hnew_
        clear hg_ hnew_
        (first | rw [← Ny481.out] at ho59 | (simp only [Int.reduceToNat] at ho59; rw [← Ny481.out] at ho59))
        have HO483 := Ae_q (rL_q (rW_q ho59 (rT_q (rup HO_10.out))) (bZ_q m0_q))
        replace HO_10 := Ae_q (rE_q (rup HO_10.out) (rB_q ho59) hb)
        replace BK464 := Ae_q (bB_q (g := gb464) (o := .cells #[.int .i64 a1_0, .slice A1_1 l1_1.length c1_1] 43 (0, 0)) (bup BK464.out) hb)
        replace BK465 := Ae_q (bB_q (g := gb465) (o := .cells #[.int .i64 a3_0, .int .i64 a3_1, .int .i64 a3_2] 31 (0, 0)) (bup BK465.out) hb)
        replace HB := Ae_q (bT_q m0_q hb)
        clear hb ho59
        refine hK.out _ _ ⟨(bC_q BK465.out 0).trans rfl, (bC_q BK465.out 1).trans rfl, (bC_q BK465.out 2).trans rfl, (bC_q BK464.out 0).trans rfl, (bC_q BK464.out 1).trans rfl, (cel HB.out hw473_0), (cel HB.out hw473_1), (cel HB.out hw473_2), (cel HB.out hw473_3)⟩ (fun hHeld => ?_)
        clear hK K
        refine nJ_q ?_
        refine one_ (i := 10) (N := some 50) #[true, true, true, true, true, true, true, true, true, true, true, true, false, true, true, false, false, false, false] rfl rfl (one_of HT_.out m7_q) (by decide) (fun K hK => ?_)
        refine rI_q kI_q _ 3 ?hg (N := 50) ?hd (xs := ([] : List Int)) (inner := []) (ok := fun _ => True) (okp := fun _ => True) ?hr ?hp (fun _ hk => hk) trivial (bR_q _ _) (nR_q _) (by simp) ?_; (case hd => rfl); (case hg => rfl); (case hr => exact m6_q); (case hp => exact m111_q)
        intro v476 w60 ho61 hb hg_ hnew_
        clear hg_ hnew_
        (first | rw [← Ny475.out] at ho61 | (simp only [Int.reduceToNat] at ho61; rw [← Ny475.out] at ho61))
        have HO477 := Ae_q (rL_q (rW_q (rW_q ho61 (rT_q (rup HO_10.out))) (rT_q (rup HO483.out))) (bZ_q m0_q))
        replace HO_10 := Ae_q (rE_q (rup HO_10.out) (rB_q ho61) hb)
        replace HO483 := Ae_q (rE_q (rup HO483.out) (rB_q ho61) hb)
        replace BK464 := Ae_q (bB_q (g := gb464) (o := .cells #[.int .i64 a1_0, .slice A1_1 l1_1.length c1_1] 43 (0, 0)) (bup BK464.out) hb)
        replace BK465 := Ae_q (bB_q (g := gb465) (o := .cells #[.int .i64 a3_0, .int .i64 a3_1, .int .i64 a3_2] 31 (0, 0)) (bup BK465.out) hb)
        replace HB := Ae_q (bT_q m0_q hb)
        clear hb ho61
        refine hK.out _ _ ⟨(bC_q BK465.out 0).trans rfl, (bC_q BK465.out 1).trans rfl, (bC_q BK465.out 2).trans rfl, (bC_q BK464.out 0).trans rfl, (bC_q BK464.out 1).trans rfl, (cel HB.out hw473_0), (cel HB.out hw473_1), (cel HB.out hw473_2), (cel HB.out hw473_3)⟩ (fun hHeld => ?_)
        clear hK K
        refine nJ_q ?_
        refine one_ (i := 12) (N := some 52) #[true, true, true, true, true, true, true, true, true, true, true, true, true, true, true, false, false, false, false] rfl rfl (one_of HT_.out m7_q) (by decide) (fun K hK => ?_)
        refine rP_q kI_q (w0 := w) w.heap.size (by rfl) (.tmp 50) (.tmp 51) 23 3 (.int .i64 0) 8 rfl Try.underlying23 info3 rfl (by decide) (by omega) v476 y475 x10_2 _ _ _ (fun k_ => some k_ ≠ (.slice Ao28 x10_2.length co28 : Value).ownBlock ∧ some k_ ≠ (v482 : Value).ownBlock) (fun _ => False) rfl rfl ?aO ?aR (fun _ _ h => h) (fun _ h => h.elim) ?aF ?aB ?aS ?aL ?_
        (case aR => exact m62_q)
        (case aB => exact m0_q)
        (case aF => exact m38_q)
        (case aO => exact m49_q)
        (case aS => exact m128_q)
        (case aL => exact m103_q)
        intro v479 w62 ho hb hg hat
        rw [← Ny478.out] at ho
        replace HO_10 := Ae_q (rF_q (ok := (fun k_ => some k_ ≠ (v482 : Value).ownBlock)) m48_q hg hat)
        replace BK464 := Ae_q (bG_q (g := gb464) (o := .cells #[.int .i64 a1_0, .slice A1_1 l1_1.length c1_1] 43 (0, 0)) (bup BK464.out) hg (Kd.R_ne HO477.out BK464.out (by decide)))
        replace BK465 := Ae_q (bG_q (g := gb465) (o := .cells #[.int .i64 a3_0, .int .i64 a3_1, .int .i64 a3_2] 31 (0, 0)) (bup BK465.out) hg (Kd.R_ne HO477.out BK465.out (by decide)))
        replace HO483 := Ae_q (rF_q (ok := (fun k_ => some k_ ≠ (.slice Ao28 x10_2.length co28 : Value).ownBlock)) m50_q hg hat)
        replace HB := Ae_q (hb)
        have HO480 := Ae_q (ho)
        clear HO477
        clear ho hb hg hat
        refine hK.out _ _ ⟨(bC_q BK465.out 0).trans rfl, (bC_q BK465.out 1).trans rfl, (bC_q BK465.out 2).trans rfl, (bC_q BK464.out 0).trans rfl, (bC_q BK464.out 1).trans rfl, (cel HB.out hw473_0), (cel HB.out hw473_1), (cel HB.out hw473_2), (cel HB.out hw473_3)⟩ (fun hHeld => ?_)
        clear hK K
        refine nJ_q ?_
        exact norm_ m47_q (hCont (v476, v479, v482) _ ⟨hHeld, m19_q, m29_q, m30_q, (bup BK464.out), (bup BK465.out), m0_q⟩)
       rintro ⟨v476, v479, v482⟩ w63 ⟨hS_, h0_, h1_, h2_, h3_, h4_, h5_⟩
       have n0_ : Aside0 (Kd.R kI_q 3 w63 w.heap.size (fun k_ => some k_ ≠ (v482 : Value).ownBlock ∧ some k_ ≠ (.slice Ao28 x10_2.length co28 : Value).ownBlock) v479 y478) := ⟨h0_⟩
       have n1_ : Aside0 (Kd.R kI_q 3 w63 w.heap.size (fun k_ => some k_ ≠ (v479 : Value).ownBlock ∧ some k_ ≠ (.slice Ao28 x10_2.length co28 : Value).ownBlock) v482 y481) := ⟨h1_⟩
       have n2_ : Aside0 (Kd.R kI_q 3 w63 w.heap.size (fun k_ => some k_ ≠ (v479 : Value).ownBlock ∧ some k_ ≠ (v482 : Value).ownBlock) (.slice Ao28 x10_2.length co28) x10_2) := ⟨h2_⟩
       have n3_ : Aside0 (w63.heap[gb464]? = some (.cells #[.int .i64 a1_0, .slice A1_1 l1_1.length c1_1] 43 (0, 0))) := ⟨h3_⟩
       have n4_ : Aside0 (w63.heap[gb465]? = some (.cells #[.int .i64 a3_0, .int .i64 a3_1, .int .i64 a3_2] 31 (0, 0))) := ⟨h4_⟩
       have n5_ : Aside0 (Below w.heap.size w w63) := ⟨h5_⟩
       clear HO_10
       clear BK464
       clear BK465
       clear HB
       clear h0_ h1_ h2_ h3_ h4_ h5_
       have HO480 := n0_
       have HO483 := n1_
       have HO_10 := n2_
       have BK464 := n3_
       have BK465 := n4_
       have HB := n5_
       clear n0_ n1_ n2_ n3_ n4_ n5_
       have hHeld : w63.cell? ⟨gb465, 0, none⟩ = some (.int .i64 a3_0) ∧ w63.cell? ⟨gb465, 1, none⟩ = some (.int .i64 a3_1) ∧ w63.cell? ⟨gb465, 2, none⟩ = some (.int .i64 a3_2) ∧ w63.cell? ⟨gb464, 0, none⟩ = some (.int .i64 a1_0) ∧ w63.cell? ⟨gb464, 1, none⟩ = some (.slice A1_1 l1_1.length c1_1) ∧ w63.cell? (ad473.add ((x11_2).toNat * 4)) = some (.int .i64 ((rd_T63 l0 x11_2).f0)) ∧ w63.cell? ⟨(ad473.add ((x11_2).toNat * 4)).block, (ad473.add ((x11_2).toNat * 4)).off + 1, none⟩ = some (.int .i64 ((rd_T63 l0 x11_2).f1)) ∧ w63.cell? ⟨(ad473.add ((x11_2).toNat * 4)).block, (ad473.add ((x11_2).toNat * 4)).off + 2, none⟩ = some (.int .i64 ((rd_T63 l0 x11_2).f2)) ∧ w63.cell? ⟨(ad473.add ((x11_2).toNat * 4)).block, (ad473.add ((x11_2).toNat * 4)).off + 3, none⟩ = some (.slice A473_3 ((rd_T63 l0 x11_2).f3).length c473_3) := hS_
       obtain ⟨Ao65, co65, eo65⟩ := rS_q HO483.out
       (first | subst eo65 | (injection eo65 with f1_ f2_ f3_; have f4_ := f1_.symm; have f5_ := f3_.symm; clear f1_ f2_ f3_; subst f4_; subst f5_))
       refine norm_ (a' := ?_) ?_ ?_
       rotate_left
       ·simp only [putAll, Act.put, sA_q, sZ_q, sS_q]
        rfl
       refine one_ (i := 15) (N := some 55) #[true, true, true, true, true, true, true, true, true, true, true, true, true, true, true, true, false, false, false] rfl rfl (one_of HT_.out m7_q) (by decide) (fun K hK => ?_)
       refine rP_q kI_q (w0 := w) w.heap.size (by rfl) (.tmp 52) (.tmp 54) 23 3 (.int .i64 0) 8 rfl Try.underlying23 info3 rfl (by decide) (by omega) v479 y478 y481 _ _ _ (fun k_ => some k_ ≠ (.slice Ao28 x10_2.length co28 : Value).ownBlock ∧ some k_ ≠ (.slice Ao65 y481.length co65 : Value).ownBlock) (fun _ => False) rfl rfl ?aO ?aR (fun _ _ h => h) (fun _ h => h.elim) ?aF ?aB ?aS ?aL ?_
       (case aR => exact cup (rR_q HO483.out).2.2)
       (case aB => exact m0_q)
       (case aF => exact m38_q)
       (case aO => exact m19_q)
       (case aS => exact m128_q)
       (case aL => have := LMc37.out; omega)
       intro v485 w64 ho hb hg hat
       rw [← Ny484.out] at ho
       replace HO_10 := Ae_q (rF_q (ok := (fun k_ => some k_ ≠ (.slice Ao65 y481.length co65 : Value).ownBlock)) m30_q hg hat)
       replace BK464 := Ae_q (bG_q (g := gb464) (o := .cells #[.int .i64 a1_0, .slice A1_1 l1_1.length c1_1] 43 (0, 0)) (bup BK464.out) hg (Kd.R_ne HO480.out BK464.out (by decide)))
       replace BK465 := Ae_q (bG_q (g := gb465) (o := .cells #[.int .i64 a3_0, .int .i64 a3_1, .int .i64 a3_2] 31 (0, 0)) (bup BK465.out) hg (Kd.R_ne HO480.out BK465.out (by decide)))
       replace HO483 := Ae_q (rF_q (ok := (fun k_ => some k_ ≠ (.slice Ao28 x10_2.length co28 : Value).ownBlock)) m29_q hg hat)
       replace HB := Ae_q (hb)
       have HO486 := Ae_q (ho)
       clear HO480
       clear ho hb hg hat
       obtain ⟨Ao66, co66, eo66⟩ := rS_q HO486.out
       (first | subst eo66 | (injection eo66 with f1_ f2_ f3_; have f4_ := f1_.symm; have f5_ := f3_.symm; clear f1_ f2_ f3_; subst f4_; subst f5_))
       refine hK.out _ _ ⟨(bC_q BK465.out 0).trans rfl, (bC_q BK465.out 1).trans rfl, (bC_q BK465.out 2).trans rfl, (bC_q BK464.out 0).trans rfl, (bC_q BK464.out 1).trans rfl, (cel HB.out hw473_0), (cel HB.out hw473_1), (cel HB.out hw473_2), (cel HB.out hw473_3)⟩ (fun hHeld => ?_)
       clear hK K
       refine nJ_q ?_
       refine one_ (i := 16) (N := some 56) #[true, true, true, true, true, true, true, true, true, true, true, true, true, true, true, true, true, false, false] rfl rfl (one_of HT_.out m7_q) (by decide) (fun K hK => ?_)
       refine goes_ Try.func47 m7_q rfl #[.slice (some ad473) l0.length c0, .agg #[.int .i64 a1_0, .slice A1_1 l1_1.length c1_1], .slice Ao66 y484.length co66] (by rfl) rfl rfl m1_q ?_
       with_reducible refine (spec_l32Room.calls k3 _ _ l0 a1_0 _ _ l1_1 _ _ y484 true _ ?side1 ?side2 ?side3 ?side4 ?side5 ?side6 A38.out).mono ?_
       (case side1 => exact m20_q)
       (case side2 => exact m57_q)
       (case side3 => exact m32_q)
       (case side4 => exact m64_q)
       (case side5 => exact cup (rR_q HO486.out).2.2)
       (case side6 => exact (rR_q HO486.out).2.1)
       rintro e w' ⟨rfl, hb⟩
       refine ⟨_, rfl, ?_⟩
       replace HO_10 := Ae_q (rO_q (rup HO_10.out) hb)
       replace HO483 := Ae_q (rO_q (rup HO483.out) hb)
       replace HO486 := Ae_q (rO_q (rup HO486.out) hb)
       replace BK464 := Ae_q (bB_q (g := gb464) (o := .cells #[.int .i64 a1_0, .slice A1_1 l1_1.length c1_1] 43 (0, 0)) (bup BK464.out) hb)
       replace BK465 := Ae_q (bB_q (g := gb465) (o := .cells #[.int .i64 a3_0, .int .i64 a3_1, .int .i64 a3_2] 31 (0, 0)) (bup BK465.out) hb)
       replace HB := Ae_q (bT_q m0_q hb)
       (try clear hb)
       (try clear hb2)
       (try clear hk)
       (try clear hi)
       refine hK.out _ _ ⟨(bC_q BK465.out 0).trans rfl, (bC_q BK465.out 1).trans rfl, (bC_q BK465.out 2).trans rfl, (bC_q BK464.out 0).trans rfl, (bC_q BK464.out 1).trans rfl, (cel HB.out hw473_0), (cel HB.out hw473_1), (cel HB.out hw473_2), (cel HB.out hw473_3)⟩ (fun hHeld => ?_)
       clear hK K
       refine nJ_q ?_
       refine pJ HT_ 17 57 rfl rfl ?_
       refine pJ HT_ 18 58 rfl rfl ?_
       refine done_ (done_of HT_.out m7_q) ?_
       try go_wp2_with (first | ((with_reducible refine gD_q (N := 66) rfl ?_); (try (refine gate_guard (by rfl) ?_; dsimp only)); refine Kd.R_lit kI_q _ 3 ?hg (N := 66) ?hd (xs := ([x12_3] : List Int)) (inner := [.int .i64 x12_3]) (ok := fun _ => True) (okp := fun _ => True) ?hr ?hp (fun _ hk => hk) trivial (bR_q _ _) (nR_q _) (by simp) ?_; (case hd => rfl); (case hg => rfl); (case hr => exact m6_q); (case hp => exact m42_q); intro v492 w68 ho69 hb hg_ hnew_; clear hg_ hnew_; (first | rw [← Ny491.out] at ho69 | (simp only [Int.reduceToNat] at ho69; rw [← Ny491.out] at ho69)); have HO493 := Ae_q (rL_q (rW_q (rW_q (rW_q ho69 (rT_q (rup HO_10.out))) (rT_q (rup HO483.out))) (rT_q (rup HO486.out))) (bZ_q m0_q)); replace HO_10 := Ae_q (rE_q (rup HO_10.out) (rB_q ho69) hb); replace HO483 := Ae_q (rE_q (rup HO483.out) (rB_q ho69) hb); replace HO486 := Ae_q (rE_q (rup HO486.out) (rB_q ho69) hb); replace BK464 := Ae_q (bB_q (g := gb464) (o := .cells #[.int .i64 a1_0, .slice A1_1 l1_1.length c1_1] 43 (0, 0)) (bup BK464.out) hb); replace BK465 := Ae_q (bB_q (g := gb465) (o := .cells #[.int .i64 a3_0, .int .i64 a3_1, .int .i64 a3_2] 31 (0, 0)) (bup BK465.out) hb); replace HB := Ae_q (bT_q m0_q hb); clear hb ho69; obtain ⟨Ao71, co71, eo71⟩ := rS_q HO493.out; subst eo71) | ((with_reducible refine gate_builtin (b := .append) (xs := #[.tmp 64, .tmp 66]) rfl ?_); (try (refine gate_guard (by rfl) ?_; dsimp only)); at_builtin; refine Kd.R_append_rows kI_q (w0 := w) w.heap.size rfl (.tmp 64) (.tmp 66) 23 3 (.int .i64 0) 8 rfl Try.underlying23 info3 rfl (by decide) (by omega) (.slice Ao28 x10_2.length co28) x10_2 y491 _ _ _ (fun k_ => some k_ ≠ (.slice Ao65 y481.length co65 : Value).ownBlock ∧ some k_ ≠ (.slice Ao66 y484.length co66 : Value).ownBlock ∧ some k_ ≠ (.slice Ao71 y491.length co71 : Value).ownBlock) (fun _ => False) rfl rfl ?aO ?aR (fun _ _ h => h) (fun _ h => h.elim) ?aF ?aB ?aS ?aL ?_; (case aR => exact cup (rR_q HO493.out).2.2); (case aB => exact m0_q); (case aF => exact (fun k_ hk => ⟨Kd.fresh' (rT_q (rup HO483.out)) k_ hk, Kd.fresh' (rT_q (rup HO486.out)) k_ hk, Kd.fresh' (rT_q (rup HO493.out)) k_ hk⟩)); (case aO => exact (by (with_reducible repeat (first | apply rA_q | apply rN_q | apply rD_q)); exact rM_q HO_10.out (fun _ hk => ⟨hk.1.1, ⟨hk.1.2, hk.2⟩⟩))); (case aS => exact m128_q); (case aL => have := LMc55.out; omega); intro v495 w70 ho hb hg hat; rw [← Ny494.out] at ho; replace BK464 := Ae_q (bG_q (g := gb464) (o := .cells #[.int .i64 a1_0, .slice A1_1 l1_1.length c1_1] 43 (0, 0)) (bup BK464.out) hg (Kd.R_ne HO_10.out BK464.out (by decide))); replace BK465 := Ae_q (bG_q (g := gb465) (o := .cells #[.int .i64 a3_0, .int .i64 a3_1, .int .i64 a3_2] 31 (0, 0)) (bup BK465.out) hg (Kd.R_ne HO_10.out BK465.out (by decide))); replace HO483 := Ae_q (rF_q (ok := (fun k_ => some k_ ≠ (.slice Ao66 y484.length co66 : Value).ownBlock ∧ some k_ ≠ (.slice Ao71 y491.length co71 : Value).ownBlock)) (by (with_reducible repeat (first | apply rA_q | apply rN_q | apply rD_q)); exact rM_q HO483.out (fun _ hk => ⟨⟨hk.1.2, hk.2⟩, hk.1.1⟩)) hg hat); replace HO486 := Ae_q (rF_q (ok := (fun k_ => some k_ ≠ (.slice Ao65 y481.length co65 : Value).ownBlock ∧ some k_ ≠ (.slice Ao71 y491.length co71 : Value).ownBlock)) (by (with_reducible repeat (first | apply rA_q | apply rN_q | apply rD_q)); exact rM_q HO486.out (fun _ hk => ⟨⟨hk.1.2, hk.2⟩, hk.1.1⟩)) hg hat); replace HO493 := Ae_q (rF_q (ok := (fun k_ => some k_ ≠ (.slice Ao65 y481.length co65 : Value).ownBlock ∧ some k_ ≠ (.slice Ao66 y484.length co66 : Value).ownBlock)) (by (with_reducible repeat (first | apply rA_q | apply rN_q | apply rD_q)); exact rM_q HO493.out (fun _ hk => ⟨⟨hk.1.2, hk.2⟩, hk.1.1.2⟩)) hg hat); replace HB := Ae_q (hb); have HO496 := Ae_q (ho); clear HO_10; clear ho hb hg hat))
       go_roundg k3
       case measure => have := HJ4.out; have := HK2.out; have := HK3.out; omega
       case rel => exact ⟨(y494), (wrap64 (x11_2 + 1)), m5_q, H', ⟨m116_q⟩, ⟨by (with_reducible repeat (first | apply rA_q | apply rN_q | apply rD_q)); exact rM_q HO496.out (fun _ hk => trivial)⟩, ⟨bup BK464.out⟩, ⟨bup BK465.out⟩, ⟨m0_q⟩⟩

end Go.Proofs.Ytfnpiacmlahegaa.PRp
