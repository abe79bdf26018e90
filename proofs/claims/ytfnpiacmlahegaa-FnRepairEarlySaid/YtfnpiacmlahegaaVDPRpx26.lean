import Derived.Test.YtfnpiacmlahegaaVDPRpx0
import Derived.Test.YtfnpiacmlahegaaVDPRpx2
import Derived.Test.YtfnpiacmlahegaaVDPRpx8
import Derived.Test.YtfnpiacmlahegaaVDPRpx10
import Derived.Test.YtfnpiacmlahegaaVDPRpx25
namespace Go.Proofs.Ytfnpiacmlahegaa.PRp
open Go.RowKit Go.Proofs.YtfnpiacmlahegaaW.PrintWords Go.Proofs.YtfnpiacmlahegaaW.PrintLast Go.Proofs.YtfnpiacmlahegaaW.PrintMore
attribute [local go_sem] max2_int min2_int max_two min_two max_three min_three max_four min_four
set_option linter.unusedVariables false
set_option linter.unusedSimpArgs false

mutual
def spec_OutageRepair.j0 : Nat → List (S63) → List Int → List Int → Bool → Int → List Int → Int → Int → Int → Option (List Int × Bool)
 | 0, _, _, _, _, _, _, _, _, _ => none
 | k + 1, x0, x2, x10, x23, x631000, x631001, x632000, x632001, x632002 => if x23 = true then (some (x10, false)) else (spec_OutageRepair.l0 k x0 x2 x10 0 x631000 x631001 x632000 x632001 x632002)
def spec_OutageRepair.l0 : Nat → List (S63) → List Int → List Int → Int → Int → List Int → Int → Int → Int → Option (List Int × Bool)
 | 0, _, _, _, _, _, _, _, _, _ => none
 | k + 1, x0, x2, x10, x11, x631000, x631001, x632000, x632001, x632002 => if x11 < (x0.length : Int) then (if 0 ≤ x11 then (if x11 < (x2.length : Int) then ((spec_l32After.f k x0 x10 x11).bind fun t638 => (spec_OutageRepair.l1 k x0 x2 x10 x11 (mx (rd x2 x11) t638) x631000 x631001 x632000 x632001 x632002)) else (none)) else (none)) else (some (x10, true))
def spec_OutageRepair.l1 : Nat → List (S63) → List Int → List Int → Int → Int → Int → List Int → Int → Int → Int → Option (List Int × Bool)
 | 0, _, _, _, _, _, _, _, _, _, _ => none
 | k + 1, x0, x2, x10, x11, x12, x631000, x631001, x632000, x632001, x632002 => if 0 ≤ x11 then (if x11 < (x0.length : Int) then ((spec_l33Hit.f ((rd_T63 x0 x11).f0) ((rd_T63 x0 x11).f1) ((rd_T63 x0 x11).f2) ((rd_T63 x0 x11).f3) x12 x632000 x632001 x632002).bind fun t640 => (if t640 = true then (spec_OutageRepair.l1 k x0 x2 x10 x11 (wrap64 (x12 + 1)) x631000 x631001 x632000 x632001 x632002) else ((some (([] : List Int) : List Int)).bind fun y641 => (if y641.length + x10.length < 17592186044416 then ((some (y641 ++ x10 : List Int)).bind fun y644 => ((some (([x12] : List Int) : List Int)).bind fun y647 => (if y644.length + y647.length < 17592186044416 then ((spec_l32Room.f k x0 x631000 x631001 (y644 ++ y647)).bind fun t653 => (if t653 = true then (if x12 > 999 then (some ((([] : List Int)), false)) else ((some (([x12] : List Int) : List Int)).bind fun y657 => (if x10.length + y657.length < 17592186044416 then (spec_OutageRepair.l0 k x0 x2 (x10 ++ y657) (wrap64 (x11 + 1)) x631000 x631001 x632000 x632001 x632002) else (none)))) else (spec_OutageRepair.l1 k x0 x2 x10 x11 (wrap64 (x12 + 1)) x631000 x631001 x632000 x632001 x632002))) else (none)))) else (none))))) else (none)) else (none)
end
def spec_OutageRepair.f (k : Nat) (l0 : List (S63)) (a1_0 : Int) (l1_1 : List Int) (l2 : List Int) (a3_0 : Int) (a3_1 : Int) (a3_2 : Int) : Option (List Int × Bool) := (some (([] : List Int) : List Int)).bind fun y632 => ((spec_PlanValid.f k l0 a1_0 l1_1 l2).bind fun t635 => (if t635 = true then ((spec_l33Outage.f a3_0 a3_1 a3_2).bind fun t636 => (spec_OutageRepair.j0 k l0 l2 y632 (!t636) a1_0 l1_1 a3_0 a3_1 a3_2)) else (spec_OutageRepair.j0 k l0 l2 y632 true a1_0 l1_1 a3_0 a3_1 a3_2)))
def spec_OutageRepair.T7 : Bool × List (List Nat × List Nat) := (true, [([], []), ([], []), ([0, 1], [0, 1]), ([2], [2]), ([], []), ([], []), ([], []), ([4, 5, 6], [4, 5, 6]), ([3, 7], [3, 7]), ([8, 7, 0, 1, 2, 3, 4, 5, 6, 7, 8], [8])])
def spec_OutageRepair.B7 : List Nat := [0, 0, 3, 7, 0, 0, 0, 112, 255, 511]
theorem spec_OutageRepair.tab7 : rtab .any (opsOf Try.f29 7) = spec_OutageRepair.T7 := by kernel_rfl
theorem spec_OutageRepair.bits7 : waitsOk spec_OutageRepair.T7.2 spec_OutageRepair.B7 = true := by kernel_rfl
def spec_OutageRepair.T8 : Bool × List (List Nat × List Nat) := (true, [([], []), ([], []), ([0, 1], [0, 1]), ([2], [2]), ([], []), ([], []), ([3, 4, 5], [3, 4, 5]), ([6, 6], [6]), ([7], [7]), ([7], [7]), ([7], [7]), ([7], [7]), ([10, 11, 7, 7], [7, 10, 11]), ([7], [7]), ([13, 7], [7, 13]), ([12, 14, 12, 7], [7, 12, 14]), ([8, 9, 15, 15, 7], [7, 8, 9, 15]), ([16, 7], [7, 16]), ([7, 17], [7, 17])])
def spec_OutageRepair.B8 : List Nat := [0, 0, 3, 7, 0, 0, 63, 127, 255, 255, 255, 255, 3327, 255, 8447, 31999, 65535, 131071, 262143]
theorem spec_OutageRepair.tab8 : rtab .any (opsOf Try.f29 8) = spec_OutageRepair.T8 := by kernel_rfl
theorem spec_OutageRepair.bits8 : waitsOk spec_OutageRepair.T8.2 spec_OutageRepair.B8 = true := by kernel_rfl
set_option maxHeartbeats 8000000 in
set_option maxRecDepth 100000 in
theorem spec_OutageRepair.calls (k : Nat) (A0 : Option Addr) (c0 : Nat) (l0 : List (S63)) (a1_0 : Int) (A1_1 : Option Addr) (c1_1 : Nat) (l1_1 : List Int) (A2 : Option Addr) (c2 : Nat) (l2 : List Int) (a3_0 : Int) (a3_1 : Int) (a3_2 : Int) (r1 : List Int) (r2 : Bool) (w : World) (hr0 : Kd.C k63 w A0 l0.length l0) (hc0 : l0.length ≤ c0) (hr1_1 : Kd.C kI_q w A1_1 l1_1.length l1_1) (hc1_1 : l1_1.length ≤ c1_1) (hr2 : Kd.C kI_q w A2 l2.length l2) (hc2 : l2.length ≤ c2) (h : spec_OutageRepair.f k l0 a1_0 l1_1 l2 a3_0 a3_1 a3_2 = some (r1, r2)) :
    Calls Try.prog 29 #[.slice A0 l0.length c0, .agg #[.int .i64 a1_0, .slice A1_1 l1_1.length c1_1], .slice A2 l2.length c2, .agg #[.int .i64 a3_0, .int .i64 a3_1, .int .i64 a3_2]] w fun e w' => ∃ v0_ : Value, e = .returned (.tuple #[v0_, .bool r2]) ∧ Kd.R kI_q 3 w' w.heap.size (fun _ => True) v0_ r1 ∧ Below w.heap.size w w' := by
 have hu43 := Try.underlying43
 have hu31 := Try.underlying31
 have hu63 := Try.underlying63
 have HR0 := Ae_q hr0
 have HC0 := Ae_q hc0
 clear hr0 hc0
 have HR1_1 := Ae_q hr1_1
 have HC1_1 := Ae_q hc1_1
 clear hr1_1 hc1_1
 have HR2 := Ae_q hr2
 have HC2 := Ae_q hc2
 clear hr2 hc2
 have HB := Ae_q (bR_q w.heap.size w)
 have H : ((some (([] : List Int) : List Int)).bind fun y632 => ((spec_PlanValid.f k l0 a1_0 l1_1 l2).bind fun t635 => (if t635 = true then ((spec_l33Outage.f a3_0 a3_1 a3_2).bind fun t636 => (spec_OutageRepair.j0 k l0 l2 y632 (!t636) a1_0 l1_1 a3_0 a3_1 a3_2)) else (spec_OutageRepair.j0 k l0 l2 y632 true a1_0 l1_1 a3_0 a3_1 a3_2)))) = some (r1, r2) := h
 clear h
 obtain ⟨y632, hy632⟩ : ∃ y_ : List Int, y_ = (([] : List Int)) := ⟨_, rfl⟩
 replace H : ((spec_PlanValid.f k l0 a1_0 l1_1 l2).bind fun t635 => (if t635 = true then ((spec_l33Outage.f a3_0 a3_1 a3_2).bind fun t636 => (spec_OutageRepair.j0 k l0 l2 y632 (!t636) a1_0 l1_1 a3_0 a3_1 a3_2)) else (spec_OutageRepair.j0 k l0 l2 y632 true a1_0 l1_1 a3_0 a3_1 a3_2))) = some (r1, r2) := by first | (rw [hy632]; with_reducible exact H) | (have H2_ := (oS_q _ _).symm.trans H; rw [hy632]; with_reducible exact H2_) | (have H2_ := (oS_q _ _).symm.trans H; with_reducible exact H2_) | with_reducible exact H | (rw [hy632]; exact H) | exact H
 have Ny632 := Ae_q hy632
 clear hy632
 have HC5 := Ae_q H
 clear H
 go_enter Try.func29, Try.ntmps29
 go_upto_region 2 with (first | ((first | ((with_reducible refine gD_q (N := 5) rfl ?_); (try (refine gate_guard (by rfl) ?_; dsimp only)); refine bE_q ?hg (N := 5) ?hd (cs := #[.int .i64 a1_0, .slice A1_1 l1_1.length c1_1]) (t := 43) ?hr ?_; (case hd => rfl); (case hg => rfl); (case hr => exact m5_q); intro gb630 hg w' hbox hb; have BK630 := Ae_q (hbox); have GW630 := Ae_q ((by rw [hg]; exact (bZ_q (bel HB.out)) : w.heap.size ≤ gb630)); have GE630 := Ae_q ((by rw [hg]; exact (bZ_q (bel HB.out)) : w.heap.size ≤ gb630)); replace HB := Ae_q (bT_q (bel HB.out) hb)) | ((with_reducible refine gD_q (N := 7) rfl ?_); (try (refine gate_guard (by rfl) ?_; dsimp only)); refine bE_q ?hg (N := 7) ?hd (cs := #[.int .i64 a3_0, .int .i64 a3_1, .int .i64 a3_2]) (t := 31) ?hr ?_; (case hd => rfl); (case hg => rfl); (case hr => exact m5_q); intro gb631 hg w' hbox hb; have BK631 := Ae_q (hbox); have GW631 := Ae_q ((by rw [hg]; exact (bZ_q m136_q) : w.heap.size ≤ gb631)); have GE631 := Ae_q ((by rw [hg]; exact (bZ_q m136_q) : w.heap.size ≤ gb631)); replace HB := Ae_q (bT_q m136_q hb); have NB630_631 := Ae_q ((by rw [hg]; exact nL_q (blk_lt (g := gb630) (o := .cells #[.int .i64 a1_0, .slice A1_1 l1_1.length c1_1] 43 (0, 0)) (bup BK630.out)) : gb630 ≠ gb631)); have NB631_630 := Ae_q ((by rw [hg]; exact nG_q (blk_lt (g := gb630) (o := .cells #[.int .i64 a1_0, .slice A1_1 l1_1.length c1_1] 43 (0, 0)) (bup BK630.out)) : gb631 ≠ gb630)); replace BK630 := Ae_q (bB_q (g := gb630) (o := .cells #[.int .i64 a1_0, .slice A1_1 l1_1.length c1_1] 43 (0, 0)) (bup BK630.out) hb))); clear hb hbox hg) | ((with_reducible refine gD_q (N := 13) rfl ?_); (try (refine gate_guard (by rfl) ?_; dsimp only)); refine Kd.R_lit kI_q _ 3 ?hg (N := 13) ?hd (xs := ([] : List Int)) (inner := []) (ok := fun _ => True) (okp := fun _ => True) ?hr ?hp (fun _ hk => hk) trivial (bR_q _ _) (nR_q _) (by simp) ?_; (case hd => rfl); (case hg => rfl); (case hr => exact m5_q); (case hp => exact m104_q); intro v633 w8 ho9 hb hg_ hnew_; clear hg_ hnew_; (first | rw [← Ny632.out] at ho9 | (simp only [Int.reduceToNat] at ho9; rw [← Ny632.out] at ho9)); have HO634 := Ae_q (rL_q ho9 (bZ_q m1_q)); replace BK630 := Ae_q (bB_q (g := gb630) (o := .cells #[.int .i64 a1_0, .slice A1_1 l1_1.length c1_1] 43 (0, 0)) (bup BK630.out) hb); replace BK631 := Ae_q (bB_q (g := gb631) (o := .cells #[.int .i64 a3_0, .int .i64 a3_1, .int .i64 a3_2] 31 (0, 0)) (bup BK631.out) hb); replace HB := Ae_q (bT_q m1_q hb); clear hb ho9))
 (try simp only [Act.put, sA_q, sZ_q, sS_q])
 go_cut [23] (fun v23 wc => ∃ (kq : Nat) (x23_4 : Bool), v23 = .bool x23_4 ∧ Aside0 (spec_OutageRepair.j0 kq l0 l2 y632 x23_4 a1_0 l1_1 a3_0 a3_1 a3_2 = some (r1, r2)) ∧ Aside0 (kq ≤ k) ∧ Aside0 (Kd.R kI_q 3 wc w.heap.size (fun _ => True) v633 y632) ∧ Aside0 (wc.heap[gb630]? = some (.cells #[.int .i64 a1_0, (.slice A1_1 l1_1.length c1_1)] 43 (0, 0))) ∧ Aside0 (wc.heap[gb631]? = some (.cells #[.int .i64 a3_0, .int .i64 a3_1, .int .i64 a3_2] 31 (0, 0))) ∧ Aside0 (Below w.heap.size w wc))
 case first =>
  have H := HC5.out
  clear HC5
  replace H := oB_q.mp H
  obtain ⟨t635, A100, H⟩ := H
  replace H : (if t635 = true then ((spec_l33Outage.f a3_0 a3_1 a3_2).bind fun t636 => (spec_OutageRepair.j0 k l0 l2 y632 (!t636) a1_0 l1_1 a3_0 a3_1 a3_2)) else (spec_OutageRepair.j0 k l0 l2 y632 true a1_0 l1_1 a3_0 a3_1 a3_2)) = some (r1, r2) := H
  have A10 := Ae_q A100
  clear A100
  by_cases c11 : t635 = true
  rotate_left
  ·replace c11 := fM_q.mpr c11
   subst c11
   have H1 : (spec_OutageRepair.j0 k l0 l2 y632 true a1_0 l1_1 a3_0 a3_1 a3_2) = some (r1, r2) := by rw [if_neg (show ¬ (false = true) by decide)] at H; exact H
   clear H
   have H := H1
   clear H1
   have H' := Ae_q H
   clear H
   have hnb18 := NB630_631.out
   have hnc18 := NB631_630.out
   have hcz19_0 : cI w8 gb630 0 a1_0 := cZ BK630 0 rfl
   have hcz19_1 : w8.cell? ⟨gb630, 1, none⟩ = some (.slice A1_1 l1_1.length c1_1) := (bC_q BK630.out 1).trans rfl
   have hfz19_0 := bF_q BK630.out 0
   have hfz19_1 := bF_q BK630.out 1
   go_wp2_with (first | ((with_reducible refine gC_q (f := 56) rfl ?_); refine gL_q (some 17) rfl rfl Try.func56 m8_q rfl #[.slice A0 l0.length c0, .agg #[.int .i64 a1_0, .slice A1_1 l1_1.length c1_1], .slice A2 l2.length c2] rfl m0_q ?_; (with_reducible refine (spec_PlanValid.calls k _ _ l0 a1_0 _ _ l1_1 _ _ l2 false _ ?side1 ?side2 ?side3 ?side4 ?side5 ?side6 A10.out).mono ?_); (case side1 => exact m42_q); (case side2 => exact m97_q); (case side3 => exact m67_q); (case side4 => exact m119_q); (case side5 => exact m64_q); (case side6 => exact m120_q); rintro e w' ⟨rfl, hb⟩; refine ⟨_, rfl, ?_⟩; replace HO634 := Ae_q (rO_q (rup HO634.out) hb); replace BK630 := Ae_q (bB_q (g := gb630) (o := .cells #[.int .i64 a1_0, .slice A1_1 l1_1.length c1_1] 43 (0, 0)) (bup BK630.out) hb); replace BK631 := Ae_q (bB_q (g := gb631) (o := .cells #[.int .i64 a3_0, .int .i64 a3_1, .int .i64 a3_2] 31 (0, 0)) (bup BK631.out) hb); replace HB := Ae_q (bT_q m1_q hb); (try clear hb); (try clear hb2); (try clear hk); (try clear hi)))
   go_meet
   case rel => exact ⟨_, (true), m7_q, H', ⟨m111_q⟩, ⟨rup HO634.out⟩, ⟨bup BK630.out⟩, ⟨bup BK631.out⟩, ⟨m1_q⟩⟩
  subst c11
  have H1 : ((spec_l33Outage.f a3_0 a3_1 a3_2).bind fun t636 => (spec_OutageRepair.j0 k l0 l2 y632 (!t636) a1_0 l1_1 a3_0 a3_1 a3_2)) = some (r1, r2) := by rw [if_pos rfl] at H; exact H
  clear H
  have H := H1
  clear H1
  replace H := oB_q.mp H
  obtain ⟨t636, A120, H⟩ := H
  replace H : (spec_OutageRepair.j0 k l0 l2 y632 (!t636) a1_0 l1_1 a3_0 a3_1 a3_2) = some (r1, r2) := H
  have A12 := Ae_q A120
  clear A120
  have H' := Ae_q H
  clear H
  have hnb13 := NB630_631.out
  have hnc13 := NB631_630.out
  have hcz14_0 : cI w8 gb630 0 a1_0 := cZ BK630 0 rfl
  have hcz14_1 : w8.cell? ⟨gb630, 1, none⟩ = some (.slice A1_1 l1_1.length c1_1) := (bC_q BK630.out 1).trans rfl
  have hfz14_0 := bF_q BK630.out 0
  have hfz14_1 := bF_q BK630.out 1
  go_wp2_with (first | ((with_reducible refine gC_q (f := 56) rfl ?_); refine gL_q (some 17) rfl rfl Try.func56 m8_q rfl #[.slice A0 l0.length c0, .agg #[.int .i64 a1_0, .slice A1_1 l1_1.length c1_1], .slice A2 l2.length c2] rfl m0_q ?_; (with_reducible refine (spec_PlanValid.calls k _ _ l0 a1_0 _ _ l1_1 _ _ l2 true _ ?side1 ?side2 ?side3 ?side4 ?side5 ?side6 A10.out).mono ?_); (case side1 => exact m42_q); (case side2 => exact m97_q); (case side3 => exact m67_q); (case side4 => exact m119_q); (case side5 => exact m64_q); (case side6 => exact m120_q); rintro e w15 ⟨rfl, hb⟩; refine ⟨_, rfl, ?_⟩; replace HO634 := Ae_q (rO_q (rup HO634.out) hb); replace BK630 := Ae_q (bB_q (g := gb630) (o := .cells #[.int .i64 a1_0, .slice A1_1 l1_1.length c1_1] 43 (0, 0)) (bup BK630.out) hb); replace BK631 := Ae_q (bB_q (g := gb631) (o := .cells #[.int .i64 a3_0, .int .i64 a3_1, .int .i64 a3_2] 31 (0, 0)) (bup BK631.out) hb); replace HB := Ae_q (bT_q m1_q hb); (try clear hb); (try clear hb2); (try clear hk); (try clear hi); have hcz16_0 : cI w15 gb631 0 a3_0 := cZ BK631 0 rfl; have hcz16_1 : cI w15 gb631 1 a3_1 := cZ BK631 1 rfl; have hcz16_2 : cI w15 gb631 2 a3_2 := cZ BK631 2 rfl; have hfz16_0 := bF_q BK631.out 0; have hfz16_1 := bF_q BK631.out 1; have hfz16_2 := bF_q BK631.out 2) | (go_at_call 35; (with_reducible refine (spec_l33Outage.calls a3_0 a3_1 a3_2 t636 _ A12.out).mono ?_); rintro e w' ⟨rfl, hb⟩; replace HO634 := Ae_q (rO_q (rup HO634.out) hb); replace BK630 := Ae_q (bB_q (g := gb630) (o := .cells #[.int .i64 a1_0, .slice A1_1 l1_1.length c1_1] 43 (0, 0)) (bup BK630.out) hb); replace BK631 := Ae_q (bB_q (g := gb631) (o := .cells #[.int .i64 a3_0, .int .i64 a3_1, .int .i64 a3_2] 31 (0, 0)) (bup BK631.out) hb); replace HB := Ae_q (bT_q m1_q hb); (try clear hb); (try clear hb2); (try clear hk); (try clear hi)))
  go_meet
  case rel => exact ⟨_, (!t636), m7_q, H', ⟨m111_q⟩, ⟨rup HO634.out⟩, ⟨bup BK630.out⟩, ⟨bup BK631.out⟩, ⟨m1_q⟩⟩
 case rest =>
  clear HC5
  try clear c1
  try clear c2
  try clear p2
  try clear c5
  try clear c11
  try clear c13
  try clear c18
  try clear hcz14_0
  try clear hcz14_1
  try clear hcz16_0
  try clear hcz16_1
  try clear hcz16_2
  try clear hcz19_0
  try clear hcz19_1
  try clear hfz14_0
  try clear hfz14_1
  try clear hfz16_0
  try clear hfz16_1
  try clear hfz16_2
  try clear hfz19_0
  try clear hfz19_1
  obtain ⟨kq, x23_4, rfl, HA, HJ4, HO_10, BK630, BK631, HB⟩ := hcut
  cases kq with
  | zero => exact absurd HA.out (by simp [spec_OutageRepair.j0])
  | succ kj4 =>
   have H := HA.out
   clear HA
   simp only [spec_OutageRepair.j0] at H
   by_cases c21 : x23_4 = true
   ·subst c21
    have H1 : (some (y632, false)) = some (r1, r2) := by rw [if_pos rfl] at H; exact H
    clear H
    have H := H1
    clear H1
    simp only [oE_q, pE_q] at H
    obtain ⟨rfl, rfl⟩ := H
    go_wp2
    go_ret2
    exact ⟨_, m6_q, rup HO_10.out, m1_q⟩
   replace c21 := fM_q.mpr c21
   subst c21
   have H1 : (spec_OutageRepair.l0 kj4 l0 l2 y632 0 a1_0 l1_1 a3_0 a3_1 a3_2) = some (r1, r2) := by rw [if_neg (show ¬ (false = true) by decide)] at H; exact H
   clear H
   have H := H1
   clear H1
   have H' := Ae_q H
   clear H
   go_wp2
   go_loopg [10, 11] kj4 (fun kq v10 v11 w' => ∃ (x10_2 : List Int) (x11_2 : Int), v11 = .int .i64 x11_2 ∧ Aside0 (spec_OutageRepair.l0 kq l0 l2 x10_2 x11_2 a1_0 l1_1 a3_0 a3_1 a3_2 = some (r1, r2)) ∧ Aside0 (kq ≤ kj4) ∧ Aside0 (Kd.R kI_q 3 w' w.heap.size (fun _ => True) v10 x10_2) ∧ Aside0 (w'.heap[gb630]? = some (.cells #[.int .i64 a1_0, (.slice A1_1 l1_1.length c1_1)] 43 (0, 0))) ∧ Aside0 (w'.heap[gb631]? = some (.cells #[.int .i64 a3_0, .int .i64 a3_1, .int .i64 a3_2] 31 (0, 0))) ∧ Aside0 (Below w.heap.size w w'))
   case atStart => exact ⟨(y632), (0), m7_q, H', ⟨nR_q _⟩, ⟨rup HO_10.out⟩, ⟨bup BK630.out⟩, ⟨bup BK631.out⟩, ⟨m1_q⟩⟩
   case round =>
    clear H'
    try clear c1
    try clear c2
    try clear p2
    try clear c5
    try clear c11
    try clear c13
    try clear c18
    try clear c21
    try clear hcz14_0
    try clear hcz14_1
    try clear hcz16_0
    try clear hcz16_1
    try clear hcz16_2
    try clear hcz19_0
    try clear hcz19_1
    try clear hfz14_0
    try clear hfz14_1
    try clear hfz16_0
    try clear hfz16_1
    try clear hfz16_2
    try clear hfz19_0
    try clear hfz19_1
    try clear p2
    obtain ⟨x10_2, x11_2, rfl, HA, HK2, HO_10, BK630, BK631, HB⟩ := hrel
    cases gk with
    | zero => exact absurd HA.out (by simp [spec_OutageRepair.l0])
    | succ k2 =>
     have H := HA.out
     clear HA
     simp only [spec_OutageRepair.l0] at H
     by_cases c22 : x11_2 < (l0.length : Int)
     rotate_left
     ·rw [if_neg c22] at H
      have c22b0 : decide (x11_2 < (l0.length : Int)) = false := dF_q c22
      clear c22
      simp only [oE_q, pE_q] at H
      obtain ⟨rfl, rfl⟩ := H
      go_wp2
      go_ret2
      exact ⟨_, m6_q, rup HO_10.out, m1_q⟩
     rw [if_pos c22] at H
     have c22b0 : decide (x11_2 < (l0.length : Int)) = true := dT_q c22
     clear c22
     by_cases c23 : 0 ≤ x11_2
     rotate_left
     ·rw [if_neg c23] at H
      exact absurd H (by simp)
     rw [if_pos c23] at H
     have c23b0 : decide (0 ≤ x11_2) = true := dT_q c23
     clear c23
     by_cases c24 : x11_2 < (l2.length : Int)
     rotate_left
     ·rw [if_neg c24] at H
      exact absurd H (by simp)
     rw [if_pos c24] at H
     have c24b0 : decide (x11_2 < (l2.length : Int)) = true := dT_q c24
     clear c24
     replace H := oB_q.mp H
     obtain ⟨t638, A250, H⟩ := H
     replace H : (spec_OutageRepair.l1 k2 l0 l2 x10_2 x11_2 (mx (rd l2 x11_2) t638) a1_0 l1_1 a3_0 a3_1 a3_2) = some (r1, r2) := H
     have A25 := Ae_q A250
     clear A250
     obtain ⟨ji26, hji26⟩ : ∃ j_ : Int, (mx (rd l2 x11_2) t638) = j_ := ⟨_, rfl⟩
     replace H : (spec_OutageRepair.l1 k2 l0 l2 x10_2 x11_2 ji26 a1_0 l1_1 a3_0 a3_1 a3_2) = some (r1, r2) := by first | (rw [hji26] at H; exact H) | (simp only [hji26] at H ⊢; exact H)
     (try rw [hji26] at A25)
     have hji26_ : (if (rd l2 x11_2) < t638 then t638 else (rd l2 x11_2)) = ji26 := hji26
     have H' := Ae_q H
     clear H
     try go_wp2
     replace HO_10 := Ae_q (rD_q HO_10.out)
     replace BK630 := Ae_q (bW_q BK630.out)
     replace BK631 := Ae_q (bW_q BK631.out)
     replace HB := Ae_q (bD_q HB.out)
     have p637 : 0 ≤ (x11_2 : Int) := oD_q (by assumption)
     have q637 : x11_2 < (l2.length : Int) := oD_q (by assumption)
     obtain ⟨ad637, e637, hx637_0⟩ := aI_q HR2.out x11_2 p637 q637
     have hw637_0 := hx637_0
     cases e637
     replace hx637_0 := cel HB.out hx637_0
     replace p637 := eq_true p637
     replace q637 := eq_true q637
     obtain ⟨Ao28, co28, eo28⟩ := rS_q HO_10.out
     (first | subst eo28 | (injection eo28 with f1_ f2_ f3_; have f4_ := f1_.symm; have f5_ := f3_.symm; clear f1_ f2_ f3_; subst f4_; subst f5_))
     refine start_ (n := 10) (S := fun w' => w'.cell? (ad637.add (x11_2).toNat) = some (.int .i64 (rd l2 x11_2))) (ds := []) #[false, false, false, false, false, false, false, false, false, false] m8_q rfl rfl ((cel HB.out hw637_0)) (fun hHeld => ?_); refine with_tabW spec_OutageRepair.tab7 spec_OutageRepair.bits7 (fun HT_ HW_ => ?_)
     generalize wr.drew = w27 at HO_10 BK630 BK631 HB hx637_0 hHeld ⊢
     refine pJ HT_ 0 31 rfl rfl ?_
     refine pJ HT_ 1 32 rfl rfl ?_
     refine pJ HT_ 2 33 rfl rfl ?_
     refine pJ HT_ 4 35 rfl rfl ?_
     refine pJ HT_ 5 36 rfl rfl ?_
     refine pJ HT_ 6 37 rfl rfl ?_
     refine take_ (i := 3) (N := some 34) (v := ?_) (a' := ?_) #[true, true, true, true, true, true, true, false, false, false] rfl rfl (take_ofW HT_.out HW_.out m8_q) (fun _ _ _ h => h) (Or.inl ⟨by rfl, ?_⟩) hHeld ?_ ?_
     rotate_left
     ·intro w' s0
      go_simp
      with_reducible rfl
     rotate_left
     ·simp only [pS_q]
      rfl
     refine one_ (i := 7) (N := some 38) #[true, true, true, true, true, true, true, true, false, false] rfl rfl (one_of HT_.out m8_q) (by decide) (fun K hK => ?_)
     refine goes_ Try.func46 m8_q rfl #[.slice A0 l0.length c0, .slice Ao28 x10_2.length co28, .int .i64 x11_2] (by rfl) rfl rfl m0_q ?_
     with_reducible refine (spec_l32After.calls k2 _ _ l0 _ _ x10_2 x11_2 t638 _ ?side1 ?side2 ?side3 ?side4 A25.out).mono ?_
     (case side1 => exact m42_q)
     (case side2 => exact m97_q)
     (case side3 => exact m125_q)
     (case side4 => exact (rR_q HO_10.out).2.1)
     rintro e w' ⟨rfl, hb⟩
     refine ⟨_, rfl, ?_⟩
     replace HO_10 := Ae_q (rO_q (rup HO_10.out) hb)
     replace BK630 := Ae_q (bB_q (g := gb630) (o := .cells #[.int .i64 a1_0, .slice A1_1 l1_1.length c1_1] 43 (0, 0)) (bup BK630.out) hb)
     replace BK631 := Ae_q (bB_q (g := gb631) (o := .cells #[.int .i64 a3_0, .int .i64 a3_1, .int .i64 a3_2] 31 (0, 0)) (bup BK631.out) hb)
     replace HB := Ae_q (bT_q m1_q hb)
     (try clear hb)
     (try clear hb2)
     (try clear hk)
     (try clear hi)
     refine hK.out _ _ ((cel HB.out hw637_0)) (fun hHeld => ?_)
     clear hK K
     refine nJ_q ?_
     refine pJ HT_ 8 39 rfl rfl ?_
     refine pJ HT_ 9 12 rfl rfl ?_
     refine done_ (done_of HT_.out m8_q) ?_
     try go_wp2
     go_loopg [12] k2 (fun kq v12 w' => ∃ (x12_3 : Int), v12 = .int .i64 x12_3 ∧ Aside0 (spec_OutageRepair.l1 kq l0 l2 x10_2 x11_2 x12_3 a1_0 l1_1 a3_0 a3_1 a3_2 = some (r1, r2)) ∧ Aside0 (kq ≤ k2) ∧ Aside0 (Kd.R kI_q 3 w' w.heap.size (fun _ => True) (.slice Ao28 x10_2.length co28) x10_2) ∧ Aside0 (w'.heap[gb630]? = some (.cells #[.int .i64 a1_0, (.slice A1_1 l1_1.length c1_1)] 43 (0, 0))) ∧ Aside0 (w'.heap[gb631]? = some (.cells #[.int .i64 a3_0, .int .i64 a3_1, .int .i64 a3_2] 31 (0, 0))) ∧ Aside0 (Below w.heap.size w w'))
     case atStart => exact ⟨(ji26), (by first | rfl | (simp; done) | (simp only [← hji26] <;> (first | rfl | simp)) | (simp [*]; done)), H', ⟨nR_q _⟩, ⟨rup HO_10.out⟩, ⟨bup BK630.out⟩, ⟨bup BK631.out⟩, ⟨m1_q⟩⟩
     case round =>
      clear H'
      try clear c1
      try clear c2
      try clear p2
      try clear c4
      try clear c5
      try clear p6
      try clear q6
      try clear hx6
      try clear c11
      try clear c13
      try clear c18
      try clear c21
      try clear c22
      try clear c22b0
      try clear c23
      try clear c23b0
      try clear c24
      try clear c24b0
      try clear c29
      try clear hcz14_0
      try clear hcz14_1
      try clear hcz16_0
      try clear hcz16_1
      try clear hcz16_2
      try clear hcz19_0
      try clear hcz19_1
      try clear hfz14_0
      try clear hfz14_1
      try clear hfz16_0
      try clear hfz16_1
      try clear hfz16_2
      try clear hfz19_0
      try clear hfz19_1
      try clear hx637_0
      try clear p2
      try clear p637
      try clear q637
      obtain ⟨x12_3, rfl, HA, HK3, HO_10, BK630, BK631, HB⟩ := hrel
      cases gk with
      | zero => exact absurd HA.out (by simp [spec_OutageRepair.l1])
      | succ k3 =>
       have H := HA.out
       clear HA
       simp only [spec_OutageRepair.l1] at H
       by_cases c30 : 0 ≤ x11_2
       rotate_left
       ·rw [if_neg c30] at H
        exact absurd H (by simp)
       rw [if_pos c30] at H
       have c30b0 : decide (0 ≤ x11_2) = true := dT_q c30
       clear c30
       by_cases c31 : x11_2 < (l0.length : Int)
       rotate_left
       ·rw [if_neg c31] at H
        exact absurd H (by simp)
       rw [if_pos c31] at H
       have c31b0 : decide (x11_2 < (l0.length : Int)) = true := dT_q c31
       clear c31
       replace H := oB_q.mp H
       obtain ⟨t640, A320, H⟩ := H
       replace H : (if t640 = true then (spec_OutageRepair.l1 k3 l0 l2 x10_2 x11_2 (wrap64 (x12_3 + 1)) a1_0 l1_1 a3_0 a3_1 a3_2) else ((some (([] : List Int) : List Int)).bind fun y641 => (if y641.length + x10_2.length < 17592186044416 then ((some (y641 ++ x10_2 : List Int)).bind fun y644 => ((some (([x12_3] : List Int) : List Int)).bind fun y647 => (if y644.length + y647.length < 17592186044416 then ((spec_l32Room.f k3 l0 a1_0 l1_1 (y644 ++ y647)).bind fun t653 => (if t653 = true then (if x12_3 > 999 then (some ((([] : List Int)), false)) else ((some (([x12_3] : List Int) : List Int)).bind fun y657 => (if x10_2.length + y657.length < 17592186044416 then (spec_OutageRepair.l0 k3 l0 l2 (x10_2 ++ y657) (wrap64 (x11_2 + 1)) a1_0 l1_1 a3_0 a3_1 a3_2) else (none)))) else (spec_OutageRepair.l1 k3 l0 l2 x10_2 x11_2 (wrap64 (x12_3 + 1)) a1_0 l1_1 a3_0 a3_1 a3_2))) else (none)))) else (none)))) = some (r1, r2) := H
       have A32 := Ae_q A320
       clear A320
       by_cases c33 : t640 = true
       ·subst c33
        have H1 : (spec_OutageRepair.l1 k3 l0 l2 x10_2 x11_2 (wrap64 (x12_3 + 1)) a1_0 l1_1 a3_0 a3_1 a3_2) = some (r1, r2) := by rw [if_pos rfl] at H; exact H
        clear H
        have H := H1
        clear H1
        have H' := Ae_q H
        clear H
        try go_wp2
        replace HO_10 := Ae_q (rD_q HO_10.out)
        replace BK630 := Ae_q (bW_q BK630.out)
        replace BK631 := Ae_q (bW_q BK631.out)
        replace HB := Ae_q (bD_q HB.out)
        have p639 : 0 ≤ (x11_2 : Int) := oD_q (by assumption)
        have q639 : x11_2 < (l0.length : Int) := oD_q (by assumption)
        obtain ⟨ad639, A639_3, c639_3, e639, hx639_0, hx639_1, hx639_2, hx639_3, hl639_3, hi639_3⟩ := at_T63 HR0.out x11_2 p639 q639
        have hw639_3 := hx639_3
        have hw639_2 := hx639_2
        have hw639_1 := hx639_1
        have hw639_0 := hx639_0
        cases e639
        replace hx639_0 := cel HB.out hx639_0
        replace hx639_1 := cel HB.out hx639_1
        replace hx639_2 := cel HB.out hx639_2
        replace hx639_3 := cel HB.out hx639_3
        have HR639_3 := Ae_q hi639_3
        have HC639_3 := Ae_q hl639_3
        clear hi639_3 hl639_3
        replace p639 := eq_true p639
        replace q639 := eq_true q639
        refine start_ (n := 19) (S := fun w' => w'.cell? ⟨gb631, 0, none⟩ = some (.int .i64 a3_0) ∧ w'.cell? ⟨gb631, 1, none⟩ = some (.int .i64 a3_1) ∧ w'.cell? ⟨gb631, 2, none⟩ = some (.int .i64 a3_2) ∧ w'.cell? (ad639.add ((x11_2).toNat * 4)) = some (.int .i64 ((rd_T63 l0 x11_2).f0)) ∧ w'.cell? ⟨(ad639.add ((x11_2).toNat * 4)).block, (ad639.add ((x11_2).toNat * 4)).off + 1, none⟩ = some (.int .i64 ((rd_T63 l0 x11_2).f1)) ∧ w'.cell? ⟨(ad639.add ((x11_2).toNat * 4)).block, (ad639.add ((x11_2).toNat * 4)).off + 2, none⟩ = some (.int .i64 ((rd_T63 l0 x11_2).f2)) ∧ w'.cell? ⟨(ad639.add ((x11_2).toNat * 4)).block, (ad639.add ((x11_2).toNat * 4)).off + 3, none⟩ = some (.slice A639_3 ((rd_T63 l0 x11_2).f3).length c639_3)) (ds := []) #[false, false, false, false, false, false, false, false, false, false, false, false, false, false, false, false, false, false, false] m8_q rfl rfl ⟨(bC_q BK631.out 0).trans rfl, (bC_q BK631.out 1).trans rfl, (bC_q BK631.out 2).trans rfl, (cel HB.out hw639_0), (cel HB.out hw639_1), (cel HB.out hw639_2), (cel HB.out hw639_3)⟩ (fun hHeld => ?_); refine with_tabW spec_OutageRepair.tab8 spec_OutageRepair.bits8 (fun HT_ HW_ => ?_)
        generalize wr.drew = w34 at HO_10 BK630 BK631 HB HR639_3 hx639_0 hx639_1 hx639_2 hx639_3 hHeld ⊢
        refine pJ HT_ 0 40 rfl rfl ?_
        refine pJ HT_ 1 41 rfl rfl ?_
        refine pJ HT_ 2 42 rfl rfl ?_
        refine pJ HT_ 4 44 rfl rfl ?_
        refine take_ (i := 3) (N := some 43) (v := ?_) (a' := ?_) #[true, true, true, true, true, false, false, false, false, false, false, false, false, false, false, false, false, false, false] rfl rfl (take_ofW HT_.out HW_.out m8_q) (fun _ _ _ h => h) (Or.inl ⟨by rfl, ?_⟩) hHeld ?_ ?_
        rotate_left
        ·rintro w' ⟨s0, s1, s2, s3, s4, s5, s6⟩
         go_simp
         with_reducible rfl
        rotate_left
        ·simp only [pS_q]
         rfl
        refine take_ (i := 5) (N := some 45) (v := ?_) (a' := ?_) #[true, true, true, true, true, true, false, false, false, false, false, false, false, false, false, false, false, false, false] rfl rfl (take_ofW HT_.out HW_.out m8_q) (fun _ _ _ h => h) (Or.inl ⟨by rfl, ?_⟩) hHeld ?_ ?_
        rotate_left
        ·rintro w' ⟨s0, s1, s2, s3, s4, s5, s6⟩
         go_simp
         with_reducible rfl
        rotate_left
        ·simp only [pS_q]
         rfl
        refine one_ (i := 6) (N := some 46) #[true, true, true, true, true, true, true, false, false, false, false, false, false, false, false, false, false, false, false] rfl rfl (one_of HT_.out m8_q) (by decide) (fun K hK => ?_)
        refine goes_ Try.func36 m8_q rfl #[.agg #[.int .i64 ((rd_T63 l0 x11_2).f0), .int .i64 ((rd_T63 l0 x11_2).f1), .int .i64 ((rd_T63 l0 x11_2).f2), .slice A639_3 ((rd_T63 l0 x11_2).f3).length c639_3], .int .i64 x12_3, .agg #[.int .i64 a3_0, .int .i64 a3_1, .int .i64 a3_2]] (by rfl) rfl rfl m0_q ?_
        with_reducible refine (spec_l33Hit.calls ((rd_T63 l0 x11_2).f0) ((rd_T63 l0 x11_2).f1) ((rd_T63 l0 x11_2).f2) _ _ ((rd_T63 l0 x11_2).f3) x12_3 a3_0 a3_1 a3_2 true _ ?side1 ?side2 A32.out).mono ?_
        (case side1 => exact m163_q)
        (case side2 => exact HC639_3.out)
        rintro e w' ⟨rfl, hb⟩
        refine ⟨_, rfl, ?_⟩
        replace HO_10 := Ae_q (rO_q (rup HO_10.out) hb)
        replace BK630 := Ae_q (bB_q (g := gb630) (o := .cells #[.int .i64 a1_0, .slice A1_1 l1_1.length c1_1] 43 (0, 0)) (bup BK630.out) hb)
        replace BK631 := Ae_q (bB_q (g := gb631) (o := .cells #[.int .i64 a3_0, .int .i64 a3_1, .int .i64 a3_2] 31 (0, 0)) (bup BK631.out) hb)
        replace HB := Ae_q (bT_q m1_q hb)
        (try clear hb)
        (try clear hb2)
        (try clear hk)
        (try clear hi)
        refine hK.out _ _ ⟨(bC_q BK631.out 0).trans rfl, (bC_q BK631.out 1).trans rfl, (bC_q BK631.out 2).trans rfl, (cel HB.out hw639_0), (cel HB.out hw639_1), (cel HB.out hw639_2), (cel HB.out hw639_3)⟩ (fun hHeld => ?_)
        clear hK K
        refine nJ_q ?_
        refine pJ HT_ 7 47 rfl rfl ?_
        refine pV HT_ 8 48 rfl rfl ?_
        refine pV HT_ 9 49 rfl rfl ?_
        refine pV HT_ 10 50 rfl rfl ?_
        refine pV HT_ 11 51 rfl rfl ?_
        refine pV HT_ 12 52 rfl rfl ?_
        refine pV HT_ 13 53 rfl rfl ?_
        refine pV HT_ 14 54 rfl rfl ?_
        refine pV HT_ 15 55 rfl rfl ?_
        refine pV HT_ 16 56 rfl rfl ?_
        refine pV HT_ 17 57 rfl rfl ?_
        refine pJ HT_ 18 58 rfl rfl ?_
        refine done_ (done_of HT_.out m8_q) ?_
        try go_wp2
        go_roundg k3
        case measure => have := HJ4.out; have := HK2.out; have := HK3.out; omega
        case rel => exact ⟨(wrap64 (x12_3 + 1)), m7_q, H', ⟨m161_q⟩, ⟨rup HO_10.out⟩, ⟨bup BK630.out⟩, ⟨bup BK631.out⟩, ⟨m1_q⟩⟩
       replace c33 := fM_q.mpr c33
       subst c33
       have H1 : ((some (([] : List Int) : List Int)).bind fun y641 => (if y641.length + x10_2.length < 17592186044416 then ((some (y641 ++ x10_2 : List Int)).bind fun y644 => ((some (([x12_3] : List Int) : List Int)).bind fun y647 => (if y644.length + y647.length < 17592186044416 then ((spec_l32Room.f k3 l0 a1_0 l1_1 (y644 ++ y647)).bind fun t653 => (if t653 = true then (if x12_3 > 999 then (some ((([] : List Int)), false)) else ((some (([x12_3] : List Int) : List Int)).bind fun y657 => (if x10_2.length + y657.length < 17592186044416 then (spec_OutageRepair.l0 k3 l0 l2 (x10_2 ++ y657) (wrap64 (x11_2 + 1)) a1_0 l1_1 a3_0 a3_1 a3_2) else (none)))) else (spec_OutageRepair.l1 k3 l0 l2 x10_2 x11_2 (wrap64 (x12_3 + 1)) a1_0 l1_1 a3_0 a3_1 a3_2))) else (none)))) else (none))) = some (r1, r2) := by rw [if_neg (show ¬ (false = true) by decide)] at H; exact H
       clear H
       have H := H1
       clear H1
       obtain ⟨y641, hy641⟩ : ∃ y_ : List Int, y_ = (([] : List Int)) := ⟨_, rfl⟩
       replace H : (if y641.length + x10_2.length < 17592186044416 then ((some (y641 ++ x10_2 : List Int)).bind fun y644 => ((some (([x12_3] : List Int) : List Int)).bind fun y647 => (if y644.length + y647.length < 17592186044416 then ((spec_l32Room.f k3 l0 a1_0 l1_1 (y644 ++ y647)).bind fun t653 => (if t653 = true then (if x12_3 > 999 then (some ((([] : List Int)), false)) else ((some (([x12_3] : List Int) : List Int)).bind fun y657 => (if x10_2.length + y657.length < 17592186044416 then (spec_OutageRepair.l0 k3 l0 l2 (x10_2 ++ y657) (wrap64 (x11_2 + 1)) a1_0 l1_1 a3_0 a3_1 a3_2) else (none)))) else (spec_OutageRepair.l1 k3 l0 l2 x10_2 x11_2 (wrap64 (x12_3 + 1)) a1_0 l1_1 a3_0 a3_1 a3_2))) else (none)))) else (none)) = some (r1, r2) := by first | (rw [hy641]; with_reducible exact H) | (have H2_ := (oS_q _ _).symm.trans H; rw [hy641]; with_reducible exact H2_) | (have H2_ := (oS_q _ _).symm.trans H; with_reducible exact H2_) | with_reducible exact H | (rw [hy641]; exact H) | exact H
       have Ny641 := Ae_q hy641
       clear hy641
       by_cases c36 : y641.length + x10_2.length < 17592186044416
       rotate_left
       ·rw [if_neg c36] at H
        exact absurd H (by simp)
       rw [if_pos c36] at H
       have LMc36 := Ae_q c36
       clear c36
       obtain ⟨y644, hy644⟩ : ∃ y_ : List Int, y_ = (y641 ++ x10_2) := ⟨_, rfl⟩
       replace H : ((some (([x12_3] : List Int) : List Int)).bind fun y647 => (if y644.length + y647.length < 17592186044416 then ((spec_l32Room.f k3 l0 a1_0 l1_1 (y644 ++ y647)).bind fun t653 => (if t653 = true then (if x12_3 > 999 then (some ((([] : List Int)), false)) else ((some (([x12_3] : List Int) : List Int)).bind fun y657 => (if x10_2.length + y657.length < 17592186044416 then (spec_OutageRepair.l0 k3 l0 l2 (x10_2 ++ y657) (wrap64 (x11_2 + 1)) a1_0 l1_1 a3_0 a3_1 a3_2) else (none)))) else (spec_OutageRepair.l1 k3 l0 l2 x10_2 x11_2 (wrap64 (x12_3 + 1)) a1_0 l1_1 a3_0 a3_1 a3_2))) else (none))) = some (r1, r2) := by first | (rw [hy644]; with_reducible exact H) | (have H2_ := (oS_q _ _).symm.trans H; rw [hy644]; with_reducible exact H2_) | (have H2_ := (oS_q _ _).symm.trans H; with_reducible exact H2_) | with_reducible exact H | (rw [hy644]; exact H) | exact H
       have Ny644 := Ae_q hy644
       clear hy644
       obtain ⟨y647, hy647⟩ : ∃ y_ : List Int, y_ = (([x12_3] : List Int)) := ⟨_, rfl⟩
       replace H : (if y644.length + y647.length < 17592186044416 then ((spec_l32Room.f k3 l0 a1_0 l1_1 (y644 ++ y647)).bind fun t653 => (if t653 = true then (if x12_3 > 999 then (some ((([] : List Int)), false)) else ((some (([x12_3] : List Int) : List Int)).bind fun y657 => (if x10_2.length + y657.length < 17592186044416 then (spec_OutageRepair.l0 k3 l0 l2 (x10_2 ++ y657) (wrap64 (x11_2 + 1)) a1_0 l1_1 a3_0 a3_1 a3_2) else (none)))) else (spec_OutageRepair.l1 k3 l0 l2 x10_2 x11_2 (wrap64 (x12_3 + 1)) a1_0 l1_1 a3_0 a3_1 a3_2))) else (none)) = some (r1, r2) := by first | (rw [hy647]; with_reducible exact H) | (have H2_ := (oS_q _ _).symm.trans H; rw [hy647]; with_reducible exact H2_) | (have H2_ := (oS_q _ _).symm.trans H; with_reducible exact H2_) | with_reducible exact H | (rw [hy647]; exact H) | exact H
       have Ny647 := Ae_q hy647
       clear hy647
       by_cases c37 : y644.length + y647.length < 17592186044416
       rotate_left
       ·rw [if_neg c37] at H
        exact absurd H (by simp)
       rw [if_pos c37] at H
       have LMc37 := Ae_q c37
       clear c37
       obtain ⟨y650, hy650⟩ : ∃ y_ : List Int, y_ = (y644 ++ y647) := ⟨_, rfl⟩
       replace H : ((spec_l32Room.f k3 l0 a1_0 l1_1 y650).bind fun t653 => (if t653 = true then (if x12_3 > 999 then (some ((([] : List Int)), false)) else ((some (([x12_3] : List Int) : List Int)).bind fun y657 => (if x10_2.length + y657.length < 17592186044416 then (spec_OutageRepair.l0 k3 l0 l2 (x10_2 ++ y657) (wrap64 (x11_2 + 1)) a1_0 l1_1 a3_0 a3_1 a3_2) else (none)))) else (spec_OutageRepair.l1 k3 l0 l2 x10_2 x11_2 (wrap64 (x12_3 + 1)) a1_0 l1_1 a3_0 a3_1 a3_2))) = some (r1, r2) := by first | (rw [hy650]; with_reducible exact H) | (have H2_ := (oS_q _ _).symm.trans H; rw [hy650]; with_reducible exact H2_) | (have H2_ := (oS_q _ _).symm.trans H; with_reducible exact H2_) | with_reducible exact H | (rw [hy650]; exact H) | exact H
       have Ny650 := Ae_q hy650
       clear hy650
       replace H := oB_q.mp H
       obtain ⟨t653, A380, H⟩ := H
       replace H : (if t653 = true then (if x12_3 > 999 then (some ((([] : List Int)), false)) else ((some (([x12_3] : List Int) : List Int)).bind fun y657 => (if x10_2.length + y657.length < 17592186044416 then (spec_OutageRepair.l0 k3 l0 l2 (x10_2 ++ y657) (wrap64 (x11_2 + 1)) a1_0 l1_1 a3_0 a3_1 a3_2) else (none)))) else (spec_OutageRepair.l1 k3 l0 l2 x10_2 x11_2 (wrap64 (x12_3 + 1)) a1_0 l1_1 a3_0 a3_1 a3_2)) = some (r1, r2) := H
       have A38 := Ae_q A380
       clear A380
       by_cases c39 : t653 = true
       rotate_left
       ·replace c39 := fM_q.mpr c39
        subst c39
        have H1 : (spec_OutageRepair.l1 k3 l0 l2 x10_2 x11_2 (wrap64 (x12_3 + 1)) a1_0 l1_1 a3_0 a3_1 a3_2) = some (r1, r2) := by rw [if_neg (show ¬ (false = true) by decide)] at H; exact H
        clear H
        have H := H1
        clear H1
        have H' := Ae_q H
        clear H
        try go_wp2
        replace HO_10 := Ae_q (rD_q HO_10.out)
        replace BK630 := Ae_q (bW_q BK630.out)
        replace BK631 := Ae_q (bW_q BK631.out)
        replace HB := Ae_q (bD_q HB.out)
        have p639 : 0 ≤ (x11_2 : Int) := oD_q (by assumption)
        have q639 : x11_2 < (l0.length : Int) := oD_q (by assumption)
        obtain ⟨ad639, A639_3, c639_3, e639, hx639_0, hx639_1, hx639_2, hx639_3, hl639_3, hi639_3⟩ := at_T63 HR0.out x11_2 p639 q639
        have hw639_3 := hx639_3
        have hw639_2 := hx639_2
        have hw639_1 := hx639_1
        have hw639_0 := hx639_0
        cases e639
        replace hx639_0 := cel HB.out hx639_0
        replace hx639_1 := cel HB.out hx639_1
        replace hx639_2 := cel HB.out hx639_2
        replace hx639_3 := cel HB.out hx639_3
        have HR639_3 := Ae_q hi639_3
        have HC639_3 := Ae_q hl639_3
        clear hi639_3 hl639_3
        replace p639 := eq_true p639
        replace q639 := eq_true q639
        refine start_ (n := 19) (S := fun w' => w'.cell? ⟨gb631, 0, none⟩ = some (.int .i64 a3_0) ∧ w'.cell? ⟨gb631, 1, none⟩ = some (.int .i64 a3_1) ∧ w'.cell? ⟨gb631, 2, none⟩ = some (.int .i64 a3_2) ∧ w'.cell? ⟨gb630, 0, none⟩ = some (.int .i64 a1_0) ∧ w'.cell? ⟨gb630, 1, none⟩ = some (.slice A1_1 l1_1.length c1_1) ∧ w'.cell? (ad639.add ((x11_2).toNat * 4)) = some (.int .i64 ((rd_T63 l0 x11_2).f0)) ∧ w'.cell? ⟨(ad639.add ((x11_2).toNat * 4)).block, (ad639.add ((x11_2).toNat * 4)).off + 1, none⟩ = some (.int .i64 ((rd_T63 l0 x11_2).f1)) ∧ w'.cell? ⟨(ad639.add ((x11_2).toNat * 4)).block, (ad639.add ((x11_2).toNat * 4)).off + 2, none⟩ = some (.int .i64 ((rd_T63 l0 x11_2).f2)) ∧ w'.cell? ⟨(ad639.add ((x11_2).toNat * 4)).block, (ad639.add ((x11_2).toNat * 4)).off + 3, none⟩ = some (.slice A639_3 ((rd_T63 l0 x11_2).f3).length c639_3)) (ds := []) #[false, false, false, false, false, false, false, false, false, false, false, false, false, false, false, false, false, false, false] m8_q rfl rfl ⟨(bC_q BK631.out 0).trans rfl, (bC_q BK631.out 1).trans rfl, (bC_q BK631.out 2).trans rfl, (bC_q BK630.out 0).trans rfl, (bC_q BK630.out 1).trans rfl, (cel HB.out hw639_0), (cel HB.out hw639_1), (cel HB.out hw639_2), (cel HB.out hw639_3)⟩ (fun hHeld => ?_); refine with_tabW spec_OutageRepair.tab8 spec_OutageRepair.bits8 (fun HT_ HW_ => ?_)
        generalize wr.drew = w72 at HO_10 BK630 BK631 HB HR639_3 hx639_0 hx639_1 hx639_2 hx639_3 hHeld ⊢
        refine pJ HT_ 0 40 rfl rfl ?_
        refine pJ HT_ 1 41 rfl rfl ?_
        refine pJ HT_ 2 42 rfl rfl ?_
        refine pJ HT_ 4 44 rfl rfl ?_
        refine take_ (i := 3) (N := some 43) (v := ?_) (a' := ?_) #[true, true, true, true, true, false, false, false, false, false, false, false, false, false, false, false, false, false, false] rfl rfl (take_ofW HT_.out HW_.out m8_q) (fun _ _ _ h => h) (Or.inl ⟨by rfl, ?_⟩) hHeld ?_ ?_
        rotate_left
        ·rintro w' ⟨s0, s1, s2, s3, s4, s5, s6, s7, s8⟩
         go_simp
         with_reducible rfl
        rotate_left
        ·simp only [pS_q]
         rfl
        refine take_ (i := 5) (N := some 45) (v := ?_) (a' := ?_) #[true, true, true, true, true, true, false, false, false, false, false, false, false, false, false, false, false, false, false] rfl rfl (take_ofW HT_.out HW_.out m8_q) (fun _ _ _ h => h) (Or.inl ⟨by rfl, ?_⟩) hHeld ?_ ?_
        rotate_left
        ·rintro w' ⟨s0, s1, s2, s3, s4, s5, s6, s7, s8⟩
         go_simp
         with_reducible rfl
        rotate_left
        ·simp only [pS_q]
         rfl
        refine one_ (i := 6) (N := some 46) #[true, true, true, true, true, true, true, false, false, false, false, false, false, false, false, false, false, false, false] rfl rfl (one_of HT_.out m8_q) (by decide) (fun K hK => ?_)
        refine goes_ Try.func36 m8_q rfl #[.agg #[.int .i64 ((rd_T63 l0 x11_2).f0), .int .i64 ((rd_T63 l0 x11_2).f1), .int .i64 ((rd_T63 l0 x11_2).f2), .slice A639_3 ((rd_T63 l0 x11_2).f3).length c639_3], .int .i64 x12_3, .agg #[.int .i64 a3_0, .int .i64 a3_1, .int .i64 a3_2]] (by rfl) rfl rfl m0_q ?_
        with_reducible refine (spec_l33Hit.calls ((rd_T63 l0 x11_2).f0) ((rd_T63 l0 x11_2).f1) ((rd_T63 l0 x11_2).f2) _ _ ((rd_T63 l0 x11_2).f3) x12_3 a3_0 a3_1 a3_2 false _ ?side1 ?side2 A32.out).mono ?_
        (case side1 => exact m163_q)
        (case side2 => exact HC639_3.out)
        rintro e w' ⟨rfl, hb⟩
        refine ⟨_, rfl, ?_⟩
        replace HO_10 := Ae_q (rO_q (rup HO_10.out) hb)
        replace BK630 := Ae_q (bB_q (g := gb630) (o := .cells #[.int .i64 a1_0, .slice A1_1 l1_1.length c1_1] 43 (0, 0)) (bup BK630.out) hb)
        replace BK631 := Ae_q (bB_q (g := gb631) (o := .cells #[.int .i64 a3_0, .int .i64 a3_1, .int .i64 a3_2] 31 (0, 0)) (bup BK631.out) hb)
        replace HB := Ae_q (bT_q m1_q hb)
        (try clear hb)
        (try clear hb2)
        (try clear hk)
        (try clear hi)
        refine hK.out _ _ ⟨(bC_q BK631.out 0).trans rfl, (bC_q BK631.out 1).trans rfl, (bC_q BK631.out 2).trans rfl, (bC_q BK630.out 0).trans rfl, (bC_q BK630.out 1).trans rfl, (cel HB.out hw639_0), (cel HB.out hw639_1), (cel HB.out hw639_2), (cel HB.out hw639_3)⟩ (fun hHeld => ?_)
        clear hK K
        refine nJ_q ?_
        refine pJ HT_ 7 47 rfl rfl ?_
        refine pJ HT_ 8 48 rfl rfl ?_
        refine pJ HT_ 11 51 rfl rfl ?_
        refine pJ HT_ 13 53 rfl rfl ?_
        refine take_ (i := 9) (N := some 49) (v := ?_) (a' := ?_) #[true, true, true, true, true, true, true, true, true, true, false, true, false, true, false, false, false, false, false] rfl rfl (take_ofW HT_.out HW_.out m8_q) (fun _ _ _ h => h) (Or.inl ⟨by rfl, ?_⟩) hHeld ?_ ?_
        rotate_left
        ·rintro w' ⟨s0, s1, s2, s3, s4, s5, s6, s7, s8⟩
         go_simp
         with_reducible rfl
        rotate_left
        ·simp only [pS_q]
         rfl
        refine join_ (σ := Value × Value × Value) 4 #[true, true, true, true, true, true, true, true, true, true, true, true, true, true, true, false, false, false, false] (fun s_ => [(50, s_.1), (52, s_.2.1), (54, s_.2.2)]) (fun s_ w' => (w'.cell? ⟨gb631, 0, none⟩ = some (.int .i64 a3_0) ∧ w'.cell? ⟨gb631, 1, none⟩ = some (.int .i64 a3_1) ∧ w'.cell? ⟨gb631, 2, none⟩ = some (.int .i64 a3_2) ∧ w'.cell? ⟨gb630, 0, none⟩ = some (.int .i64 a1_0) ∧ w'.cell? ⟨gb630, 1, none⟩ = some (.slice A1_1 l1_1.length c1_1) ∧ w'.cell? (ad639.add ((x11_2).toNat * 4)) = some (.int .i64 ((rd_T63 l0 x11_2).f0)) ∧ w'.cell? ⟨(ad639.add ((x11_2).toNat * 4)).block, (ad639.add ((x11_2).toNat * 4)).off + 1, none⟩ = some (.int .i64 ((rd_T63 l0 x11_2).f1)) ∧ w'.cell? ⟨(ad639.add ((x11_2).toNat * 4)).block, (ad639.add ((x11_2).toNat * 4)).off + 2, none⟩ = some (.int .i64 ((rd_T63 l0 x11_2).f2)) ∧ w'.cell? ⟨(ad639.add ((x11_2).toNat * 4)).block, (ad639.add ((x11_2).toNat * 4)).off + 3, none⟩ = some (.slice A639_3 ((rd_T63 l0 x11_2).f3).length c639_3)) ∧ (Kd.R kI_q 3 w' w.heap.size (fun k_ => some k_ ≠ (s_.2.2 : Value).ownBlock ∧ some k_ ≠ (.slice Ao28 x10_2.length co28 : Value).ownBlock) s_.2.1 y644) ∧ (Kd.R kI_q 3 w' w.heap.size (fun k_ => some k_ ≠ (s_.2.1 : Value).ownBlock ∧ some k_ ≠ (.slice Ao28 x10_2.length co28 : Value).ownBlock) s_.2.2 y647) ∧ (Kd.R kI_q 3 w' w.heap.size (fun k_ => some k_ ≠ (s_.2.1 : Value).ownBlock ∧ some k_ ≠ (s_.2.2 : Value).ownBlock) (.slice Ao28 x10_2.length co28) x10_2) ∧ (w'.heap[gb630]? = some (.cells #[.int .i64 a1_0, .slice A1_1 l1_1.length c1_1] 43 (0, 0))) ∧ (w'.heap[gb631]? = some (.cells #[.int .i64 a3_0, .int .i64 a3_1, .int .i64 a3_2] 31 (0, 0))) ∧ (Below w.heap.size w w')) ?_ ?_
        rotate_left
        ·intro hCont
         refine two_ (i := 10) (j := 14) (Ni := some 50) (Nj := some 54) #[true, true, true, true, true, true, true, true, true, true, true, true, false, true, false, false, false, false, false] #[true, true, true, true, true, true, true, true, true, true, false, true, false, true, true, false, false, false, false] rfl rfl rfl rfl (two_of HT_.out m8_q) (by decide) (by decide) (fun K hK => ?_) (fun K hK => ?_)
         ·skip
          refine rI_q kI_q _ 3 ?hg (N := 50) ?hd (xs := ([] : List Int)) (inner := []) (ok := fun _ => True) (okp := fun _ => True) ?hr ?hp (fun _ hk => hk) trivial (bR_q _ _) (nR_q _) (by simp) ?_; (case hd => rfl); (case hg => rfl); (case hr => exact m5_q); (case hp => exact m104_q)
          intro v642 w74 ho75 hb hg_ hnew_
          clear hg_ hnew_
          (first | rw [← Ny641.out] at ho75 | (simp only [Int.reduceToNat] at ho75; rw [← Ny641.out] at ho75))
          have HO643 := Ae_q (rL_q (rW_q ho75 (rT_q (rup HO_10.out))) (bZ_q m1_q))
          replace HO_10 := Ae_q (rE_q (rup HO_10.out) (rB_q ho75) hb)
          replace BK630 := Ae_q (bB_q (g := gb630) (o := .cells #[.int .i64 a1_0, .slice A1_1 l1_1.length c1_1] 43 (0, 0)) (bup BK630.out) hb)
          replace BK631 := Ae_q (bB_q (g := gb631) (o := .cells #[.int .i64 a3_0, .int .i64 a3_1, .int .i64 a3_2] 31 (0, 0)) (bup BK631.out) hb)
          replace HB := Ae_q (bT_q m1_q hb)
          clear hb ho75
          refine hK.out _ _ ⟨(bC_q BK631.out 0).trans rfl, (bC_q BK631.out 1).trans rfl, (bC_q BK631.out 2).trans rfl, (bC_q BK630.out 0).trans rfl, (bC_q BK630.out 1).trans rfl, (cel HB.out hw639_0), (cel HB.out hw639_1), (cel HB.out hw639_2), (cel HB.out hw639_3)⟩ (fun hHeld => ?_)
          clear hK K
          refine nJ_q ?_
          refine two_ (i := 12) (j := 14) (Ni := some 52) (Nj := some 54) #[true, true, true, true, true, true, true, true, true, true, true, true, true, true, false, false, false, false, false] #[true, true, true, true, true, true, true, true, true, true, true, true, false, true, true, false, false, false, false] rfl rfl rfl rfl (two_of HT_.out m8_q) (by decide) (by decide) (fun K hK => ?_) (fun K hK => ?_)
          ·skip
           refine rP_q kI_q (w0 := w) w.heap.size (by rfl) (.tmp 50) (.tmp 51) 23 3 (.int .i64 0) 8 rfl Try.underlying23 info3 rfl (by decide) (by omega) v642 y641 x10_2 _ _ _ (fun k_ => some k_ ≠ (.slice Ao28 x10_2.length co28 : Value).ownBlock) (fun _ => False) rfl rfl ?aO ?aR (fun _ _ h => h) (fun _ h => h.elim) ?aF ?aB ?aS ?aL ?_
           (case aR => exact m125_q)
           (case aB => exact m1_q)
           (case aF => exact m157_q)
           (case aO => exact m130_q)
           (case aS => exact m170_q)
           (case aL => exact m143_q)
           intro v645 w76 ho hb hg hat
           rw [← Ny644.out] at ho
           replace HO_10 := Ae_q (rF_q (ok := (fun _ => True)) (rup HO_10.out) hg hat)
           replace BK630 := Ae_q (bG_q (g := gb630) (o := .cells #[.int .i64 a1_0, .slice A1_1 l1_1.length c1_1] 43 (0, 0)) (bup BK630.out) hg (Kd.R_ne HO643.out BK630.out (by decide)))
           replace BK631 := Ae_q (bG_q (g := gb631) (o := .cells #[.int .i64 a3_0, .int .i64 a3_1, .int .i64 a3_2] 31 (0, 0)) (bup BK631.out) hg (Kd.R_ne HO643.out BK631.out (by decide)))
           replace HB := Ae_q (hb)
           have HO646 := Ae_q (ho)
           clear HO643
           clear ho hb hg hat
           refine hK.out _ _ ⟨(bC_q BK631.out 0).trans rfl, (bC_q BK631.out 1).trans rfl, (bC_q BK631.out 2).trans rfl, (bC_q BK630.out 0).trans rfl, (bC_q BK630.out 1).trans rfl, (cel HB.out hw639_0), (cel HB.out hw639_1), (cel HB.out hw639_2), (cel HB.out hw639_3)⟩ (fun hHeld => ?_)
           clear hK K
           refine nJ_q ?_
           refine one_ (i := 14) (N := some 54) #[true, true, true, true, true, true, true, true, true, true, true, true, true, true, true, false, false, false, false] rfl rfl (one_of HT_.out m8_q) (by decide) (fun K hK => ?_)
           refine rI_q kI_q _ 3 ?hg (N := 54) ?hd (xs := ([x12_3] : List Int)) (inner := [.int .i64 x12_3]) (ok := fun _ => True) (okp := fun _ => True) ?hr ?hp (fun _ hk => hk) trivial (bR_q _ _) (nR_q _) (by simp) ?_; (case hd => rfl); (case hg => rfl); (case hr => exact m5_q); (case hp => exact m71_q)
           intro v648 w77 ho78 hb hg_ hnew_
           clear hg_ hnew_
           (first | rw [← Ny647.out] at ho78 | (simp only [Int.reduceToNat] at ho78; rw [← Ny647.out] at ho78))
           have HO649 := Ae_q (rL_q (rW_q (rW_q ho78 (rT_q (rup HO_10.out))) (rT_q (rup HO646.out))) (bZ_q m1_q))
           replace HO_10 := Ae_q (rE_q (rup HO_10.out) (rB_q ho78) hb)
           replace HO646 := Ae_q (rE_q (rup HO646.out) (rB_q ho78) hb)
           replace BK630 := Ae_q (bB_q (g := gb630) (o := .cells #[.int .i64 a1_0, .slice A1_1 l1_1.length c1_1] 43 (0, 0)) (bup BK630.out) hb)
           replace BK631 := Ae_q (bB_q (g := gb631) (o := .cells #[.int .i64 a3_0, .int .i64 a3_1, .int .i64 a3_2] 31 (0, 0)) (bup BK631.out) hb)
           replace HB := Ae_q (bT_q m1_q hb)
           clear hb ho78
           refine hK.out _ _ ⟨(bC_q BK631.out 0).trans rfl, (bC_q BK631.out 1).trans rfl, (bC_q BK631.out 2).trans rfl, (bC_q BK630.out 0).trans rfl, (bC_q BK630.out 1).trans rfl, (cel HB.out hw639_0), (cel HB.out hw639_1), (cel HB.out hw639_2), (cel HB.out hw639_3)⟩ (fun hHeld => ?_)
           clear hK K
           refine nJ_q ?_
           exact norm_ m52_q (hCont (v642, v645, v648) _ ⟨hHeld, m39_q, m123_q, m82_q, (bup BK630.out), (bup BK631.out), m1_q⟩)
          skip
          refine rI_q kI_q _ 3 ?hg (N := 54) ?hd (xs := ([x12_3] : List Int)) (inner := [.int .i64 x12_3]) (ok := fun _ => True) (okp := fun _ => True) ?hr ?hp (fun _ hk => hk) trivial (bR_q _ _) (nR_q _) (by simp) ?_; (case hd => rfl); (case hg => rfl); (case hr => exact m5_q); (case hp => exact m71_q)
          intro v648 w76 ho77 hb hg_ hnew_
          clear hg_ hnew_
          (first | rw [← Ny647.out] at ho77 | (simp only [Int.reduceToNat] at ho77; rw [← Ny647.out] at ho77))
          have HO649 := Ae_q (rL_q (rW_q (rW_q ho77 (rT_q (rup HO_10.out))) (rT_q (rup HO643.out))) (bZ_q m1_q))
          replace HO_10 := Ae_q (rE_q (rup HO_10.out) (rB_q ho77) hb)
          replace HO643 := Ae_q (rE_q (rup HO643.out) (rB_q ho77) hb)
          replace BK630 := Ae_q (bB_q (g := gb630) (o := .cells #[.int .i64 a1_0, .slice A1_1 l1_1.length c1_1] 43 (0, 0)) (bup BK630.out) hb)
          replace BK631 := Ae_q (bB_q (g := gb631) (o := .cells #[.int .i64 a3_0, .int .i64 a3_1, .int .i64 a3_2] 31 (0, 0)) (bup BK631.out) hb)
          replace HB := Ae_q (bT_q m1_q hb)
          clear hb ho77
          refine hK.out _ _ ⟨(bC_q BK631.out 0).trans rfl, (bC_q BK631.out 1).trans rfl, (bC_q BK631.out 2).trans rfl, (bC_q BK630.out 0).trans rfl, (bC_q BK630.out 1).trans rfl, (cel HB.out hw639_0), (cel HB.out hw639_1), (cel HB.out hw639_2), (cel HB.out hw639_3)⟩ (fun hHeld => ?_)
          clear hK K
          refine nJ_q ?_
          refine one_ (i := 12) (N := some 52) #[true, true, true, true, true, true, true, true, true, true, true, true, true, true, true, false, false, false, false] rfl rfl (one_of HT_.out m8_q) (by decide) (fun K hK => ?_)
          refine rP_q kI_q (w0 := w) w.heap.size (by rfl) (.tmp 50) (.tmp 51) 23 3 (.int .i64 0) 8 rfl Try.underlying23 info3 rfl (by decide) (by omega) v642 y641 x10_2 _ _ _ (fun k_ => some k_ ≠ (.slice Ao28 x10_2.length co28 : Value).ownBlock ∧ some k_ ≠ (v648 : Value).ownBlock) (fun _ => False) rfl rfl ?aO ?aR (fun _ _ h => h) (fun _ h => h.elim) ?aF ?aB ?aS ?aL ?_
          (case aR => exact m125_q)
          (case aB => exact m1_q)
          (case aF => exact m66_q)
          (case aO => exact m83_q)
          (case aS => exact m170_q)
          (case aL => exact m143_q)
          intro v645 w78 ho hb hg hat
          rw [← Ny644.out] at ho
          replace HO_10 := Ae_q (rF_q (ok := (fun k_ => some k_ ≠ (v648 : Value).ownBlock)) m124_q hg hat)
          replace BK630 := Ae_q (bG_q (g := gb630) (o := .cells #[.int .i64 a1_0, .slice A1_1 l1_1.length c1_1] 43 (0, 0)) (bup BK630.out) hg (Kd.R_ne HO643.out BK630.out (by decide)))
          replace BK631 := Ae_q (bG_q (g := gb631) (o := .cells #[.int .i64 a3_0, .int .i64 a3_1, .int .i64 a3_2] 31 (0, 0)) (bup BK631.out) hg (Kd.R_ne HO643.out BK631.out (by decide)))
          replace HO649 := Ae_q (rF_q (ok := (fun k_ => some k_ ≠ (.slice Ao28 x10_2.length co28 : Value).ownBlock)) m84_q hg hat)
          replace HB := Ae_q (hb)
          have HO646 := Ae_q (ho)
          clear HO643
          clear ho hb hg hat
          refine hK.out _ _ ⟨(bC_q BK631.out 0).trans rfl, (bC_q BK631.out 1).trans rfl, (bC_q BK631.out 2).trans rfl, (bC_q BK630.out 0).trans rfl, (bC_q BK630.out 1).trans rfl, (cel HB.out hw639_0), (cel HB.out hw639_1), (cel HB.out hw639_2), (cel HB.out hw639_3)⟩ (fun hHeld => ?_)
          clear hK K
          refine nJ_q ?_
          exact norm_ m52_q (hCont (v642, v645, v648) _ ⟨hHeld, m39_q, m57_q, m58_q, (bup BK630.out), (bup BK631.out), m1_q⟩)
         skip
         refine rI_q kI_q _ 3 ?hg (N := 54) ?hd (xs := ([x12_3] : List Int)) (inner := [.int .i64 x12_3]) (ok := fun _ => True) (okp := fun _ => True) ?hr ?hp (fun _ hk => hk) trivial (bR_q _ _) (nR_q _) (by simp) ?_; (case hd => rfl); (case hg => rfl); (case hr => exact m5_q); (case hp => exact m71_q)
         intro v648 w74 ho75 hb hg_ hnew_
         clear hg_ hnew_
         (first | rw [← Ny647.out] at ho75 | (simp only [Int.reduceToNat] at ho75; rw [← Ny647.out] at ho75))
         have HO649 := Ae_q (rL_q (rW_q ho75 (rT_q (rup HO_10.out))) (bZ_q m1_q))
         replace HO_10 := Ae_q (rE_q (rup HO_10.out) (rB_q ho75) hb)
         replace BK630 := Ae_q (bB_q (g := gb630) (o := .cells #[.int .i64 a1_0, .slice A1_1 l1_1.length c1_1] 43 (0, 0)) (bup BK630.out) hb)
         replace BK631 := Ae_q (bB_q (g := gb631) (o := .cells #[.int .i64 a3_0, .int .i64 a3_1, .int .i64 a3_2] 31 (0, 0)) (bup BK631.out) hb)
         replace HB := Ae_q (bT_q m1_q hb)
         clear hb ho75
         refine hK.out _ _ ⟨(bC_q BK631.out 0).trans rfl, (bC_q BK631.out 1).trans rfl, (bC_q BK631.out 2).trans rfl, (bC_q BK630.out 0).trans rfl, (bC_q BK630.out 1).trans rfl, (cel HB.out hw639_0), (cel HB.out hw639_1), (cel HB.out hw639_2), (cel HB.out hw639_3)⟩ (fun hHeld => ?_)
         clear hK K
         refine nJ_q ?_
         refine one_ (i := 10) (N := some 50) #[true, true, true, true, true, true, true, true, true, true, true, true, false, true, true, false, false, false, false] rfl rfl (one_of HT_.out m8_q) (by decide) (fun K hK => ?_)
         refine rI_q kI_q _ 3 ?hg (N := 50) ?hd (xs := ([] : List Int)) (inner := []) (ok := fun _ => True) (okp := fun _ => True) ?hr ?hp (fun _ hk => hk) trivial (bR_q _ _) (nR_q _) (by simp) ?_; (case hd => rfl); (case hg => rfl); (case hr => exact m5_q); (case hp => exact m104_q)
         intro v642 w76 ho77 hb hg_ hnew_
         clear hg_ hnew_
         (first | rw [← Ny641.out] at ho77 | (simp only [Int.reduceToNat] at ho77; rw [← Ny641.out] at ho77))
         have HO643 := Ae_q (rL_q (rW_q (rW_q ho77 (rT_q (rup HO_10.out))) (rT_q (rup HO649.out))) (bZ_q m1_q))
         replace HO_10 := Ae_q (rE_q (rup HO_10.out) (rB_q ho77) hb)
         replace HO649 := Ae_q (rE_q (rup HO649.out) (rB_q ho77) hb)
         replace BK630 := Ae_q (bB_q (g := gb630) (o := .cells #[.int .i64 a1_0, .slice A1_1 l1_1.length c1_1] 43 (0, 0)) (bup BK630.out) hb)
         replace BK631 := Ae_q (bB_q (g := gb631) (o := .cells #[.int .i64 a3_0, .int .i64 a3_1, .int .i64 a3_2] 31 (0, 0)) (bup BK631.out) hb)
         replace HB := Ae_q (bT_q m1_q hb)
         clear hb ho77
         refine hK.out _ _ ⟨(bC_q BK631.out 0).trans rfl, (bC_q BK631.out 1).trans rfl, (bC_q BK631.out 2).trans rfl, (bC_q BK630.out 0).trans rfl, (bC_q BK630.out 1).trans rfl, (cel HB.out hw639_0), (cel HB.out hw639_1), (cel HB.out hw639_2), (cel HB.out hw639_3)⟩ (fun hHeld => ?_)
         clear hK K
         refine nJ_q ?_
         refine one_ (i := 12) (N := some 52) #[true, true, true, true, true, true, true, true, true, true, true, true, true, true, true, false, false, false, false] rfl rfl (one_of HT_.out m8_q) (by decide) (fun K hK => ?_)
         refine rP_q kI_q (w0 := w) w.heap.size (by rfl) (.tmp 50) (.tmp 51) 23 3 (.int .i64 0) 8 rfl Try.underlying23 info3 rfl (by decide) (by omega) v642 y641 x10_2 _ _ _ (fun k_ => some k_ ≠ (.slice Ao28 x10_2.length co28 : Value).ownBlock ∧ some k_ ≠ (v648 : Value).ownBlock) (fun _ => False) rfl rfl ?aO ?aR (fun _ _ h => h) (fun _ h => h.elim) ?aF ?aB ?aS ?aL ?_
         (case aR => exact m125_q)
         (case aB => exact m1_q)
         (case aF => exact m66_q)
         (case aO => exact m83_q)
         (case aS => exact m170_q)
         (case aL => exact m143_q)
         intro v645 w78 ho hb hg hat
         rw [← Ny644.out] at ho
         replace HO_10 := Ae_q (rF_q (ok := (fun k_ => some k_ ≠ (v648 : Value).ownBlock)) m82_q hg hat)
         replace BK630 := Ae_q (bG_q (g := gb630) (o := .cells #[.int .i64 a1_0, .slice A1_1 l1_1.length c1_1] 43 (0, 0)) (bup BK630.out) hg (Kd.R_ne HO643.out BK630.out (by decide)))
         replace BK631 := Ae_q (bG_q (g := gb631) (o := .cells #[.int .i64 a3_0, .int .i64 a3_1, .int .i64 a3_2] 31 (0, 0)) (bup BK631.out) hg (Kd.R_ne HO643.out BK631.out (by decide)))
         replace HO649 := Ae_q (rF_q (ok := (fun k_ => some k_ ≠ (.slice Ao28 x10_2.length co28 : Value).ownBlock)) m84_q hg hat)
         replace HB := Ae_q (hb)
         have HO646 := Ae_q (ho)
         clear HO643
         clear ho hb hg hat
         refine hK.out _ _ ⟨(bC_q BK631.out 0).trans rfl, (bC_q BK631.out 1).trans rfl, (bC_q BK631.out 2).trans rfl, (bC_q BK630.out 0).trans rfl, (bC_q BK630.out 1).trans rfl, (cel HB.out hw639_0), (cel HB.out hw639_1), (cel HB.out hw639_2), (cel HB.out hw639_3)⟩ (fun hHeld => ?_)
         clear hK K
         refine nJ_q ?_
         exact norm_ m52_q (hCont (v642, v645, v648) _ ⟨hHeld, m39_q, m57_q, m58_q, (bup BK630.out), (bup BK631.out), m1_q⟩)
        rintro ⟨v642, v645, v648⟩ w79 ⟨hS_, h0_, h1_, h2_, h3_, h4_, h5_⟩
        have n0_ : Aside0 (Kd.R kI_q 3 w79 w.heap.size (fun k_ => some k_ ≠ (v648 : Value).ownBlock ∧ some k_ ≠ (.slice Ao28 x10_2.length co28 : Value).ownBlock) v645 y644) := ⟨h0_⟩
        have n1_ : Aside0 (Kd.R kI_q 3 w79 w.heap.size (fun k_ => some k_ ≠ (v645 : Value).ownBlock ∧ some k_ ≠ (.slice Ao28 x10_2.length co28 : Value).ownBlock) v648 y647) := ⟨h1_⟩
        have n2_ : Aside0 (Kd.R kI_q 3 w79 w.heap.size (fun k_ => some k_ ≠ (v645 : Value).ownBlock ∧ some k_ ≠ (v648 : Value).ownBlock) (.slice Ao28 x10_2.length co28) x10_2) := ⟨h2_⟩
        have n3_ : Aside0 (w79.heap[gb630]? = some (.cells #[.int .i64 a1_0, .slice A1_1 l1_1.length c1_1] 43 (0, 0))) := ⟨h3_⟩
        have n4_ : Aside0 (w79.heap[gb631]? = some (.cells #[.int .i64 a3_0, .int .i64 a3_1, .int .i64 a3_2] 31 (0, 0))) := ⟨h4_⟩
        have n5_ : Aside0 (Below w.heap.size w w79) := ⟨h5_⟩
        clear HO_10
        clear BK630
        clear BK631
        clear HB
        clear h0_ h1_ h2_ h3_ h4_ h5_
        have HO646 := n0_
        have HO649 := n1_
        have HO_10 := n2_
        have BK630 := n3_
        have BK631 := n4_
        have HB := n5_
        clear n0_ n1_ n2_ n3_ n4_ n5_
        have hHeld : w79.cell? ⟨gb631, 0, none⟩ = some (.int .i64 a3_0) ∧ w79.cell? ⟨gb631, 1, none⟩ = some (.int .i64 a3_1) ∧ w79.cell? ⟨gb631, 2, none⟩ = some (.int .i64 a3_2) ∧ w79.cell? ⟨gb630, 0, none⟩ = some (.int .i64 a1_0) ∧ w79.cell? ⟨gb630, 1, none⟩ = some (.slice A1_1 l1_1.length c1_1) ∧ w79.cell? (ad639.add ((x11_2).toNat * 4)) = some (.int .i64 ((rd_T63 l0 x11_2).f0)) ∧ w79.cell? ⟨(ad639.add ((x11_2).toNat * 4)).block, (ad639.add ((x11_2).toNat * 4)).off + 1, none⟩ = some (.int .i64 ((rd_T63 l0 x11_2).f1)) ∧ w79.cell? ⟨(ad639.add ((x11_2).toNat * 4)).block, (ad639.add ((x11_2).toNat * 4)).off + 2, none⟩ = some (.int .i64 ((rd_T63 l0 x11_2).f2)) ∧ w79.cell? ⟨(ad639.add ((x11_2).toNat * 4)).block, (ad639.add ((x11_2).toNat * 4)).off + 3, none⟩ = some (.slice A639_3 ((rd_T63 l0 x11_2).f3).length c639_3) := hS_
        obtain ⟨Ao81, co81, eo81⟩ := rS_q HO649.out
        (first | subst eo81 | (injection eo81 with f1_ f2_ f3_; have f4_ := f1_.symm; have f5_ := f3_.symm; clear f1_ f2_ f3_; subst f4_; subst f5_))
        refine norm_ (a' := ?_) ?_ ?_
        rotate_left
        ·simp only [putAll, Act.put, sA_q, sZ_q, sS_q]
         rfl
        refine one_ (i := 15) (N := some 55) #[true, true, true, true, true, true, true, true, true, true, true, true, true, true, true, true, false, false, false] rfl rfl (one_of HT_.out m8_q) (by decide) (fun K hK => ?_)
        refine rP_q kI_q (w0 := w) w.heap.size (by rfl) (.tmp 52) (.tmp 54) 23 3 (.int .i64 0) 8 rfl Try.underlying23 info3 rfl (by decide) (by omega) v645 y644 y647 _ _ _ (fun k_ => some k_ ≠ (.slice Ao28 x10_2.length co28 : Value).ownBlock ∧ some k_ ≠ (.slice Ao81 y647.length co81 : Value).ownBlock) (fun _ => False) rfl rfl ?aO ?aR (fun _ _ h => h) (fun _ h => h.elim) ?aF ?aB ?aS ?aL ?_
        (case aR => exact cup (rR_q HO649.out).2.2)
        (case aB => exact m1_q)
        (case aF => exact m66_q)
        (case aO => exact m39_q)
        (case aS => exact m170_q)
        (case aL => have := LMc37.out; omega)
        intro v651 w80 ho hb hg hat
        rw [← Ny650.out] at ho
        replace HO_10 := Ae_q (rF_q (ok := (fun k_ => some k_ ≠ (.slice Ao81 y647.length co81 : Value).ownBlock)) m58_q hg hat)
        replace BK630 := Ae_q (bG_q (g := gb630) (o := .cells #[.int .i64 a1_0, .slice A1_1 l1_1.length c1_1] 43 (0, 0)) (bup BK630.out) hg (Kd.R_ne HO646.out BK630.out (by decide)))
        replace BK631 := Ae_q (bG_q (g := gb631) (o := .cells #[.int .i64 a3_0, .int .i64 a3_1, .int .i64 a3_2] 31 (0, 0)) (bup BK631.out) hg (Kd.R_ne HO646.out BK631.out (by decide)))
        replace HO649 := Ae_q (rF_q (ok := (fun k_ => some k_ ≠ (.slice Ao28 x10_2.length co28 : Value).ownBlock)) m57_q hg hat)
        replace HB := Ae_q (hb)
        have HO652 := Ae_q (ho)
        clear HO646
        clear ho hb hg hat
        obtain ⟨Ao82, co82, eo82⟩ := rS_q HO652.out
        (first | subst eo82 | (injection eo82 with f1_ f2_ f3_; have f4_ := f1_.symm; have f5_ := f3_.symm; clear f1_ f2_ f3_; subst f4_; subst f5_))
        refine hK.out _ _ ⟨(bC_q BK631.out 0).trans rfl, (bC_q BK631.out 1).trans rfl, (bC_q BK631.out 2).trans rfl, (bC_q BK630.out 0).trans rfl, (bC_q BK630.out 1).trans rfl, (cel HB.out hw639_0), (cel HB.out hw639_1), (cel HB.out hw639_2), (cel HB.out hw639_3)⟩ (fun hHeld => ?_)
        clear hK K
        refine nJ_q ?_
        refine one_ (i := 16) (N := some 56) #[true, true, true, true, true, true, true, true, true, true, true, true, true, true, true, true, true, false, false] rfl rfl (one_of HT_.out m8_q) (by decide) (fun K hK => ?_)
        refine goes_ Try.func47 m8_q rfl #[.slice (some ad639) l0.length c0, .agg #[.int .i64 a1_0, .slice A1_1 l1_1.length c1_1], .slice Ao82 y650.length co82] (by rfl) rfl rfl m0_q ?_
        with_reducible refine (spec_l32Room.calls k3 _ _ l0 a1_0 _ _ l1_1 _ _ y650 false _ ?side1 ?side2 ?side3 ?side4 ?side5 ?side6 A38.out).mono ?_
        (case side1 => exact m42_q)
        (case side2 => exact m97_q)
        (case side3 => exact m67_q)
        (case side4 => exact m119_q)
        (case side5 => exact cup (rR_q HO652.out).2.2)
        (case side6 => exact (rR_q HO652.out).2.1)
        rintro e w' ⟨rfl, hb⟩
        refine ⟨_, rfl, ?_⟩
        replace HO_10 := Ae_q (rO_q (rup HO_10.out) hb)
        replace HO649 := Ae_q (rO_q (rup HO649.out) hb)
        replace HO652 := Ae_q (rO_q (rup HO652.out) hb)
        replace BK630 := Ae_q (bB_q (g := gb630) (o := .cells #[.int .i64 a1_0, .slice A1_1 l1_1.length c1_1] 43 (0, 0)) (bup BK630.out) hb)
        replace BK631 := Ae_q (bB_q (g := gb631) (o := .cells #[.int .i64 a3_0, .int .i64 a3_1, .int .i64 a3_2] 31 (0, 0)) (bup BK631.out) hb)
        replace HB := Ae_q (bT_q m1_q hb)
        (try clear hb)
        (try clear hb2)
        (try clear hk)
        (try clear hi)
        refine hK.out _ _ ⟨(bC_q BK631.out 0).trans rfl, (bC_q BK631.out 1).trans rfl, (bC_q BK631.out 2).trans rfl, (bC_q BK630.out 0).trans rfl, (bC_q BK630.out 1).trans rfl, (cel HB.out hw639_0), (cel HB.out hw639_1), (cel HB.out hw639_2), (cel HB.out hw639_3)⟩ (fun hHeld => ?_)
        clear hK K
        refine nJ_q ?_
        refine pJ HT_ 17 57 rfl rfl ?_
        refine pJ HT_ 18 58 rfl rfl ?_
        refine done_ (done_of HT_.out m8_q) ?_
        try go_wp2
        go_roundg k3
        case measure => have := HJ4.out; have := HK2.out; have := HK3.out; omega
        case rel => exact ⟨(wrap64 (x12_3 + 1)), m7_q, H', ⟨m161_q⟩, ⟨by (with_reducible repeat (first | apply rA_q | apply rN_q | apply rD_q)); exact rM_q HO_10.out (fun _ hk => trivial)⟩, ⟨bup BK630.out⟩, ⟨bup BK631.out⟩, ⟨m1_q⟩⟩
       subst c39
       have H1 : (if x12_3 > 999 then (some ((([] : List Int)), false)) else ((some (([x12_3] : List Int) : List Int)).bind fun y657 => (if x10_2.length + y657.length < 17592186044416 then (spec_OutageRepair.l0 k3 l0 l2 (x10_2 ++ y657) (wrap64 (x11_2 + 1)) a1_0 l1_1 a3_0 a3_1 a3_2) else (none)))) = some (r1, r2) := by rw [if_pos rfl] at H; exact H
       clear H
       have H := H1
       clear H1
       by_cases c40 : x12_3 > 999
       ·rw [if_pos c40] at H
        have c40b0 : decide (999 < x12_3) = true := dT_q c40
        clear c40
        obtain ⟨y654, hy654⟩ : ∃ y_ : List Int, y_ = (([] : List Int)) := ⟨_, rfl⟩
        replace H : (some (y654, false)) = some (r1, r2) := by first | (rw [hy654]; with_reducible exact H) | (have H2_ := (oS_q _ _).symm.trans H; rw [hy654]; with_reducible exact H2_) | (have H2_ := (oS_q _ _).symm.trans H; with_reducible exact H2_) | with_reducible exact H | (rw [hy654]; exact H) | exact H
        have Ny654 := Ae_q hy654
        clear hy654
        simp only [oE_q, pE_q] at H
        obtain ⟨rfl, rfl⟩ := H
        try go_wp2
        replace HO_10 := Ae_q (rD_q HO_10.out)
        replace BK630 := Ae_q (bW_q BK630.out)
        replace BK631 := Ae_q (bW_q BK631.out)
        replace HB := Ae_q (bD_q HB.out)
        have p639 : 0 ≤ (x11_2 : Int) := oD_q (by assumption)
        have q639 : x11_2 < (l0.length : Int) := oD_q (by assumption)
        obtain ⟨ad639, A639_3, c639_3, e639, hx639_0, hx639_1, hx639_2, hx639_3, hl639_3, hi639_3⟩ := at_T63 HR0.out x11_2 p639 q639
        have hw639_3 := hx639_3
        have hw639_2 := hx639_2
        have hw639_1 := hx639_1
        have hw639_0 := hx639_0
        cases e639
        replace hx639_0 := cel HB.out hx639_0
        replace hx639_1 := cel HB.out hx639_1
        replace hx639_2 := cel HB.out hx639_2
        replace hx639_3 := cel HB.out hx639_3
        have HR639_3 := Ae_q hi639_3
        have HC639_3 := Ae_q hl639_3
        clear hi639_3 hl639_3
        replace p639 := eq_true p639
        replace q639 := eq_true q639
        refine start_ (n := 19) (S := fun w' => w'.cell? ⟨gb631, 0, none⟩ = some (.int .i64 a3_0) ∧ w'.cell? ⟨gb631, 1, none⟩ = some (.int .i64 a3_1) ∧ w'.cell? ⟨gb631, 2, none⟩ = some (.int .i64 a3_2) ∧ w'.cell? ⟨gb630, 0, none⟩ = some (.int .i64 a1_0) ∧ w'.cell? ⟨gb630, 1, none⟩ = some (.slice A1_1 l1_1.length c1_1) ∧ w'.cell? (ad639.add ((x11_2).toNat * 4)) = some (.int .i64 ((rd_T63 l0 x11_2).f0)) ∧ w'.cell? ⟨(ad639.add ((x11_2).toNat * 4)).block, (ad639.add ((x11_2).toNat * 4)).off + 1, none⟩ = some (.int .i64 ((rd_T63 l0 x11_2).f1)) ∧ w'.cell? ⟨(ad639.add ((x11_2).toNat * 4)).block, (ad639.add ((x11_2).toNat * 4)).off + 2, none⟩ = some (.int .i64 ((rd_T63 l0 x11_2).f2)) ∧ w'.cell? ⟨(ad639.add ((x11_2).toNat * 4)).block, (ad639.add ((x11_2).toNat * 4)).off + 3, none⟩ = some (.slice A639_3 ((rd_T63 l0 x11_2).f3).length c639_3)) (ds := []) #[false, false, false, false, false, false, false, false, false, false, false, false, false, false, false, false, false, false, false] m8_q rfl rfl ⟨(bC_q BK631.out 0).trans rfl, (bC_q BK631.out 1).trans rfl, (bC_q BK631.out 2).trans rfl, (bC_q BK630.out 0).trans rfl, (bC_q BK630.out 1).trans rfl, (cel HB.out hw639_0), (cel HB.out hw639_1), (cel HB.out hw639_2), (cel HB.out hw639_3)⟩ (fun hHeld => ?_); refine with_tabW spec_OutageRepair.tab8 spec_OutageRepair.bits8 (fun HT_ HW_ => ?_)
        generalize wr.drew = w41 at HO_10 BK630 BK631 HB HR639_3 hx639_0 hx639_1 hx639_2 hx639_3 hHeld ⊢
        refine pJ HT_ 0 40 rfl rfl ?_
        refine pJ HT_ 1 41 rfl rfl ?_
        refine pJ HT_ 2 42 rfl rfl ?_
        refine pJ HT_ 4 44 rfl rfl ?_
        refine take_ (i := 3) (N := some 43) (v := ?_) (a' := ?_) #[true, true, true, true, true, false, false, false, false, false, false, false, false, false, false, false, false, false, false] rfl rfl (take_ofW HT_.out HW_.out m8_q) (fun _ _ _ h => h) (Or.inl ⟨by rfl, ?_⟩) hHeld ?_ ?_
        rotate_left
        ·rintro w' ⟨s0, s1, s2, s3, s4, s5, s6, s7, s8⟩
         go_simp
         with_reducible rfl
        rotate_left
        ·simp only [pS_q]
         rfl
        refine take_ (i := 5) (N := some 45) (v := ?_) (a' := ?_) #[true, true, true, true, true, true, false, false, false, false, false, false, false, false, false, false, false, false, false] rfl rfl (take_ofW HT_.out HW_.out m8_q) (fun _ _ _ h => h) (Or.inl ⟨by rfl, ?_⟩) hHeld ?_ ?_
        rotate_left
        ·rintro w' ⟨s0, s1, s2, s3, s4, s5, s6, s7, s8⟩
         go_simp
         with_reducible rfl
        rotate_left
        ·simp only [pS_q]
         rfl
        refine one_ (i := 6) (N := some 46) #[true, true, true, true, true, true, true, false, false, false, false, false, false, false, false, false, false, false, false] rfl rfl (one_of HT_.out m8_q) (by decide) (fun K hK => ?_)
        refine goes_ Try.func36 m8_q rfl #[.agg #[.int .i64 ((rd_T63 l0 x11_2).f0), .int .i64 ((rd_T63 l0 x11_2).f1), .int .i64 ((rd_T63 l0 x11_2).f2), .slice A639_3 ((rd_T63 l0 x11_2).f3).length c639_3], .int .i64 x12_3, .agg #[.int .i64 a3_0, .int .i64 a3_1, .int .i64 a3_2]] (by rfl) rfl rfl m0_q ?_
        with_reducible refine (spec_l33Hit.calls ((rd_T63 l0 x11_2).f0) ((rd_T63 l0 x11_2).f1) ((rd_T63 l0 x11_2).f2) _ _ ((rd_T63 l0 x11_2).f3) x12_3 a3_0 a3_1 a3_2 false _ ?side1 ?side2 A32.out).mono ?_
        (case side1 => exact m163_q)
        (case side2 => exact HC639_3.out)
        rintro e w' ⟨rfl, hb⟩
        refine ⟨_, rfl, ?_⟩
        replace HO_10 := Ae_q (rO_q (rup HO_10.out) hb)
        replace BK630 := Ae_q (bB_q (g := gb630) (o := .cells #[.int .i64 a1_0, .slice A1_1 l1_1.length c1_1] 43 (0, 0)) (bup BK630.out) hb)
        replace BK631 := Ae_q (bB_q (g := gb631) (o := .cells #[.int .i64 a3_0, .int .i64 a3_1, .int .i64 a3_2] 31 (0, 0)) (bup BK631.out) hb)
        replace HB := Ae_q (bT_q m1_q hb)
        (try clear hb)
        (try clear hb2)
        (try clear hk)
        (try clear hi)
        refine hK.out _ _ ⟨(bC_q BK631.out 0).trans rfl, (bC_q BK631.out 1).trans rfl, (bC_q BK631.out 2).trans rfl, (bC_q BK630.out 0).trans rfl, (bC_q BK630.out 1).trans rfl, (cel HB.out hw639_0), (cel HB.out hw639_1), (cel HB.out hw639_2), (cel HB.out hw639_3)⟩ (fun hHeld => ?_)
        clear hK K
        refine nJ_q ?_
        refine pJ HT_ 7 47 rfl rfl ?_
        refine pJ HT_ 8 48 rfl rfl ?_
        refine pJ HT_ 11 51 rfl rfl ?_
        refine pJ HT_ 13 53 rfl rfl ?_
        refine take_ (i := 9) (N := some 49) (v := ?_) (a' := ?_) #[true, true, true, true, true, true, true, true, true, true, false, true, false, true, false, false, false, false, false] rfl rfl (take_ofW HT_.out HW_.out m8_q) (fun _ _ _ h => h) (Or.inl ⟨by rfl, ?_⟩) hHeld ?_ ?_
        rotate_left
        ·rintro w' ⟨s0, s1, s2, s3, s4, s5, s6, s7, s8⟩
         go_simp
         with_reducible rfl
        rotate_left
        ·simp only [pS_q]
         rfl
        refine join_ (σ := Value × Value × Value) 4 #[true, true, true, true, true, true, true, true, true, true, true, true, true, true, true, false, false, false, false] (fun s_ => [(50, s_.1), (52, s_.2.1), (54, s_.2.2)]) (fun s_ w' => (w'.cell? ⟨gb631, 0, none⟩ = some (.int .i64 a3_0) ∧ w'.cell? ⟨gb631, 1, none⟩ = some (.int .i64 a3_1) ∧ w'.cell? ⟨gb631, 2, none⟩ = some (.int .i64 a3_2) ∧ w'.cell? ⟨gb630, 0, none⟩ = some (.int .i64 a1_0) ∧ w'.cell? ⟨gb630, 1, none⟩ = some (.slice A1_1 l1_1.length c1_1) ∧ w'.cell? (ad639.add ((x11_2).toNat * 4)) = some (.int .i64 ((rd_T63 l0 x11_2).f0)) ∧ w'.cell? ⟨(ad639.add ((x11_2).toNat * 4)).block, (ad639.add ((x11_2).toNat * 4)).off + 1, none⟩ = some (.int .i64 ((rd_T63 l0 x11_2).f1)) ∧ w'.cell? ⟨(ad639.add ((x11_2).toNat * 4)).block, (ad639.add ((x11_2).toNat * 4)).off + 2, none⟩ = some (.int .i64 ((rd_T63 l0 x11_2).f2)) ∧ w'.cell? ⟨(ad639.add ((x11_2).toNat * 4)).block, (ad639.add ((x11_2).toNat * 4)).off + 3, none⟩ = some (.slice A639_3 ((rd_T63 l0 x11_2).f3).length c639_3)) ∧ (Kd.R kI_q 3 w' w.heap.size (fun k_ => some k_ ≠ (s_.2.2 : Value).ownBlock ∧ some k_ ≠ (.slice Ao28 x10_2.length co28 : Value).ownBlock) s_.2.1 y644) ∧ (Kd.R kI_q 3 w' w.heap.size (fun k_ => some k_ ≠ (s_.2.1 : Value).ownBlock ∧ some k_ ≠ (.slice Ao28 x10_2.length co28 : Value).ownBlock) s_.2.2 y647) ∧ (Kd.R kI_q 3 w' w.heap.size (fun k_ => some k_ ≠ (s_.2.1 : Value).ownBlock ∧ some k_ ≠ (s_.2.2 : Value).ownBlock) (.slice Ao28 x10_2.length co28) x10_2) ∧ (w'.heap[gb630]? = some (.cells #[.int .i64 a1_0, .slice A1_1 l1_1.length c1_1] 43 (0, 0))) ∧ (w'.heap[gb631]? = some (.cells #[.int .i64 a3_0, .int .i64 a3_1, .int .i64 a3_2] 31 (0, 0))) ∧ (Below w.heap.size w w')) ?_ ?_
        rotate_left
        ·intro hCont
         refine two_ (i := 10) (j := 14) (Ni := some 50) (Nj := some 54) #[true, true, true, true, true, true, true, true, true, true, true, true, false, true, false, false, false, false, false] #[true, true, true, true, true, true, true, true, true, true, false, true, false, true, true, false, false, false, false] rfl rfl rfl rfl (two_of HT_.out m8_q) (by decide) (by decide) (fun K hK => ?_) (fun K hK => ?_)
         ·skip
          refine rI_q kI_q _ 3 ?hg (N := 50) ?hd (xs := ([] : List Int)) (inner := []) (ok := fun _ => True) (okp := fun _ => True) ?hr ?hp (fun _ hk => hk) trivial (bR_q _ _) (nR_q _) (by simp) ?_; (case hd => rfl); (case hg => rfl); (case hr => exact m5_q); (case hp => exact m104_q)
          intro v642 w43 ho44 hb hg_ hnew_
          clear hg_ hnew_
          (first | rw [← Ny641.out] at ho44 | (simp only [Int.reduceToNat] at ho44; rw [← Ny641.out] at ho44))
          have HO643 := Ae_q (rL_q (rW_q ho44 (rT_q (rup HO_10.out))) (bZ_q m1_q))
          replace HO_10 := Ae_q (rE_q (rup HO_10.out) (rB_q ho44) hb)
          replace BK630 := Ae_q (bB_q (g := gb630) (o := .cells #[.int .i64 a1_0, .slice A1_1 l1_1.length c1_1] 43 (0, 0)) (bup BK630.out) hb)
          replace BK631 := Ae_q (bB_q (g := gb631) (o := .cells #[.int .i64 a3_0, .int .i64 a3_1, .int .i64 a3_2] 31 (0, 0)) (bup BK631.out) hb)
          replace HB := Ae_q (bT_q m1_q hb)
          clear hb ho44
          refine hK.out _ _ ⟨(bC_q BK631.out 0).trans rfl, (bC_q BK631.out 1).trans rfl, (bC_q BK631.out 2).trans rfl, (bC_q BK630.out 0).trans rfl, (bC_q BK630.out 1).trans rfl, (cel HB.out hw639_0), (cel HB.out hw639_1), (cel HB.out hw639_2), (cel HB.out hw639_3)⟩ (fun hHeld => ?_)
          clear hK K
          refine nJ_q ?_
          refine two_ (i := 12) (j := 14) (Ni := some 52) (Nj := some 54) #[true, true, true, true, true, true, true, true, true, true, true, true, true, true, false, false, false, false, false] #[true, true, true, true, true, true, true, true, true, true, true, true, false, true, true, false, false, false, false] rfl rfl rfl rfl (two_of HT_.out m8_q) (by decide) (by decide) (fun K hK => ?_) (fun K hK => ?_)
          ·skip
           refine rP_q kI_q (w0 := w) w.heap.size (by rfl) (.tmp 50) (.tmp 51) 23 3 (.int .i64 0) 8 rfl Try.underlying23 info3 rfl (by decide) (by omega) v642 y641 x10_2 _ _ _ (fun k_ => some k_ ≠ (.slice Ao28 x10_2.length co28 : Value).ownBlock) (fun _ => False) rfl rfl ?aO ?aR (fun _ _ h => h) (fun _ h => h.elim) ?aF ?aB ?aS ?aL ?_
           (case aR => exact m125_q)
           (case aB => exact m1_q)
           (case aF => exact m157_q)
           (case aO => exact m130_q)
           (case aS => exact m170_q)
           (case aL => exact m143_q)
           intro v645 w45 ho hb hg hat
           rw [← Ny644.out] at ho
           replace HO_10 := Ae_q (rF_q (ok := (fun _ => True)) (rup HO_10.out) hg hat)
           replace BK630 := Ae_q (bG_q (g := gb630) (o := .cells #[.int .i64 a1_0, .slice A1_1 l1_1.length c1_1] 43 (0, 0)) (bup BK630.out) hg (Kd.R_ne HO643.out BK630.out (by decide)))
           replace BK631 := Ae_q (bG_q (g := gb631) (o := .cells #[.int .i64 a3_0, .int .i64 a3_1, .int .i64 a3_2] 31 (0, 0)) (bup BK631.out) hg (Kd.R_ne HO643.out BK631.out (by decide)))
           replace HB := Ae_q (hb)
           have HO646 := Ae_q (ho)
           clear HO643
           clear ho hb hg hat
           refine hK.out _ _ ⟨(bC_q BK631.out 0).trans rfl, (bC_q BK631.out 1).trans rfl, (bC_q BK631.out 2).trans rfl, (bC_q BK630.out 0).trans rfl, (bC_q BK630.out 1).trans rfl, (cel HB.out hw639_0), (cel HB.out hw639_1), (cel HB.out hw639_2), (cel HB.out hw639_3)⟩ (fun hHeld => ?_)
           clear hK K
           refine nJ_q ?_
           refine one_ (i := 14) (N := some 54) #[true, true, true, true, true, true, true, true, true, true, true, true, true, true, true, false, false, false, false] rfl rfl (one_of HT_.out m8_q) (by decide) (fun K hK => ?_)
           refine rI_q kI_q _ 3 ?hg (N := 54) ?hd (xs := ([x12_3] : List Int)) (inner := [.int .i64 x12_3]) (ok := fun _ => True) (okp := fun _ => True) ?hr ?hp (fun _ hk => hk) trivial (bR_q _ _) (nR_q _) (by simp) ?_; (case hd => rfl); (case hg => rfl); (case hr => exact m5_q); (case hp => exact m71_q)
           intro v648 w46 ho47 hb hg_ hnew_
           clear hg_ hnew_
           (first | rw [← Ny647.out] at ho47 | (simp only [Int.reduceToNat] at ho47; rw [← Ny647.out] at ho47))
           have HO649 := Ae_q (rL_q (rW_q (rW_q ho47 (rT_q (rup HO_10.out))) (rT_q (rup HO646.out))) (bZ_q m1_q))
           replace HO_10 := Ae_q (rE_q (rup HO_10.out) (rB_q ho47) hb)
           replace HO646 := Ae_q (rE_q (rup HO646.out) (rB_q ho47) hb)
           replace BK630 := Ae_q (bB_q (g := gb630) (o := .cells #[.int .i64 a1_0, .slice A1_1 l1_1.length c1_1] 43 (0, 0)) (bup BK630.out) hb)
           replace BK631 := Ae_q (bB_q (g := gb631) (o := .cells #[.int .i64 a3_0, .int .i64 a3_1, .int .i64 a3_2] 31 (0, 0)) (bup BK631.out) hb)
           replace HB := Ae_q (bT_q m1_q hb)
           clear hb ho47
           refine hK.out _ _ ⟨(bC_q BK631.out 0).trans rfl, (bC_q BK631.out 1).trans rfl, (bC_q BK631.out 2).trans rfl, (bC_q BK630.out 0).trans rfl, (bC_q BK630.out 1).trans rfl, (cel HB.out hw639_0), (cel HB.out hw639_1), (cel HB.out hw639_2), (cel HB.out hw639_3)⟩ (fun hHeld => ?_)
           clear hK K
           refine nJ_q ?_
           exact norm_ m52_q (hCont (v642, v645, v648) _ ⟨hHeld, m39_q, m123_q, m82_q, (bup BK630.out), (bup BK631.out), m1_q⟩)
          skip
          refine rI_q kI_q _ 3 ?hg (N := 54) ?hd (xs := ([x12_3] : List Int)) (inner := [.int .i64 x12_3]) (ok := fun _ => True) (okp := fun _ => True) ?hr ?hp (fun _ hk => hk) trivial (bR_q _ _) (nR_q _) (by simp) ?_; (case hd => rfl); (case hg => rfl); (case hr => exact m5_q); (case hp => exact m71_q)
          intro v648 w45 ho46 hb hg_ hnew_
          clear hg_ hnew_
          (first | rw [← Ny647.out] at ho46 | (simp only [Int.reduceToNat] at ho46; rw [← Ny647.out] at ho46))
          have HO649 := Ae_q (rL_q (rW_q (rW_q ho46 (rT_q (rup HO_10.out))) (rT_q (rup HO643.out))) (bZ_q m1_q))
          replace HO_10 := Ae_q (rE_q (rup HO_10.out) (rB_q ho46) hb)
          replace HO643 := Ae_q (rE_q (rup HO643.out) (rB_q ho46) hb)
          replace BK630 := Ae_q (bB_q (g := gb630) (o := .cells #[.int .i64 a1_0, .slice A1_1 l1_1.length c1_1] 43 (0, 0)) (bup BK630.out) hb)
          replace BK631 := Ae_q (bB_q (g := gb631) (o := .cells #[.int .i64 a3_0, .int .i64 a3_1, .int .i64 a3_2] 31 (0, 0)) (bup BK631.out) hb)
          replace HB := Ae_q (bT_q m1_q hb)
          clear hb ho46
          refine hK.out _ _ ⟨(bC_q BK631.out 0).trans rfl, (bC_q BK631.out 1).trans rfl, (bC_q BK631.out 2).trans rfl, (bC_q BK630.out 0).trans rfl, (bC_q BK630.out 1).trans rfl, (cel HB.out hw639_0), (cel HB.out hw639_1), (cel HB.out hw639_2), (cel HB.out hw639_3)⟩ (fun hHeld => ?_)
          clear hK K
          refine nJ_q ?_
          refine one_ (i := 12) (N := some 52) #[true, true, true, true, true, true, true, true, true, true, true, true, true, true, true, false, false, false, false] rfl rfl (one_of HT_.out m8_q) (by decide) (fun K hK => ?_)
          refine rP_q kI_q (w0 := w) w.heap.size (by rfl) (.tmp 50) (.tmp 51) 23 3 (.int .i64 0) 8 rfl Try.underlying23 info3 rfl (by decide) (by omega) v642 y641 x10_2 _ _ _ (fun k_ => some k_ ≠ (.slice Ao28 x10_2.length co28 : Value).ownBlock ∧ some k_ ≠ (v648 : Value).ownBlock) (fun _ => False) rfl rfl ?aO ?aR (fun _ _ h => h) (fun _ h => h.elim) ?aF ?aB ?aS ?aL ?_
          (case aR => exact m125_q)
          (case aB => exact m1_q)
          (case aF => exact m66_q)
          (case aO => exact m83_q)
          (case aS => exact m170_q)
          (case aL => exact m143_q)
          intro v645 w47 ho hb hg hat
          rw [← Ny644.out] at ho
          replace HO_10 := Ae_q (rF_q (ok := (fun k_ => some k_ ≠ (v648 : Value).ownBlock)) m124_q hg hat)
          replace BK630 := Ae_q (bG_q (g := gb630) (o := .cells #[.int .i64 a1_0, .slice A1_1 l1_1.length c1_1] 43 (0, 0)) (bup BK630.out) hg (Kd.R_ne HO643.out BK630.out (by decide)))
          replace BK631 := Ae_q (bG_q (g := gb631) (o := .cells #[.int .i64 a3_0, .int .i64 a3_1, .int .i64 a3_2] 31 (0, 0)) (bup BK631.out) hg (Kd.R_ne HO643.out BK631.out (by decide)))
          replace HO649 := Ae_q (rF_q (ok := (fun k_ => some k_ ≠ (.slice Ao28 x10_2.length co28 : Value).ownBlock)) m84_q hg hat)
          replace HB := Ae_q (hb)
          have HO646 := Ae_q (ho)
          clear HO643
          clear ho hb hg hat
          refine hK.out _ _ ⟨(bC_q BK631.out 0).trans rfl, (bC_q BK631.out 1).trans rfl, (bC_q BK631.out 2).trans rfl, (bC_q BK630.out 0).trans rfl, (bC_q BK630.out 1).trans rfl, (cel HB.out hw639_0), (cel HB.out hw639_1), (cel HB.out hw639_2), (cel HB.out hw639_3)⟩ (fun hHeld => ?_)
          clear hK K
          refine nJ_q ?_
          exact norm_ m52_q (hCont (v642, v645, v648) _ ⟨hHeld, m39_q, m57_q, m58_q, (bup BK630.out), (bup BK631.out), m1_q⟩)
         skip
         refine rI_q kI_q _ 3 ?hg (N := 54) ?hd (xs := ([x12_3] : List Int)) (inner := [.int .i64 x12_3]) (ok := fun _ => True) (okp := fun _ => True) ?hr ?hp (fun _ hk => hk) trivial (bR_q _ _) (nR_q _) (by simp) ?_; (case hd => rfl); (case hg => rfl); (case hr => exact m5_q); (case hp => exact m71_q)
         intro v648 w43 ho44 hb hg_ hnew_
         clear hg_ hnew_
         (first | rw [← Ny647.out] at ho44 | (simp only [Int.reduceToNat] at ho44; rw [← Ny647.out] at ho44))
         have HO649 := Ae_q (rL_q (rW_q ho44 (rT_q (rup HO_10.out))) (bZ_q m1_q))
         replace HO_10 := Ae_q (rE_q (rup HO_10.out) (rB_q ho44) hb)
         replace BK630 := Ae_q (bB_q (g := gb630) (o := .cells #[.int .i64 a1_0, .slice A1_1 l1_1.length c1_1] 43 (0, 0)) (bup BK630.out) hb)
         replace BK631 := Ae_q (bB_q (g := gb631) (o := .cells #[.int .i64 a3_0, .int .i64 a3_1, .int .i64 a3_2] 31 (0, 0)) (bup BK631.out) hb)
         replace HB := Ae_q (bT_q m1_q hb)
         clear hb ho44
         refine hK.out _ _ ⟨(bC_q BK631.out 0).trans rfl, (bC_q BK631.out 1).trans rfl, (bC_q BK631.out 2).trans rfl, (bC_q BK630.out 0).trans rfl, (bC_q BK630.out 1).trans rfl, (cel HB.out hw639_0), (cel HB.out hw639_1), (cel HB.out hw639_2), (cel HB.out hw639_3)⟩ (fun hHeld => ?_)
         clear hK K
         refine nJ_q ?_
         refine one_ (i := 10) (N := some 50) #[true, true, true, true, true, true, true, true, true, true, true, true, false, true, true, false, false, false, false] rfl rfl (one_of HT_.out m8_q) (by decide) (fun K hK => ?_)
         refine rI_q kI_q _ 3 ?hg (N := 50) ?hd (xs := ([] : List Int)) (inner := []) (ok := fun _ => True) (okp := fun _ => True) ?hr ?hp (fun _ hk => hk) trivial (bR_q _ _) (nR_q _) (by simp) ?_; (case hd => rfl); (case hg => rfl); (case hr => exact m5_q); (case hp => exact m104_q)
         intro v642 w45 ho46 hb hg_ hnew_
         clear hg_ hnew_
         (first | rw [← Ny641.out] at ho46 | (simp only [Int.reduceToNat] at ho46; rw [← Ny641.out] at ho46))
         have HO643 := Ae_q (rL_q (rW_q (rW_q ho46 (rT_q (rup HO_10.out))) (rT_q (rup HO649.out))) (bZ_q m1_q))
         replace HO_10 := Ae_q (rE_q (rup HO_10.out) (rB_q ho46) hb)
         replace HO649 := Ae_q (rE_q (rup HO649.out) (rB_q ho46) hb)
         replace BK630 := Ae_q (bB_q (g := gb630) (o := .cells #[.int .i64 a1_0, .slice A1_1 l1_1.length c1_1] 43 (0, 0)) (bup BK630.out) hb)
         replace BK631 := Ae_q (bB_q (g := gb631) (o := .cells #[.int .i64 a3_0, .int .i64 a3_1, .int .i64 a3_2] 31 (0, 0)) (bup BK631.out) hb)
         replace HB := Ae_q (bT_q m1_q hb)
         clear hb ho46
         refine hK.out _ _ ⟨(bC_q BK631.out 0).trans rfl, (bC_q BK631.out 1).trans rfl, (bC_q BK631.out 2).trans rfl, (bC_q BK630.out 0).trans rfl, (bC_q BK630.out 1).trans rfl, (cel HB.out hw639_0), (cel HB.out hw639_1), (cel HB.out hw639_2), (cel HB.out hw639_3)⟩ (fun hHeld => ?_)
         clear hK K
         refine nJ_q ?_
         refine one_ (i := 12) (N := some 52) #[true, true, true, true, true, true, true, true, true, true, true, true, true, true, true, false, false, false, false] rfl rfl (one_of HT_.out m8_q) (by decide) (fun K hK => ?_)
         refine rP_q kI_q (w0 := w) w.heap.size (by rfl) (.tmp 50) (.tmp 51) 23 3 (.int .i64 0) 8 rfl Try.underlying23 info3 rfl (by decide) (by omega) v642 y641 x10_2 _ _ _ (fun k_ => some k_ ≠ (.slice Ao28 x10_2.length co28 : Value).ownBlock ∧ some k_ ≠ (v648 : Value).ownBlock) (fun _ => False) rfl rfl ?aO ?aR (fun _ _ h => h) (fun _ h => h.elim) ?aF ?aB ?aS ?aL ?_
         (case aR => exact m125_q)
         (case aB => exact m1_q)
         (case aF => exact m66_q)
         (case aO => exact m83_q)
         (case aS => exact m170_q)
         (case aL => exact m143_q)
         intro v645 w47 ho hb hg hat
         rw [← Ny644.out] at ho
         replace HO_10 := Ae_q (rF_q (ok := (fun k_ => some k_ ≠ (v648 : Value).ownBlock)) m82_q hg hat)
         replace BK630 := Ae_q (bG_q (g := gb630) (o := .cells #[.int .i64 a1_0, .slice A1_1 l1_1.length c1_1] 43 (0, 0)) (bup BK630.out) hg (Kd.R_ne HO643.out BK630.out (by decide)))
         replace BK631 := Ae_q (bG_q (g := gb631) (o := .cells #[.int .i64 a3_0, .int .i64 a3_1, .int .i64 a3_2] 31 (0, 0)) (bup BK631.out) hg (Kd.R_ne HO643.out BK631.out (by decide)))
         replace HO649 := Ae_q (rF_q (ok := (fun k_ => some k_ ≠ (.slice Ao28 x10_2.length co28 : Value).ownBlock)) m84_q hg hat)
         replace HB := Ae_q (hb)
         have HO646 := Ae_q (ho)
         clear HO643
         clear ho hb hg hat
         refine hK.out _ _ ⟨(bC_q BK631.out 0).trans rfl, (bC_q BK631.out 1).trans rfl, (bC_q BK631.out 2).trans rfl, (bC_q BK630.out 0).trans rfl, (bC_q BK630.out 1).trans rfl, (cel HB.out hw639_0), (cel HB.out hw639_1), (cel HB.out hw639_2), (cel HB.out hw639_3)⟩ (fun hHeld => ?_)
         clear hK K
         refine nJ_q ?_
         exact norm_ m52_q (hCont (v642, v645, v648) _ ⟨hHeld, m39_q, m57_q, m58_q, (bup BK630.out), (bup BK631.out), m1_q⟩)
        rintro ⟨v642, v645, v648⟩ w48 ⟨hS_, h0_, h1_, h2_, h3_, h4_, h5_⟩
        have n0_ : Aside0 (Kd.R kI_q 3 w48 w.heap.size (fun k_ => some k_ ≠ (v648 : Value).ownBlock ∧ some k_ ≠ (.slice Ao28 x10_2.length co28 : Value).ownBlock) v645 y644) := ⟨h0_⟩
        have n1_ : Aside0 (Kd.R kI_q 3 w48 w.heap.size (fun k_ => some k_ ≠ (v645 : Value).ownBlock ∧ some k_ ≠ (.slice Ao28 x10_2.length co28 : Value).ownBlock) v648 y647) := ⟨h1_⟩
        have n2_ : Aside0 (Kd.R kI_q 3 w48 w.heap.size (fun k_ => some k_ ≠ (v645 : Value).ownBlock ∧ some k_ ≠ (v648 : Value).ownBlock) (.slice Ao28 x10_2.length co28) x10_2) := ⟨h2_⟩
        have n3_ : Aside0 (w48.heap[gb630]? = some (.cells #[.int .i64 a1_0, .slice A1_1 l1_1.length c1_1] 43 (0, 0))) := ⟨h3_⟩
        have n4_ : Aside0 (w48.heap[gb631]? = some (.cells #[.int .i64 a3_0, .int .i64 a3_1, .int .i64 a3_2] 31 (0, 0))) := ⟨h4_⟩
        have n5_ : Aside0 (Below w.heap.size w w48) := ⟨h5_⟩
        clear HO_10
        clear BK630
        clear BK631
        clear HB
        clear h0_ h1_ h2_ h3_ h4_ h5_
        have HO646 := n0_
        have HO649 := n1_
        have HO_10 := n2_
        have BK630 := n3_
        have BK631 := n4_
        have HB := n5_
        clear n0_ n1_ n2_ n3_ n4_ n5_
        have hHeld : w48.cell? ⟨gb631, 0, none⟩ = some (.int .i64 a3_0) ∧ w48.cell? ⟨gb631, 1, none⟩ = some (.int .i64 a3_1) ∧ w48.cell? ⟨gb631, 2, none⟩ = some (.int .i64 a3_2) ∧ w48.cell? ⟨gb630, 0, none⟩ = some (.int .i64 a1_0) ∧ w48.cell? ⟨gb630, 1, none⟩ = some (.slice A1_1 l1_1.length c1_1) ∧ w48.cell? (ad639.add ((x11_2).toNat * 4)) = some (.int .i64 ((rd_T63 l0 x11_2).f0)) ∧ w48.cell? ⟨(ad639.add ((x11_2).toNat * 4)).block, (ad639.add ((x11_2).toNat * 4)).off + 1, none⟩ = some (.int .i64 ((rd_T63 l0 x11_2).f1)) ∧ w48.cell? ⟨(ad639.add ((x11_2).toNat * 4)).block, (ad639.add ((x11_2).toNat * 4)).off + 2, none⟩ = some (.int .i64 ((rd_T63 l0 x11_2).f2)) ∧ w48.cell? ⟨(ad639.add ((x11_2).toNat * 4)).block, (ad639.add ((x11_2).toNat * 4)).off + 3, none⟩ = some (.slice A639_3 ((rd_T63 l0 x11_2).f3).length c639_3) := hS_
        obtain ⟨Ao50, co50, eo50⟩ := rS_q HO649.out
        (first | subst eo50 | (injection eo50 with f1_ f2_ f3_; have f4_ := f1_.symm; have f5_ := f3_.symm; clear f1_ f2_ f3_; subst f4_; subst f5_))
        refine norm_ (a' := ?_) ?_ ?_
        rotate_left
        ·simp only [putAll, Act.put, sA_q, sZ_q, sS_q]
         rfl
        refine one_ (i := 15) (N := some 55) #[true, true, true, true, true, true, true, true, true, true, true, true, true, true, true, true, false, false, false] rfl rfl (one_of HT_.out m8_q) (by decide) (fun K hK => ?_)
        refine rP_q kI_q (w0 := w) w.heap.size (by rfl) (.tmp 52) (.tmp 54) 23 3 (.int .i64 0) 8 rfl Try.underlying23 info3 rfl (by decide) (by omega) v645 y644 y647 _ _ _ (fun k_ => some k_ ≠ (.slice Ao28 x10_2.length co28 : Value).ownBlock ∧ some k_ ≠ (.slice Ao50 y647.length co50 : Value).ownBlock) (fun _ => False) rfl rfl ?aO ?aR (fun _ _ h => h) (fun _ h => h.elim) ?aF ?aB ?aS ?aL ?_
        (case aR => exact cup (rR_q HO649.out).2.2)
        (case aB => exact m1_q)
        (case aF => exact m66_q)
        (case aO => exact m39_q)
        (case aS => exact m170_q)
        (case aL => have := LMc37.out; omega)
        intro v651 w49 ho hb hg hat
        rw [← Ny650.out] at ho
        replace HO_10 := Ae_q (rF_q (ok := (fun k_ => some k_ ≠ (.slice Ao50 y647.length co50 : Value).ownBlock)) m58_q hg hat)
        replace BK630 := Ae_q (bG_q (g := gb630) (o := .cells #[.int .i64 a1_0, .slice A1_1 l1_1.length c1_1] 43 (0, 0)) (bup BK630.out) hg (Kd.R_ne HO646.out BK630.out (by decide)))
        replace BK631 := Ae_q (bG_q (g := gb631) (o := .cells #[.int .i64 a3_0, .int .i64 a3_1, .int .i64 a3_2] 31 (0, 0)) (bup BK631.out) hg (Kd.R_ne HO646.out BK631.out (by decide)))
        replace HO649 := Ae_q (rF_q (ok := (fun k_ => some k_ ≠ (.slice Ao28 x10_2.length co28 : Value).ownBlock)) m57_q hg hat)
        replace HB := Ae_q (hb)
        have HO652 := Ae_q (ho)
        clear HO646
        clear ho hb hg hat
        obtain ⟨Ao51, co51, eo51⟩ := rS_q HO652.out
        (first | subst eo51 | (injection eo51 with f1_ f2_ f3_; have f4_ := f1_.symm; have f5_ := f3_.symm; clear f1_ f2_ f3_; subst f4_; subst f5_))
        refine hK.out _ _ ⟨(bC_q BK631.out 0).trans rfl, (bC_q BK631.out 1).trans rfl, (bC_q BK631.out 2).trans rfl, (bC_q BK630.out 0).trans rfl, (bC_q BK630.out 1).trans rfl, (cel HB.out hw639_0), (cel HB.out hw639_1), (cel HB.out hw639_2), (cel HB.out hw639_3)⟩ (fun hHeld => ?_)
        clear hK K
        refine nJ_q ?_
        refine one_ (i := 16) (N := some 56) #[true, true, true, true, true, true, true, true, true, true, true, true, true, true, true, true, true, false, false] rfl rfl (one_of HT_.out m8_q) (by decide) (fun K hK => ?_)
        refine goes_ Try.func47 m8_q rfl #[.slice (some ad639) l0.length c0, .agg #[.int .i64 a1_0, .slice A1_1 l1_1.length c1_1], .slice Ao51 y650.length co51] (by rfl) rfl rfl m0_q ?_
        with_reducible refine (spec_l32Room.calls k3 _ _ l0 a1_0 _ _ l1_1 _ _ y650 true _ ?side1 ?side2 ?side3 ?side4 ?side5 ?side6 A38.out).mono ?_
        (case side1 => exact m42_q)
        (case side2 => exact m97_q)
        (case side3 => exact m67_q)
        (case side4 => exact m119_q)
        (case side5 => exact cup (rR_q HO652.out).2.2)
        (case side6 => exact (rR_q HO652.out).2.1)
        rintro e w' ⟨rfl, hb⟩
        refine ⟨_, rfl, ?_⟩
        replace HO_10 := Ae_q (rO_q (rup HO_10.out) hb)
        replace HO649 := Ae_q (rO_q (rup HO649.out) hb)
        replace HO652 := Ae_q (rO_q (rup HO652.out) hb)
        replace BK630 := Ae_q (bB_q (g := gb630) (o := .cells #[.int .i64 a1_0, .slice A1_1 l1_1.length c1_1] 43 (0, 0)) (bup BK630.out) hb)
        replace BK631 := Ae_q (bB_q (g := gb631) (o := .cells #[.int .i64 a3_0, .int .i64 a3_1, .int .i64 a3_2] 31 (0, 0)) (bup BK631.out) hb)
        replace HB := Ae_q (bT_q m1_q hb)
        (try clear hb)
        (try clear hb2)
        (try clear hk)
        (try clear hi)
        refine hK.out _ _ ⟨(bC_q BK631.out 0).trans rfl, (bC_q BK631.out 1).trans rfl, (bC_q BK631.out 2).trans rfl, (bC_q BK630.out 0).trans rfl, (bC_q BK630.out 1).trans rfl, (cel HB.out hw639_0), (cel HB.out hw639_1), (cel HB.out hw639_2), (cel HB.out hw639_3)⟩ (fun hHeld => ?_)
        clear hK K
        refine nJ_q ?_
        refine pJ HT_ 17 57 rfl rfl ?_
        refine pJ HT_ 18 58 rfl rfl ?_
        refine done_ (done_of HT_.out m8_q) ?_
        try go_wp2_with (first | ((with_reducible refine gD_q (N := 63) rfl ?_); (try (refine gate_guard (by rfl) ?_; dsimp only)); refine Kd.R_lit kI_q _ 3 ?hg (N := 63) ?hd (xs := ([] : List Int)) (inner := []) (ok := fun _ => True) (okp := fun _ => True) ?hr ?hp (fun _ hk => hk) trivial (bR_q _ _) (nR_q _) (by simp) ?_; (case hd => rfl); (case hg => rfl); (case hr => exact m5_q); (case hp => exact m104_q); intro v655 w53 ho54 hb hg_ hnew_; clear hg_ hnew_; (first | rw [← Ny654.out] at ho54 | (simp only [Int.reduceToNat] at ho54; rw [← Ny654.out] at ho54)); have HO656 := Ae_q (rL_q (rW_q (rW_q (rW_q ho54 (rT_q (rup HO_10.out))) (rT_q (rup HO649.out))) (rT_q (rup HO652.out))) (bZ_q m1_q)); replace HO_10 := Ae_q (rE_q (rup HO_10.out) (rB_q ho54) hb); replace HO649 := Ae_q (rE_q (rup HO649.out) (rB_q ho54) hb); replace HO652 := Ae_q (rE_q (rup HO652.out) (rB_q ho54) hb); replace BK630 := Ae_q (bB_q (g := gb630) (o := .cells #[.int .i64 a1_0, .slice A1_1 l1_1.length c1_1] 43 (0, 0)) (bup BK630.out) hb); replace BK631 := Ae_q (bB_q (g := gb631) (o := .cells #[.int .i64 a3_0, .int .i64 a3_1, .int .i64 a3_2] 31 (0, 0)) (bup BK631.out) hb); replace HB := Ae_q (bT_q m1_q hb); clear hb ho54))
        go_ret2
        exact ⟨_, by first | rfl | (simp [eN_q, eS_q] <;> rfl) | (simp only [← hji26]; first | rfl | (simp [eN_q, eS_q] <;> rfl)) | (simp [*, eN_q, eS_q] <;> rfl), by (with_reducible repeat (first | apply rA_q | apply rN_q | apply rD_q)); exact rM_q HO656.out (fun _ hk => trivial), m1_q⟩
       rw [if_neg c40] at H
       have c40b0 : decide (999 < x12_3) = false := dF_q c40
       clear c40
       obtain ⟨y657, hy657⟩ : ∃ y_ : List Int, y_ = (([x12_3] : List Int)) := ⟨_, rfl⟩
       replace H : (if x10_2.length + y657.length < 17592186044416 then (spec_OutageRepair.l0 k3 l0 l2 (x10_2 ++ y657) (wrap64 (x11_2 + 1)) a1_0 l1_1 a3_0 a3_1 a3_2) else (none)) = some (r1, r2) := by first | (rw [hy657]; with_reducible exact H) | (have H2_ := (oS_q _ _).symm.trans H; rw [hy657]; with_reducible exact H2_) | (have H2_ := (oS_q _ _).symm.trans H; with_reducible exact H2_) | with_reducible exact H | (rw [hy657]; exact H) | exact H
       have Ny657 := Ae_q hy657
       clear hy657
       by_cases c55 : x10_2.length + y657.length < 17592186044416
       rotate_left
       ·rw [if_neg c55] at H
        exact absurd H (by simp)
       rw [if_pos c55] at H
       have LMc55 := Ae_q c55
       clear c55
       obtain ⟨y660, hy660⟩ : ∃ y_ : List Int, y_ = (x10_2 ++ y657) := ⟨_, rfl⟩
       replace H : (spec_OutageRepair.l0 k3 l0 l2 y660 (wrap64 (x11_2 + 1)) a1_0 l1_1 a3_0 a3_1 a3_2) = some (r1, r2) := by first | (rw [hy660]; with_reducible exact H) | (have H2_ := (oS_q _ _).symm.trans H; rw [hy660]; with_reducible exact H2_) | (have H2_ := (oS_q _ _).symm.trans H; with_reducible exact H2_) | with_reducible exact H | (rw [hy660]; exact H) | exact H
       have Ny660 := Ae_q hy660
       clear hy660
       have H' := Ae_q H
       clear H
       try go_wp2
       replace HO_10 := Ae_q (rD_q HO_10.out)
       replace BK630 := Ae_q (bW_q BK630.out)
       replace BK631 := Ae_q (bW_q BK631.out)
       replace HB := Ae_q (bD_q HB.out)
       have p639 : 0 ≤ (x11_2 : Int) := oD_q (by assumption)
       have q639 : x11_2 < (l0.length : Int) := oD_q (by assumption)
       obtain ⟨ad639, A639_3, c639_3, e639, hx639_0, hx639_1, hx639_2, hx639_3, hl639_3, hi639_3⟩ := at_T63 HR0.out x11_2 p639 q639
       have hw639_3 := hx639_3
       have hw639_2 := hx639_2
       have hw639_1 := hx639_1
       have hw639_0 := hx639_0
       cases e639
       replace hx639_0 := cel HB.out hx639_0
       replace hx639_1 := cel HB.out hx639_1
       replace hx639_2 := cel HB.out hx639_2
       replace hx639_3 := cel HB.out hx639_3
       have HR639_3 := Ae_q hi639_3
       have HC639_3 := Ae_q hl639_3
       clear hi639_3 hl639_3
       replace p639 := eq_true p639
       replace q639 := eq_true q639
       refine start_ (n := 19) (S := fun w' => w'.cell? ⟨gb631, 0, none⟩ = some (.int .i64 a3_0) ∧ w'.cell? ⟨gb631, 1, none⟩ = some (.int .i64 a3_1) ∧ w'.cell? ⟨gb631, 2, none⟩ = some (.int .i64 a3_2) ∧ w'.cell? ⟨gb630, 0, none⟩ = some (.int .i64 a1_0) ∧ w'.cell? ⟨gb630, 1, none⟩ = some (.slice A1_1 l1_1.length c1_1) ∧ w'.cell? (ad639.add ((x11_2).toNat * 4)) = some (.int .i64 ((rd_T63 l0 x11_2).f0)) ∧ w'.cell? ⟨(ad639.add ((x11_2).toNat * 4)).block, (ad639.add ((x11_2).toNat * 4)).off + 1, none⟩ = some (.int .i64 ((rd_T63 l0 x11_2).f1)) ∧ w'.cell? ⟨(ad639.add ((x11_2).toNat * 4)).block, (ad639.add ((x11_2).toNat * 4)).off + 2, none⟩ = some (.int .i64 ((rd_T63 l0 x11_2).f2)) ∧ w'.cell? ⟨(ad639.add ((x11_2).toNat * 4)).block, (ad639.add ((x11_2).toNat * 4)).off + 3, none⟩ = some (.slice A639_3 ((rd_T63 l0 x11_2).f3).length c639_3)) (ds := []) #[false, false, false, false, false, false, false, false, false, false, false, false, false, false, false, false, false, false, false] m8_q rfl rfl ⟨(bC_q BK631.out 0).trans rfl, (bC_q BK631.out 1).trans rfl, (bC_q BK631.out 2).trans rfl, (bC_q BK630.out 0).trans rfl, (bC_q BK630.out 1).trans rfl, (cel HB.out hw639_0), (cel HB.out hw639_1), (cel HB.out hw639_2), (cel HB.out hw639_3)⟩ (fun hHeld => ?_); refine with_tabW spec_OutageRepair.tab8 spec_OutageRepair.bits8 (fun HT_ HW_ => ?_)
       generalize wr.drew = w56 at HO_10 BK630 BK631 HB HR639_3 hx639_0 hx639_1 hx639_2 hx639_3 hHeld ⊢
       refine pJ HT_ 0 40 rfl rfl ?_
       refine pJ HT_ 1 41 rfl rfl ?_
       refine pJ HT_ 2 42 rfl rfl ?_
       refine pJ HT_ 4 44 rfl rfl ?_
       refine take_ (i := 3) (N := some 43) (v := ?_) (a' := ?_) #[true, true, true, true, true, false, false, false, false, false, false, false, false, false, false, false, false, false, false] rfl rfl (take_ofW HT_.out HW_.out m8_q) (fun _ _ _ h => h) (Or.inl ⟨by rfl, ?_⟩) hHeld ?_ ?_
       rotate_left
       ·rintro w' ⟨s0, s1, s2, s3, s4, s5, s6, s7, s8⟩
        go_simp
        with_reducible rfl
       rotate_left
       ·simp only [pS_q]
        rfl
       refine take_ (i := 5) (N := some 45) (v := ?_) (a' := ?_) #[true, true, true, true, true, true, false, false, false, false, false, false, false, false, false, false, false, false, false] rfl rfl (take_ofW HT_.out HW_.out m8_q) (fun _ _ _ h => h) (Or.inl ⟨by rfl, ?_⟩) hHeld ?_ ?_
       rotate_left
       ·rintro w' ⟨s0, s1, s2, s3, s4, s5, s6, s7, s8⟩
        go_simp
        with_reducible rfl
       rotate_left
       ·simp only [pS_q]
        rfl
       refine one_ (i := 6) (N := some 46) #[true, true, true, true, true, true, true, false, false, false, false, false, false, false, false, false, false, false, false] rfl rfl (one_of HT_.out m8_q) (by decide) (fun K hK => ?_)
       refine goes_ Try.func36 m8_q rfl #[.agg #[.int .i64 ((rd_T63 l0 x11_2).f0), .int .i64 ((rd_T63 l0 x11_2).f1), .int .i64 ((rd_T63 l0 x11_2).f2), .slice A639_3 ((rd_T63 l0 x11_2).f3).length c639_3], .int .i64 x12_3, .agg #[.int .i64 a3_0, .int .i64 a3_1, .int .i64 a3_2]] (by rfl) rfl rfl m0_q ?_
       with_reducible refine (spec_l33Hit.calls ((rd_T63 l0 x11_2).f0) ((rd_T63 l0 x11_2).f1) ((rd_T63 l0 x11_2).f2) _ _ ((rd_T63 l0 x11_2).f3) x12_3 a3_0 a3_1 a3_2 false _ ?side1 ?side2 A32.out).mono ?_
       (case side1 => exact m163_q)
       (case side2 => exact HC639_3.out)
       rintro e w' ⟨rfl, hb⟩
       refine ⟨_, rfl, ?_⟩
       replace HO_10 := Ae_q (rO_q (rup HO_10.out) hb)
       replace BK630 := Ae_q (bB_q (g := gb630) (o := .cells #[.int .i64 a1_0, .slice A1_1 l1_1.length c1_1] 43 (0, 0)) (bup BK630.out) hb)
       replace BK631 := Ae_q (bB_q (g := gb631) (o := .cells #[.int .i64 a3_0, .int .i64 a3_1, .int .i64 a3_2] 31 (0, 0)) (bup BK631.out) hb)
       replace HB := Ae_q (bT_q m1_q hb)
       (try clear hb)
       (try clear hb2)
       (try clear hk)
       (try clear hi)
       refine hK.out _ _ ⟨(bC_q BK631.out 0).trans rfl, (bC_q BK631.out 1).trans rfl, (bC_q BK631.out 2).trans rfl, (bC_q BK630.out 0).trans rfl, (bC_q BK630.out 1).trans rfl, (cel HB.out hw639_0), (cel HB.out hw639_1), (cel HB.out hw639_2), (cel HB.out hw639_3)⟩ (fun hHeld => ?_)
       clear hK K
       refine nJ_q ?_
       refine pJ HT_ 7 47 rfl rfl ?_
       refine pJ HT_ 8 48 rfl rfl ?_
       refine pJ HT_ 11 51 rfl rfl ?_
       refine pJ HT_ 13 53 rfl rfl ?_
       refine take_ (i := 9) (N := some 49) (v := ?_) (a' := ?_) #[true, true, true, true, true, true, true, true, true, true, false, true, false, true, false, false, false, false, false] rfl rfl (take_ofW HT_.out HW_.out m8_q) (fun _ _ _ h => h) (Or.inl ⟨by rfl, ?_⟩) hHeld ?_ ?_
       rotate_left
       ·rintro w' ⟨s0, s1, s2, s3, s4, s5, s6, s7, s8⟩
        go_simp
        with_reducible rfl
       rotate_left
       ·simp only [pS_q]
        rfl
       refine join_ (σ := Value × Value × Value) 4 #[true, true, true, true, true, true, true, true, true, true, true, true, true, true, true, false, false, false, false] (fun s_ => [(50, s_.1), (52, s_.2.1), (54, s_.2.2)]) (fun s_ w' => (w'.cell? ⟨gb631, 0, none⟩ = some (.int .i64 a3_0) ∧ w'.cell? ⟨gb631, 1, none⟩ = some (.int .i64 a3_1) ∧ w'.cell? ⟨gb631, 2, none⟩ = some (.int .i64 a3_2) ∧ w'.cell? ⟨gb630, 0, none⟩ = some (.int .i64 a1_0) ∧ w'.cell? ⟨gb630, 1, none⟩ = some (.slice A1_1 l1_1.length c1_1) ∧ w'.cell? (ad639.add ((x11_2).toNat * 4)) = some (.int .i64 ((rd_T63 l0 x11_2).f0)) ∧ w'.cell? ⟨(ad639.add ((x11_2).toNat * 4)).block, (ad639.add ((x11_2).toNat * 4)).off + 1, none⟩ = some (.int .i64 ((rd_T63 l0 x11_2).f1)) ∧ w'.cell? ⟨(ad639.add ((x11_2).toNat * 4)).block, (ad639.add ((x11_2).toNat * 4)).off + 2, none⟩ = some (.int .i64 ((rd_T63 l0 x11_2).f2)) ∧ w'.cell? ⟨(ad639.add ((x11_2).toNat * 4)).block, (ad639.add ((x11_2).toNat * 4)).off + 3, none⟩ = some (.slice A639_3 ((rd_T63 l0 x11_2).f3).length c639_3)) ∧ (Kd.R kI_q 3 w' w.heap.size (fun k_ => some k_ ≠ (s_.2.2 : Value).ownBlock ∧ some k_ ≠ (.slice Ao28 x10_2.length co28 : Value).ownBlock) s_.2.1 y644) ∧ (Kd.R kI_q 3 w' w.heap.size (fun k_ => some k_ ≠ (s_.2.1 : Value).ownBlock ∧ some k_ ≠ (.slice Ao28 x10_2.length co28 : Value).ownBlock) s_.2.2 y647) ∧ (Kd.R kI_q 3 w' w.heap.size (fun k_ => some k_ ≠ (s_.2.1 : Value).ownBlock ∧ some k_ ≠ (s_.2.2 : Value).ownBlock) (.slice Ao28 x10_2.length co28) x10_2) ∧ (w'.heap[gb630]? = some (.cells #[.int .i64 a1_0, .slice A1_1 l1_1.length c1_1] 43 (0, 0))) ∧ (w'.heap[gb631]? = some (.cells #[.int .i64 a3_0, .int .i64 a3_1, .int .i64 a3_2] 31 (0, 0))) ∧ (Below w.heap.size w w')) ?_ ?_
       rotate_left
       ·intro hCont
        refine two_ (i := 10) (j := 14) (Ni := some 50) (Nj := some 54) #[true, true, true, true, true, true, true, true, true, true, true, true, false, true, false, false, false, false, false] #[true, true, true, true, true, true, true, true, true, true, false, true, false, true, true, false, false, false, false] rfl rfl rfl rfl (two_of HT_.out m8_q) (by decide) (by decide) (fun K hK => ?_) (fun K hK => ?_)
        ·skip
         refine rI_q kI_q _ 3 ?hg (N := 50) ?hd (xs := ([] : List Int)) (inner := []) (ok := fun _ => True) (okp := fun _ => True) ?hr ?hp (fun _ hk => hk) trivial (bR_q _ _) (nR_q _) (by simp) ?_; (case hd => rfl); (case hg => rfl); (case hr => exact m5_q); (case hp => exact m104_q)
         intro v642 w58 ho59 hb hg_ hnew_
         clear hg_ hnew_
         (first | rw [← Ny641.out] at ho59 | (simp only [Int.reduceToNat] at ho59; rw [← Ny641.out] at ho59))
         have HO643 := Ae_q (rL_q (rW_q ho59 (rT_q (rup HO_10.out))) (bZ_q m1_q))
         replace HO_10 := Ae_q (rE_q (rup HO_10.out) (rB_q ho59) hb)
         replace BK630 := Ae_q (bB_q (g := gb630) (o := .cells #[.int .i64 a1_0, .slice A1_1 l1_1.length c1_1] 43 (0, 0)) (bup BK630.out) hb)
         replace BK631 := Ae_q (bB_q (g := gb631) (o := .cells #[.int .i64 a3_0, .int .i64 a3_1, .int .i64 a3_2] 31 (0, 0)) (bup BK631.out) hb)
         replace HB := Ae_q (bT_q m1_q hb)
         clear hb ho59
         refine hK.out _ _ ⟨(bC_q BK631.out 0).trans rfl, (bC_q BK631.out 1).trans rfl, (bC_q BK631.out 2).trans rfl, (bC_q BK630.out 0).trans rfl, (bC_q BK630.out 1).trans rfl, (cel HB.out hw639_0), (cel HB.out hw639_1), (cel HB.out hw639_2), (cel HB.out hw639_3)⟩ (fun hHeld => ?_)
         clear hK K
         refine nJ_q ?_
         refine two_ (i := 12) (j := 14) (Ni := some 52) (Nj := some 54) #[true, true, true, true, true, true, true, true, true, true, true, true, true, true, false, false, false, false, false] #[true, true, true, true, true, true, true, true, true, true, true, true, false, true, true, false, false, false, false] rfl rfl rfl rfl (two_of HT_.out m8_q) (by decide) (by decide) (fun K hK => ?_) (fun K hK => ?_)
         ·skip
          refine rP_q kI_q (w0 := w) w.heap.size (by rfl) (.tmp 50) (.tmp 51) 23 3 (.int .i64 0) 8 rfl Try.underlying23 info3 rfl (by decide) (by omega) v642 y641 x10_2 _ _ _ (fun k_ => some k_ ≠ (.slice Ao28 x10_2.length co28 : Value).ownBlock) (fun _ => False) rfl rfl ?aO ?aR (fun _ _ h => h) (fun _ h => h.elim) ?aF ?aB ?aS ?aL ?_
          (case aR => exact m125_q)
          (case aB => exact m1_q)
          (case aF => exact m157_q)
          (case aO => exact m130_q)
          (case aS => exact m170_q)
          (case aL => exact m143_q)
          intro v645 w60 ho hb hg hat
          rw [← Ny644.out] at ho
          replace HO_10 := Ae_q (rF_q (ok := (fun _ => True)) (rup HO_10.out) hg hat)
          replace BK630 := Ae_q (bG_q (g := gb630) (o := .cells #[.int .i64 a1_0, .slice A1_1 l1_1.length c1_1] 43 (0, 0)) (bup BK630.out) hg (Kd.R_ne HO643.out BK630.out (by decide)))
          replace BK631 := Ae_q (bG_q (g := gb631) (o := .cells #[.int .i64 a3_0, .int .i64 a3_1, .int .i64 a3_2] 31 (0, 0)) (bup BK631.out) hg (Kd.R_ne HO643.out BK631.out (by decide)))
          replace HB := Ae_q (hb)
          have HO646 := Ae_q (ho)
          clear HO643
          clear ho hb hg hat
          refine hK.out _ _ ⟨(bC_q BK631.out 0).trans rfl, (bC_q BK631.out 1).trans rfl, (bC_q BK631.out 2).trans rfl, (bC_q BK630.out 0).trans rfl, (bC_q BK630.out 1).trans rfl, (cel HB.out hw639_0), (cel HB.out hw639_1), (cel HB.out hw639_2), (cel HB.out hw639_3)⟩ (fun hHeld => ?_)
          clear hK K
          refine nJ_q ?_
          refine one_ (i := 14) (N := some 54) #[true, true, true, true, true, true, true, true, true, true, true, true, true, true, true, false, false, false, false] rfl rfl (one_of HT_.out m8_q) (by decide) (fun K hK => ?_)
          refine rI_q kI_q _ 3 ?hg (N := 54) ?hd (xs := ([x12_3] : List Int)) (inner := [.int .i64 x12_3]) (ok := fun _ => True) (okp := fun _ => True) ?hr ?hp (fun _ hk => hk) trivial (bR_q _ _) (nR_q _) (by simp) ?_; (case hd => rfl); (case hg => rfl); (case hr => exact m5_q); (case hp => exact m71_q)
          intro v648 w61 ho62 hb hg_ hnew_
          clear hg_ hnew_
          (first | rw [← Ny647.out] at ho62 | (simp only [Int.reduceToNat] at ho62; rw [← Ny647.out] at ho62))
          have HO649 := Ae_q (rL_q (rW_q (rW_q ho62 (rT_q (rup HO_10.out))) (rT_q (rup HO646.out))) (bZ_q m1_q))
          replace HO_10 := Ae_q (rE_q (rup HO_10.out) (rB_q ho62) hb)
          replace HO646 := Ae_q (rE_q (rup HO646.out) (rB_q ho62) hb)
          replace BK630 := Ae_q (bB_q (g := gb630) (o := .cells #[.int .i64 a1_0, .slice A1_1 l1_1.length c1_1] 43 (0, 0)) (bup BK630.out) hb)
          replace BK631 := Ae_q (bB_q (g := gb631) (o := .cells #[.int .i64 a3_0, .int .i64 a3_1, .int .i64 a3_2] 31 (0, 0)) (bup BK631.out) hb)
          replace HB := Ae_q (bT_q m1_q hb)
          clear hb ho62
          refine hK.out _ _ ⟨(bC_q BK631.out 0).trans rfl, (bC_q BK631.out 1).trans rfl, (bC_q BK631.out 2).trans rfl, (bC_q BK630.out 0).trans rfl, (bC_q BK630.out 1).trans rfl, (cel HB.out hw639_0), (cel HB.out hw639_1), (cel HB.out hw639_2), (cel HB.out hw639_3)⟩ (fun hHeld => ?_)
          clear hK K
          refine nJ_q ?_
          exact norm_ m52_q (hCont (v642, v645, v648) _ ⟨hHeld, m39_q, m123_q, m82_q, (bup BK630.out), (bup BK631.out), m1_q⟩)
         skip
         refine rI_q kI_q _ 3 ?hg (N := 54) ?hd (xs := ([x12_3] : List Int)) (inner := [.int .i64 x12_3]) (ok := fun _ => True) (okp := fun _ => True) ?hr ?hp (fun _ hk => hk) trivial (bR_q _ _) (nR_q _) (by simp) ?_; (case hd => rfl); (case hg => rfl); (case hr => exact m5_q); (case hp => exact m71_q)
         intro v648 w60 ho61 hb hg_ hnew_
         clear hg_ hnew_
         (first | rw [← Ny647.out] at ho61 | (simp only [Int.reduceToNat] at ho61; rw [← Ny647.out] at ho61))
         have HO649 := Ae_q (rL_q (rW_q (rW_q ho61 (rT_q (rup HO_10.out))) (rT_q (rup HO643.out))) (bZ_q m1_q))
         replace HO_10 := Ae_q (rE_q (rup HO_10.out) (rB_q ho61) hb)
         replace HO643 := Ae_q (rE_q (rup HO643.out) (rB_q ho61) hb)
         replace BK630 := Ae_q (bB_q (g := gb630) (o := .cells #[.int .i64 a1_0, .slice A1_1 l1_1.length c1_1] 43 (0, 0)) (bup BK630.out) hb)
         replace BK631 := Ae_q (bB_q (g := gb631) (o := .cells #[.int .i64 a3_0, .int .i64 a3_1, .int .i64 a3_2] 31 (0, 0)) (bup BK631.out) hb)
         replace HB := Ae_q (bT_q m1_q hb)
         clear hb ho61
         refine hK.out _ _ ⟨(bC_q BK631.out 0).trans rfl, (bC_q BK631.out 1).trans rfl, (bC_q BK631.out 2).trans rfl, (bC_q BK630.out 0).trans rfl, (bC_q BK630.out 1).trans rfl, (cel HB.out hw639_0), (cel HB.out hw639_1), (cel HB.out hw639_2), (cel HB.out hw639_3)⟩ (fun hHeld => ?_)
         clear hK K
         refine nJ_q ?_
         refine one_ (i := 12) (N := some 52) #[true, true, true, true, true, true, true, true, true, true, true, true, true, true, true, false, false, false, false] rfl rfl (one_of HT_.out m8_q) (by decide) (fun K hK => ?_)
         refine rP_q kI_q (w0 := w) w.heap.size (by rfl) (.tmp 50) (.tmp 51) 23 3 (.int .i64 0) 8 rfl Try.underlying23 info3 rfl (by decide) (by omega) v642 y641 x10_2 _ _ _ (fun k_ => some k_ ≠ (.slice Ao28 x10_2.length co28 : Value).ownBlock ∧ some k_ ≠ (v648 : Value).ownBlock) (fun _ => False) rfl rfl ?aO ?aR (fun _ _ h => h) (fun _ h => h.elim) ?aF ?aB ?aS ?aL ?_
         (case aR => exact m125_q)
         (case aB => exact m1_q)
         (case aF => exact m66_q)
         (case aO => exact m83_q)
         (case aS => exact m170_q)
         (case aL => exact m143_q)
         intro v645 w62 ho hb hg hat
         rw [← Ny644.out] at ho
         replace HO_10 := Ae_q (rF_q (ok := (fun k_ => some k_ ≠ (v648 : Value).ownBlock)) m124_q hg hat)
         replace BK630 := Ae_q (bG_q (g := gb630) (o := .cells #[.int .i64 a1_0, .slice A1_1 l1_1.length c1_1] 43 (0, 0)) (bup BK630.out) hg (Kd.R_ne HO643.out BK630.out (by decide)))
         replace BK631 := Ae_q (bG_q (g := gb631) (o := .cells #[.int .i64 a3_0, .int .i64 a3_1, .int .i64 a3_2] 31 (0, 0)) (bup BK631.out) hg (Kd.R_ne HO643.out BK631.out (by decide)))
         replace HO649 := Ae_q (rF_q (ok := (fun k_ => some k_ ≠ (.slice Ao28 x10_2.length co28 : Value).ownBlock)) m84_q hg hat)
         replace HB := Ae_q (hb)
         have HO646 := Ae_q (ho)
         clear HO643
         clear ho hb hg hat
         refine hK.out _ _ ⟨(bC_q BK631.out 0).trans rfl, (bC_q BK631.out 1).trans rfl, (bC_q BK631.out 2).trans rfl, (bC_q BK630.out 0).trans rfl, (bC_q BK630.out 1).trans rfl, (cel HB.out hw639_0), (cel HB.out hw639_1), (cel HB.out hw639_2), (cel HB.out hw639_3)⟩ (fun hHeld => ?_)
         clear hK K
         refine nJ_q ?_
         exact norm_ m52_q (hCont (v642, v645, v648) _ ⟨hHeld, m39_q, m57_q, m58_q, (bup BK630.out), (bup BK631.out), m1_q⟩)
        skip
        refine rI_q kI_q _ 3 ?hg (N := 54) ?hd (xs := ([x12_3] : List Int)) (inner := [.int .i64 x12_3]) (ok := fun _ => True) (okp := fun _ => True) ?hr ?hp (fun _ hk => hk) trivial (bR_q _ _) (nR_q _) (by simp) ?_; (case hd => rfl); (case hg => rfl); (case hr => exact m5_q); (case hp => exact m71_q)
        intro v648 w58 ho59 hb hg_ hnew_
        clear hg_ hnew_
        (first | rw [← Ny647.out] at ho59 | (simp only [Int.reduceToNat] at ho59; rw [← Ny647.out] at ho59))
        have HO649 := Ae_q (rL_q (rW_q ho59 (rT_q (rup HO_10.out))) (bZ_q m1_q))
        replace HO_10 := Ae_q (rE_q (rup HO_10.out) (rB_q ho59) hb)
        replace BK630 := Ae_q (bB_q (g := gb630) (o := .cells #[.int .i64 a1_0, .slice A1_1 l1_1.length c1_1] 43 (0, 0)) (bup BK630.out) hb)
        replace BK631 := Ae_q (bB_q (g := gb631) (o := .cells #[.int .i64 a3_0, .int .i64 a3_1, .int .i64 a3_2] 31 (0, 0)) (bup BK631.out) hb)
        replace HB := Ae_q (bT_q m1_q hb)
        clear hb ho59
        refine hK.out _ _ ⟨(bC_q BK631.out 0).trans rfl, (bC_q BK631.out 1).trans rfl, (bC_q BK631.out 2).trans rfl, (bC_q BK630.out 0).trans rfl, (bC_q BK630.out 1).trans rfl, (cel HB.out hw639_0), (cel HB.out hw639_1), (cel HB.out hw639_2), (cel HB.out hw639_3)⟩ (fun hHeld => ?_)
        clear hK K
        refine nJ_q ?_
        refine one_ (i := 10) (N := some 50) #[true, true, true, true, true, true, true, true, true, true, true, true, false, true, true, false, false, false, false] rfl rfl (one_of HT_.out m8_q) (by decide) (fun K hK => ?_)
        refine rI_q kI_q _ 3 ?hg (N := 50) ?hd (xs := ([] : List Int)) (inner := []) (ok := fun _ => True) (okp := fun _ => True) ?hr ?hp (fun _ hk => hk) trivial (bR_q _ _) (nR_q _) (by simp) ?_; (case hd => rfl); (case hg => rfl); (case hr => exact m5_q); (case hp => exact m104_q)
        intro v642 w60 ho61 hb hg_ hnew_
        clear hg_ hnew_
        (first | rw [← Ny641.out] at ho61 | (simp only [Int.reduceToNat] at ho61; rw [← Ny641.out] at ho61))
        have HO643 := Ae_q (rL_q (rW_q (rW_q ho61 (rT_q (rup HO_10.out))) (rT_q (rup HO649.out))) (bZ_q m1_q))
        replace HO_10 := Ae_q (rE_q (rup HO_10.out) (rB_q ho61) hb)
        replace HO649 := Ae_q (rE_q (rup HO649.out) (rB_q ho61) hb)
        replace BK630 := Ae_q (bB_q (g := gb630) (o := .cells #[.int .i64 a1_0, .slice A1_1 l1_1.length c1_1] 43 (0, 0)) (bup BK630.out) hb)
        replace BK631 := Ae_q (bB_q (g := gb631) (o := .cells #[.int .i64 a3_0, .int .i64 a3_1, .int .i64 a3_2] 31 (0, 0)) (bup BK631.out) hb)
        replace HB := Ae_q (bT_q m1_q hb)
        clear hb ho61
        refine hK.out _ _ ⟨(bC_q BK631.out 0).trans rfl, (bC_q BK631.out 1).trans rfl, (bC_q BK631.out 2).trans rfl, (bC_q BK630.out 0).trans rfl, (bC_q BK630.out 1).trans rfl, (cel HB.out hw639_0), (cel HB.out hw639_1), (cel HB.out hw639_2), (cel HB.out hw639_3)⟩ (fun hHeld => ?_)
        clear hK K
        refine nJ_q ?_
        refine one_ (i := 12) (N := some 52) #[true, true, true, true, true, true, true, true, true, true, true, true, true, true, true, false, false, false, false] rfl rfl (one_of HT_.out m8_q) (by decide) (fun K hK => ?_)
        refine rP_q kI_q (w0 := w) w.heap.size (by rfl) (.tmp 50) (.tmp 51) 23 3 (.int .i64 0) 8 rfl Try.underlying23 info3 rfl (by decide) (by omega) v642 y641 x10_2 _ _ _ (fun k_ => some k_ ≠ (.slice Ao28 x10_2.length co28 : Value).ownBlock ∧ some k_ ≠ (v648 : Value).ownBlock) (fun _ => False) rfl rfl ?aO ?aR (fun _ _ h => h) (fun _ h => h.elim) ?aF ?aB ?aS ?aL ?_
        (case aR => exact m125_q)
        (case aB => exact m1_q)
        (case aF => exact m66_q)
        (case aO => exact m83_q)
        (case aS => exact m170_q)
        (case aL => exact m143_q)
        intro v645 w62 ho hb hg hat
        rw [← Ny644.out] at ho
        replace HO_10 := Ae_q (rF_q (ok := (fun k_ => some k_ ≠ (v648 : Value).ownBlock)) m82_q hg hat)
        replace BK630 := Ae_q (bG_q (g := gb630) (o := .cells #[.int .i64 a1_0, .slice A1_1 l1_1.length c1_1] 43 (0, 0)) (bup BK630.out) hg (Kd.R_ne HO643.out BK630.out (by decide)))
        replace BK631 := Ae_q (bG_q (g := gb631) (o := .cells #[.int .i64 a3_0, .int .i64 a3_1, .int .i64 a3_2] 31 (0, 0)) (bup BK631.out) hg (Kd.R_ne HO643.out BK631.out (by decide)))
        replace HO649 := Ae_q (rF_q (ok := (fun k_ => some k_ ≠ (.slice Ao28 x10_2.length co28 : Value).ownBlock)) m84_q hg hat)
        replace HB := Ae_q (hb)
        have HO646 := Ae_q (ho)
        clear HO643
        clear ho hb hg hat
        refine hK.out _ _ ⟨(bC_q BK631.out 0).trans rfl, (bC_q BK631.out 1).trans rfl, (bC_q BK631.out 2).trans rfl, (bC_q BK630.out 0).trans rfl, (bC_q BK630.out 1).trans rfl, (cel HB.out hw639_0), (cel HB.out hw639_1), (cel HB.out hw639_2), (cel HB.out hw639_3)⟩ (fun hHeld => ?_)
        clear hK K
        refine nJ_q ?_
        exact norm_ m52_q (hCont (v642, v645, v648) _ ⟨hHeld, m39_q, m57_q, m58_q, (bup BK630.out), (bup BK631.out), m1_q⟩)
       rintro ⟨v642, v645, v648⟩ w63 ⟨hS_, h0_, h1_, h2_, h3_, h4_, h5_⟩
       have n0_ : Aside0 (Kd.R kI_q 3 w63 w.heap.size (fun k_ => some k_ ≠ (v648 : Value).ownBlock ∧ some k_ ≠ (.slice Ao28 x10_2.length co28 : Value).ownBlock) v645 y644) := ⟨h0_⟩
       have n1_ : Aside0 (Kd.R kI_q 3 w63 w.heap.size (fun k_ => some k_ ≠ (v645 : Value).ownBlock ∧ some k_ ≠ (.slice Ao28 x10_2.length co28 : Value).ownBlock) v648 y647) := ⟨h1_⟩
       have n2_ : Aside0 (Kd.R kI_q 3 w63 w.heap.size (fun k_ => some k_ ≠ (v645 : Value).ownBlock ∧ some k_ ≠ (v648 : Value).ownBlock) (.slice Ao28 x10_2.length co28) x10_2) := ⟨h2_⟩
       have n3_ : Aside0 (w63.heap[gb630]? = some (.cells #[.int .i64 a1_0, .slice A1_1 l1_1.length c1_1] 43 (0, 0))) := ⟨h3_⟩
       have n4_ : Aside0 (w63.heap[gb631]? = some (.cells #[.int .i64 a3_0, .int .i64 a3_1, .int .i64 a3_2] 31 (0, 0))) := ⟨h4_⟩
       have n5_ : Aside0 (Below w.heap.size w w63) := ⟨h5_⟩
       clear HO_10
       clear BK630
       clear BK631
       clear HB
       clear h0_ h1_ h2_ h3_ h4_ h5_
       have HO646 := n0_
       have HO649 := n1_
       have HO_10 := n2_
       have BK630 := n3_
       have BK631 := n4_
       have HB := n5_
       clear n0_ n1_ n2_ n3_ n4_ n5_
       have hHeld : w63.cell? ⟨gb631, 0, none⟩ = some (.int .i64 a3_0) ∧ w63.cell? ⟨gb631, 1, none⟩ = some (.int .i64 a3_1) ∧ w63.cell? ⟨gb631, 2, none⟩ = some (.int .i64 a3_2) ∧ w63.cell? ⟨gb630, 0, none⟩ = some (.int .i64 a1_0) ∧ w63.cell? ⟨gb630, 1, none⟩ = some (.slice A1_1 l1_1.length c1_1) ∧ w63.cell? (ad639.add ((x11_2).toNat * 4)) = some (.int .i64 ((rd_T63 l0 x11_2).f0)) ∧ w63.cell? ⟨(ad639.add ((x11_2).toNat * 4)).block, (ad639.add ((x11_2).toNat * 4)).off + 1, none⟩ = some (.int .i64 ((rd_T63 l0 x11_2).f1)) ∧ w63.cell? ⟨(ad639.add ((x11_2).toNat * 4)).block, (ad639.add ((x11_2).toNat * 4)).off + 2, none⟩ = some (.int .i64 ((rd_T63 l0 x11_2).f2)) ∧ w63.cell? ⟨(ad639.add ((x11_2).toNat * 4)).block, (ad639.add ((x11_2).toNat * 4)).off + 3, none⟩ = some (.slice A639_3 ((rd_T63 l0 x11_2).f3).length c639_3) := hS_
       obtain ⟨Ao65, co65, eo65⟩ := rS_q HO649.out
       (first | subst eo65 | (injection eo65 with f1_ f2_ f3_; have f4_ := f1_.symm; have f5_ := f3_.symm; clear f1_ f2_ f3_; subst f4_; subst f5_))
       refine norm_ (a' := ?_) ?_ ?_
       rotate_left
       ·simp only [putAll, Act.put, sA_q, sZ_q, sS_q]
        rfl
       refine one_ (i := 15) (N := some 55) #[true, true, true, true, true, true, true, true, true, true, true, true, true, true, true, true, false, false, false] rfl rfl (one_of HT_.out m8_q) (by decide) (fun K hK => ?_)
       refine rP_q kI_q (w0 := w) w.heap.size (by rfl) (.tmp 52) (.tmp 54) 23 3 (.int .i64 0) 8 rfl Try.underlying23 info3 rfl (by decide) (by omega) v645 y644 y647 _ _ _ (fun k_ => some k_ ≠ (.slice Ao28 x10_2.length co28 : Value).ownBlock ∧ some k_ ≠ (.slice Ao65 y647.length co65 : Value).ownBlock) (fun _ => False) rfl rfl ?aO ?aR (fun _ _ h => h) (fun _ h => h.elim) ?aF ?aB ?aS ?aL ?_
       (case aR => exact cup (rR_q HO649.out).2.2)
       (case aB => exact m1_q)
       (case aF => exact m66_q)
       (case aO => exact m39_q)
       (case aS => exact m170_q)
       (case aL => have := LMc37.out; omega)
       intro v651 w64 ho hb hg hat
       rw [← Ny650.out] at ho
       replace HO_10 := Ae_q (rF_q (ok := (fun k_ => some k_ ≠ (.slice Ao65 y647.length co65 : Value).ownBlock)) m58_q hg hat)
       replace BK630 := Ae_q (bG_q (g := gb630) (o := .cells #[.int .i64 a1_0, .slice A1_1 l1_1.length c1_1] 43 (0, 0)) (bup BK630.out) hg (Kd.R_ne HO646.out BK630.out (by decide)))
       replace BK631 := Ae_q (bG_q (g := gb631) (o := .cells #[.int .i64 a3_0, .int .i64 a3_1, .int .i64 a3_2] 31 (0, 0)) (bup BK631.out) hg (Kd.R_ne HO646.out BK631.out (by decide)))
       replace HO649 := Ae_q (rF_q (ok := (fun k_ => some k_ ≠ (.slice Ao28 x10_2.length co28 : Value).ownBlock)) m57_q hg hat)
       replace HB := Ae_q (hb)
       have HO652 := Ae_q (ho)
       clear HO646
       clear ho hb hg hat
       obtain ⟨Ao66, co66, eo66⟩ := rS_q HO652.out
       (first | subst eo66 | (injection eo66 with f1_ f2_ f3_; have f4_ := f1_.symm; have f5_ := f3_.symm; clear f1_ f2_ f3_; subst f4_; subst f5_))
       refine hK.out _ _ ⟨(bC_q BK631.out 0).trans rfl, (bC_q BK631.out 1).trans rfl, (bC_q BK631.out 2).trans rfl, (bC_q BK630.out 0).trans rfl, (bC_q BK630.out 1).trans rfl, (cel HB.out hw639_0), (cel HB.out hw639_1), (cel HB.out hw639_2), (cel HB.out hw639_3)⟩ (fun hHeld => ?_)
       clear hK K
       refine nJ_q ?_
       refine one_ (i := 16) (N := some 56) #[true, true, true, true, true, true, true, true, true, true, true, true, true, true, true, true, true, false, false] rfl rfl (one_of HT_.out m8_q) (by decide) (fun K hK => ?_)
       refine goes_ Try.func47 m8_q rfl #[.slice (some ad639) l0.length c0, .agg #[.int .i64 a1_0, .slice A1_1 l1_1.length c1_1], .slice Ao66 y650.length co66] (by rfl) rfl rfl m0_q ?_
       with_reducible refine (spec_l32Room.calls k3 _ _ l0 a1_0 _ _ l1_1 _ _ y650 true _ ?side1 ?side2 ?side3 ?side4 ?side5 ?side6 A38.out).mono ?_
       (case side1 => exact m42_q)
       (case side2 => exact m97_q)
       (case side3 => exact m67_q)
       (case side4 => exact m119_q)
       (case side5 => exact cup (rR_q HO652.out).2.2)
       (case side6 => exact (rR_q HO652.out).2.1)
       rintro e w' ⟨rfl, hb⟩
       refine ⟨_, rfl, ?_⟩
       replace HO_10 := Ae_q (rO_q (rup HO_10.out) hb)
       replace HO649 := Ae_q (rO_q (rup HO649.out) hb)
       replace HO652 := Ae_q (rO_q (rup HO652.out) hb)
       replace BK630 := Ae_q (bB_q (g := gb630) (o := .cells #[.int .i64 a1_0, .slice A1_1 l1_1.length c1_1] 43 (0, 0)) (bup BK630.out) hb)
       replace BK631 := Ae_q (bB_q (g := gb631) (o := .cells #[.int .i64 a3_0, .int .i64 a3_1, .int .i64 a3_2] 31 (0, 0)) (bup BK631.out) hb)
       replace HB := Ae_q (bT_q m1_q hb)
       (try clear hb)
       (try clear hb2)
       (try clear hk)
       (try clear hi)
       refine hK.out _ _ ⟨(bC_q BK631.out 0).trans rfl, (bC_q BK631.out 1).trans rfl, (bC_q BK631.out 2).trans rfl, (bC_q BK630.out 0).trans rfl, (bC_q BK630.out 1).trans rfl, (cel HB.out hw639_0), (cel HB.out hw639_1), (cel HB.out hw639_2), (cel HB.out hw639_3)⟩ (fun hHeld => ?_)
       clear hK K
       refine nJ_q ?_
       refine pJ HT_ 17 57 rfl rfl ?_
       refine pJ HT_ 18 58 rfl rfl ?_
       refine done_ (done_of HT_.out m8_q) ?_
       try go_wp2_with (first | ((with_reducible refine gD_q (N := 66) rfl ?_); (try (refine gate_guard (by rfl) ?_; dsimp only)); refine Kd.R_lit kI_q _ 3 ?hg (N := 66) ?hd (xs := ([x12_3] : List Int)) (inner := [.int .i64 x12_3]) (ok := fun _ => True) (okp := fun _ => True) ?hr ?hp (fun _ hk => hk) trivial (bR_q _ _) (nR_q _) (by simp) ?_; (case hd => rfl); (case hg => rfl); (case hr => exact m5_q); (case hp => exact m71_q); intro v658 w68 ho69 hb hg_ hnew_; clear hg_ hnew_; (first | rw [← Ny657.out] at ho69 | (simp only [Int.reduceToNat] at ho69; rw [← Ny657.out] at ho69)); have HO659 := Ae_q (rL_q (rW_q (rW_q (rW_q ho69 (rT_q (rup HO_10.out))) (rT_q (rup HO649.out))) (rT_q (rup HO652.out))) (bZ_q m1_q)); replace HO_10 := Ae_q (rE_q (rup HO_10.out) (rB_q ho69) hb); replace HO649 := Ae_q (rE_q (rup HO649.out) (rB_q ho69) hb); replace HO652 := Ae_q (rE_q (rup HO652.out) (rB_q ho69) hb); replace BK630 := Ae_q (bB_q (g := gb630) (o := .cells #[.int .i64 a1_0, .slice A1_1 l1_1.length c1_1] 43 (0, 0)) (bup BK630.out) hb); replace BK631 := Ae_q (bB_q (g := gb631) (o := .cells #[.int .i64 a3_0, .int .i64 a3_1, .int .i64 a3_2] 31 (0, 0)) (bup BK631.out) hb); replace HB := Ae_q (bT_q m1_q hb); clear hb ho69; obtain ⟨Ao71, co71, eo71⟩ := rS_q HO659.out; subst eo71) | ((with_reducible refine gate_builtin (b := .append) (xs := #[.tmp 64, .tmp 66]) rfl ?_); (try (refine gate_guard (by rfl) ?_; dsimp only)); at_builtin; refine Kd.R_append_rows kI_q (w0 := w) w.heap.size rfl (.tmp 64) (.tmp 66) 23 3 (.int .i64 0) 8 rfl Try.underlying23 info3 rfl (by decide) (by omega) (.slice Ao28 x10_2.length co28) x10_2 y657 _ _ _ (fun k_ => some k_ ≠ (.slice Ao65 y647.length co65 : Value).ownBlock ∧ some k_ ≠ (.slice Ao66 y650.length co66 : Value).ownBlock ∧ some k_ ≠ (.slice Ao71 y657.length co71 : Value).ownBlock) (fun _ => False) rfl rfl ?aO ?aR (fun _ _ h => h) (fun _ h => h.elim) ?aF ?aB ?aS ?aL ?_; (case aR => exact cup (rR_q HO659.out).2.2); (case aB => exact m1_q); (case aF => exact (fun k_ hk => ⟨Kd.fresh' (rT_q (rup HO649.out)) k_ hk, Kd.fresh' (rT_q (rup HO652.out)) k_ hk, Kd.fresh' (rT_q (rup HO659.out)) k_ hk⟩)); (case aO => exact (by (with_reducible repeat (first | apply rA_q | apply rN_q | apply rD_q)); exact rM_q HO_10.out (fun _ hk => ⟨hk.1.1, ⟨hk.1.2, hk.2⟩⟩))); (case aS => exact m170_q); (case aL => have := LMc55.out; omega); intro v661 w70 ho hb hg hat; rw [← Ny660.out] at ho; replace BK630 := Ae_q (bG_q (g := gb630) (o := .cells #[.int .i64 a1_0, .slice A1_1 l1_1.length c1_1] 43 (0, 0)) (bup BK630.out) hg (Kd.R_ne HO_10.out BK630.out (by decide))); replace BK631 := Ae_q (bG_q (g := gb631) (o := .cells #[.int .i64 a3_0, .int .i64 a3_1, .int .i64 a3_2] 31 (0, 0)) (bup BK631.out) hg (Kd.R_ne HO_10.out BK631.out (by decide))); replace HO649 := Ae_q (rF_q (ok := (fun k_ => some k_ ≠ (.slice Ao66 y650.length co66 : Value).ownBlock ∧ some k_ ≠ (.slice Ao71 y657.length co71 : Value).ownBlock)) (by (with_reducible repeat (first | apply rA_q | apply rN_q | apply rD_q)); exact rM_q HO649.out (fun _ hk => ⟨⟨hk.1.2, hk.2⟩, hk.1.1⟩)) hg hat); replace HO652 := Ae_q (rF_q (ok := (fun k_ => some k_ ≠ (.slice Ao65 y647.length co65 : Value).ownBlock ∧ some k_ ≠ (.slice Ao71 y657.length co71 : Value).ownBlock)) (by (with_reducible repeat (first | apply rA_q | apply rN_q | apply rD_q)); exact rM_q HO652.out (fun _ hk => ⟨⟨hk.1.2, hk.2⟩, hk.1.1⟩)) hg hat); replace HO659 := Ae_q (rF_q (ok := (fun k_ => some k_ ≠ (.slice Ao65 y647.length co65 : Value).ownBlock ∧ some k_ ≠ (.slice Ao66 y650.length co66 : Value).ownBlock)) (by (with_reducible repeat (first | apply rA_q | apply rN_q | apply rD_q)); exact rM_q HO659.out (fun _ hk => ⟨⟨hk.1.2, hk.2⟩, hk.1.1.2⟩)) hg hat); replace HB := Ae_q (hb); have HO662 := Ae_q (ho); clear HO_10; clear ho hb hg hat))
       go_roundg k3
       case measure => have := HJ4.out; have := HK2.out; have := HK3.out; omega
       case rel => exact ⟨(y660), (wrap64 (x11_2 + 1)), m7_q, H', ⟨m161_q⟩, ⟨by (with_reducible repeat (first | apply rA_q | apply rN_q | apply rD_q)); exact rM_q HO662.out (fun _ hk => trivial)⟩, ⟨bup BK630.out⟩, ⟨bup BK631.out⟩, ⟨m1_q⟩⟩

end Go.Proofs.Ytfnpiacmlahegaa.PRp
