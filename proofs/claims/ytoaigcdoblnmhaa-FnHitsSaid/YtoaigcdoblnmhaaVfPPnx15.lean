import Derived.Test.YtoaigcdoblnmhaaVfPPnx0
import Derived.Test.YtoaigcdoblnmhaaVfPPnx1
import Derived.Test.YtoaigcdoblnmhaaVfPPnx8
import Derived.Test.YtoaigcdoblnmhaaVfPPnx14
namespace Go.Proofs.Ytoaigcdoblnmhaa.PPn
open Go.RowKit Go.Proofs.YtoaigcdoblnmhaaW.PrintWords Go.Proofs.YtoaigcdoblnmhaaW.PrintLast Go.Proofs.YtoaigcdoblnmhaaW.PrintMore
attribute [local go_sem] max2_int min2_int max_two min_two max_three min_three max_four min_four
set_option linter.unusedVariables false
set_option linter.unusedSimpArgs false

mutual
def spec_DrawOutageHits.j0 : Nat → List (S31) → List Int → Bool → List Int → Int → Int → Int → Int → Option ((List (S31)) × List Int × Int × Int × Int)
 | 0, _, _, _, _, _, _, _, _ => none
 | k + 1, x6, x8, x35, x402000, x402001, x419000, x419001, x419002 => if x35 = true then ((spec_l6Rd_pick.f k x402000 x402001 (x6.length : Int)).bind fun bt421 => (if 0 ≤ bt421.1 then (if bt421.1 < (x6.length : Int) then (if ((rd_T31 x6 bt421.1).f2) > 0 then (if bt421.1 < (x8.length : Int) then (if (rd x8 bt421.1) ≥ 0 then (spec_DrawOutageHits.j1 k x6 x8 bt421.1 (decide ((rd x8 bt421.1) < 900)) x402000 bt421.2 x419000 x419001 x419002) else (spec_DrawOutageHits.j1 k x6 x8 bt421.1 false x402000 bt421.2 x419000 x419001 x419002)) else (none)) else (spec_DrawOutageHits.j1 k x6 x8 bt421.1 false x402000 bt421.2 x419000 x419001 x419002)) else (none)) else (none))) else (some (x6, x8, x419000, x419001, x419002))
def spec_DrawOutageHits.j1 : Nat → List (S31) → List Int → Int → Bool → List Int → Int → Int → Int → Int → Option ((List (S31)) × List Int × Int × Int × Int)
 | 0, _, _, _, _, _, _, _, _, _ => none
 | k + 1, x6, x8, x10, x59, x402000, x402001, x419000, x419001, x419002 => if x59 = true then (if 0 ≤ x10 then (if x10 < (x6.length : Int) then (if x10 < (x8.length : Int) then ((spec_l6Rd_pick.f k x402000 x402001 4).bind fun bt428 => ((spec_l6Rd_pick.f k x402000 bt428.2 9).bind fun bt430 => (some (x6, x8, (rd_T31 x6 x10).f2, wrap64 ((rd x8 x10) + bt428.1), wrap64 ((wrap64 ((rd x8 x10) + bt428.1)) + bt430.1))))) else (none)) else (none)) else (none)) else (some (x6, x8, x419000, x419001, x419002))
end
def spec_DrawOutageHits.f (k : Nat) (l0 : List Int) : Option ((List (S31)) × List Int × Int × Int × Int) := (spec_l6Open.f l0).bind fun bt399 => ((spec_l92Plan.f k bt399.1 bt399.2).bind fun bt402 => ((spec_l92Outage.f k bt399.1 bt402.2.2.2.2).bind fun bt414 => (if (bt402.1.length : Int) > 0 then (if (bt402.2.2.2.1.length : Int) = (bt402.1.length : Int) then ((spec_l6Rd_pick.f k bt399.1 bt414.2.2.2 4).bind fun bt419 => (spec_DrawOutageHits.j0 k bt402.1 bt402.2.2.2.1 (decide (bt419.1 > 0)) bt399.1 bt419.2 bt414.1 bt414.2.1 bt414.2.2.1)) else (spec_DrawOutageHits.j0 k bt402.1 bt402.2.2.2.1 false bt399.1 bt414.2.2.2 bt414.1 bt414.2.1 bt414.2.2.1)) else (spec_DrawOutageHits.j0 k bt402.1 bt402.2.2.2.1 false bt399.1 bt414.2.2.2 bt414.1 bt414.2.1 bt414.2.2.1))))
def spec_DrawOutageHits.T8 : Bool × List (List Nat × List Nat) := (true, [([], []), ([], []), ([0, 1], [0, 1]), ([2], [2]), ([], []), ([4], [4]), ([3, 5], [3, 5]), ([0, 1, 2, 3, 4, 5, 6], []), ([7, 6, 5, 0, 1, 2, 3, 4, 5, 6], [6, 7])])
def spec_DrawOutageHits.B8 : List Nat := [0, 0, 3, 7, 0, 16, 63, 127, 255]
theorem spec_DrawOutageHits.tab8 : rtab .any (opsOf Try.f28 8) = spec_DrawOutageHits.T8 := by kernel_rfl
theorem spec_DrawOutageHits.bits8 : waitsOk spec_DrawOutageHits.T8.2 spec_DrawOutageHits.B8 = true := by kernel_rfl
set_option maxHeartbeats 8000000 in
set_option maxRecDepth 100000 in
theorem spec_DrawOutageHits.calls (k : Nat) (A0 : Option Addr) (c0 : Nat) (l0 : List Int) (r1 : List (S31)) (r2 : List Int) (r3 : Int) (r4 : Int) (r5 : Int) (w : World) (hr0 : Kd.C (Kd.int .u8) w A0 l0.length l0) (hc0 : l0.length ≤ c0) (h : spec_DrawOutageHits.f k l0 = some (r1, r2, r3, r4, r5)) :
    Calls Try.prog 28 #[.slice A0 l0.length c0] w fun e w' => ∃ v0_ v1_ : Value, e = .returned (.tuple #[v0_, v1_, .agg #[.int .i64 r3, .int .i64 r4, .int .i64 r5]]) ∧ Kd.S k31 31 w' w.heap.size (fun k_ => some k_ ≠ (v1_ : Value).ownBlock) v0_ r1 ∧ Kd.R kI_q 3 w' w.heap.size (fun _ => True) v1_ r2 ∧ Below w.heap.size w w' := by
 have hu52 := Try.underlying52
 have hu41 := Try.underlying41
 have HR0 := Ae_q hr0
 have HC0 := Ae_q hc0
 clear hr0 hc0
 have HB := Ae_q (bR_q w.heap.size w)
 have H : ((spec_l6Open.f l0).bind fun bt399 => ((spec_l92Plan.f k bt399.1 bt399.2).bind fun bt402 => ((spec_l92Outage.f k bt399.1 bt402.2.2.2.2).bind fun bt414 => (if (bt402.1.length : Int) > 0 then (if (bt402.2.2.2.1.length : Int) = (bt402.1.length : Int) then ((spec_l6Rd_pick.f k bt399.1 bt414.2.2.2 4).bind fun bt419 => (spec_DrawOutageHits.j0 k bt402.1 bt402.2.2.2.1 (decide (bt419.1 > 0)) bt399.1 bt419.2 bt414.1 bt414.2.1 bt414.2.2.1)) else (spec_DrawOutageHits.j0 k bt402.1 bt402.2.2.2.1 false bt399.1 bt414.2.2.2 bt414.1 bt414.2.1 bt414.2.2.1)) else (spec_DrawOutageHits.j0 k bt402.1 bt402.2.2.2.1 false bt399.1 bt414.2.2.2 bt414.1 bt414.2.1 bt414.2.2.1))))) = some (r1, r2, r3, r4, r5) := h
 clear h
 replace H := oB_q.mp H
 obtain ⟨⟨t399, t400⟩, A20, H⟩ := H
 replace H : ((spec_l92Plan.f k t399 t400).bind fun bt402 => ((spec_l92Outage.f k t399 bt402.2.2.2.2).bind fun bt414 => (if (bt402.1.length : Int) > 0 then (if (bt402.2.2.2.1.length : Int) = (bt402.1.length : Int) then ((spec_l6Rd_pick.f k t399 bt414.2.2.2 4).bind fun bt419 => (spec_DrawOutageHits.j0 k bt402.1 bt402.2.2.2.1 (decide (bt419.1 > 0)) t399 bt419.2 bt414.1 bt414.2.1 bt414.2.2.1)) else (spec_DrawOutageHits.j0 k bt402.1 bt402.2.2.2.1 false t399 bt414.2.2.2 bt414.1 bt414.2.1 bt414.2.2.1)) else (spec_DrawOutageHits.j0 k bt402.1 bt402.2.2.2.1 false t399 bt414.2.2.2 bt414.1 bt414.2.1 bt414.2.2.1)))) = some (r1, r2, r3, r4, r5) := H
 have A2 := Ae_q A20
 clear A20
 replace H := oB_q.mp H
 obtain ⟨⟨t402, t405, t406, t409, t412⟩, A30, H⟩ := H
 replace H : ((spec_l92Outage.f k t399 t412).bind fun bt414 => (if (t402.length : Int) > 0 then (if (t409.length : Int) = (t402.length : Int) then ((spec_l6Rd_pick.f k t399 bt414.2.2.2 4).bind fun bt419 => (spec_DrawOutageHits.j0 k t402 t409 (decide (bt419.1 > 0)) t399 bt419.2 bt414.1 bt414.2.1 bt414.2.2.1)) else (spec_DrawOutageHits.j0 k t402 t409 false t399 bt414.2.2.2 bt414.1 bt414.2.1 bt414.2.2.1)) else (spec_DrawOutageHits.j0 k t402 t409 false t399 bt414.2.2.2 bt414.1 bt414.2.1 bt414.2.2.1))) = some (r1, r2, r3, r4, r5) := H
 have A3 := Ae_q A30
 clear A30
 replace H := oB_q.mp H
 obtain ⟨⟨t414, t415, t416, t417⟩, A40, H⟩ := H
 replace H : (if (t402.length : Int) > 0 then (if (t409.length : Int) = (t402.length : Int) then ((spec_l6Rd_pick.f k t399 t417 4).bind fun bt419 => (spec_DrawOutageHits.j0 k t402 t409 (decide (bt419.1 > 0)) t399 bt419.2 t414 t415 t416)) else (spec_DrawOutageHits.j0 k t402 t409 false t399 t417 t414 t415 t416)) else (spec_DrawOutageHits.j0 k t402 t409 false t399 t417 t414 t415 t416)) = some (r1, r2, r3, r4, r5) := H
 have A4 := Ae_q A40
 clear A40
 have HC5 := Ae_q H
 clear H
 go_enter Try.func28, Try.ntmps28
 go_upto_region 4 with (first | ((with_reducible refine gD_q (N := 4) rfl ?_); (try (refine gate_guard (by rfl) ?_; dsimp only)); refine bE_q ?hg (N := 4) ?hd (cs := #[.int .i64 0, .int .i64 0, .int .i64 0]) (t := 52) ?hr ?_; (case hd => rfl); (case hg => rfl); (case hr => first | (go_simp; done) | (go_simp; rfl)); intro gb398 hg w6 hbox hb; have n0_ := Ae_q (bT_q (bel HB.out) hb); have n1_ := Ae_q (hbox); have n2_ := Ae_q ((by rw [hg]; exact (bZ_q (bel HB.out)) : w.heap.size ≤ gb398)); have n3_ := Ae_q ((by rw [hg]; exact (bZ_q (bel HB.out)) : w.heap.size ≤ gb398)); clear HB; have HB := n0_; have BK398 := n1_; have GW398 := n2_; have GE398 := n3_; clear n0_ n1_ n2_ n3_; clear hb hbox hg) | ((with_reducible refine gC_q (f := 32) rfl ?_); refine gL_q (some 12) rfl rfl Try.func32 (by kernel_rfl) rfl #[.slice A0 l0.length c0] rfl (by (try simp only [lM_q, lC_q, lN_q]); first | done | rfl | (simp only [lD_q, lT_q]; rfl)) ?_; (with_reducible refine (spec_l6Open.calls _ _ l0 t399 t400 w _ ?side1 ?side2 ?side3 A2.out).mono ?_); (case side1 => repeat (with_reducible first | exact HB.out | apply bA_q | apply pB_q | apply bD_q | refine bS_q ?_ GE398.out)); (case side2 => exact HR0.out); (case side3 => exact HC0.out); rintro e w7 ⟨g401, rfl, hi, hb, hb2⟩; refine ⟨_, rfl, ?_⟩; have n0_ := Ae_q (bB_q (g := gb398) (o := .cells #[.int .i64 0, .int .i64 0, .int .i64 0] 52 (0, 0)) (bup BK398.out) hb2); have n1_ := Ae_q (hb); have n2_ := Ae_q (hi); have n3_ := Ae_q (IsS74.ne_blk hi (bB_q (g := gb398) (o := .cells #[.int .i64 0, .int .i64 0, .int .i64 0] 52 (0, 0)) (bup BK398.out) hb2) (by decide)); have n4_ := Ae_q (Ne.symm (IsS74.ne_blk hi (bB_q (g := gb398) (o := .cells #[.int .i64 0, .int .i64 0, .int .i64 0] 52 (0, 0)) (bup BK398.out) hb2) (by decide))); clear BK398; clear HB; have BK398 := n0_; have HB := n1_; have HI401 := n2_; have NB401_398 := n3_; have NB398_401 := n4_; clear n0_ n1_ n2_ n3_ n4_; (try clear hb); (try clear hb2); (try clear hk); (try clear hi)) | ((with_reducible refine gC_q (f := 33) rfl ?_); refine gL_q (some 15) rfl rfl Try.func33 (by kernel_rfl) rfl #[.pointer (some ⟨g401, 0, none⟩)] rfl (by (try simp only [lM_q, lC_q, lN_q]); first | done | rfl | (simp only [lD_q, lT_q]; rfl)) ?_; (with_reducible refine (spec_l92Plan.calls k g401 t399 t400 t402 t405 t406 t409 t412 w _ ?side1 ?side2 A3.out).mono ?_); (case side1 => repeat (with_reducible first | exact HI401.out | apply i3_q | apply i2_q | apply i1_q | apply i4_q | refine i0_q ?_ NB401_398.out _)); (case side2 => repeat (with_reducible first | exact HB.out | apply bA_q | apply pB_q | apply bD_q | refine bS_q ?_ (i5_q HI401.out) | refine bS_q ?_ GE398.out)); rintro e w8 ⟨v403, v407, v410, rfl, ho0, ho1, ho2, hi, hb, hk⟩; refine ⟨_, rfl, ?_⟩; have n0_ := Ae_q (kB_q hk (g' := gb398) (o := .cells #[.int .i64 0, .int .i64 0, .int .i64 0] 52 (0, 0)) (bup BK398.out) NB398_401.out (by simp)); have n1_ := Ae_q (Kd.S_lower ho0 (bZ_q (by repeat (with_reducible first | exact HB.out | apply bA_q | apply pB_q | apply bD_q | refine bS_q ?_ (i5_q HI401.out) | refine bS_q ?_ GE398.out)))); have n2_ := Ae_q (rL_q ho1 (bZ_q (by repeat (with_reducible first | exact HB.out | apply bA_q | apply pB_q | apply bD_q | refine bS_q ?_ (i5_q HI401.out) | refine bS_q ?_ GE398.out)))); have n3_ := Ae_q (rL_q ho2 (bZ_q (by repeat (with_reducible first | exact HB.out | apply bA_q | apply pB_q | apply bD_q | refine bS_q ?_ (i5_q HI401.out) | refine bS_q ?_ GE398.out)))); have n4_ := Ae_q (hb); have n5_ := Ae_q (hi); clear BK398; clear HB; clear HI401; have BK398 := n0_; have HO404 := n1_; have HO408 := n2_; have HO411 := n3_; have HB := n4_; have HI401 := n5_; clear n0_ n1_ n2_ n3_ n4_ n5_; (try clear hb); (try clear hb2); (try clear hk); (try clear hi); (try clear ho0); (try clear ho1); (try clear ho2)) | ((with_reducible refine gD_q (N := 7) rfl ?_); (try (refine gate_guard (by rfl) ?_; dsimp only)); refine bE_q ?hg (N := 7) ?hd (cs := #[.int .i64 0, .slice none 0 0]) (t := 41) ?hr ?_; (case hd => rfl); (case hg => rfl); (case hr => first | (go_simp; done) | (go_simp; rfl)); intro gb413 hg w9 hbox hb; have n0_ := Ae_q (Kd.S_below (by (with_reducible repeat (first | apply tA_q | apply tN_q | apply tD_q)); exact HO404.out) hb); have n1_ := Ae_q (rO_q (rup HO408.out) hb); have n2_ := Ae_q (rO_q (rup HO411.out) hb); have n3_ := Ae_q (bB_q (g := gb398) (o := .cells #[.int .i64 0, .int .i64 0, .int .i64 0] 52 (0, 0)) (bup BK398.out) hb); have n4_ := Ae_q (i7_q (by repeat (with_reducible first | exact HI401.out | apply i3_q | apply i2_q | apply i1_q | apply i4_q | refine i0_q ?_ NB401_398.out _)) hb); have n5_ := Ae_q (bT_q (by repeat (with_reducible first | exact HB.out | apply bA_q | apply pB_q | apply bD_q | refine bS_q ?_ (i5_q HI401.out) | refine bS_q ?_ GE398.out)) hb); have n6_ := Ae_q (hbox); have n7_ := Ae_q ((by rw [hg]; exact (bZ_q (by repeat (with_reducible first | exact HB.out | apply bA_q | apply pB_q | apply bD_q | refine bS_q ?_ (i5_q HI401.out) | refine bS_q ?_ GE398.out))) : w.heap.size ≤ gb413)); have n8_ := Ae_q ((by rw [hg]; exact (bZ_q (by repeat (with_reducible first | exact HB.out | apply bA_q | apply pB_q | apply bD_q | refine bS_q ?_ (i5_q HI401.out) | refine bS_q ?_ GE398.out))) : w.heap.size ≤ gb413)); have n9_ := Ae_q ((by rw [hg]; exact nL_q (blk_lt (g := gb398) (o := .cells #[.int .i64 0, .int .i64 0, .int .i64 0] 52 (0, 0)) (bup BK398.out)) : gb398 ≠ gb413)); have n10_ := Ae_q ((by rw [hg]; exact nG_q (blk_lt (g := gb398) (o := .cells #[.int .i64 0, .int .i64 0, .int .i64 0] 52 (0, 0)) (bup BK398.out)) : gb413 ≠ gb398)); have n11_ := Ae_q ((by rw [hg]; exact nL_q (i6_q (show IsS74 w _ g401 t399 t412 from by repeat (with_reducible first | exact HI401.out | apply i3_q | apply i2_q | apply i1_q | apply i4_q | refine i0_q ?_ NB401_398.out _))) : g401 ≠ gb413)); have n12_ := Ae_q ((by rw [hg]; exact nG_q (i6_q (show IsS74 w _ g401 t399 t412 from by repeat (with_reducible first | exact HI401.out | apply i3_q | apply i2_q | apply i1_q | apply i4_q | refine i0_q ?_ NB401_398.out _))) : gb413 ≠ g401)); clear HO404; clear HO408; clear HO411; clear BK398; clear HI401; clear HB; have HO404 := n0_; have HO408 := n1_; have HO411 := n2_; have BK398 := n3_; have HI401 := n4_; have HB := n5_; have BK413 := n6_; have GW413 := n7_; have GE413 := n8_; have NB398_413 := n9_; have NB413_398 := n10_; have NB401_413 := n11_; have NB413_401 := n12_; clear n0_ n1_ n2_ n3_ n4_ n5_ n6_ n7_ n8_ n9_ n10_ n11_ n12_; clear hb hbox hg; have hnb10 := NB413_398.out; have hnc10 := NB398_413.out; have hnb11 := NB413_401.out; have hnc11 := NB401_413.out; have hcz12_0 : w9.cell? ⟨gb413, 0, none⟩ = some (.int .i64 0) := (bC_q BK413.out 0).trans rfl; have hcz12_1 : w9.cell? ⟨gb413, 1, none⟩ = some (.slice none 0 0) := (bC_q BK413.out 1).trans rfl; have hfz12_0 := bF_q BK413.out 0; have hfz12_1 := bF_q BK413.out 1; obtain ⟨Ao13, co13, eo13⟩ := rS_q HO408.out; subst eo13) | ((with_reducible refine gC_q (f := 49) rfl ?_); refine gL_q (some 20) rfl rfl Try.func49 (by kernel_rfl) rfl #[.pointer (some ⟨g401, 0, none⟩)] rfl (by (try simp only [lM_q, lC_q, lN_q]); first | done | rfl | (simp only [lD_q, lT_q]; rfl)) ?_; (with_reducible refine (spec_l92Outage.calls k g401 t399 t412 t414 t415 t416 t417 w _ ?side1 ?side2 A4.out).mono ?_); (case side1 => repeat (with_reducible first | exact HI401.out | apply i3_q | apply i2_q | apply i1_q | apply i4_q | refine i0_q ?_ NB401_398.out _ | refine i0_q ?_ NB401_413.out _)); (case side2 => repeat (with_reducible first | exact HB.out | apply bA_q | apply pB_q | apply bD_q | refine bS_q ?_ (i5_q HI401.out) | refine bS_q ?_ GE398.out | refine bS_q ?_ GE413.out)); rintro e w14 ⟨rfl, hi, hb, hk⟩; refine ⟨_, rfl, ?_⟩; have n0_ := Ae_q (kB_q hk (g' := gb398) (o := .cells #[.int .i64 0, .int .i64 0, .int .i64 0] 52 (0, 0)) (by (with_reducible repeat (first | refine bN_q ?_ _ | refine bW_q ?_ | refine bL_q ?_ _)); refine blk_far ?_ NB398_413.out _; (with_reducible repeat (first | refine bN_q ?_ _ | refine bW_q ?_ | refine bL_q ?_ _)); refine blk_far ?_ NB398_413.out _; (with_reducible repeat (first | refine bN_q ?_ _ | refine bW_q ?_ | refine bL_q ?_ _)); exact BK398.out) NB398_401.out (by simp)); have n1_ := Ae_q (Kd.S_mono (Kd.S_keep (IsS74.apartS (show IsS74 w _ g401 t399 t412 from by repeat (with_reducible first | exact HI401.out | apply i3_q | apply i2_q | apply i1_q | apply i4_q | refine i0_q ?_ NB401_398.out _ | refine i0_q ?_ NB401_413.out _)) (by (with_reducible repeat (first | apply tA_q | apply tN_q | apply tD_q)); exact (Kd.S_mono (Kd.S_far (p := ⟨gb413, 1, none⟩) (Kd.S_far (p := ⟨gb413, 0, none⟩) (Kd.S_types HO404.out BK413.out (by decide)) (fun _ hk => hk.2) (.int .i64 t405)) (fun _ hk => hk.2) (.slice Ao13 t406.length co13)) (fun _ h_ => h_.1))) (by decide)) hk (fun _ h => h.2)) (fun _ h => h.1)); have n2_ := Ae_q (rM_q (rK_q (i8_q (show IsS74 w _ g401 t399 t412 from by repeat (with_reducible first | exact HI401.out | apply i3_q | apply i2_q | apply i1_q | apply i4_q | refine i0_q ?_ NB401_398.out _ | refine i0_q ?_ NB401_413.out _)) (by (with_reducible repeat (first | apply rA_q | apply rN_q | apply rD_q)); exact (rM_q (Kd.R_far (p := ⟨gb413, 1, none⟩) (Kd.R_far (p := ⟨gb413, 0, none⟩) (Kd.R_types HO408.out BK413.out (by decide)) (fun _ hk => hk.2) (.int .i64 t405)) (fun _ hk => hk.2) (.slice Ao13 t406.length co13)) (fun _ h_ => h_.1))) (by decide)) hk (fun _ h => h.2)) (fun _ h => h.1)); have n3_ := Ae_q (rM_q (rK_q (i8_q (show IsS74 w _ g401 t399 t412 from by repeat (with_reducible first | exact HI401.out | apply i3_q | apply i2_q | apply i1_q | apply i4_q | refine i0_q ?_ NB401_398.out _ | refine i0_q ?_ NB401_413.out _)) (by (with_reducible repeat (first | apply rA_q | apply rN_q | apply rD_q)); exact (rM_q (Kd.R_far (p := ⟨gb413, 1, none⟩) (Kd.R_far (p := ⟨gb413, 0, none⟩) (Kd.R_types HO411.out BK413.out (by decide)) (fun _ hk => hk.2) (.int .i64 t405)) (fun _ hk => hk.2) (.slice Ao13 t406.length co13)) (fun _ h_ => h_.1))) (by decide)) hk (fun _ h => h.2)) (fun _ h => h.1)); have n4_ := Ae_q (kB_q hk (g' := gb413) (o := .cells #[.int .i64 t405, .slice Ao13 t406.length co13] 41 (0, 0)) (by (with_reducible repeat (first | refine bN_q ?_ _ | refine bW_q ?_ | refine bL_q ?_ _)); refine blk_put (cs := #[.int .i64 t405, .slice none 0 0]) ?_ 1 _ rfl; (with_reducible repeat (first | refine bN_q ?_ _ | refine bW_q ?_ | refine bL_q ?_ _)); refine blk_put (cs := #[.int .i64 0, .slice none 0 0]) ?_ 0 _ rfl; (with_reducible repeat (first | refine bN_q ?_ _ | refine bW_q ?_ | refine bL_q ?_ _)); exact BK413.out) NB413_401.out (by simp)); have n5_ := Ae_q (hb); have n6_ := Ae_q (hi); clear BK398; clear HO404; clear HO408; clear HO411; clear BK413; clear HB; clear HI401; have BK398 := n0_; have HO404 := n1_; have HO408 := n2_; have HO411 := n3_; have BK413 := n4_; have HB := n5_; have HI401 := n6_; clear n0_ n1_ n2_ n3_ n4_ n5_ n6_; (try clear hb); (try clear hb2); (try clear hk); (try clear hi)) | ((with_reducible refine gD_q (N := 9) rfl ?_); (try (refine gate_guard (by rfl) ?_; dsimp only)); refine bE_q ?hg (N := 9) ?hd (cs := #[.int .i64 0, .int .i64 0, .int .i64 0]) (t := 52) ?hr ?_; (case hd => rfl); (case hg => rfl); (case hr => first | (go_simp; done) | (go_simp; rfl)); intro gb418 hg w15 hbox hb; have n0_ := Ae_q (Kd.S_below (by (with_reducible repeat (first | apply tA_q | apply tN_q | apply tD_q)); exact HO404.out) hb); have n1_ := Ae_q (rO_q (rup HO408.out) hb); have n2_ := Ae_q (rO_q (rup HO411.out) hb); have n3_ := Ae_q (bB_q (g := gb398) (o := .cells #[.int .i64 0, .int .i64 0, .int .i64 0] 52 (0, 0)) (bup BK398.out) hb); have n4_ := Ae_q (i7_q (by repeat (with_reducible first | exact HI401.out | apply i3_q | apply i2_q | apply i1_q | apply i4_q | refine i0_q ?_ NB401_398.out _ | refine i0_q ?_ NB401_413.out _)) hb); have n5_ := Ae_q (bB_q (g := gb413) (o := .cells #[.int .i64 t405, .slice Ao13 t406.length co13] 41 (0, 0)) (bup BK413.out) hb); have n6_ := Ae_q (bT_q (by repeat (with_reducible first | exact HB.out | apply bA_q | apply pB_q | apply bD_q | refine bS_q ?_ (i5_q HI401.out) | refine bS_q ?_ GE398.out | refine bS_q ?_ GE413.out)) hb); have n7_ := Ae_q (hbox); have n8_ := Ae_q ((by rw [hg]; exact (bZ_q (by repeat (with_reducible first | exact HB.out | apply bA_q | apply pB_q | apply bD_q | refine bS_q ?_ (i5_q HI401.out) | refine bS_q ?_ GE398.out | refine bS_q ?_ GE413.out))) : w.heap.size ≤ gb418)); have n9_ := Ae_q ((by rw [hg]; exact (bZ_q (by repeat (with_reducible first | exact HB.out | apply bA_q | apply pB_q | apply bD_q | refine bS_q ?_ (i5_q HI401.out) | refine bS_q ?_ GE398.out | refine bS_q ?_ GE413.out))) : w.heap.size ≤ gb418)); have n10_ := Ae_q ((by rw [hg]; exact nL_q (blk_lt (g := gb398) (o := .cells #[.int .i64 0, .int .i64 0, .int .i64 0] 52 (0, 0)) (bup BK398.out)) : gb398 ≠ gb418)); have n11_ := Ae_q ((by rw [hg]; exact nG_q (blk_lt (g := gb398) (o := .cells #[.int .i64 0, .int .i64 0, .int .i64 0] 52 (0, 0)) (bup BK398.out)) : gb418 ≠ gb398)); have n12_ := Ae_q ((by rw [hg]; exact nL_q (blk_lt (g := gb413) (o := .cells #[.int .i64 t405, .slice Ao13 t406.length co13] 41 (0, 0)) (bup BK413.out)) : gb413 ≠ gb418)); have n13_ := Ae_q ((by rw [hg]; exact nG_q (blk_lt (g := gb413) (o := .cells #[.int .i64 t405, .slice Ao13 t406.length co13] 41 (0, 0)) (bup BK413.out)) : gb418 ≠ gb413)); have n14_ := Ae_q ((by rw [hg]; exact nL_q (i6_q (show IsS74 w _ g401 t399 t417 from by repeat (with_reducible first | exact HI401.out | apply i3_q | apply i2_q | apply i1_q | apply i4_q | refine i0_q ?_ NB401_398.out _ | refine i0_q ?_ NB401_413.out _))) : g401 ≠ gb418)); have n15_ := Ae_q ((by rw [hg]; exact nG_q (i6_q (show IsS74 w _ g401 t399 t417 from by repeat (with_reducible first | exact HI401.out | apply i3_q | apply i2_q | apply i1_q | apply i4_q | refine i0_q ?_ NB401_398.out _ | refine i0_q ?_ NB401_413.out _))) : gb418 ≠ g401)); clear HO404; clear HO408; clear HO411; clear BK398; clear HI401; clear BK413; clear HB; have HO404 := n0_; have HO408 := n1_; have HO411 := n2_; have BK398 := n3_; have HI401 := n4_; have BK413 := n5_; have HB := n6_; have BK418 := n7_; have GW418 := n8_; have GE418 := n9_; have NB398_418 := n10_; have NB418_398 := n11_; have NB413_418 := n12_; have NB418_413 := n13_; have NB401_418 := n14_; have NB418_401 := n15_; clear n0_ n1_ n2_ n3_ n4_ n5_ n6_ n7_ n8_ n9_ n10_ n11_ n12_ n13_ n14_ n15_; clear hb hbox hg; have hnb16 := NB418_398.out; have hnc16 := NB398_418.out; have hnb17 := NB418_413.out; have hnc17 := NB413_418.out; have hnb18 := NB418_401.out; have hnc18 := NB401_418.out; have hcz19_0 : w15.cell? ⟨gb418, 0, none⟩ = some (.int .i64 0) := (bC_q BK418.out 0).trans rfl; have hcz19_1 : w15.cell? ⟨gb418, 1, none⟩ = some (.int .i64 0) := (bC_q BK418.out 1).trans rfl; have hcz19_2 : w15.cell? ⟨gb418, 2, none⟩ = some (.int .i64 0) := (bC_q BK418.out 2).trans rfl; have hfz19_0 := bF_q BK418.out 0; have hfz19_1 := bF_q BK418.out 1; have hfz19_2 := bF_q BK418.out 2))
 (try simp only [Act.put, sA_q, sZ_q, sS_q])
 go_cut [35] (fun v35 wc => ∃ (kq : Nat) (x35_4 : Bool) (x402001_4 : Int), v35 = .bool x35_4 ∧ Aside0 (spec_DrawOutageHits.j0 kq t402 t409 x35_4 t399 x402001_4 t414 t415 t416 = some (r1, r2, r3, r4, r5)) ∧ Aside0 (kq ≤ k) ∧ Aside0 (Kd.S k31 31 wc w.heap.size (fun k_ => some k_ ≠ (v410 : Value).ownBlock ∧ some k_ ≠ ((.slice Ao13 t406.length co13) : Value).ownBlock) v403 t402) ∧ Aside0 (Kd.R kI_q 3 wc w.heap.size (fun k_ => some k_ ≠ ((.slice Ao13 t406.length co13) : Value).ownBlock) v410 t409) ∧ Aside0 (Kd.R kI_q 3 wc w.heap.size (fun k_ => some k_ ≠ (v410 : Value).ownBlock) (.slice Ao13 t406.length co13) t406) ∧ Aside0 (wc.heap[gb398]? = some (.cells #[.int .i64 0, .int .i64 0, .int .i64 0] 52 (0, 0))) ∧ Aside0 (wc.heap[gb413]? = some (.cells #[.int .i64 t405, (.slice Ao13 t406.length co13)] 41 (0, 0))) ∧ Aside0 (wc.heap[gb418]? = some (.cells #[.int .i64 t414, .int .i64 t415, .int .i64 t416] 52 (0, 0))) ∧ Aside0 (IsS74 w wc g401 t399 x402001_4) ∧ Aside0 (Below w.heap.size w wc))
 case first =>
  have H := HC5.out
  clear HC5
  by_cases c20 : (t402.length : Int) > 0
  rotate_left
  ·rw [if_neg c20] at H
   have c20b0 : decide (0 < (t402.length : Int)) = false := dF_q c20
   have c20b1 : decide (0 < t402.length) = false := dF_q (by omega)
   clear c20
   (first | rw [c20b0] | (simp only [i64_w, i32_w]; rw [c20b0]) | skip)
   have H' := Ae_q H
   clear H
   obtain ⟨Ao28, co28, eo28⟩ := Kd.S_slice HO404.out
   subst eo28
   go_wp2
   go_meet
   case rel => exact ⟨_, (false), (t417), (by first | rfl | (simp; done) | (simp [*]; done)), H', ⟨by first | omega | exact nR_q _⟩, ⟨by (with_reducible repeat (first | apply tA_q | apply tN_q | apply tD_q)); exact Kd.S_mono (Kd.S_far (p := ⟨gb418, 2, none⟩) (Kd.S_far (p := ⟨gb418, 1, none⟩) (Kd.S_far (p := ⟨gb418, 0, none⟩) (Kd.S_types HO404.out BK418.out (by decide)) (fun _ hk => hk.2) (.int .i64 t414)) (fun _ hk => hk.2) (.int .i64 t415)) (fun _ hk => hk.2) (.int .i64 t416)) (fun _ hk => ⟨hk.1.2, hk.1.1⟩)⟩, ⟨by (with_reducible repeat (first | apply rA_q | apply rN_q | apply rD_q)); exact rM_q (Kd.R_far (p := ⟨gb418, 2, none⟩) (Kd.R_far (p := ⟨gb418, 1, none⟩) (Kd.R_far (p := ⟨gb418, 0, none⟩) (Kd.R_types HO411.out BK418.out (by decide)) (fun _ hk => hk.2) (.int .i64 t414)) (fun _ hk => hk.2) (.int .i64 t415)) (fun _ hk => hk.2) (.int .i64 t416)) (fun _ hk => hk.1)⟩, ⟨by (with_reducible repeat (first | apply rA_q | apply rN_q | apply rD_q)); exact rM_q (Kd.R_far (p := ⟨gb418, 2, none⟩) (Kd.R_far (p := ⟨gb418, 1, none⟩) (Kd.R_far (p := ⟨gb418, 0, none⟩) (Kd.R_types HO408.out BK418.out (by decide)) (fun _ hk => hk.2) (.int .i64 t414)) (fun _ hk => hk.2) (.int .i64 t415)) (fun _ hk => hk.2) (.int .i64 t416)) (fun _ hk => hk.1)⟩, ⟨by (with_reducible repeat (first | refine bN_q ?_ _ | refine bW_q ?_ | refine bL_q ?_ _)); refine blk_far ?_ NB398_418.out _; (with_reducible repeat (first | refine bN_q ?_ _ | refine bW_q ?_ | refine bL_q ?_ _)); refine blk_far ?_ NB398_418.out _; (with_reducible repeat (first | refine bN_q ?_ _ | refine bW_q ?_ | refine bL_q ?_ _)); refine blk_far ?_ NB398_418.out _; (with_reducible repeat (first | refine bN_q ?_ _ | refine bW_q ?_ | refine bL_q ?_ _)); exact BK398.out⟩, ⟨by (with_reducible repeat (first | refine bN_q ?_ _ | refine bW_q ?_ | refine bL_q ?_ _)); refine blk_far ?_ NB413_418.out _; (with_reducible repeat (first | refine bN_q ?_ _ | refine bW_q ?_ | refine bL_q ?_ _)); refine blk_far ?_ NB413_418.out _; (with_reducible repeat (first | refine bN_q ?_ _ | refine bW_q ?_ | refine bL_q ?_ _)); refine blk_far ?_ NB413_418.out _; (with_reducible repeat (first | refine bN_q ?_ _ | refine bW_q ?_ | refine bL_q ?_ _)); exact BK413.out⟩, ⟨by (with_reducible repeat (first | refine bN_q ?_ _ | refine bW_q ?_ | refine bL_q ?_ _)); refine blk_put (cs := #[.int .i64 t414, .int .i64 t415, .int .i64 0]) ?_ 2 _ rfl; (with_reducible repeat (first | refine bN_q ?_ _ | refine bW_q ?_ | refine bL_q ?_ _)); refine blk_put (cs := #[.int .i64 t414, .int .i64 0, .int .i64 0]) ?_ 1 _ rfl; (with_reducible repeat (first | refine bN_q ?_ _ | refine bW_q ?_ | refine bL_q ?_ _)); refine blk_put (cs := #[.int .i64 0, .int .i64 0, .int .i64 0]) ?_ 0 _ rfl; (with_reducible repeat (first | refine bN_q ?_ _ | refine bW_q ?_ | refine bL_q ?_ _)); exact BK418.out⟩, ⟨by repeat (with_reducible first | exact HI401.out | apply i3_q | apply i2_q | apply i1_q | apply i4_q | refine i0_q ?_ NB401_398.out _ | refine i0_q ?_ NB401_413.out _ | refine i0_q ?_ NB401_418.out _)⟩, ⟨by repeat (with_reducible first | exact HB.out | apply bA_q | apply pB_q | apply bD_q | refine bS_q ?_ (i5_q HI401.out) | refine bS_q ?_ GE398.out | refine bS_q ?_ GE413.out | refine bS_q ?_ GE418.out)⟩⟩
  rw [if_pos c20] at H
  have c20b0 : decide (0 < (t402.length : Int)) = true := dT_q c20
  have c20b1 : decide (0 < t402.length) = true := dT_q (by omega)
  clear c20
  (first | rw [c20b0] | (simp only [i64_w, i32_w]; rw [c20b0]) | skip)
  by_cases c21 : (t409.length : Int) = (t402.length : Int)
  rotate_left
  ·rw [if_neg c21] at H
   have c21b0 : ((t409.length : Int) == (t402.length : Int)) = false := fN_q.mpr c21
   have c21b1 : ((t409.length : Int) != (t402.length : Int)) = true := nI_q.mpr c21
   have c21b2 : (t409.length == t402.length) = false := by first | simpa using c21 | (simp at c21 ⊢; omega)
   have H' := Ae_q H
   clear H
   obtain ⟨Ao26, co26, eo26⟩ := Kd.S_slice HO404.out
   subst eo26
   obtain ⟨Ao27, co27, eo27⟩ := rS_q HO411.out
   subst eo27
   go_wp2
   go_meet
   case rel => exact ⟨_, (false), (t417), (by first | rfl | (simp; done) | (simp [*]; done)), H', ⟨by first | omega | exact nR_q _⟩, ⟨by (with_reducible repeat (first | apply tA_q | apply tN_q | apply tD_q)); exact Kd.S_mono (Kd.S_far (p := ⟨gb418, 2, none⟩) (Kd.S_far (p := ⟨gb418, 1, none⟩) (Kd.S_far (p := ⟨gb418, 0, none⟩) (Kd.S_types HO404.out BK418.out (by decide)) (fun _ hk => hk.2) (.int .i64 t414)) (fun _ hk => hk.2) (.int .i64 t415)) (fun _ hk => hk.2) (.int .i64 t416)) (fun _ hk => ⟨hk.1.2, hk.1.1⟩)⟩, ⟨by (with_reducible repeat (first | apply rA_q | apply rN_q | apply rD_q)); exact rM_q (Kd.R_far (p := ⟨gb418, 2, none⟩) (Kd.R_far (p := ⟨gb418, 1, none⟩) (Kd.R_far (p := ⟨gb418, 0, none⟩) (Kd.R_types HO411.out BK418.out (by decide)) (fun _ hk => hk.2) (.int .i64 t414)) (fun _ hk => hk.2) (.int .i64 t415)) (fun _ hk => hk.2) (.int .i64 t416)) (fun _ hk => hk.1)⟩, ⟨by (with_reducible repeat (first | apply rA_q | apply rN_q | apply rD_q)); exact rM_q (Kd.R_far (p := ⟨gb418, 2, none⟩) (Kd.R_far (p := ⟨gb418, 1, none⟩) (Kd.R_far (p := ⟨gb418, 0, none⟩) (Kd.R_types HO408.out BK418.out (by decide)) (fun _ hk => hk.2) (.int .i64 t414)) (fun _ hk => hk.2) (.int .i64 t415)) (fun _ hk => hk.2) (.int .i64 t416)) (fun _ hk => hk.1)⟩, ⟨by (with_reducible repeat (first | refine bN_q ?_ _ | refine bW_q ?_ | refine bL_q ?_ _)); refine blk_far ?_ NB398_418.out _; (with_reducible repeat (first | refine bN_q ?_ _ | refine bW_q ?_ | refine bL_q ?_ _)); refine blk_far ?_ NB398_418.out _; (with_reducible repeat (first | refine bN_q ?_ _ | refine bW_q ?_ | refine bL_q ?_ _)); refine blk_far ?_ NB398_418.out _; (with_reducible repeat (first | refine bN_q ?_ _ | refine bW_q ?_ | refine bL_q ?_ _)); exact BK398.out⟩, ⟨by (with_reducible repeat (first | refine bN_q ?_ _ | refine bW_q ?_ | refine bL_q ?_ _)); refine blk_far ?_ NB413_418.out _; (with_reducible repeat (first | refine bN_q ?_ _ | refine bW_q ?_ | refine bL_q ?_ _)); refine blk_far ?_ NB413_418.out _; (with_reducible repeat (first | refine bN_q ?_ _ | refine bW_q ?_ | refine bL_q ?_ _)); refine blk_far ?_ NB413_418.out _; (with_reducible repeat (first | refine bN_q ?_ _ | refine bW_q ?_ | refine bL_q ?_ _)); exact BK413.out⟩, ⟨by (with_reducible repeat (first | refine bN_q ?_ _ | refine bW_q ?_ | refine bL_q ?_ _)); refine blk_put (cs := #[.int .i64 t414, .int .i64 t415, .int .i64 0]) ?_ 2 _ rfl; (with_reducible repeat (first | refine bN_q ?_ _ | refine bW_q ?_ | refine bL_q ?_ _)); refine blk_put (cs := #[.int .i64 t414, .int .i64 0, .int .i64 0]) ?_ 1 _ rfl; (with_reducible repeat (first | refine bN_q ?_ _ | refine bW_q ?_ | refine bL_q ?_ _)); refine blk_put (cs := #[.int .i64 0, .int .i64 0, .int .i64 0]) ?_ 0 _ rfl; (with_reducible repeat (first | refine bN_q ?_ _ | refine bW_q ?_ | refine bL_q ?_ _)); exact BK418.out⟩, ⟨by repeat (with_reducible first | exact HI401.out | apply i3_q | apply i2_q | apply i1_q | apply i4_q | refine i0_q ?_ NB401_398.out _ | refine i0_q ?_ NB401_413.out _ | refine i0_q ?_ NB401_418.out _)⟩, ⟨by repeat (with_reducible first | exact HB.out | apply bA_q | apply pB_q | apply bD_q | refine bS_q ?_ (i5_q HI401.out) | refine bS_q ?_ GE398.out | refine bS_q ?_ GE413.out | refine bS_q ?_ GE418.out)⟩⟩
  rw [if_pos c21] at H
  have c21b0 : ((t409.length : Int) == (t402.length : Int)) = true := beq_iff_eq.mpr c21
  have c21b1 : ((t409.length : Int) != (t402.length : Int)) = false := nE_q.mpr c21
  have c21b2 : (t409.length == t402.length) = true := by first | simpa using c21 | (simp at c21 ⊢; omega)
  clear c21
  replace H := oB_q.mp H
  obtain ⟨⟨t419, t420⟩, A220, H⟩ := H
  replace H : (spec_DrawOutageHits.j0 k t402 t409 (decide (t419 > 0)) t399 t420 t414 t415 t416) = some (r1, r2, r3, r4, r5) := H
  have A22 := Ae_q A220
  clear A220
  have H' := Ae_q H
  clear H
  obtain ⟨Ao23, co23, eo23⟩ := Kd.S_slice HO404.out
  subst eo23
  obtain ⟨Ao24, co24, eo24⟩ := rS_q HO411.out
  subst eo24
  go_wp2_with (first | (go_at_call 34; (with_reducible refine (spec_l6Rd_pick.calls k g401 t399 t417 4 t419 t420 w _ ?side1 ?side2 A22.out).mono ?_); (case side1 => repeat (with_reducible first | exact HI401.out | apply i3_q | apply i2_q | apply i1_q | apply i4_q | refine i0_q ?_ NB401_398.out _ | refine i0_q ?_ NB401_413.out _ | refine i0_q ?_ NB401_418.out _)); (case side2 => repeat (with_reducible first | exact HB.out | apply bA_q | apply pB_q | apply bD_q | refine bS_q ?_ (i5_q HI401.out) | refine bS_q ?_ GE398.out | refine bS_q ?_ GE413.out | refine bS_q ?_ GE418.out)); rintro e w25 ⟨rfl, hi, hb, hk⟩; have n0_ := Ae_q (kB_q hk (g' := gb398) (o := .cells #[.int .i64 0, .int .i64 0, .int .i64 0] 52 (0, 0)) (by (with_reducible repeat (first | refine bN_q ?_ _ | refine bW_q ?_ | refine bL_q ?_ _)); refine blk_far ?_ NB398_418.out _; (with_reducible repeat (first | refine bN_q ?_ _ | refine bW_q ?_ | refine bL_q ?_ _)); refine blk_far ?_ NB398_418.out _; (with_reducible repeat (first | refine bN_q ?_ _ | refine bW_q ?_ | refine bL_q ?_ _)); refine blk_far ?_ NB398_418.out _; (with_reducible repeat (first | refine bN_q ?_ _ | refine bW_q ?_ | refine bL_q ?_ _)); exact BK398.out) NB398_401.out (by simp)); have n1_ := Ae_q (Kd.S_mono (Kd.S_keep (IsS74.apartS (show IsS74 w _ g401 t399 t417 from by repeat (with_reducible first | exact HI401.out | apply i3_q | apply i2_q | apply i1_q | apply i4_q | refine i0_q ?_ NB401_398.out _ | refine i0_q ?_ NB401_413.out _ | refine i0_q ?_ NB401_418.out _)) (by (with_reducible repeat (first | apply tA_q | apply tN_q | apply tD_q)); exact (Kd.S_mono (Kd.S_far (p := ⟨gb418, 2, none⟩) (Kd.S_far (p := ⟨gb418, 1, none⟩) (Kd.S_far (p := ⟨gb418, 0, none⟩) (Kd.S_types HO404.out BK418.out (by decide)) (fun _ hk => hk.2) (.int .i64 t414)) (fun _ hk => hk.2) (.int .i64 t415)) (fun _ hk => hk.2) (.int .i64 t416)) (fun _ h_ => h_.1))) (by decide)) hk (fun _ h => h.2)) (fun _ h => h.1)); have n2_ := Ae_q (rM_q (rK_q (i8_q (show IsS74 w _ g401 t399 t417 from by repeat (with_reducible first | exact HI401.out | apply i3_q | apply i2_q | apply i1_q | apply i4_q | refine i0_q ?_ NB401_398.out _ | refine i0_q ?_ NB401_413.out _ | refine i0_q ?_ NB401_418.out _)) (by (with_reducible repeat (first | apply rA_q | apply rN_q | apply rD_q)); exact (rM_q (Kd.R_far (p := ⟨gb418, 2, none⟩) (Kd.R_far (p := ⟨gb418, 1, none⟩) (Kd.R_far (p := ⟨gb418, 0, none⟩) (Kd.R_types HO408.out BK418.out (by decide)) (fun _ hk => hk.2) (.int .i64 t414)) (fun _ hk => hk.2) (.int .i64 t415)) (fun _ hk => hk.2) (.int .i64 t416)) (fun _ h_ => h_.1))) (by decide)) hk (fun _ h => h.2)) (fun _ h => h.1)); have n3_ := Ae_q (rM_q (rK_q (i8_q (show IsS74 w _ g401 t399 t417 from by repeat (with_reducible first | exact HI401.out | apply i3_q | apply i2_q | apply i1_q | apply i4_q | refine i0_q ?_ NB401_398.out _ | refine i0_q ?_ NB401_413.out _ | refine i0_q ?_ NB401_418.out _)) (by (with_reducible repeat (first | apply rA_q | apply rN_q | apply rD_q)); exact (rM_q (Kd.R_far (p := ⟨gb418, 2, none⟩) (Kd.R_far (p := ⟨gb418, 1, none⟩) (Kd.R_far (p := ⟨gb418, 0, none⟩) (Kd.R_types HO411.out BK418.out (by decide)) (fun _ hk => hk.2) (.int .i64 t414)) (fun _ hk => hk.2) (.int .i64 t415)) (fun _ hk => hk.2) (.int .i64 t416)) (fun _ h_ => h_.1))) (by decide)) hk (fun _ h => h.2)) (fun _ h => h.1)); have n4_ := Ae_q (kB_q hk (g' := gb413) (o := .cells #[.int .i64 t405, .slice Ao13 t406.length co13] 41 (0, 0)) (by (with_reducible repeat (first | refine bN_q ?_ _ | refine bW_q ?_ | refine bL_q ?_ _)); refine blk_far ?_ NB413_418.out _; (with_reducible repeat (first | refine bN_q ?_ _ | refine bW_q ?_ | refine bL_q ?_ _)); refine blk_far ?_ NB413_418.out _; (with_reducible repeat (first | refine bN_q ?_ _ | refine bW_q ?_ | refine bL_q ?_ _)); refine blk_far ?_ NB413_418.out _; (with_reducible repeat (first | refine bN_q ?_ _ | refine bW_q ?_ | refine bL_q ?_ _)); exact BK413.out) NB413_401.out (by simp)); have n5_ := Ae_q (kB_q hk (g' := gb418) (o := .cells #[.int .i64 t414, .int .i64 t415, .int .i64 t416] 52 (0, 0)) (by (with_reducible repeat (first | refine bN_q ?_ _ | refine bW_q ?_ | refine bL_q ?_ _)); refine blk_put (cs := #[.int .i64 t414, .int .i64 t415, .int .i64 0]) ?_ 2 _ rfl; (with_reducible repeat (first | refine bN_q ?_ _ | refine bW_q ?_ | refine bL_q ?_ _)); refine blk_put (cs := #[.int .i64 t414, .int .i64 0, .int .i64 0]) ?_ 1 _ rfl; (with_reducible repeat (first | refine bN_q ?_ _ | refine bW_q ?_ | refine bL_q ?_ _)); refine blk_put (cs := #[.int .i64 0, .int .i64 0, .int .i64 0]) ?_ 0 _ rfl; (with_reducible repeat (first | refine bN_q ?_ _ | refine bW_q ?_ | refine bL_q ?_ _)); exact BK418.out) NB418_401.out (by simp)); have n6_ := Ae_q (hb); have n7_ := Ae_q (hi); clear BK398; clear HO404; clear HO408; clear HO411; clear BK413; clear BK418; clear HB; clear HI401; have BK398 := n0_; have HO404 := n1_; have HO408 := n2_; have HO411 := n3_; have BK413 := n4_; have BK418 := n5_; have HB := n6_; have HI401 := n7_; clear n0_ n1_ n2_ n3_ n4_ n5_ n6_ n7_; (try clear hb); (try clear hb2); (try clear hk); (try clear hi)))
  go_meet
  case rel => exact ⟨_, (decide (t419 > 0)), (t420), (by first | rfl | (simp; done) | (simp [*]; done)), H', ⟨by first | omega | exact nR_q _⟩, ⟨by (with_reducible repeat (first | apply tA_q | apply tN_q | apply tD_q)); exact Kd.S_mono HO404.out (fun _ hk => ⟨hk.2, hk.1⟩)⟩, ⟨by (with_reducible repeat (first | apply rA_q | apply rN_q | apply rD_q)); exact HO411.out⟩, ⟨by (with_reducible repeat (first | apply rA_q | apply rN_q | apply rD_q)); exact HO408.out⟩, ⟨by (with_reducible repeat (first | refine bN_q ?_ _ | refine bW_q ?_ | refine bL_q ?_ _)); exact BK398.out⟩, ⟨by (with_reducible repeat (first | refine bN_q ?_ _ | refine bW_q ?_ | refine bL_q ?_ _)); exact BK413.out⟩, ⟨by (with_reducible repeat (first | refine bN_q ?_ _ | refine bW_q ?_ | refine bL_q ?_ _)); exact BK418.out⟩, ⟨by repeat (with_reducible first | exact HI401.out | apply i3_q | apply i2_q | apply i1_q | apply i4_q | refine i0_q ?_ NB401_398.out _ | refine i0_q ?_ NB401_413.out _ | refine i0_q ?_ NB401_418.out _)⟩, ⟨by repeat (with_reducible first | exact HB.out | apply bA_q | apply pB_q | apply bD_q | refine bS_q ?_ (i5_q HI401.out) | refine bS_q ?_ GE398.out | refine bS_q ?_ GE413.out | refine bS_q ?_ GE418.out)⟩⟩
 case rest =>
  clear HC5
  try clear c1
  try clear c2
  try clear p2
  try clear c3
  try clear c4
  try clear c10
  try clear c11
  try clear c16
  try clear c17
  try clear c18
  try clear c20
  try clear c20b0
  try clear c20b1
  try clear c21
  try clear c21b0
  try clear c21b1
  try clear c21b2
  try clear c28
  try clear hcz12_0
  try clear hcz12_1
  try clear hcz19_0
  try clear hcz19_1
  try clear hcz19_2
  try clear hfz12_0
  try clear hfz12_1
  try clear hfz19_0
  try clear hfz19_1
  try clear hfz19_2
  obtain ⟨kq, x35_4, x402001_4, rfl, HA, HJ4, HO_6, HO_8, HO_414001, BK398, BK413, BK418, HI401, HB⟩ := hcut
  cases kq with
  | zero => exact absurd HA.out (by simp [spec_DrawOutageHits.j0])
  | succ kj4 =>
   have H := HA.out
   clear HA
   simp only [spec_DrawOutageHits.j0] at H
   by_cases c29 : x35_4 = true
   rotate_left
   ·replace c29 := fM_q.mpr c29
    subst c29
    have H1 : (some (t402, t409, t414, t415, t416)) = some (r1, r2, r3, r4, r5) := by rw [if_neg (show ¬ (false = true) by decide)] at H; exact H
    clear H
    have H := H1
    clear H1
    simp only [oE_q, pE_q] at H
    obtain ⟨rfl, rfl, rfl, rfl, rfl⟩ := H
    try go_wp2
    have n0_ := Ae_q (tD_q HO_6.out)
    have n1_ := Ae_q (rD_q HO_8.out)
    have n2_ := Ae_q (rD_q HO_414001.out)
    have n3_ := Ae_q (bW_q BK398.out)
    have n4_ := Ae_q (bW_q BK413.out)
    have n5_ := Ae_q (bW_q BK418.out)
    have n6_ := Ae_q (i1_q HI401.out)
    have n7_ := Ae_q (bD_q HB.out)
    clear HO_6
    clear HO_8
    clear HO_414001
    clear BK398
    clear BK413
    clear BK418
    clear HI401
    clear HB
    have HO_6 := n0_
    have HO_8 := n1_
    have HO_414001 := n2_
    have BK398 := n3_
    have BK413 := n4_
    have BK418 := n5_
    have HI401 := n6_
    have HB := n7_
    clear n0_ n1_ n2_ n3_ n4_ n5_ n6_ n7_
    refine start_ (n := 6) (S := fun w' => w'.cell? ⟨gb418, 0, none⟩ = some (.int .i64 t414) ∧ w'.cell? ⟨gb418, 1, none⟩ = some (.int .i64 t415) ∧ w'.cell? ⟨gb418, 2, none⟩ = some (.int .i64 t416)) (ds := []) #[false, false, false, false, false, false] (by kernel_rfl) rfl rfl ⟨(bC_q BK418.out 0).trans rfl, (bC_q BK418.out 1).trans rfl, (bC_q BK418.out 2).trans rfl⟩ (fun hHeld => ?_)
    generalize wc.drew = w69 at HO_6 HO_8 HO_414001 BK398 BK413 BK418 HI401 HB hHeld ⊢
    refine pure_ (i := 0) (N := some 80) (v := ?_) (a' := ?_) #[true, false, false, false, false, false] rfl rfl (by kernel_rfl) (fun _ _ _ h => h) (Or.inl ⟨by rfl, ?_⟩) ?_ ?_
    rotate_left
    ·intro w'
     go_simp
     with_reducible rfl
    rotate_left
    ·simp only [Act.put, sA_q, sZ_q, sS_q, i64_w, i32_w]
     rfl
    refine pure_ (i := 1) (N := some 81) (v := ?_) (a' := ?_) #[true, true, false, false, false, false] rfl rfl (by kernel_rfl) (fun _ _ _ h => h) (Or.inl ⟨by rfl, ?_⟩) ?_ ?_
    rotate_left
    ·intro w'
     go_simp
     with_reducible rfl
    rotate_left
    ·simp only [Act.put, sA_q, sZ_q, sS_q, i64_w, i32_w]
     rfl
    refine pure_ (i := 3) (N := some 2) (v := ?_) (a' := ?_) #[true, true, false, true, false, false] rfl rfl (by kernel_rfl) (fun _ _ _ h => h) (Or.inl ⟨by rfl, ?_⟩) ?_ ?_
    rotate_left
    ·intro w'
     go_simp
     with_reducible rfl
    rotate_left
    ·simp only [Act.put, sA_q, sZ_q, sS_q, i64_w, i32_w]
     rfl
    refine pure_ (i := 4) (N := some 3) (v := ?_) (a' := ?_) #[true, true, false, true, true, false] rfl rfl (by kernel_rfl) (fun _ _ _ h => h) (Or.inl ⟨by rfl, ?_⟩) ?_ ?_
    rotate_left
    ·intro w'
     go_simp
     with_reducible rfl
    rotate_left
    ·simp only [Act.put, sA_q, sZ_q, sS_q, i64_w, i32_w]
     rfl
    refine take_ (i := 2) (N := some 82) (v := ?_) (a' := ?_) #[true, true, true, true, true, false] rfl rfl (by kernel_rfl) (fun _ _ _ h => h) (Or.inl ⟨by rfl, ?_⟩) hHeld ?_ ?_
    rotate_left
    ·rintro w' ⟨s0, s1, s2⟩
     go_simp
     with_reducible rfl
    rotate_left
    ·simp only [Act.put, sA_q, sZ_q, sS_q, i64_w, i32_w]
     rfl
    refine one_ (i := 5) (N := none) #[true, true, true, true, true, true] rfl rfl (by kernel_rfl) (by decide) (fun K hK => ?_)
    have hs70 : w69.cell? ⟨gb398, 0, none⟩ = some (.int .i64 0) := (bC_q BK398.out 0).trans rfl
    have hfs70 := bF_q BK398.out 0
    have hns70_1 := NB413_398.out
    have hns70_2 := NB418_398.out
    have hms70_1 := NB398_413.out
    have hms70_2 := NB398_418.out
    have hs71 : w69.cell? ⟨gb398, 1, none⟩ = some (.int .i64 0) := (bC_q BK398.out 1).trans rfl
    have hfs71 := bF_q BK398.out 1
    have hns71_1 := NB413_398.out
    have hns71_2 := NB418_398.out
    have hms71_1 := NB398_413.out
    have hms71_2 := NB398_418.out
    have hs72 : w69.cell? ⟨gb398, 2, none⟩ = some (.int .i64 0) := (bC_q BK398.out 2).trans rfl
    have hfs72 := bF_q BK398.out 2
    have hns72_1 := NB413_398.out
    have hns72_2 := NB418_398.out
    have hms72_1 := NB398_413.out
    have hms72_2 := NB398_418.out
    refine skip_ (w1 := ?_) (by rfl) rfl ?_ ?_
    rotate_left
    ·go_simp
     rfl
    refine hK.out _ _ ⟨((cell_far (p := ⟨gb398, _, none⟩) NB418_398.out _).trans (((cell_far (p := ⟨gb398, _, none⟩) NB418_398.out _).trans (((cell_far (p := ⟨gb398, _, none⟩) NB418_398.out _).trans (hHeld.1)))))), ((cell_far (p := ⟨gb398, _, none⟩) NB418_398.out _).trans (((cell_far (p := ⟨gb398, _, none⟩) NB418_398.out _).trans (((cell_far (p := ⟨gb398, _, none⟩) NB418_398.out _).trans (hHeld.2.1)))))), ((cell_far (p := ⟨gb398, _, none⟩) NB418_398.out _).trans (((cell_far (p := ⟨gb398, _, none⟩) NB418_398.out _).trans (((cell_far (p := ⟨gb398, _, none⟩) NB418_398.out _).trans (hHeld.2.2))))))⟩ (fun hHeld => ?_)
    clear hK K
    refine done_ (by kernel_rfl) ?_
    try go_wp2
    refine bodyPost_ret (results_list (rs := [.tmp 2, .tmp 3, .cell 4 52]) rfl (by simp) (.tmp (.tmp (.cell gb398 52 #[.int .i64 t414, .int .i64 t415, .int .i64 t416] (0, 0) _ rfl (by (with_reducible repeat (first | refine bN_q ?_ _ | refine bW_q ?_ | refine bL_q ?_ _)); refine blk_put (cs := #[.int .i64 t414, .int .i64 t415, .int .i64 0]) ?_ 2 _ rfl; (with_reducible repeat (first | refine bN_q ?_ _ | refine bW_q ?_ | refine bL_q ?_ _)); refine blk_put (cs := #[.int .i64 t414, .int .i64 0, .int .i64 0]) ?_ 1 _ rfl; (with_reducible repeat (first | refine bN_q ?_ _ | refine bW_q ?_ | refine bL_q ?_ _)); refine blk_put (cs := #[.int .i64 0, .int .i64 0, .int .i64 0]) ?_ 0 _ rfl; (with_reducible repeat (first | refine bN_q ?_ _ | refine bW_q ?_ | refine bL_q ?_ _)); exact BK398.out) Try.underlying52 rfl (by kernel_rfl) .nil)))) rfl ?_
    exact ⟨_, _, by first | rfl | (simp [eN_q, eS_q] <;> rfl) | (simp [*, eN_q, eS_q] <;> rfl), by (with_reducible repeat (first | apply tA_q | apply tN_q | apply tD_q)); exact Kd.S_mono (Kd.S_far (p := ⟨gb398, 2, none⟩) (Kd.S_far (p := ⟨gb398, 1, none⟩) (Kd.S_far (p := ⟨gb398, 0, none⟩) (Kd.S_types HO_6.out BK398.out (by decide)) (fun _ hk => hk.2) (.int .i64 t414)) (fun _ hk => hk.2) (.int .i64 t415)) (fun _ hk => hk.2) (.int .i64 t416)) (fun _ hk => hk.1.1), by (with_reducible repeat (first | apply rA_q | apply rN_q | apply rD_q)); exact rM_q (Kd.R_far (p := ⟨gb398, 2, none⟩) (Kd.R_far (p := ⟨gb398, 1, none⟩) (Kd.R_far (p := ⟨gb398, 0, none⟩) (Kd.R_types HO_8.out BK398.out (by decide)) (fun _ hk => hk.2) (.int .i64 t414)) (fun _ hk => hk.2) (.int .i64 t415)) (fun _ hk => hk.2) (.int .i64 t416)) (fun _ hk => trivial), by repeat (with_reducible first | exact HB.out | apply bA_q | apply pB_q | apply bD_q | refine bS_q ?_ (i5_q HI401.out) | refine bS_q ?_ GE398.out | refine bS_q ?_ GE413.out | refine bS_q ?_ GE418.out)⟩
   subst c29
   have H1 : ((spec_l6Rd_pick.f kj4 t399 x402001_4 (t402.length : Int)).bind fun bt421 => (if 0 ≤ bt421.1 then (if bt421.1 < (t402.length : Int) then (if ((rd_T31 t402 bt421.1).f2) > 0 then (if bt421.1 < (t409.length : Int) then (if (rd t409 bt421.1) ≥ 0 then (spec_DrawOutageHits.j1 kj4 t402 t409 bt421.1 (decide ((rd t409 bt421.1) < 900)) t399 bt421.2 t414 t415 t416) else (spec_DrawOutageHits.j1 kj4 t402 t409 bt421.1 false t399 bt421.2 t414 t415 t416)) else (none)) else (spec_DrawOutageHits.j1 kj4 t402 t409 bt421.1 false t399 bt421.2 t414 t415 t416)) else (none)) else (none))) = some (r1, r2, r3, r4, r5) := by rw [if_pos rfl] at H; exact H
   clear H
   have H := H1
   clear H1
   replace H := oB_q.mp H
   obtain ⟨⟨t421, t422⟩, A300, H⟩ := H
   replace H : (if 0 ≤ t421 then (if t421 < (t402.length : Int) then (if ((rd_T31 t402 t421).f2) > 0 then (if t421 < (t409.length : Int) then (if (rd t409 t421) ≥ 0 then (spec_DrawOutageHits.j1 kj4 t402 t409 t421 (decide ((rd t409 t421) < 900)) t399 t422 t414 t415 t416) else (spec_DrawOutageHits.j1 kj4 t402 t409 t421 false t399 t422 t414 t415 t416)) else (none)) else (spec_DrawOutageHits.j1 kj4 t402 t409 t421 false t399 t422 t414 t415 t416)) else (none)) else (none)) = some (r1, r2, r3, r4, r5) := H
   have A30 := Ae_q A300
   clear A300
   have HC31 := Ae_q H
   clear H
   obtain ⟨Ao32, co32, eo32⟩ := Kd.S_slice HO_6.out
   subst eo32
   go_upto_region 6 with (first | ((with_reducible refine gC_q (f := 34) rfl ?_); refine gL_q (some 39) rfl rfl Try.func34 (by kernel_rfl) rfl #[.pointer (some ⟨g401, 0, none⟩), .int .i64 (t402.length : Int)] rfl (by (try simp only [lM_q, lC_q, lN_q]); first | done | rfl | (simp only [lD_q, lT_q]; rfl)) ?_; (with_reducible refine (spec_l6Rd_pick.calls kj4 g401 t399 x402001_4 (t402.length : Int) t421 t422 w _ ?side1 ?side2 A30.out).mono ?_); (case side1 => repeat (with_reducible first | exact HI401.out | apply i3_q | apply i2_q | apply i1_q | apply i4_q | refine i0_q ?_ NB401_398.out _ | refine i0_q ?_ NB401_413.out _ | refine i0_q ?_ NB401_418.out _)); (case side2 => repeat (with_reducible first | exact HB.out | apply bA_q | apply pB_q | apply bD_q | refine bS_q ?_ (i5_q HI401.out) | refine bS_q ?_ GE398.out | refine bS_q ?_ GE413.out | refine bS_q ?_ GE418.out)); rintro e w33 ⟨rfl, hi, hb, hk⟩; refine ⟨_, rfl, ?_⟩; have n0_ := Ae_q (Kd.S_mono (Kd.S_keep (IsS74.apartS (show IsS74 w _ g401 t399 x402001_4 from by repeat (with_reducible first | exact HI401.out | apply i3_q | apply i2_q | apply i1_q | apply i4_q | refine i0_q ?_ NB401_398.out _ | refine i0_q ?_ NB401_413.out _ | refine i0_q ?_ NB401_418.out _)) (by (with_reducible repeat (first | apply tA_q | apply tN_q | apply tD_q)); exact HO_6.out) (by decide)) hk (fun _ h => h.2)) (fun _ h => h.1)); have n1_ := Ae_q (rM_q (rK_q (i8_q (show IsS74 w _ g401 t399 x402001_4 from by repeat (with_reducible first | exact HI401.out | apply i3_q | apply i2_q | apply i1_q | apply i4_q | refine i0_q ?_ NB401_398.out _ | refine i0_q ?_ NB401_413.out _ | refine i0_q ?_ NB401_418.out _)) (rup HO_8.out) (by decide)) hk (fun _ h => h.2)) (fun _ h => h.1)); have n2_ := Ae_q (rM_q (rK_q (i8_q (show IsS74 w _ g401 t399 x402001_4 from by repeat (with_reducible first | exact HI401.out | apply i3_q | apply i2_q | apply i1_q | apply i4_q | refine i0_q ?_ NB401_398.out _ | refine i0_q ?_ NB401_413.out _ | refine i0_q ?_ NB401_418.out _)) (rup HO_414001.out) (by decide)) hk (fun _ h => h.2)) (fun _ h => h.1)); have n3_ := Ae_q (kB_q hk (g' := gb398) (o := .cells #[.int .i64 0, .int .i64 0, .int .i64 0] 52 (0, 0)) (bup BK398.out) NB398_401.out (by simp)); have n4_ := Ae_q (kB_q hk (g' := gb413) (o := .cells #[.int .i64 t405, .slice Ao13 t406.length co13] 41 (0, 0)) (bup BK413.out) NB413_401.out (by simp)); have n5_ := Ae_q (kB_q hk (g' := gb418) (o := .cells #[.int .i64 t414, .int .i64 t415, .int .i64 t416] 52 (0, 0)) (bup BK418.out) NB418_401.out (by simp)); have n6_ := Ae_q (hb); have n7_ := Ae_q (hi); clear HO_6; clear HO_8; clear HO_414001; clear BK398; clear BK413; clear BK418; clear HB; clear HI401; have HO_6 := n0_; have HO_8 := n1_; have HO_414001 := n2_; have BK398 := n3_; have BK413 := n4_; have BK418 := n5_; have HB := n6_; have HI401 := n7_; clear n0_ n1_ n2_ n3_ n4_ n5_ n6_ n7_; (try clear hb); (try clear hb2); (try clear hk); (try clear hi)))
   (try simp only [Act.put, sA_q, sZ_q, sS_q])
   go_cut [59] (fun v59 wc => ∃ (kq : Nat) (x59_30 : Bool), v59 = .bool x59_30 ∧ Aside0 (spec_DrawOutageHits.j1 kq t402 t409 t421 x59_30 t399 t422 t414 t415 t416 = some (r1, r2, r3, r4, r5)) ∧ Aside0 (kq ≤ kj4) ∧ Aside0 (Kd.S k31 31 wc w.heap.size (fun k_ => some k_ ≠ (v410 : Value).ownBlock ∧ some k_ ≠ ((.slice Ao13 t406.length co13) : Value).ownBlock) (.slice Ao32 t402.length co32) t402) ∧ Aside0 (Kd.R kI_q 3 wc w.heap.size (fun k_ => some k_ ≠ ((.slice Ao13 t406.length co13) : Value).ownBlock) v410 t409) ∧ Aside0 (Kd.R kI_q 3 wc w.heap.size (fun k_ => some k_ ≠ (v410 : Value).ownBlock) (.slice Ao13 t406.length co13) t406) ∧ Aside0 (wc.heap[gb398]? = some (.cells #[.int .i64 0, .int .i64 0, .int .i64 0] 52 (0, 0))) ∧ Aside0 (wc.heap[gb413]? = some (.cells #[.int .i64 t405, (.slice Ao13 t406.length co13)] 41 (0, 0))) ∧ Aside0 (wc.heap[gb418]? = some (.cells #[.int .i64 t414, .int .i64 t415, .int .i64 t416] 52 (0, 0))) ∧ Aside0 (IsS74 w wc g401 t399 t422) ∧ Aside0 (Below w.heap.size w wc))
   case first =>
    have H := HC31.out
    clear HC31
    by_cases c34 : 0 ≤ t421
    rotate_left
    ·rw [if_neg c34] at H
     exact absurd H (by simp)
    rw [if_pos c34] at H
    have c34b0 : decide (0 ≤ t421) = true := dT_q c34
    clear c34
    (first | rw [c34b0] | (simp only [i64_w, i32_w]; rw [c34b0]) | skip)
    by_cases c35 : t421 < (t402.length : Int)
    rotate_left
    ·rw [if_neg c35] at H
     exact absurd H (by simp)
    rw [if_pos c35] at H
    have c35b0 : decide (t421 < (t402.length : Int)) = true := dT_q c35
    clear c35
    by_cases c36 : ((rd_T31 t402 t421).f2) > 0
    rotate_left
    ·rw [if_neg c36] at H
     have c36b0 : decide (0 < ((rd_T31 t402 t421).f2)) = false := dF_q c36
     clear c36
     have H' := Ae_q H
     clear H
     have p423 : 0 ≤ (t421 : Int) := oD_q (by assumption)
     have q423 : t421 < (t402.length : Int) := oD_q (by assumption)
     obtain ⟨ad423, A423_3, c423_3, e423, hx423_0, hx423_1, hx423_2, hx423_3, hl423_3, hi423_3⟩ := at_T31 (Kd.S_reads' HO_6.out).2.2 t421 p423 q423
     cases e423
     obtain ⟨ce423, hce423, hMe423, hcc423⟩ := Kd.S_get HO_6.out z31 t421 p423 (by first | exact q423 | exact oD_q (by assumption) | (have e_ := (Kd.S_reads' HO_6.out).1; omega))
     obtain ⟨ve423_3, rfl, ge423_3⟩ := k31_openM hMe423
     have hv423_3 := hcc423 3 _ rfl
     rw [add_field _ _ 3 (by omega)] at hv423_3
     replace hv423_3 := oI_q (hv423_3.symm.trans hx423_3)
     rw [hv423_3] at ge423_3
     have HL423_3 := Ae_q (show Kd.R kI_q 3 _ _ _ _ ((rd_T31 t402 t421).f3) from ge423_3)
     clear hv423_3 ge423_3
     clear hcc423 hce423
     have HR423_3 := Ae_q hi423_3
     have HC423_3 := Ae_q hl423_3
     clear hi423_3 hl423_3
     replace p423 := eq_true p423
     replace q423 := eq_true q423
     go_wp2
     go_meet
     case rel => exact ⟨_, (false), (by first | rfl | (simp; done) | (simp [*]; done)), H', ⟨by have := HJ4.out; first | omega | exact nR_q _⟩, ⟨by (with_reducible repeat (first | apply tA_q | apply tN_q | apply tD_q)); exact HO_6.out⟩, ⟨by (with_reducible repeat (first | apply rA_q | apply rN_q | apply rD_q)); exact HO_8.out⟩, ⟨by (with_reducible repeat (first | apply rA_q | apply rN_q | apply rD_q)); exact HO_414001.out⟩, ⟨by (with_reducible repeat (first | refine bN_q ?_ _ | refine bW_q ?_ | refine bL_q ?_ _)); exact BK398.out⟩, ⟨by (with_reducible repeat (first | refine bN_q ?_ _ | refine bW_q ?_ | refine bL_q ?_ _)); exact BK413.out⟩, ⟨by (with_reducible repeat (first | refine bN_q ?_ _ | refine bW_q ?_ | refine bL_q ?_ _)); exact BK418.out⟩, ⟨by repeat (with_reducible first | exact HI401.out | apply i3_q | apply i2_q | apply i1_q | apply i4_q | refine i0_q ?_ NB401_398.out _ | refine i0_q ?_ NB401_413.out _ | refine i0_q ?_ NB401_418.out _)⟩, ⟨by repeat (with_reducible first | exact HB.out | apply bA_q | apply pB_q | apply bD_q | refine bS_q ?_ (i5_q HI401.out) | refine bS_q ?_ GE398.out | refine bS_q ?_ GE413.out | refine bS_q ?_ GE418.out)⟩⟩
    rw [if_pos c36] at H
    have c36b0 : decide (0 < ((rd_T31 t402 t421).f2)) = true := dT_q c36
    clear c36
    by_cases c37 : t421 < (t409.length : Int)
    rotate_left
    ·rw [if_neg c37] at H
     exact absurd H (by simp)
    rw [if_pos c37] at H
    have c37b0 : decide (t421 < (t409.length : Int)) = true := dT_q c37
    clear c37
    by_cases c38 : (rd t409 t421) ≥ 0
    rotate_left
    ·rw [if_neg c38] at H
     have c38b0 : decide (0 ≤ (rd t409 t421)) = false := dF_q c38
     clear c38
     have H' := Ae_q H
     clear H
     have p423 : 0 ≤ (t421 : Int) := oD_q (by assumption)
     have q423 : t421 < (t402.length : Int) := oD_q (by assumption)
     obtain ⟨ad423, A423_3, c423_3, e423, hx423_0, hx423_1, hx423_2, hx423_3, hl423_3, hi423_3⟩ := at_T31 (Kd.S_reads' HO_6.out).2.2 t421 p423 q423
     cases e423
     obtain ⟨ce423, hce423, hMe423, hcc423⟩ := Kd.S_get HO_6.out z31 t421 p423 (by first | exact q423 | exact oD_q (by assumption) | (have e_ := (Kd.S_reads' HO_6.out).1; omega))
     obtain ⟨ve423_3, rfl, ge423_3⟩ := k31_openM hMe423
     have hv423_3 := hcc423 3 _ rfl
     rw [add_field _ _ 3 (by omega)] at hv423_3
     replace hv423_3 := oI_q (hv423_3.symm.trans hx423_3)
     rw [hv423_3] at ge423_3
     have HL423_3 := Ae_q (show Kd.R kI_q 3 _ _ _ _ ((rd_T31 t402 t421).f3) from ge423_3)
     clear hv423_3 ge423_3
     clear hcc423 hce423
     have HR423_3 := Ae_q hi423_3
     have HC423_3 := Ae_q hl423_3
     clear hi423_3 hl423_3
     replace p423 := eq_true p423
     replace q423 := eq_true q423
     obtain ⟨Ao40, co40, eo40⟩ := rS_q HO_8.out
     subst eo40
     have p424 : 0 ≤ (t421 : Int) := oD_q (by assumption)
     have q424 : t421 < (t409.length : Int) := oD_q (by assumption)
     obtain ⟨ad424, e424, hx424_0⟩ := aI_q (rR_q HO_8.out).2.2 t421 p424 q424
     cases e424
     replace p424 := eq_true p424
     replace q424 := eq_true q424
     go_wp2
     go_meet
     case rel => exact ⟨_, (false), (by first | rfl | (simp; done) | (simp [*]; done)), H', ⟨by have := HJ4.out; first | omega | exact nR_q _⟩, ⟨by (with_reducible repeat (first | apply tA_q | apply tN_q | apply tD_q)); exact HO_6.out⟩, ⟨by (with_reducible repeat (first | apply rA_q | apply rN_q | apply rD_q)); exact HO_8.out⟩, ⟨by (with_reducible repeat (first | apply rA_q | apply rN_q | apply rD_q)); exact HO_414001.out⟩, ⟨by (with_reducible repeat (first | refine bN_q ?_ _ | refine bW_q ?_ | refine bL_q ?_ _)); exact BK398.out⟩, ⟨by (with_reducible repeat (first | refine bN_q ?_ _ | refine bW_q ?_ | refine bL_q ?_ _)); exact BK413.out⟩, ⟨by (with_reducible repeat (first | refine bN_q ?_ _ | refine bW_q ?_ | refine bL_q ?_ _)); exact BK418.out⟩, ⟨by repeat (with_reducible first | exact HI401.out | apply i3_q | apply i2_q | apply i1_q | apply i4_q | refine i0_q ?_ NB401_398.out _ | refine i0_q ?_ NB401_413.out _ | refine i0_q ?_ NB401_418.out _)⟩, ⟨by repeat (with_reducible first | exact HB.out | apply bA_q | apply pB_q | apply bD_q | refine bS_q ?_ (i5_q HI401.out) | refine bS_q ?_ GE398.out | refine bS_q ?_ GE413.out | refine bS_q ?_ GE418.out)⟩⟩
    rw [if_pos c38] at H
    have c38b0 : decide (0 ≤ (rd t409 t421)) = true := dT_q c38
    clear c38
    have H' := Ae_q H
    clear H
    have p423 : 0 ≤ (t421 : Int) := oD_q (by assumption)
    have q423 : t421 < (t402.length : Int) := oD_q (by assumption)
    obtain ⟨ad423, A423_3, c423_3, e423, hx423_0, hx423_1, hx423_2, hx423_3, hl423_3, hi423_3⟩ := at_T31 (Kd.S_reads' HO_6.out).2.2 t421 p423 q423
    cases e423
    obtain ⟨ce423, hce423, hMe423, hcc423⟩ := Kd.S_get HO_6.out z31 t421 p423 (by first | exact q423 | exact oD_q (by assumption) | (have e_ := (Kd.S_reads' HO_6.out).1; omega))
    obtain ⟨ve423_3, rfl, ge423_3⟩ := k31_openM hMe423
    have hv423_3 := hcc423 3 _ rfl
    rw [add_field _ _ 3 (by omega)] at hv423_3
    replace hv423_3 := oI_q (hv423_3.symm.trans hx423_3)
    rw [hv423_3] at ge423_3
    have HL423_3 := Ae_q (show Kd.R kI_q 3 _ _ _ _ ((rd_T31 t402 t421).f3) from ge423_3)
    clear hv423_3 ge423_3
    clear hcc423 hce423
    have HR423_3 := Ae_q hi423_3
    have HC423_3 := Ae_q hl423_3
    clear hi423_3 hl423_3
    replace p423 := eq_true p423
    replace q423 := eq_true q423
    obtain ⟨Ao39, co39, eo39⟩ := rS_q HO_8.out
    subst eo39
    have p424 : 0 ≤ (t421 : Int) := oD_q (by assumption)
    have q424 : t421 < (t409.length : Int) := oD_q (by assumption)
    obtain ⟨ad424, e424, hx424_0⟩ := aI_q (rR_q HO_8.out).2.2 t421 p424 q424
    cases e424
    replace p424 := eq_true p424
    replace q424 := eq_true q424
    have p425 : 0 ≤ (t421 : Int) := oD_q (by assumption)
    have q425 : t421 < (t409.length : Int) := oD_q (by assumption)
    obtain ⟨ad425, e425, hx425_0⟩ := aI_q (rR_q HO_8.out).2.2 t421 p425 q425
    obtain rfl : ad424 = ad425 := (by injection e425)
    replace p425 := eq_true p425
    replace q425 := eq_true q425
    go_wp2
    go_meet
    case rel => exact ⟨_, (decide ((rd t409 t421) < 900)), (by first | rfl | (simp; done) | (simp [*]; done)), H', ⟨by have := HJ4.out; first | omega | exact nR_q _⟩, ⟨by (with_reducible repeat (first | apply tA_q | apply tN_q | apply tD_q)); exact HO_6.out⟩, ⟨by (with_reducible repeat (first | apply rA_q | apply rN_q | apply rD_q)); exact HO_8.out⟩, ⟨by (with_reducible repeat (first | apply rA_q | apply rN_q | apply rD_q)); exact HO_414001.out⟩, ⟨by (with_reducible repeat (first | refine bN_q ?_ _ | refine bW_q ?_ | refine bL_q ?_ _)); exact BK398.out⟩, ⟨by (with_reducible repeat (first | refine bN_q ?_ _ | refine bW_q ?_ | refine bL_q ?_ _)); exact BK413.out⟩, ⟨by (with_reducible repeat (first | refine bN_q ?_ _ | refine bW_q ?_ | refine bL_q ?_ _)); exact BK418.out⟩, ⟨by repeat (with_reducible first | exact HI401.out | apply i3_q | apply i2_q | apply i1_q | apply i4_q | refine i0_q ?_ NB401_398.out _ | refine i0_q ?_ NB401_413.out _ | refine i0_q ?_ NB401_418.out _)⟩, ⟨by repeat (with_reducible first | exact HB.out | apply bA_q | apply pB_q | apply bD_q | refine bS_q ?_ (i5_q HI401.out) | refine bS_q ?_ GE398.out | refine bS_q ?_ GE413.out | refine bS_q ?_ GE418.out)⟩⟩
   case rest =>
    clear HC31
    try clear c1
    try clear c2
    try clear p2
    try clear c3
    try clear c4
    try clear p4
    try clear q4
    try clear hx4
    try clear c10
    try clear c11
    try clear c16
    try clear c17
    try clear c18
    try clear c20
    try clear c20b0
    try clear c20b1
    try clear c21
    try clear c21b0
    try clear c21b1
    try clear c21b2
    try clear c28
    try clear c29
    try clear c32
    try clear c33
    try clear c34
    try clear c34b0
    try clear c35
    try clear c35b0
    try clear c36
    try clear c36b0
    try clear c37
    try clear c37b0
    try clear c38
    try clear c38b0
    try clear hcz12_0
    try clear hcz12_1
    try clear hcz19_0
    try clear hcz19_1
    try clear hcz19_2
    try clear hfz12_0
    try clear hfz12_1
    try clear hfz19_0
    try clear hfz19_1
    try clear hfz19_2
    try clear hx423_0
    try clear hx423_1
    try clear hx423_2
    try clear hx423_3
    try clear hx424_0
    try clear hx425_0
    try clear p2
    try clear p423
    try clear p424
    try clear p425
    try clear q423
    try clear q424
    try clear q425
    obtain ⟨kq, x59_30, rfl, HA, HJ30, HO_6, HO_8, HO_414001, BK398, BK413, BK418, HI401, HB⟩ := hcut
    cases kq with
    | zero => exact absurd HA.out (by simp [spec_DrawOutageHits.j1])
    | succ kj30 =>
     have H := HA.out
     clear HA
     simp only [spec_DrawOutageHits.j1] at H
     by_cases c41 : x59_30 = true
     rotate_left
     ·replace c41 := fM_q.mpr c41
      subst c41
      have H1 : (some (t402, t409, t414, t415, t416)) = some (r1, r2, r3, r4, r5) := by rw [if_neg (show ¬ (false = true) by decide)] at H; exact H
      clear H
      have H := H1
      clear H1
      simp only [oE_q, pE_q] at H
      obtain ⟨rfl, rfl, rfl, rfl, rfl⟩ := H
      try go_wp2
      have n0_ := Ae_q (tD_q HO_6.out)
      have n1_ := Ae_q (rD_q HO_8.out)
      have n2_ := Ae_q (rD_q HO_414001.out)
      have n3_ := Ae_q (bW_q BK398.out)
      have n4_ := Ae_q (bW_q BK413.out)
      have n5_ := Ae_q (bW_q BK418.out)
      have n6_ := Ae_q (i1_q HI401.out)
      have n7_ := Ae_q (bD_q HB.out)
      clear HO_6
      clear HO_8
      clear HO_414001
      clear BK398
      clear BK413
      clear BK418
      clear HI401
      clear HB
      have HO_6 := n0_
      have HO_8 := n1_
      have HO_414001 := n2_
      have BK398 := n3_
      have BK413 := n4_
      have BK418 := n5_
      have HI401 := n6_
      have HB := n7_
      clear n0_ n1_ n2_ n3_ n4_ n5_ n6_ n7_
      refine start_ (n := 6) (S := fun w' => w'.cell? ⟨gb418, 0, none⟩ = some (.int .i64 t414) ∧ w'.cell? ⟨gb418, 1, none⟩ = some (.int .i64 t415) ∧ w'.cell? ⟨gb418, 2, none⟩ = some (.int .i64 t416)) (ds := []) #[false, false, false, false, false, false] (by kernel_rfl) rfl rfl ⟨(bC_q BK418.out 0).trans rfl, (bC_q BK418.out 1).trans rfl, (bC_q BK418.out 2).trans rfl⟩ (fun hHeld => ?_)
      generalize wc.drew = w65 at HO_6 HO_8 HO_414001 BK398 BK413 BK418 HI401 HB hHeld ⊢
      refine pure_ (i := 0) (N := some 80) (v := ?_) (a' := ?_) #[true, false, false, false, false, false] rfl rfl (by kernel_rfl) (fun _ _ _ h => h) (Or.inl ⟨by rfl, ?_⟩) ?_ ?_
      rotate_left
      ·intro w'
       go_simp
       with_reducible rfl
      rotate_left
      ·simp only [Act.put, sA_q, sZ_q, sS_q, i64_w, i32_w]
       rfl
      refine pure_ (i := 1) (N := some 81) (v := ?_) (a' := ?_) #[true, true, false, false, false, false] rfl rfl (by kernel_rfl) (fun _ _ _ h => h) (Or.inl ⟨by rfl, ?_⟩) ?_ ?_
      rotate_left
      ·intro w'
       go_simp
       with_reducible rfl
      rotate_left
      ·simp only [Act.put, sA_q, sZ_q, sS_q, i64_w, i32_w]
       rfl
      refine pure_ (i := 3) (N := some 2) (v := ?_) (a' := ?_) #[true, true, false, true, false, false] rfl rfl (by kernel_rfl) (fun _ _ _ h => h) (Or.inl ⟨by rfl, ?_⟩) ?_ ?_
      rotate_left
      ·intro w'
       go_simp
       with_reducible rfl
      rotate_left
      ·simp only [Act.put, sA_q, sZ_q, sS_q, i64_w, i32_w]
       rfl
      refine pure_ (i := 4) (N := some 3) (v := ?_) (a' := ?_) #[true, true, false, true, true, false] rfl rfl (by kernel_rfl) (fun _ _ _ h => h) (Or.inl ⟨by rfl, ?_⟩) ?_ ?_
      rotate_left
      ·intro w'
       go_simp
       with_reducible rfl
      rotate_left
      ·simp only [Act.put, sA_q, sZ_q, sS_q, i64_w, i32_w]
       rfl
      refine take_ (i := 2) (N := some 82) (v := ?_) (a' := ?_) #[true, true, true, true, true, false] rfl rfl (by kernel_rfl) (fun _ _ _ h => h) (Or.inl ⟨by rfl, ?_⟩) hHeld ?_ ?_
      rotate_left
      ·rintro w' ⟨s0, s1, s2⟩
       go_simp
       with_reducible rfl
      rotate_left
      ·simp only [Act.put, sA_q, sZ_q, sS_q, i64_w, i32_w]
       rfl
      refine one_ (i := 5) (N := none) #[true, true, true, true, true, true] rfl rfl (by kernel_rfl) (by decide) (fun K hK => ?_)
      have hs66 : w65.cell? ⟨gb398, 0, none⟩ = some (.int .i64 0) := (bC_q BK398.out 0).trans rfl
      have hfs66 := bF_q BK398.out 0
      have hns66_1 := NB413_398.out
      have hns66_2 := NB418_398.out
      have hms66_1 := NB398_413.out
      have hms66_2 := NB398_418.out
      have hs67 : w65.cell? ⟨gb398, 1, none⟩ = some (.int .i64 0) := (bC_q BK398.out 1).trans rfl
      have hfs67 := bF_q BK398.out 1
      have hns67_1 := NB413_398.out
      have hns67_2 := NB418_398.out
      have hms67_1 := NB398_413.out
      have hms67_2 := NB398_418.out
      have hs68 : w65.cell? ⟨gb398, 2, none⟩ = some (.int .i64 0) := (bC_q BK398.out 2).trans rfl
      have hfs68 := bF_q BK398.out 2
      have hns68_1 := NB413_398.out
      have hns68_2 := NB418_398.out
      have hms68_1 := NB398_413.out
      have hms68_2 := NB398_418.out
      refine skip_ (w1 := ?_) (by rfl) rfl ?_ ?_
      rotate_left
      ·go_simp
       rfl
      refine hK.out _ _ ⟨((cell_far (p := ⟨gb398, _, none⟩) NB418_398.out _).trans (((cell_far (p := ⟨gb398, _, none⟩) NB418_398.out _).trans (((cell_far (p := ⟨gb398, _, none⟩) NB418_398.out _).trans (hHeld.1)))))), ((cell_far (p := ⟨gb398, _, none⟩) NB418_398.out _).trans (((cell_far (p := ⟨gb398, _, none⟩) NB418_398.out _).trans (((cell_far (p := ⟨gb398, _, none⟩) NB418_398.out _).trans (hHeld.2.1)))))), ((cell_far (p := ⟨gb398, _, none⟩) NB418_398.out _).trans (((cell_far (p := ⟨gb398, _, none⟩) NB418_398.out _).trans (((cell_far (p := ⟨gb398, _, none⟩) NB418_398.out _).trans (hHeld.2.2))))))⟩ (fun hHeld => ?_)
      clear hK K
      refine done_ (by kernel_rfl) ?_
      try go_wp2
      refine bodyPost_ret (results_list (rs := [.tmp 2, .tmp 3, .cell 4 52]) rfl (by simp) (.tmp (.tmp (.cell gb398 52 #[.int .i64 t414, .int .i64 t415, .int .i64 t416] (0, 0) _ rfl (by (with_reducible repeat (first | refine bN_q ?_ _ | refine bW_q ?_ | refine bL_q ?_ _)); refine blk_put (cs := #[.int .i64 t414, .int .i64 t415, .int .i64 0]) ?_ 2 _ rfl; (with_reducible repeat (first | refine bN_q ?_ _ | refine bW_q ?_ | refine bL_q ?_ _)); refine blk_put (cs := #[.int .i64 t414, .int .i64 0, .int .i64 0]) ?_ 1 _ rfl; (with_reducible repeat (first | refine bN_q ?_ _ | refine bW_q ?_ | refine bL_q ?_ _)); refine blk_put (cs := #[.int .i64 0, .int .i64 0, .int .i64 0]) ?_ 0 _ rfl; (with_reducible repeat (first | refine bN_q ?_ _ | refine bW_q ?_ | refine bL_q ?_ _)); exact BK398.out) Try.underlying52 rfl (by kernel_rfl) .nil)))) rfl ?_
      exact ⟨_, _, by first | rfl | (simp [eN_q, eS_q] <;> rfl) | (simp [*, eN_q, eS_q] <;> rfl), by (with_reducible repeat (first | apply tA_q | apply tN_q | apply tD_q)); exact Kd.S_mono (Kd.S_far (p := ⟨gb398, 2, none⟩) (Kd.S_far (p := ⟨gb398, 1, none⟩) (Kd.S_far (p := ⟨gb398, 0, none⟩) (Kd.S_types HO_6.out BK398.out (by decide)) (fun _ hk => hk.2) (.int .i64 t414)) (fun _ hk => hk.2) (.int .i64 t415)) (fun _ hk => hk.2) (.int .i64 t416)) (fun _ hk => hk.1.1), by (with_reducible repeat (first | apply rA_q | apply rN_q | apply rD_q)); exact rM_q (Kd.R_far (p := ⟨gb398, 2, none⟩) (Kd.R_far (p := ⟨gb398, 1, none⟩) (Kd.R_far (p := ⟨gb398, 0, none⟩) (Kd.R_types HO_8.out BK398.out (by decide)) (fun _ hk => hk.2) (.int .i64 t414)) (fun _ hk => hk.2) (.int .i64 t415)) (fun _ hk => hk.2) (.int .i64 t416)) (fun _ hk => trivial), by repeat (with_reducible first | exact HB.out | apply bA_q | apply pB_q | apply bD_q | refine bS_q ?_ (i5_q HI401.out) | refine bS_q ?_ GE398.out | refine bS_q ?_ GE413.out | refine bS_q ?_ GE418.out)⟩
     subst c41
     have H1 : (if 0 ≤ t421 then (if t421 < (t402.length : Int) then (if t421 < (t409.length : Int) then ((spec_l6Rd_pick.f kj30 t399 t422 4).bind fun bt428 => ((spec_l6Rd_pick.f kj30 t399 bt428.2 9).bind fun bt430 => (some (t402, t409, (rd_T31 t402 t421).f2, wrap64 ((rd t409 t421) + bt428.1), wrap64 ((wrap64 ((rd t409 t421) + bt428.1)) + bt430.1))))) else (none)) else (none)) else (none)) = some (r1, r2, r3, r4, r5) := by rw [if_pos rfl] at H; exact H
     clear H
     have H := H1
     clear H1
     by_cases c42 : 0 ≤ t421
     rotate_left
     ·rw [if_neg c42] at H
      exact absurd H (by simp)
     rw [if_pos c42] at H
     have c42b0 : decide (0 ≤ t421) = true := dT_q c42
     clear c42
     by_cases c43 : t421 < (t402.length : Int)
     rotate_left
     ·rw [if_neg c43] at H
      exact absurd H (by simp)
     rw [if_pos c43] at H
     have c43b0 : decide (t421 < (t402.length : Int)) = true := dT_q c43
     clear c43
     by_cases c44 : t421 < (t409.length : Int)
     rotate_left
     ·rw [if_neg c44] at H
      exact absurd H (by simp)
     rw [if_pos c44] at H
     have c44b0 : decide (t421 < (t409.length : Int)) = true := dT_q c44
     clear c44
     replace H := oB_q.mp H
     obtain ⟨⟨t428, t429⟩, A450, H⟩ := H
     replace H : ((spec_l6Rd_pick.f kj30 t399 t429 9).bind fun bt430 => (some (t402, t409, (rd_T31 t402 t421).f2, wrap64 ((rd t409 t421) + t428), wrap64 ((wrap64 ((rd t409 t421) + t428)) + bt430.1)))) = some (r1, r2, r3, r4, r5) := H
     have A45 := Ae_q A450
     clear A450
     replace H := oB_q.mp H
     obtain ⟨⟨t430, t431⟩, A460, H⟩ := H
     replace H : (some (t402, t409, (rd_T31 t402 t421).f2, wrap64 ((rd t409 t421) + t428), wrap64 ((wrap64 ((rd t409 t421) + t428)) + t430))) = some (r1, r2, r3, r4, r5) := H
     have A46 := Ae_q A460
     clear A460
     simp only [oE_q, pE_q] at H
     obtain ⟨rfl, rfl, rfl, rfl, rfl⟩ := H
     have p426 : 0 ≤ (t421 : Int) := oD_q (by assumption)
     have q426 : t421 < (t402.length : Int) := oD_q (by assumption)
     obtain ⟨ad426, A426_3, c426_3, e426, hx426_0, hx426_1, hx426_2, hx426_3, hl426_3, hi426_3⟩ := at_T31 (Kd.S_reads' HO_6.out).2.2 t421 p426 q426
     cases e426
     obtain ⟨ce426, hce426, hMe426, hcc426⟩ := Kd.S_get HO_6.out z31 t421 p426 (by first | exact q426 | exact oD_q (by assumption) | (have e_ := (Kd.S_reads' HO_6.out).1; omega))
     obtain ⟨ve426_3, rfl, ge426_3⟩ := k31_openM hMe426
     have hv426_3 := hcc426 3 _ rfl
     rw [add_field _ _ 3 (by omega)] at hv426_3
     replace hv426_3 := oI_q (hv426_3.symm.trans hx426_3)
     rw [hv426_3] at ge426_3
     have HL426_3 := Ae_q (show Kd.R kI_q 3 _ _ _ _ ((rd_T31 t402 t421).f3) from ge426_3)
     clear hv426_3 ge426_3
     clear hcc426 hce426
     have HR426_3 := Ae_q hi426_3
     have HC426_3 := Ae_q hl426_3
     clear hi426_3 hl426_3
     replace p426 := eq_true p426
     replace q426 := eq_true q426
     have hnb47 := NB418_398.out
     have hnc47 := NB398_418.out
     have hnb48 := NB418_413.out
     have hnc48 := NB413_418.out
     have hnb49 := NB418_401.out
     have hnc49 := NB401_418.out
     have hcz50_0 : wc.cell? ⟨gb418, 0, none⟩ = some (.int .i64 t414) := (bC_q BK418.out 0).trans rfl
     have hcz50_1 : wc.cell? ⟨gb418, 1, none⟩ = some (.int .i64 t415) := (bC_q BK418.out 1).trans rfl
     have hcz50_2 : wc.cell? ⟨gb418, 2, none⟩ = some (.int .i64 t416) := (bC_q BK418.out 2).trans rfl
     have hfz50_0 := bF_q BK418.out 0
     have hfz50_1 := bF_q BK418.out 1
     have hfz50_2 := bF_q BK418.out 2
     try go_wp2
     have n0_ : Aside0 (Kd.S k31 31 (wc.setCell ⟨gb418, 0, none⟩ (.int .i64 ((rd_T31 t402 t421).f2))) w.heap.size (fun k_ => some k_ ≠ (v410 : Value).ownBlock ∧ some k_ ≠ (.slice Ao13 t406.length co13 : Value).ownBlock) (.slice (some ad426) t402.length co32) t402) := ⟨by (with_reducible repeat (first | apply tA_q | apply tN_q | apply tD_q)); exact Kd.S_mono (Kd.S_far (p := ⟨gb418, 0, none⟩) (Kd.S_types HO_6.out BK418.out (by decide)) (fun _ hk => hk.2) (.int .i64 ((rd_T31 t402 t421).f2))) (fun _ hk => ⟨hk.1.1, hk.1.2⟩)⟩
     have n1_ : Aside0 (Kd.R kI_q 3 (wc.setCell ⟨gb418, 0, none⟩ (.int .i64 ((rd_T31 t402 t421).f2))) w.heap.size (fun k_ => some k_ ≠ (.slice Ao13 t406.length co13 : Value).ownBlock) v410 t409) := ⟨by (with_reducible repeat (first | apply rA_q | apply rN_q | apply rD_q)); exact rM_q (Kd.R_far (p := ⟨gb418, 0, none⟩) (Kd.R_types HO_8.out BK418.out (by decide)) (fun _ hk => hk.2) (.int .i64 ((rd_T31 t402 t421).f2))) (fun _ hk => hk.1)⟩
     have n2_ : Aside0 (Kd.R kI_q 3 (wc.setCell ⟨gb418, 0, none⟩ (.int .i64 ((rd_T31 t402 t421).f2))) w.heap.size (fun k_ => some k_ ≠ (v410 : Value).ownBlock) (.slice Ao13 t406.length co13) t406) := ⟨by (with_reducible repeat (first | apply rA_q | apply rN_q | apply rD_q)); exact rM_q (Kd.R_far (p := ⟨gb418, 0, none⟩) (Kd.R_types HO_414001.out BK418.out (by decide)) (fun _ hk => hk.2) (.int .i64 ((rd_T31 t402 t421).f2))) (fun _ hk => hk.1)⟩
     have n3_ : Aside0 (Kd.R kI_q 3 (wc.setCell ⟨gb418, 0, none⟩ (.int .i64 ((rd_T31 t402 t421).f2))) w.heap.size (fun k_ => some k_ ≠ (.slice (some ad426) t402.length co32 : Value).ownBlock ∧ some k_ ≠ (v410 : Value).ownBlock ∧ some k_ ≠ (.slice Ao13 t406.length co13 : Value).ownBlock) (.slice A426_3 ((rd_T31 t402 t421).f3).length c426_3) ((rd_T31 t402 t421).f3)) := ⟨by (with_reducible repeat (first | apply rA_q | apply rN_q | apply rD_q)); exact rM_q (Kd.R_far (p := ⟨gb418, 0, none⟩) (Kd.R_types HL426_3.out BK418.out (by decide)) (fun _ hk => hk.2) (.int .i64 ((rd_T31 t402 t421).f2))) (fun _ hk => ⟨hk.1.2, ⟨hk.1.1.1, hk.1.1.2⟩⟩)⟩
     have n4_ : Aside0 ((wc.setCell ⟨gb418, 0, none⟩ (.int .i64 ((rd_T31 t402 t421).f2))).heap[gb398]? = some (.cells #[.int .i64 0, .int .i64 0, .int .i64 0] 52 (0, 0))) := ⟨by (with_reducible repeat (first | refine bN_q ?_ _ | refine bW_q ?_ | refine bL_q ?_ _)); refine blk_far ?_ NB398_418.out _; (with_reducible repeat (first | refine bN_q ?_ _ | refine bW_q ?_ | refine bL_q ?_ _)); exact BK398.out⟩
     have n5_ : Aside0 ((wc.setCell ⟨gb418, 0, none⟩ (.int .i64 ((rd_T31 t402 t421).f2))).heap[gb413]? = some (.cells #[.int .i64 t405, .slice Ao13 t406.length co13] 41 (0, 0))) := ⟨by (with_reducible repeat (first | refine bN_q ?_ _ | refine bW_q ?_ | refine bL_q ?_ _)); refine blk_far ?_ NB413_418.out _; (with_reducible repeat (first | refine bN_q ?_ _ | refine bW_q ?_ | refine bL_q ?_ _)); exact BK413.out⟩
     have n6_ : Aside0 ((wc.setCell ⟨gb418, 0, none⟩ (.int .i64 ((rd_T31 t402 t421).f2))).heap[gb418]? = some (.cells #[.int .i64 ((rd_T31 t402 t421).f2), .int .i64 t415, .int .i64 t416] 52 (0, 0))) := ⟨by (with_reducible repeat (first | refine bN_q ?_ _ | refine bW_q ?_ | refine bL_q ?_ _)); refine blk_put (cs := #[.int .i64 t414, .int .i64 t415, .int .i64 t416]) ?_ 0 _ rfl; (with_reducible repeat (first | refine bN_q ?_ _ | refine bW_q ?_ | refine bL_q ?_ _)); exact BK418.out⟩
     have n7_ : Aside0 (IsS74 w (wc.setCell ⟨gb418, 0, none⟩ (.int .i64 ((rd_T31 t402 t421).f2))) g401 t399 t422) := ⟨by repeat (with_reducible first | exact HI401.out | apply i3_q | apply i2_q | apply i1_q | apply i4_q | refine i0_q ?_ NB401_398.out _ | refine i0_q ?_ NB401_413.out _ | refine i0_q ?_ NB401_418.out _)⟩
     have n8_ : Aside0 (Below w.heap.size w (wc.setCell ⟨gb418, 0, none⟩ (.int .i64 ((rd_T31 t402 t421).f2)))) := ⟨by repeat (with_reducible first | exact HB.out | apply bA_q | apply pB_q | apply bD_q | refine bS_q ?_ (i5_q HI401.out) | refine bS_q ?_ GE398.out | refine bS_q ?_ GE413.out | refine bS_q ?_ GE418.out)⟩
     (try clear HO_6)
     (try clear HO_8)
     (try clear HO_414001)
     (try clear HL426_3)
     (try clear BK398)
     (try clear BK413)
     (try clear BK418)
     (try clear HI401)
     (try clear HB)
     generalize (wc.setCell ⟨gb418, 0, none⟩ (.int .i64 ((rd_T31 t402 t421).f2))) = w51 at n0_ n1_ n2_ n3_ n4_ n5_ n6_ n7_ n8_ ⊢
     have HO_6 := n0_
     have HO_8 := n1_
     have HO_414001 := n2_
     have HL426_3 := n3_
     have BK398 := n4_
     have BK413 := n5_
     have BK418 := n6_
     have HI401 := n7_
     have HB := n8_
     clear n0_ n1_ n2_ n3_ n4_ n5_ n6_ n7_ n8_
     have n0_ := Ae_q (tD_q HO_6.out)
     have n1_ := Ae_q (rD_q HO_8.out)
     have n2_ := Ae_q (rD_q HO_414001.out)
     have n3_ := Ae_q (rD_q HL426_3.out)
     have n4_ := Ae_q (bW_q BK398.out)
     have n5_ := Ae_q (bW_q BK413.out)
     have n6_ := Ae_q (bW_q BK418.out)
     have n7_ := Ae_q (i1_q HI401.out)
     have n8_ := Ae_q (bD_q HB.out)
     clear HO_6
     clear HO_8
     clear HO_414001
     clear HL426_3
     clear BK398
     clear BK413
     clear BK418
     clear HI401
     clear HB
     have HO_6 := n0_
     have HO_8 := n1_
     have HO_414001 := n2_
     have HL426_3 := n3_
     have BK398 := n4_
     have BK413 := n5_
     have BK418 := n6_
     have HI401 := n7_
     have HB := n8_
     clear n0_ n1_ n2_ n3_ n4_ n5_ n6_ n7_ n8_
     obtain ⟨Ao53, co53, eo53⟩ := rS_q HO_8.out
     (first | subst eo53 | (injection eo53 with f1_ f2_ f3_; have f4_ := f1_.symm; have f5_ := f3_.symm; clear f1_ f2_ f3_; subst f4_; subst f5_))
     have p427 : 0 ≤ (t421 : Int) := oD_q (by assumption)
     have q427 : t421 < (t409.length : Int) := oD_q (by assumption)
     obtain ⟨ad427, e427, hx427_0⟩ := aI_q (rR_q HO_8.out).2.2 t421 p427 q427
     cases e427
     replace p427 := eq_true p427
     replace q427 := eq_true q427
     refine start_ (n := 9) (S := fun w' => w'.cell? (ad427.add (t421).toNat) = some (.int .i64 (rd t409 t421))) (ds := []) #[false, false, false, false, false, false, false, false, false] (by kernel_rfl) rfl rfl (hx427_0) (fun hHeld => ?_); refine with_tabW spec_DrawOutageHits.tab8 spec_DrawOutageHits.bits8 (fun HT_ HW_ => ?_)
     generalize w51.drew = w52 at HO_6 HO_8 HO_414001 HL426_3 BK398 BK413 BK418 HI401 HB hx427_0 hHeld ⊢
     refine pure_ (i := 0) (N := some 66) (v := ?_) (a' := ?_) #[true, false, false, false, false, false, false, false, false] rfl rfl (any_of HT_.out (by kernel_rfl)) (fun _ _ _ h => h) (Or.inl ⟨by rfl, ?_⟩) ?_ ?_
     rotate_left
     ·intro w'
      go_simp
      with_reducible rfl
     rotate_left
     ·simp only [Act.put, sA_q, sZ_q, sS_q, i64_w, i32_w]
      rfl
     refine pure_ (i := 1) (N := some 67) (v := ?_) (a' := ?_) #[true, true, false, false, false, false, false, false, false] rfl rfl (any_of HT_.out (by kernel_rfl)) (fun _ _ _ h => h) (Or.inl ⟨by rfl, ?_⟩) ?_ ?_
     rotate_left
     ·intro w'
      go_simp
      with_reducible rfl
     rotate_left
     ·simp only [Act.put, sA_q, sZ_q, sS_q, i64_w, i32_w]
      rfl
     refine pure_ (i := 2) (N := some 68) (v := ?_) (a' := ?_) #[true, true, true, false, false, false, false, false, false] rfl rfl (any_of HT_.out (by kernel_rfl)) (fun _ _ _ h => h) (Or.inl ⟨by rfl, ?_⟩) ?_ ?_
     rotate_left
     ·intro w'
      go_simp
      with_reducible rfl
     rotate_left
     ·simp only [Act.put, sA_q, sZ_q, sS_q, i64_w, i32_w]
      rfl
     refine pure_ (i := 4) (N := some 70) (v := ?_) (a' := ?_) #[true, true, true, false, true, false, false, false, false] rfl rfl (any_of HT_.out (by kernel_rfl)) (fun _ _ _ h => h) (Or.inl ⟨by rfl, ?_⟩) ?_ ?_
     rotate_left
     ·intro w'
      go_simp
      with_reducible rfl
     rotate_left
     ·simp only [Act.put, sA_q, sZ_q, sS_q, i64_w, i32_w]
      rfl
     refine take_ (i := 3) (N := some 69) (v := ?_) (a' := ?_) #[true, true, true, true, true, false, false, false, false] rfl rfl (take_ofW HT_.out HW_.out (by kernel_rfl)) (fun _ _ _ h => h) (Or.inl ⟨by rfl, ?_⟩) hHeld ?_ ?_
     rotate_left
     ·intro w' s0
      go_simp
      with_reducible rfl
     rotate_left
     ·simp only [Act.put, sA_q, sZ_q, sS_q, i64_w, i32_w]
      rfl
     refine one_ (i := 5) (N := some 71) #[true, true, true, true, true, true, false, false, false] rfl rfl (one_of HT_.out (by kernel_rfl)) (by decide) (fun K hK => ?_)
     refine goes_ Try.func34 (by kernel_rfl) rfl #[.pointer (some ⟨g401, 0, none⟩), .int .i64 4] (by rfl) rfl rfl (by (try simp only [lM_q, lC_q, lN_q]); first | done | rfl | (simp only [lD_q, lT_q]; rfl)) ?_
     with_reducible refine (spec_l6Rd_pick.calls kj30 g401 t399 t422 4 t428 t429 w _ ?side1 ?side2 A45.out).mono ?_
     (case side1 => repeat (with_reducible first | exact HI401.out | apply i3_q | apply i2_q | apply i1_q | apply i4_q | refine i0_q ?_ NB401_398.out _ | refine i0_q ?_ NB401_413.out _ | refine i0_q ?_ NB401_418.out _))
     (case side2 => repeat (with_reducible first | exact HB.out | apply bA_q | apply pB_q | apply bD_q | refine bS_q ?_ (i5_q HI401.out) | refine bS_q ?_ GE398.out | refine bS_q ?_ GE413.out | refine bS_q ?_ GE418.out))
     rintro e w54 ⟨rfl, hi, hb, hk⟩
     have HS0_ := keep_cell hk (hHeld) (by first | (rw [add_block]; exact Kd.own_blk (IsS74.own_ne HI401.out HO_8.out (by decide))) | (show (Addr.add _ _).block ≠ _; rw [add_block]; exact Kd.own_blk (IsS74.own_ne HI401.out HO_8.out (by decide))) | exact Kd.own_blk (IsS74.own_ne HI401.out HO_8.out (by decide)))
     refine ⟨_, rfl, ?_⟩
     have n0_ := Ae_q (Kd.S_mono (Kd.S_keep (IsS74.apartS (show IsS74 w _ g401 t399 t422 from by repeat (with_reducible first | exact HI401.out | apply i3_q | apply i2_q | apply i1_q | apply i4_q | refine i0_q ?_ NB401_398.out _ | refine i0_q ?_ NB401_413.out _ | refine i0_q ?_ NB401_418.out _)) (by (with_reducible repeat (first | apply tA_q | apply tN_q | apply tD_q)); exact HO_6.out) (by decide)) hk (fun _ h => h.2)) (fun _ h => h.1))
     have n1_ := Ae_q (rM_q (rK_q (i8_q (show IsS74 w _ g401 t399 t422 from by repeat (with_reducible first | exact HI401.out | apply i3_q | apply i2_q | apply i1_q | apply i4_q | refine i0_q ?_ NB401_398.out _ | refine i0_q ?_ NB401_413.out _ | refine i0_q ?_ NB401_418.out _)) (rup HO_8.out) (by decide)) hk (fun _ h => h.2)) (fun _ h => h.1))
     have n2_ := Ae_q (rM_q (rK_q (i8_q (show IsS74 w _ g401 t399 t422 from by repeat (with_reducible first | exact HI401.out | apply i3_q | apply i2_q | apply i1_q | apply i4_q | refine i0_q ?_ NB401_398.out _ | refine i0_q ?_ NB401_413.out _ | refine i0_q ?_ NB401_418.out _)) (rup HO_414001.out) (by decide)) hk (fun _ h => h.2)) (fun _ h => h.1))
     have n3_ := Ae_q (kB_q hk (g' := gb398) (o := .cells #[.int .i64 0, .int .i64 0, .int .i64 0] 52 (0, 0)) (bup BK398.out) NB398_401.out (by simp))
     have n4_ := Ae_q (kB_q hk (g' := gb413) (o := .cells #[.int .i64 t405, .slice Ao13 t406.length co13] 41 (0, 0)) (bup BK413.out) NB413_401.out (by simp))
     have n5_ := Ae_q (kB_q hk (g' := gb418) (o := .cells #[.int .i64 ((rd_T31 t402 t421).f2), .int .i64 t415, .int .i64 t416] 52 (0, 0)) (bup BK418.out) NB418_401.out (by simp))
     have n6_ := Ae_q (rM_q (rK_q (i8_q (show IsS74 w _ g401 t399 t422 from by repeat (with_reducible first | exact HI401.out | apply i3_q | apply i2_q | apply i1_q | apply i4_q | refine i0_q ?_ NB401_398.out _ | refine i0_q ?_ NB401_413.out _ | refine i0_q ?_ NB401_418.out _)) (by (with_reducible repeat (first | apply rA_q | apply rN_q | apply rD_q)); exact HL426_3.out) (by decide)) hk (fun _ h => h.2)) (fun _ h => h.1))
     have n7_ := Ae_q (hb)
     have n8_ := Ae_q (hi)
     clear HO_6
     clear HO_8
     clear HO_414001
     clear BK398
     clear BK413
     clear BK418
     clear HL426_3
     clear HB
     clear HI401
     have HO_6 := n0_
     have HO_8 := n1_
     have HO_414001 := n2_
     have BK398 := n3_
     have BK413 := n4_
     have BK418 := n5_
     have HL426_3 := n6_
     have HB := n7_
     have HI401 := n8_
     clear n0_ n1_ n2_ n3_ n4_ n5_ n6_ n7_ n8_
     (try clear hb)
     (try clear hb2)
     (try clear hk)
     (try clear hi)
     refine hK.out _ _ (HS0_) (fun hHeld => ?_)
     clear hK K
     refine norm_ (a' := ?_) ?_ ?_
     rotate_left
     ·show Act.put _ (some 71) _ = _
      simp only [Act.put, sA_q, sZ_q, sS_q, i64_w, i32_w]
      rfl
     refine pure_ (i := 6) (N := some 72) (v := ?_) (a' := ?_) #[true, true, true, true, true, true, true, false, false] rfl rfl (any_of HT_.out (by kernel_rfl)) (fun _ _ _ h => h) (Or.inl ⟨by rfl, ?_⟩) ?_ ?_
     rotate_left
     ·intro w'
      go_simp
      with_reducible rfl
     rotate_left
     ·simp only [Act.put, sA_q, sZ_q, sS_q, i64_w, i32_w]
      rfl
     refine pure_ (i := 7) (N := some 73) (v := ?_) (a' := ?_) #[true, true, true, true, true, true, true, true, false] rfl rfl (any_of HT_.out (by kernel_rfl)) (fun _ _ _ h => h) (Or.inl ⟨by rfl, ?_⟩) ?_ ?_
     rotate_left
     ·intro w'
      go_simp
      with_reducible rfl
     rotate_left
     ·simp only [Act.put, sA_q, sZ_q, sS_q, i64_w, i32_w]
      rfl
     refine one_ (i := 8) (N := none) #[true, true, true, true, true, true, true, true, true] rfl rfl (one_of HT_.out (by kernel_rfl)) (by decide) (fun K hK => ?_)
     have hs55 : w54.cell? ⟨gb418, 1, none⟩ = some (.int .i64 t415) := (bC_q BK418.out 1).trans rfl
     have hfs55 := bF_q BK418.out 1
     have hns55_0 := NB398_418.out
     have hns55_1 := NB413_418.out
     have hms55_0 := NB418_398.out
     have hms55_1 := NB418_413.out
     refine skip_ (w1 := ?_) (by rfl) rfl ?_ ?_
     rotate_left
     ·go_simp
      rfl
     refine hK.out _ _ (((cell_far (p := ⟨gb418, _, none⟩) (by first | exact Kd.own_blk (Kd.R_ne HO_8.out BK418.out (by decide)) | (rw [add_block]; exact Kd.own_blk (Kd.R_ne HO_8.out BK418.out (by decide))) | (show (Addr.add _ _).block ≠ _; rw [add_block]; exact Kd.own_blk (Kd.R_ne HO_8.out BK418.out (by decide))) | (dsimp only; exact Kd.own_blk (Kd.R_ne HO_8.out BK418.out (by decide)))) _).trans (hHeld))) (fun hHeld => ?_)
     clear hK K
     refine done_ (done_of HT_.out (by kernel_rfl)) ?_
     try go_wp2
     have n0_ : Aside0 (Kd.S k31 31 (w54.setCell ⟨gb418, 1, none⟩ (.int .i64 (wrap64 ((rd t409 t421) + t428)))) w.heap.size (fun k_ => some k_ ≠ (.slice (some ad427) t409.length co53 : Value).ownBlock ∧ some k_ ≠ (.slice Ao13 t406.length co13 : Value).ownBlock) (.slice (some ad426) t402.length co32) t402) := ⟨by (with_reducible repeat (first | apply tA_q | apply tN_q | apply tD_q)); exact Kd.S_mono (Kd.S_far (p := ⟨gb418, 1, none⟩) (Kd.S_types HO_6.out BK418.out (by decide)) (fun _ hk => hk.2) (.int .i64 (wrap64 ((rd t409 t421) + t428)))) (fun _ hk => ⟨hk.1.1, hk.1.2⟩)⟩
     have n1_ : Aside0 (Kd.R kI_q 3 (w54.setCell ⟨gb418, 1, none⟩ (.int .i64 (wrap64 ((rd t409 t421) + t428)))) w.heap.size (fun k_ => some k_ ≠ (.slice Ao13 t406.length co13 : Value).ownBlock) (.slice (some ad427) t409.length co53) t409) := ⟨by (with_reducible repeat (first | apply rA_q | apply rN_q | apply rD_q)); exact rM_q (Kd.R_far (p := ⟨gb418, 1, none⟩) (Kd.R_types HO_8.out BK418.out (by decide)) (fun _ hk => hk.2) (.int .i64 (wrap64 ((rd t409 t421) + t428)))) (fun _ hk => hk.1)⟩
     have n2_ : Aside0 (Kd.R kI_q 3 (w54.setCell ⟨gb418, 1, none⟩ (.int .i64 (wrap64 ((rd t409 t421) + t428)))) w.heap.size (fun k_ => some k_ ≠ (.slice (some ad427) t409.length co53 : Value).ownBlock) (.slice Ao13 t406.length co13) t406) := ⟨by (with_reducible repeat (first | apply rA_q | apply rN_q | apply rD_q)); exact rM_q (Kd.R_far (p := ⟨gb418, 1, none⟩) (Kd.R_types HO_414001.out BK418.out (by decide)) (fun _ hk => hk.2) (.int .i64 (wrap64 ((rd t409 t421) + t428)))) (fun _ hk => hk.1)⟩
     have n3_ : Aside0 (Kd.R kI_q 3 (w54.setCell ⟨gb418, 1, none⟩ (.int .i64 (wrap64 ((rd t409 t421) + t428)))) w.heap.size (fun k_ => some k_ ≠ (.slice (some ad426) t402.length co32 : Value).ownBlock ∧ some k_ ≠ (.slice (some ad427) t409.length co53 : Value).ownBlock ∧ some k_ ≠ (.slice Ao13 t406.length co13 : Value).ownBlock) (.slice A426_3 ((rd_T31 t402 t421).f3).length c426_3) ((rd_T31 t402 t421).f3)) := ⟨by (with_reducible repeat (first | apply rA_q | apply rN_q | apply rD_q)); exact rM_q (Kd.R_far (p := ⟨gb418, 1, none⟩) (Kd.R_types HL426_3.out BK418.out (by decide)) (fun _ hk => hk.2) (.int .i64 (wrap64 ((rd t409 t421) + t428)))) (fun _ hk => ⟨hk.1.1, ⟨hk.1.2.1, hk.1.2.2⟩⟩)⟩
     have n4_ : Aside0 ((w54.setCell ⟨gb418, 1, none⟩ (.int .i64 (wrap64 ((rd t409 t421) + t428)))).heap[gb398]? = some (.cells #[.int .i64 0, .int .i64 0, .int .i64 0] 52 (0, 0))) := ⟨by (with_reducible repeat (first | refine bN_q ?_ _ | refine bW_q ?_ | refine bL_q ?_ _)); refine blk_far ?_ NB398_418.out _; (with_reducible repeat (first | refine bN_q ?_ _ | refine bW_q ?_ | refine bL_q ?_ _)); exact BK398.out⟩
     have n5_ : Aside0 ((w54.setCell ⟨gb418, 1, none⟩ (.int .i64 (wrap64 ((rd t409 t421) + t428)))).heap[gb413]? = some (.cells #[.int .i64 t405, .slice Ao13 t406.length co13] 41 (0, 0))) := ⟨by (with_reducible repeat (first | refine bN_q ?_ _ | refine bW_q ?_ | refine bL_q ?_ _)); refine blk_far ?_ NB413_418.out _; (with_reducible repeat (first | refine bN_q ?_ _ | refine bW_q ?_ | refine bL_q ?_ _)); exact BK413.out⟩
     have n6_ : Aside0 ((w54.setCell ⟨gb418, 1, none⟩ (.int .i64 (wrap64 ((rd t409 t421) + t428)))).heap[gb418]? = some (.cells #[.int .i64 ((rd_T31 t402 t421).f2), .int .i64 (wrap64 ((rd t409 t421) + t428)), .int .i64 t416] 52 (0, 0))) := ⟨by (with_reducible repeat (first | refine bN_q ?_ _ | refine bW_q ?_ | refine bL_q ?_ _)); refine blk_put (cs := #[.int .i64 ((rd_T31 t402 t421).f2), .int .i64 t415, .int .i64 t416]) ?_ 1 _ rfl; (with_reducible repeat (first | refine bN_q ?_ _ | refine bW_q ?_ | refine bL_q ?_ _)); exact BK418.out⟩
     have n7_ : Aside0 (IsS74 w (w54.setCell ⟨gb418, 1, none⟩ (.int .i64 (wrap64 ((rd t409 t421) + t428)))) g401 t399 t429) := ⟨by repeat (with_reducible first | exact HI401.out | apply i3_q | apply i2_q | apply i1_q | apply i4_q | refine i0_q ?_ NB401_398.out _ | refine i0_q ?_ NB401_413.out _ | refine i0_q ?_ NB401_418.out _)⟩
     have n8_ : Aside0 (Below w.heap.size w (w54.setCell ⟨gb418, 1, none⟩ (.int .i64 (wrap64 ((rd t409 t421) + t428))))) := ⟨by repeat (with_reducible first | exact HB.out | apply bA_q | apply pB_q | apply bD_q | refine bS_q ?_ (i5_q HI401.out) | refine bS_q ?_ GE398.out | refine bS_q ?_ GE413.out | refine bS_q ?_ GE418.out)⟩
     (try clear HO_6)
     (try clear HO_8)
     (try clear HO_414001)
     (try clear HL426_3)
     (try clear BK398)
     (try clear BK413)
     (try clear BK418)
     (try clear HI401)
     (try clear HB)
     generalize (w54.setCell ⟨gb418, 1, none⟩ (.int .i64 (wrap64 ((rd t409 t421) + t428)))) = w56 at n0_ n1_ n2_ n3_ n4_ n5_ n6_ n7_ n8_ ⊢
     have HO_6 := n0_
     have HO_8 := n1_
     have HO_414001 := n2_
     have HL426_3 := n3_
     have BK398 := n4_
     have BK413 := n5_
     have BK418 := n6_
     have HI401 := n7_
     have HB := n8_
     clear n0_ n1_ n2_ n3_ n4_ n5_ n6_ n7_ n8_
     have n0_ := Ae_q (tD_q HO_6.out)
     have n1_ := Ae_q (rD_q HO_8.out)
     have n2_ := Ae_q (rD_q HO_414001.out)
     have n3_ := Ae_q (rD_q HL426_3.out)
     have n4_ := Ae_q (bW_q BK398.out)
     have n5_ := Ae_q (bW_q BK413.out)
     have n6_ := Ae_q (bW_q BK418.out)
     have n7_ := Ae_q (i1_q HI401.out)
     have n8_ := Ae_q (bD_q HB.out)
     clear HO_6
     clear HO_8
     clear HO_414001
     clear HL426_3
     clear BK398
     clear BK413
     clear BK418
     clear HI401
     clear HB
     have HO_6 := n0_
     have HO_8 := n1_
     have HO_414001 := n2_
     have HL426_3 := n3_
     have BK398 := n4_
     have BK413 := n5_
     have BK418 := n6_
     have HI401 := n7_
     have HB := n8_
     clear n0_ n1_ n2_ n3_ n4_ n5_ n6_ n7_ n8_
     refine start_ (n := 7) (S := fun w' => w'.cell? ⟨gb418, 0, none⟩ = some (.int .i64 ((rd_T31 t402 t421).f2)) ∧ w'.cell? ⟨gb418, 1, none⟩ = some (.int .i64 (wrap64 ((rd t409 t421) + t428))) ∧ w'.cell? ⟨gb418, 2, none⟩ = some (.int .i64 t416)) (ds := [6]) #[false, false, false, false, false, false, false] (by kernel_rfl) rfl rfl ⟨(bC_q BK418.out 0).trans rfl, (bC_q BK418.out 1).trans rfl, (bC_q BK418.out 2).trans rfl⟩ (fun hHeld => ?_)
     generalize w56.drew = w57 at HO_6 HO_8 HO_414001 HL426_3 BK398 BK413 BK418 HI401 HB hHeld ⊢
     refine pure_ (i := 0) (N := some 74) (v := ?_) (a' := ?_) #[true, false, false, false, false, false, false] rfl rfl (by kernel_rfl) (fun _ _ _ h => h) (Or.inl ⟨by rfl, ?_⟩) ?_ ?_
     rotate_left
     ·intro w'
      go_simp
      with_reducible rfl
     rotate_left
     ·simp only [Act.put, sA_q, sZ_q, sS_q, i64_w, i32_w]
      rfl
     refine pure_ (i := 2) (N := some 76) (v := ?_) (a' := ?_) #[true, false, true, false, false, false, false] rfl rfl (by kernel_rfl) (fun _ _ _ h => h) (Or.inl ⟨by rfl, ?_⟩) ?_ ?_
     rotate_left
     ·intro w'
      go_simp
      with_reducible rfl
     rotate_left
     ·simp only [Act.put, sA_q, sZ_q, sS_q, i64_w, i32_w]
      rfl
     refine take_ (i := 1) (N := some 75) (v := ?_) (a' := ?_) #[true, true, true, false, false, false, false] rfl rfl (by kernel_rfl) (fun _ _ _ h => h) (Or.inl ⟨by rfl, ?_⟩) hHeld ?_ ?_
     rotate_left
     ·rintro w' ⟨s0, s1, s2⟩
      go_simp
      with_reducible rfl
     rotate_left
     ·simp only [Act.put, sA_q, sZ_q, sS_q, i64_w, i32_w]
      rfl
     refine one_ (i := 3) (N := some 77) #[true, true, true, true, false, false, false] rfl rfl (by kernel_rfl) (by decide) (fun K hK => ?_)
     refine goes_ Try.func34 (by kernel_rfl) rfl #[.pointer (some ⟨g401, 0, none⟩), .int .i64 9] (by rfl) rfl rfl (by (try simp only [lM_q, lC_q, lN_q]); first | done | rfl | (simp only [lD_q, lT_q]; rfl)) ?_
     with_reducible refine (spec_l6Rd_pick.calls kj30 g401 t399 t429 9 t430 t431 w _ ?side1 ?side2 A46.out).mono ?_
     (case side1 => repeat (with_reducible first | exact HI401.out | apply i3_q | apply i2_q | apply i1_q | apply i4_q | refine i0_q ?_ NB401_398.out _ | refine i0_q ?_ NB401_413.out _ | refine i0_q ?_ NB401_418.out _))
     (case side2 => repeat (with_reducible first | exact HB.out | apply bA_q | apply pB_q | apply bD_q | refine bS_q ?_ (i5_q HI401.out) | refine bS_q ?_ GE398.out | refine bS_q ?_ GE413.out | refine bS_q ?_ GE418.out))
     rintro e w58 ⟨rfl, hi, hb, hk⟩
     refine ⟨_, rfl, ?_⟩
     have n0_ := Ae_q (Kd.S_mono (Kd.S_keep (IsS74.apartS (show IsS74 w _ g401 t399 t429 from by repeat (with_reducible first | exact HI401.out | apply i3_q | apply i2_q | apply i1_q | apply i4_q | refine i0_q ?_ NB401_398.out _ | refine i0_q ?_ NB401_413.out _ | refine i0_q ?_ NB401_418.out _)) (by (with_reducible repeat (first | apply tA_q | apply tN_q | apply tD_q)); exact HO_6.out) (by decide)) hk (fun _ h => h.2)) (fun _ h => h.1))
     have n1_ := Ae_q (rM_q (rK_q (i8_q (show IsS74 w _ g401 t399 t429 from by repeat (with_reducible first | exact HI401.out | apply i3_q | apply i2_q | apply i1_q | apply i4_q | refine i0_q ?_ NB401_398.out _ | refine i0_q ?_ NB401_413.out _ | refine i0_q ?_ NB401_418.out _)) (rup HO_8.out) (by decide)) hk (fun _ h => h.2)) (fun _ h => h.1))
     have n2_ := Ae_q (rM_q (rK_q (i8_q (show IsS74 w _ g401 t399 t429 from by repeat (with_reducible first | exact HI401.out | apply i3_q | apply i2_q | apply i1_q | apply i4_q | refine i0_q ?_ NB401_398.out _ | refine i0_q ?_ NB401_413.out _ | refine i0_q ?_ NB401_418.out _)) (rup HO_414001.out) (by decide)) hk (fun _ h => h.2)) (fun _ h => h.1))
     have n3_ := Ae_q (kB_q hk (g' := gb398) (o := .cells #[.int .i64 0, .int .i64 0, .int .i64 0] 52 (0, 0)) (bup BK398.out) NB398_401.out (by simp))
     have n4_ := Ae_q (kB_q hk (g' := gb413) (o := .cells #[.int .i64 t405, .slice Ao13 t406.length co13] 41 (0, 0)) (bup BK413.out) NB413_401.out (by simp))
     have n5_ := Ae_q (kB_q hk (g' := gb418) (o := .cells #[.int .i64 ((rd_T31 t402 t421).f2), .int .i64 (wrap64 ((rd t409 t421) + t428)), .int .i64 t416] 52 (0, 0)) (bup BK418.out) NB418_401.out (by simp))
     have n6_ := Ae_q (rM_q (rK_q (i8_q (show IsS74 w _ g401 t399 t429 from by repeat (with_reducible first | exact HI401.out | apply i3_q | apply i2_q | apply i1_q | apply i4_q | refine i0_q ?_ NB401_398.out _ | refine i0_q ?_ NB401_413.out _ | refine i0_q ?_ NB401_418.out _)) (by (with_reducible repeat (first | apply rA_q | apply rN_q | apply rD_q)); exact HL426_3.out) (by decide)) hk (fun _ h => h.2)) (fun _ h => h.1))
     have n7_ := Ae_q (hb)
     have n8_ := Ae_q (hi)
     clear HO_6
     clear HO_8
     clear HO_414001
     clear BK398
     clear BK413
     clear BK418
     clear HL426_3
     clear HB
     clear HI401
     have HO_6 := n0_
     have HO_8 := n1_
     have HO_414001 := n2_
     have BK398 := n3_
     have BK413 := n4_
     have BK418 := n5_
     have HL426_3 := n6_
     have HB := n7_
     have HI401 := n8_
     clear n0_ n1_ n2_ n3_ n4_ n5_ n6_ n7_ n8_
     (try clear hb)
     (try clear hb2)
     (try clear hk)
     (try clear hi)
     refine hK.out _ _ ⟨(bC_q BK418.out 0).trans rfl, (bC_q BK418.out 1).trans rfl, (bC_q BK418.out 2).trans rfl⟩ (fun hHeld => ?_)
     clear hK K
     refine norm_ (a' := ?_) ?_ ?_
     rotate_left
     ·show Act.put _ (some 77) _ = _
      simp only [Act.put, sA_q, sZ_q, sS_q, i64_w, i32_w]
      rfl
     refine pure_ (i := 4) (N := some 78) (v := ?_) (a' := ?_) #[true, true, true, true, true, false, false] rfl rfl (by kernel_rfl) (fun _ _ _ h => h) (Or.inl ⟨by rfl, ?_⟩) ?_ ?_
     rotate_left
     ·intro w'
      go_simp
      with_reducible rfl
     rotate_left
     ·simp only [Act.put, sA_q, sZ_q, sS_q, i64_w, i32_w]
      rfl
     refine pure_ (i := 5) (N := some 79) (v := ?_) (a' := ?_) #[true, true, true, true, true, true, false] rfl rfl (by kernel_rfl) (fun _ _ _ h => h) (Or.inl ⟨by rfl, ?_⟩) ?_ ?_
     rotate_left
     ·intro w'
      go_simp
      with_reducible rfl
     rotate_left
     ·simp only [Act.put, sA_q, sZ_q, sS_q, i64_w, i32_w]
      rfl
     refine last_ (i := 6) (N := none) #[true, true, true, true, true, true, true] rfl rfl (by kernel_rfl) (by decide) (fun K hK => ?_)
     have hs59 : w58.cell? ⟨gb418, 2, none⟩ = some (.int .i64 t416) := (bC_q BK418.out 2).trans rfl
     have hfs59 := bF_q BK418.out 2
     have hns59_0 := NB398_418.out
     have hns59_1 := NB413_418.out
     have hms59_0 := NB418_398.out
     have hms59_1 := NB418_413.out
     refine skip_ (w1 := ?_) (by rfl) rfl ?_ ?_
     rotate_left
     ·go_simp
      rfl
     refine hK.out _ _ ?_
     clear hK K
     refine done_ (by kernel_rfl) ?_
     try go_wp2
     have n0_ : Aside0 (Kd.S k31 31 (w58.setCell ⟨gb418, 2, none⟩ (.int .i64 (wrap64 ((wrap64 ((rd t409 t421) + t428)) + t430)))) w.heap.size (fun k_ => some k_ ≠ (.slice (some ad427) t409.length co53 : Value).ownBlock ∧ some k_ ≠ (.slice Ao13 t406.length co13 : Value).ownBlock) (.slice (some ad426) t402.length co32) t402) := ⟨by (with_reducible repeat (first | apply tA_q | apply tN_q | apply tD_q)); exact Kd.S_mono (Kd.S_far (p := ⟨gb418, 2, none⟩) (Kd.S_types HO_6.out BK418.out (by decide)) (fun _ hk => hk.2) (.int .i64 (wrap64 ((wrap64 ((rd t409 t421) + t428)) + t430)))) (fun _ hk => ⟨hk.1.1, hk.1.2⟩)⟩
     have n1_ : Aside0 (Kd.R kI_q 3 (w58.setCell ⟨gb418, 2, none⟩ (.int .i64 (wrap64 ((wrap64 ((rd t409 t421) + t428)) + t430)))) w.heap.size (fun k_ => some k_ ≠ (.slice Ao13 t406.length co13 : Value).ownBlock) (.slice (some ad427) t409.length co53) t409) := ⟨by (with_reducible repeat (first | apply rA_q | apply rN_q | apply rD_q)); exact rM_q (Kd.R_far (p := ⟨gb418, 2, none⟩) (Kd.R_types HO_8.out BK418.out (by decide)) (fun _ hk => hk.2) (.int .i64 (wrap64 ((wrap64 ((rd t409 t421) + t428)) + t430)))) (fun _ hk => hk.1)⟩
     have n2_ : Aside0 (Kd.R kI_q 3 (w58.setCell ⟨gb418, 2, none⟩ (.int .i64 (wrap64 ((wrap64 ((rd t409 t421) + t428)) + t430)))) w.heap.size (fun k_ => some k_ ≠ (.slice (some ad427) t409.length co53 : Value).ownBlock) (.slice Ao13 t406.length co13) t406) := ⟨by (with_reducible repeat (first | apply rA_q | apply rN_q | apply rD_q)); exact rM_q (Kd.R_far (p := ⟨gb418, 2, none⟩) (Kd.R_types HO_414001.out BK418.out (by decide)) (fun _ hk => hk.2) (.int .i64 (wrap64 ((wrap64 ((rd t409 t421) + t428)) + t430)))) (fun _ hk => hk.1)⟩
     have n3_ : Aside0 (Kd.R kI_q 3 (w58.setCell ⟨gb418, 2, none⟩ (.int .i64 (wrap64 ((wrap64 ((rd t409 t421) + t428)) + t430)))) w.heap.size (fun k_ => some k_ ≠ (.slice (some ad426) t402.length co32 : Value).ownBlock ∧ some k_ ≠ (.slice (some ad427) t409.length co53 : Value).ownBlock ∧ some k_ ≠ (.slice Ao13 t406.length co13 : Value).ownBlock) (.slice A426_3 ((rd_T31 t402 t421).f3).length c426_3) ((rd_T31 t402 t421).f3)) := ⟨by (with_reducible repeat (first | apply rA_q | apply rN_q | apply rD_q)); exact rM_q (Kd.R_far (p := ⟨gb418, 2, none⟩) (Kd.R_types HL426_3.out BK418.out (by decide)) (fun _ hk => hk.2) (.int .i64 (wrap64 ((wrap64 ((rd t409 t421) + t428)) + t430)))) (fun _ hk => ⟨hk.1.1, ⟨hk.1.2.1, hk.1.2.2⟩⟩)⟩
     have n4_ : Aside0 ((w58.setCell ⟨gb418, 2, none⟩ (.int .i64 (wrap64 ((wrap64 ((rd t409 t421) + t428)) + t430)))).heap[gb398]? = some (.cells #[.int .i64 0, .int .i64 0, .int .i64 0] 52 (0, 0))) := ⟨by (with_reducible repeat (first | refine bN_q ?_ _ | refine bW_q ?_ | refine bL_q ?_ _)); refine blk_far ?_ NB398_418.out _; (with_reducible repeat (first | refine bN_q ?_ _ | refine bW_q ?_ | refine bL_q ?_ _)); exact BK398.out⟩
     have n5_ : Aside0 ((w58.setCell ⟨gb418, 2, none⟩ (.int .i64 (wrap64 ((wrap64 ((rd t409 t421) + t428)) + t430)))).heap[gb413]? = some (.cells #[.int .i64 t405, .slice Ao13 t406.length co13] 41 (0, 0))) := ⟨by (with_reducible repeat (first | refine bN_q ?_ _ | refine bW_q ?_ | refine bL_q ?_ _)); refine blk_far ?_ NB413_418.out _; (with_reducible repeat (first | refine bN_q ?_ _ | refine bW_q ?_ | refine bL_q ?_ _)); exact BK413.out⟩
     have n6_ : Aside0 ((w58.setCell ⟨gb418, 2, none⟩ (.int .i64 (wrap64 ((wrap64 ((rd t409 t421) + t428)) + t430)))).heap[gb418]? = some (.cells #[.int .i64 ((rd_T31 t402 t421).f2), .int .i64 (wrap64 ((rd t409 t421) + t428)), .int .i64 (wrap64 ((wrap64 ((rd t409 t421) + t428)) + t430))] 52 (0, 0))) := ⟨by (with_reducible repeat (first | refine bN_q ?_ _ | refine bW_q ?_ | refine bL_q ?_ _)); refine blk_put (cs := #[.int .i64 ((rd_T31 t402 t421).f2), .int .i64 (wrap64 ((rd t409 t421) + t428)), .int .i64 t416]) ?_ 2 _ rfl; (with_reducible repeat (first | refine bN_q ?_ _ | refine bW_q ?_ | refine bL_q ?_ _)); exact BK418.out⟩
     have n7_ : Aside0 (IsS74 w (w58.setCell ⟨gb418, 2, none⟩ (.int .i64 (wrap64 ((wrap64 ((rd t409 t421) + t428)) + t430)))) g401 t399 t431) := ⟨by repeat (with_reducible first | exact HI401.out | apply i3_q | apply i2_q | apply i1_q | apply i4_q | refine i0_q ?_ NB401_398.out _ | refine i0_q ?_ NB401_413.out _ | refine i0_q ?_ NB401_418.out _)⟩
     have n8_ : Aside0 (Below w.heap.size w (w58.setCell ⟨gb418, 2, none⟩ (.int .i64 (wrap64 ((wrap64 ((rd t409 t421) + t428)) + t430))))) := ⟨by repeat (with_reducible first | exact HB.out | apply bA_q | apply pB_q | apply bD_q | refine bS_q ?_ (i5_q HI401.out) | refine bS_q ?_ GE398.out | refine bS_q ?_ GE413.out | refine bS_q ?_ GE418.out)⟩
     (try clear HO_6)
     (try clear HO_8)
     (try clear HO_414001)
     (try clear HL426_3)
     (try clear BK398)
     (try clear BK413)
     (try clear BK418)
     (try clear HI401)
     (try clear HB)
     generalize (w58.setCell ⟨gb418, 2, none⟩ (.int .i64 (wrap64 ((wrap64 ((rd t409 t421) + t428)) + t430)))) = w60 at n0_ n1_ n2_ n3_ n4_ n5_ n6_ n7_ n8_ ⊢
     have HO_6 := n0_
     have HO_8 := n1_
     have HO_414001 := n2_
     have HL426_3 := n3_
     have BK398 := n4_
     have BK413 := n5_
     have BK418 := n6_
     have HI401 := n7_
     have HB := n8_
     clear n0_ n1_ n2_ n3_ n4_ n5_ n6_ n7_ n8_
     have n0_ := Ae_q (tD_q HO_6.out)
     have n1_ := Ae_q (rD_q HO_8.out)
     have n2_ := Ae_q (rD_q HO_414001.out)
     have n3_ := Ae_q (rD_q HL426_3.out)
     have n4_ := Ae_q (bW_q BK398.out)
     have n5_ := Ae_q (bW_q BK413.out)
     have n6_ := Ae_q (bW_q BK418.out)
     have n7_ := Ae_q (i1_q HI401.out)
     have n8_ := Ae_q (bD_q HB.out)
     clear HO_6
     clear HO_8
     clear HO_414001
     clear HL426_3
     clear BK398
     clear BK413
     clear BK418
     clear HI401
     clear HB
     have HO_6 := n0_
     have HO_8 := n1_
     have HO_414001 := n2_
     have HL426_3 := n3_
     have BK398 := n4_
     have BK413 := n5_
     have BK418 := n6_
     have HI401 := n7_
     have HB := n8_
     clear n0_ n1_ n2_ n3_ n4_ n5_ n6_ n7_ n8_
     refine start_ (n := 6) (S := fun w' => w'.cell? ⟨gb418, 0, none⟩ = some (.int .i64 ((rd_T31 t402 t421).f2)) ∧ w'.cell? ⟨gb418, 1, none⟩ = some (.int .i64 (wrap64 ((rd t409 t421) + t428))) ∧ w'.cell? ⟨gb418, 2, none⟩ = some (.int .i64 (wrap64 ((wrap64 ((rd t409 t421) + t428)) + t430)))) (ds := []) #[false, false, false, false, false, false] (by kernel_rfl) rfl rfl ⟨(bC_q BK418.out 0).trans rfl, (bC_q BK418.out 1).trans rfl, (bC_q BK418.out 2).trans rfl⟩ (fun hHeld => ?_)
     generalize w60.drew = w61 at HO_6 HO_8 HO_414001 HL426_3 BK398 BK413 BK418 HI401 HB hHeld ⊢
     refine pure_ (i := 0) (N := some 80) (v := ?_) (a' := ?_) #[true, false, false, false, false, false] rfl rfl (by kernel_rfl) (fun _ _ _ h => h) (Or.inl ⟨by rfl, ?_⟩) ?_ ?_
     rotate_left
     ·intro w'
      go_simp
      with_reducible rfl
     rotate_left
     ·simp only [Act.put, sA_q, sZ_q, sS_q, i64_w, i32_w]
      rfl
     refine pure_ (i := 1) (N := some 81) (v := ?_) (a' := ?_) #[true, true, false, false, false, false] rfl rfl (by kernel_rfl) (fun _ _ _ h => h) (Or.inl ⟨by rfl, ?_⟩) ?_ ?_
     rotate_left
     ·intro w'
      go_simp
      with_reducible rfl
     rotate_left
     ·simp only [Act.put, sA_q, sZ_q, sS_q, i64_w, i32_w]
      rfl
     refine pure_ (i := 3) (N := some 2) (v := ?_) (a' := ?_) #[true, true, false, true, false, false] rfl rfl (by kernel_rfl) (fun _ _ _ h => h) (Or.inl ⟨by rfl, ?_⟩) ?_ ?_
     rotate_left
     ·intro w'
      go_simp
      with_reducible rfl
     rotate_left
     ·simp only [Act.put, sA_q, sZ_q, sS_q, i64_w, i32_w]
      rfl
     refine pure_ (i := 4) (N := some 3) (v := ?_) (a' := ?_) #[true, true, false, true, true, false] rfl rfl (by kernel_rfl) (fun _ _ _ h => h) (Or.inl ⟨by rfl, ?_⟩) ?_ ?_
     rotate_left
     ·intro w'
      go_simp
      with_reducible rfl
     rotate_left
     ·simp only [Act.put, sA_q, sZ_q, sS_q, i64_w, i32_w]
      rfl
     refine take_ (i := 2) (N := some 82) (v := ?_) (a' := ?_) #[true, true, true, true, true, false] rfl rfl (by kernel_rfl) (fun _ _ _ h => h) (Or.inl ⟨by rfl, ?_⟩) hHeld ?_ ?_
     rotate_left
     ·rintro w' ⟨s0, s1, s2⟩
      go_simp
      with_reducible rfl
     rotate_left
     ·simp only [Act.put, sA_q, sZ_q, sS_q, i64_w, i32_w]
      rfl
     refine one_ (i := 5) (N := none) #[true, true, true, true, true, true] rfl rfl (by kernel_rfl) (by decide) (fun K hK => ?_)
     have hs62 : w61.cell? ⟨gb398, 0, none⟩ = some (.int .i64 0) := (bC_q BK398.out 0).trans rfl
     have hfs62 := bF_q BK398.out 0
     have hns62_1 := NB413_398.out
     have hns62_2 := NB418_398.out
     have hms62_1 := NB398_413.out
     have hms62_2 := NB398_418.out
     have hs63 : w61.cell? ⟨gb398, 1, none⟩ = some (.int .i64 0) := (bC_q BK398.out 1).trans rfl
     have hfs63 := bF_q BK398.out 1
     have hns63_1 := NB413_398.out
     have hns63_2 := NB418_398.out
     have hms63_1 := NB398_413.out
     have hms63_2 := NB398_418.out
     have hs64 : w61.cell? ⟨gb398, 2, none⟩ = some (.int .i64 0) := (bC_q BK398.out 2).trans rfl
     have hfs64 := bF_q BK398.out 2
     have hns64_1 := NB413_398.out
     have hns64_2 := NB418_398.out
     have hms64_1 := NB398_413.out
     have hms64_2 := NB398_418.out
     refine skip_ (w1 := ?_) (by rfl) rfl ?_ ?_
     rotate_left
     ·go_simp
      rfl
     refine hK.out _ _ ⟨((cell_far (p := ⟨gb398, _, none⟩) NB418_398.out _).trans (((cell_far (p := ⟨gb398, _, none⟩) NB418_398.out _).trans (((cell_far (p := ⟨gb398, _, none⟩) NB418_398.out _).trans (hHeld.1)))))), ((cell_far (p := ⟨gb398, _, none⟩) NB418_398.out _).trans (((cell_far (p := ⟨gb398, _, none⟩) NB418_398.out _).trans (((cell_far (p := ⟨gb398, _, none⟩) NB418_398.out _).trans (hHeld.2.1)))))), ((cell_far (p := ⟨gb398, _, none⟩) NB418_398.out _).trans (((cell_far (p := ⟨gb398, _, none⟩) NB418_398.out _).trans (((cell_far (p := ⟨gb398, _, none⟩) NB418_398.out _).trans (hHeld.2.2))))))⟩ (fun hHeld => ?_)
     clear hK K
     refine done_ (by kernel_rfl) ?_
     try go_wp2
     refine bodyPost_ret (results_list (rs := [.tmp 2, .tmp 3, .cell 4 52]) rfl (by simp) (.tmp (.tmp (.cell gb398 52 #[.int .i64 ((rd_T31 t402 t421).f2), .int .i64 (wrap64 ((rd t409 t421) + t428)), .int .i64 (wrap64 ((wrap64 ((rd t409 t421) + t428)) + t430))] (0, 0) _ rfl (by (with_reducible repeat (first | refine bN_q ?_ _ | refine bW_q ?_ | refine bL_q ?_ _)); refine blk_put (cs := #[.int .i64 ((rd_T31 t402 t421).f2), .int .i64 (wrap64 ((rd t409 t421) + t428)), .int .i64 0]) ?_ 2 _ rfl; (with_reducible repeat (first | refine bN_q ?_ _ | refine bW_q ?_ | refine bL_q ?_ _)); refine blk_put (cs := #[.int .i64 ((rd_T31 t402 t421).f2), .int .i64 0, .int .i64 0]) ?_ 1 _ rfl; (with_reducible repeat (first | refine bN_q ?_ _ | refine bW_q ?_ | refine bL_q ?_ _)); refine blk_put (cs := #[.int .i64 0, .int .i64 0, .int .i64 0]) ?_ 0 _ rfl; (with_reducible repeat (first | refine bN_q ?_ _ | refine bW_q ?_ | refine bL_q ?_ _)); exact BK398.out) Try.underlying52 rfl (by kernel_rfl) .nil)))) rfl ?_
     exact ⟨_, _, by first | rfl | (simp [eN_q, eS_q] <;> rfl) | (simp [*, eN_q, eS_q] <;> rfl), by (with_reducible repeat (first | apply tA_q | apply tN_q | apply tD_q)); exact Kd.S_mono (Kd.S_far (p := ⟨gb398, 2, none⟩) (Kd.S_far (p := ⟨gb398, 1, none⟩) (Kd.S_far (p := ⟨gb398, 0, none⟩) (Kd.S_types HO_6.out BK398.out (by decide)) (fun _ hk => hk.2) (.int .i64 ((rd_T31 t402 t421).f2))) (fun _ hk => hk.2) (.int .i64 (wrap64 ((rd t409 t421) + t428)))) (fun _ hk => hk.2) (.int .i64 (wrap64 ((wrap64 ((rd t409 t421) + t428)) + t430)))) (fun _ hk => hk.1.1), by (with_reducible repeat (first | apply rA_q | apply rN_q | apply rD_q)); exact rM_q (Kd.R_far (p := ⟨gb398, 2, none⟩) (Kd.R_far (p := ⟨gb398, 1, none⟩) (Kd.R_far (p := ⟨gb398, 0, none⟩) (Kd.R_types HO_8.out BK398.out (by decide)) (fun _ hk => hk.2) (.int .i64 ((rd_T31 t402 t421).f2))) (fun _ hk => hk.2) (.int .i64 (wrap64 ((rd t409 t421) + t428)))) (fun _ hk => hk.2) (.int .i64 (wrap64 ((wrap64 ((rd t409 t421) + t428)) + t430)))) (fun _ hk => trivial), by repeat (with_reducible first | exact HB.out | apply bA_q | apply pB_q | apply bD_q | refine bS_q ?_ (i5_q HI401.out) | refine bS_q ?_ GE398.out | refine bS_q ?_ GE413.out | refine bS_q ?_ GE418.out)⟩

end Go.Proofs.Ytoaigcdoblnmhaa.PPn
