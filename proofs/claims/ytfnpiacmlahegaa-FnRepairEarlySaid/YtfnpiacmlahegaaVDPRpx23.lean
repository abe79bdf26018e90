import Derived.Test.YtfnpiacmlahegaaVDPRpx0
import Derived.Test.YtfnpiacmlahegaaVDPRpx4
import Derived.Test.YtfnpiacmlahegaaVDPRpx13
import Derived.Test.YtfnpiacmlahegaaVDPRpx16
import Derived.Test.YtfnpiacmlahegaaVDPRpx19
import Derived.Test.YtfnpiacmlahegaaVDPRpx22
namespace Go.Proofs.Ytfnpiacmlahegaa.PRp
open Go.RowKit Go.Proofs.YtfnpiacmlahegaaW.PrintWords Go.Proofs.YtfnpiacmlahegaaW.PrintLast Go.Proofs.YtfnpiacmlahegaaW.PrintMore
attribute [local go_sem] max2_int min2_int max_two min_two max_three min_three max_four min_four
set_option linter.unusedVariables false
set_option linter.unusedSimpArgs false

def spec_DrawOutageRepair.f (k : Nat) (l0 : List Int) : Option ((List (S63)) × Int × List Int × List Int × Int × Int × Int) := (spec_l6Open.f l0).bind fun bt586 => ((spec_l92Plan.f k bt586.1 bt586.2).bind fun bt589 => ((spec_l92Outage.f k bt586.1 bt589.2.2.2.2).bind fun bt601 => (some (bt589.1, bt589.2.1, bt589.2.2.1, bt589.2.2.2.1, bt601.1, bt601.2.1, bt601.2.2.1))))
def spec_DrawOutageRepair.T3 : Bool × List (List Nat × List Nat) := (true, [([], []), ([], []), ([], []), ([], []), ([3], [3]), ([0, 4, 0], [0]), ([1, 5, 0, 1, 5], [1]), ([2, 6, 0, 1, 2, 5, 6], [2]), ([4, 7, 0, 1, 2, 3, 4, 5, 6, 7], [4])])
def spec_DrawOutageRepair.B3 : List Nat := [0, 0, 0, 0, 8, 25, 59, 127, 255]
theorem spec_DrawOutageRepair.tab3 : rtab .any (opsOf Try.f27 3) = spec_DrawOutageRepair.T3 := by kernel_rfl
theorem spec_DrawOutageRepair.bits3 : waitsOk spec_DrawOutageRepair.T3.2 spec_DrawOutageRepair.B3 = true := by kernel_rfl
set_option maxHeartbeats 8000000 in
set_option maxRecDepth 100000 in
theorem spec_DrawOutageRepair.calls (k : Nat) (A0 : Option Addr) (c0 : Nat) (l0 : List Int) (r1 : List (S63)) (r2 : Int) (r3 : List Int) (r4 : List Int) (r5 : Int) (r6 : Int) (r7 : Int) (w : World) (hr0 : Kd.C (Kd.int .u8) w A0 l0.length l0) (hc0 : l0.length ≤ c0) (h : spec_DrawOutageRepair.f k l0 = some (r1, r2, r3, r4, r5, r6, r7)) :
    Calls Try.prog 27 #[.slice A0 l0.length c0] w fun e w' => ∃ v0_ v2_ v3_ : Value, e = .returned (.tuple #[v0_, .agg #[.int .i64 r2, v2_], v3_, .agg #[.int .i64 r5, .int .i64 r6, .int .i64 r7]]) ∧ Kd.S k63 63 w' w.heap.size (fun k_ => some k_ ≠ (v2_ : Value).ownBlock ∧ some k_ ≠ (v3_ : Value).ownBlock) v0_ r1 ∧ Kd.R kI_q 3 w' w.heap.size (fun k_ => some k_ ≠ (v3_ : Value).ownBlock) v2_ r3 ∧ Kd.R kI_q 3 w' w.heap.size (fun k_ => some k_ ≠ (v2_ : Value).ownBlock) v3_ r4 ∧ Below w.heap.size w w' := by
 have hu43 := Try.underlying43
 have hu31 := Try.underlying31
 have HR0 := Ae_q hr0
 have HC0 := Ae_q hc0
 clear hr0 hc0
 have HB := Ae_q (bR_q w.heap.size w)
 have H : ((spec_l6Open.f l0).bind fun bt586 => ((spec_l92Plan.f k bt586.1 bt586.2).bind fun bt589 => ((spec_l92Outage.f k bt586.1 bt589.2.2.2.2).bind fun bt601 => (some (bt589.1, bt589.2.1, bt589.2.2.1, bt589.2.2.2.1, bt601.1, bt601.2.1, bt601.2.2.1))))) = some (r1, r2, r3, r4, r5, r6, r7) := h
 clear h
 replace H := oB_q.mp H
 obtain ⟨⟨t586, t587⟩, A20, H⟩ := H
 replace H : ((spec_l92Plan.f k t586 t587).bind fun bt589 => ((spec_l92Outage.f k t586 bt589.2.2.2.2).bind fun bt601 => (some (bt589.1, bt589.2.1, bt589.2.2.1, bt589.2.2.2.1, bt601.1, bt601.2.1, bt601.2.2.1)))) = some (r1, r2, r3, r4, r5, r6, r7) := H
 have A2 := Ae_q A20
 clear A20
 replace H := oB_q.mp H
 obtain ⟨⟨t589, t592, t593, t596, t599⟩, A30, H⟩ := H
 replace H : ((spec_l92Outage.f k t586 t599).bind fun bt601 => (some (t589, t592, t593, t596, bt601.1, bt601.2.1, bt601.2.2.1))) = some (r1, r2, r3, r4, r5, r6, r7) := H
 have A3 := Ae_q A30
 clear A30
 replace H := oB_q.mp H
 obtain ⟨⟨t601, t602, t603, t604⟩, A40, H⟩ := H
 replace H : (some (t589, t592, t593, t596, t601, t602, t603)) = some (r1, r2, r3, r4, r5, r6, r7) := H
 have A4 := Ae_q A40
 clear A40
 simp only [oE_q, pE_q] at H
 obtain ⟨rfl, rfl, rfl, rfl, rfl, rfl, rfl⟩ := H
 go_enter Try.func27, Try.ntmps27
 try go_wp2_with (first | ((first | ((with_reducible refine gD_q (N := 3) rfl ?_); refine bE_q ?hg (N := 3) ?hd (cs := #[.int .i64 0, .slice none 0 0]) (t := 43) ?hr ?_; (case hd => rfl); (case hg => rfl); (case hr => exact m5_q); intro gb584 hg w' hbox hb; have BK584 := Ae_q (hbox); have GW584 := Ae_q ((by rw [hg]; exact (bZ_q (bel HB.out)) : w.heap.size ≤ gb584)); have GE584 := Ae_q ((by rw [hg]; exact (bZ_q (bel HB.out)) : w.heap.size ≤ gb584)); replace HB := Ae_q (bT_q (bel HB.out) hb)) | ((with_reducible refine gD_q (N := 5) rfl ?_); refine bE_q ?hg (N := 5) ?hd (cs := #[.int .i64 0, .int .i64 0, .int .i64 0]) (t := 31) ?hr ?_; (case hd => rfl); (case hg => rfl); (case hr => exact m5_q); intro gb585 hg w' hbox hb; have BK585 := Ae_q (hbox); have GW585 := Ae_q ((by rw [hg]; exact (bZ_q m132_q) : w.heap.size ≤ gb585)); have GE585 := Ae_q ((by rw [hg]; exact (bZ_q m132_q) : w.heap.size ≤ gb585)); replace HB := Ae_q (bT_q m132_q hb); have NB584_585 := Ae_q ((by rw [hg]; exact nL_q (blk_lt (g := gb584) (o := .cells #[.int .i64 0, .slice none 0 0] 43 (0, 0)) (bup BK584.out)) : gb584 ≠ gb585)); have NB585_584 := Ae_q ((by rw [hg]; exact nG_q (blk_lt (g := gb584) (o := .cells #[.int .i64 0, .slice none 0 0] 43 (0, 0)) (bup BK584.out)) : gb585 ≠ gb584)); replace BK584 := Ae_q (bB_q (g := gb584) (o := .cells #[.int .i64 0, .slice none 0 0] 43 (0, 0)) (bup BK584.out) hb))); clear hb hbox hg) | ((with_reducible refine gC_q (f := 52) rfl ?_); refine gL_q (some 11) rfl rfl Try.func52 m8_q rfl #[.slice A0 l0.length c0] rfl m0_q ?_; (with_reducible refine (spec_l6Open.calls _ _ l0 t586 t587 w _ ?side1 ?side2 ?side3 A2.out).mono ?_); (case side1 => repeat (with_reducible first | exact HB.out | apply bA_q | apply pB_q | apply bD_q | refine bS_q ?_ GE584.out | refine bS_q ?_ GE585.out)); (case side2 => exact HR0.out); (case side3 => exact m97_q); rintro e w' ⟨g588, rfl, hi, hb, hb2⟩; refine ⟨_, rfl, ?_⟩; replace HB := Ae_q (hb); have HI588 := Ae_q (hi); have NB588_584 := Ae_q (IsS83.ne_blk hi (bB_q (g := gb584) (o := .cells #[.int .i64 0, .slice none 0 0] 43 (0, 0)) (bup BK584.out) hb2) (by decide)); have NB584_588 := Ae_q (Ne.symm (IsS83.ne_blk hi (bB_q (g := gb584) (o := .cells #[.int .i64 0, .slice none 0 0] 43 (0, 0)) (bup BK584.out) hb2) (by decide))); replace BK584 := Ae_q (bB_q (g := gb584) (o := .cells #[.int .i64 0, .slice none 0 0] 43 (0, 0)) (bup BK584.out) hb2); have NB588_585 := Ae_q (IsS83.ne_blk hi (bB_q (g := gb585) (o := .cells #[.int .i64 0, .int .i64 0, .int .i64 0] 31 (0, 0)) (bup BK585.out) hb2) (by decide)); have NB585_588 := Ae_q (Ne.symm (IsS83.ne_blk hi (bB_q (g := gb585) (o := .cells #[.int .i64 0, .int .i64 0, .int .i64 0] 31 (0, 0)) (bup BK585.out) hb2) (by decide))); replace BK585 := Ae_q (bB_q (g := gb585) (o := .cells #[.int .i64 0, .int .i64 0, .int .i64 0] 31 (0, 0)) (bup BK585.out) hb2); (try clear hb); (try clear hb2); (try clear hk); (try clear hi)) | ((with_reducible refine gC_q (f := 53) rfl ?_); refine gL_q (some 14) rfl rfl Try.func53 m8_q rfl #[.pointer (some ⟨g588, 0, none⟩)] rfl m0_q ?_; (with_reducible refine (spec_l92Plan.calls k g588 t586 t587 t589 t592 t593 t596 t599 w _ ?side1 ?side2 A3.out).mono ?_); (case side1 => exact m133_q); (case side2 => exact m48_q); rintro e w' ⟨v590, v594, v597, rfl, ho0, ho1, ho2, hi, hb, hk⟩; refine ⟨_, rfl, ?_⟩; replace BK584 := Ae_q (kB_q hk (g' := gb584) (o := .cells #[.int .i64 0, .slice none 0 0] 43 (0, 0)) (bup BK584.out) NB584_588.out (by simp)); replace BK585 := Ae_q (kB_q hk (g' := gb585) (o := .cells #[.int .i64 0, .int .i64 0, .int .i64 0] 31 (0, 0)) (bup BK585.out) NB585_588.out (by simp)); have HO591 := Ae_q (Kd.S_lower ho0 (bZ_q m48_q)); have HO595 := Ae_q (rL_q ho1 (bZ_q m48_q)); have HO598 := Ae_q (rL_q ho2 (bZ_q m48_q)); replace HB := Ae_q (hb); replace HI588 := Ae_q (hi); (try clear hb); (try clear hb2); (try clear hk); (try clear hi); (try clear ho0); (try clear ho1); (try clear ho2)) | ((with_reducible refine gD_q (N := 8) rfl ?_); refine bE_q ?hg (N := 8) ?hd (cs := #[.int .i64 0, .slice none 0 0]) (t := 43) ?hr ?_; (case hd => rfl); (case hg => rfl); (case hr => exact m5_q); intro gb600 hg w9 hbox hb; replace HO591 := Ae_q (Kd.S_below m158_q hb); replace HO595 := Ae_q (rO_q (rup HO595.out) hb); replace HO598 := Ae_q (rO_q (rup HO598.out) hb); have BK600 := Ae_q (hbox); have GW600 := Ae_q ((by rw [hg]; exact (bZ_q m48_q) : w.heap.size ≤ gb600)); have GE600 := Ae_q ((by rw [hg]; exact (bZ_q m48_q) : w.heap.size ≤ gb600)); replace HB := Ae_q (bT_q m48_q hb); have NB584_600 := Ae_q ((by rw [hg]; exact nL_q (blk_lt (g := gb584) (o := .cells #[.int .i64 0, .slice none 0 0] 43 (0, 0)) (bup BK584.out)) : gb584 ≠ gb600)); have NB600_584 := Ae_q ((by rw [hg]; exact nG_q (blk_lt (g := gb584) (o := .cells #[.int .i64 0, .slice none 0 0] 43 (0, 0)) (bup BK584.out)) : gb600 ≠ gb584)); replace BK584 := Ae_q (bB_q (g := gb584) (o := .cells #[.int .i64 0, .slice none 0 0] 43 (0, 0)) (bup BK584.out) hb); have NB585_600 := Ae_q ((by rw [hg]; exact nL_q (blk_lt (g := gb585) (o := .cells #[.int .i64 0, .int .i64 0, .int .i64 0] 31 (0, 0)) (bup BK585.out)) : gb585 ≠ gb600)); have NB600_585 := Ae_q ((by rw [hg]; exact nG_q (blk_lt (g := gb585) (o := .cells #[.int .i64 0, .int .i64 0, .int .i64 0] 31 (0, 0)) (bup BK585.out)) : gb600 ≠ gb585)); replace BK585 := Ae_q (bB_q (g := gb585) (o := .cells #[.int .i64 0, .int .i64 0, .int .i64 0] 31 (0, 0)) (bup BK585.out) hb); have NB588_600 := Ae_q ((by rw [hg]; exact nL_q (i6_q (show IsS83 w _ g588 t586 t599 from by repeat (with_reducible first | exact HI588.out | apply i2_q | apply i1_q | apply i0_q | apply i3_q | refine i4_q ?_ NB588_584.out _ | refine i4_q ?_ NB588_585.out _))) : g588 ≠ gb600)); have NB600_588 := Ae_q ((by rw [hg]; exact nG_q (i6_q (show IsS83 w _ g588 t586 t599 from by repeat (with_reducible first | exact HI588.out | apply i2_q | apply i1_q | apply i0_q | apply i3_q | refine i4_q ?_ NB588_584.out _ | refine i4_q ?_ NB588_585.out _))) : gb600 ≠ g588)); replace HI588 := Ae_q (i7_q m133_q hb); clear hb hbox hg; have hnb10 := NB600_584.out; have hnc10 := NB584_600.out; have hnb11 := NB600_585.out; have hnc11 := NB585_600.out; have hnb12 := NB600_588.out; have hnc12 := NB588_600.out; have hcz13_0 : cI w9 gb600 0 0 := cZ BK600 0 rfl; have hcz13_1 : w9.cell? ⟨gb600, 1, none⟩ = some (.slice none 0 0) := (bC_q BK600.out 1).trans rfl; have hfz13_0 := bF_q BK600.out 0; have hfz13_1 := bF_q BK600.out 1; obtain ⟨Ao14, co14, eo14⟩ := rS_q HO595.out; subst eo14))
 have n0_ : Aside0 (Kd.S k63 63 ((w9.setCell ⟨gb600, 0, none⟩ (.int .i64 t592)).setCell ⟨gb600, 1, none⟩ (.slice Ao14 t593.length co14)) w.heap.size (fun k_ => some k_ ≠ (.slice Ao14 t593.length co14 : Value).ownBlock ∧ some k_ ≠ (v597 : Value).ownBlock) v590 t589) := ⟨by (with_reducible repeat (first | apply tA_q | apply tN_q | apply tD_q)); exact Kd.S_mono (Kd.S_far (p := ⟨gb600, 1, none⟩) (Kd.S_far (p := ⟨gb600, 0, none⟩) (Kd.S_types HO591.out BK600.out (by decide)) (fun _ hk => hk.2) (.int .i64 t592)) (fun _ hk => hk.2) (.slice Ao14 t593.length co14)) (fun _ hk => ⟨hk.1.1, hk.1.2⟩)⟩
 have n1_ : Aside0 (Kd.R kI_q 3 ((w9.setCell ⟨gb600, 0, none⟩ (.int .i64 t592)).setCell ⟨gb600, 1, none⟩ (.slice Ao14 t593.length co14)) w.heap.size (fun k_ => some k_ ≠ (v597 : Value).ownBlock) (.slice Ao14 t593.length co14) t593) := ⟨by (with_reducible repeat (first | apply rA_q | apply rN_q | apply rD_q)); exact rM_q (Kd.R_far (p := ⟨gb600, 1, none⟩) (Kd.R_far (p := ⟨gb600, 0, none⟩) (Kd.R_types HO595.out BK600.out (by decide)) (fun _ hk => hk.2) (.int .i64 t592)) (fun _ hk => hk.2) (.slice Ao14 t593.length co14)) (fun _ hk => hk.1)⟩
 have n2_ : Aside0 (Kd.R kI_q 3 ((w9.setCell ⟨gb600, 0, none⟩ (.int .i64 t592)).setCell ⟨gb600, 1, none⟩ (.slice Ao14 t593.length co14)) w.heap.size (fun k_ => some k_ ≠ (.slice Ao14 t593.length co14 : Value).ownBlock) v597 t596) := ⟨by (with_reducible repeat (first | apply rA_q | apply rN_q | apply rD_q)); exact rM_q (Kd.R_far (p := ⟨gb600, 1, none⟩) (Kd.R_far (p := ⟨gb600, 0, none⟩) (Kd.R_types HO598.out BK600.out (by decide)) (fun _ hk => hk.2) (.int .i64 t592)) (fun _ hk => hk.2) (.slice Ao14 t593.length co14)) (fun _ hk => hk.1)⟩
 have n3_ : Aside0 (((w9.setCell ⟨gb600, 0, none⟩ (.int .i64 t592)).setCell ⟨gb600, 1, none⟩ (.slice Ao14 t593.length co14)).heap[gb584]? = some (.cells #[.int .i64 0, .slice none 0 0] 43 (0, 0))) := ⟨by (with_reducible repeat (first | refine bN_q ?_ _ | refine bW_q ?_ | refine bL_q ?_ _)); refine blk_far ?_ NB584_600.out _; (with_reducible repeat (first | refine bN_q ?_ _ | refine bW_q ?_ | refine bL_q ?_ _)); refine blk_far ?_ NB584_600.out _; (with_reducible repeat (first | refine bN_q ?_ _ | refine bW_q ?_ | refine bL_q ?_ _)); exact BK584.out⟩
 have n4_ : Aside0 (((w9.setCell ⟨gb600, 0, none⟩ (.int .i64 t592)).setCell ⟨gb600, 1, none⟩ (.slice Ao14 t593.length co14)).heap[gb585]? = some (.cells #[.int .i64 0, .int .i64 0, .int .i64 0] 31 (0, 0))) := ⟨by (with_reducible repeat (first | refine bN_q ?_ _ | refine bW_q ?_ | refine bL_q ?_ _)); refine blk_far ?_ NB585_600.out _; (with_reducible repeat (first | refine bN_q ?_ _ | refine bW_q ?_ | refine bL_q ?_ _)); refine blk_far ?_ NB585_600.out _; (with_reducible repeat (first | refine bN_q ?_ _ | refine bW_q ?_ | refine bL_q ?_ _)); exact BK585.out⟩
 have n5_ : Aside0 (((w9.setCell ⟨gb600, 0, none⟩ (.int .i64 t592)).setCell ⟨gb600, 1, none⟩ (.slice Ao14 t593.length co14)).heap[gb600]? = some (.cells #[.int .i64 t592, .slice Ao14 t593.length co14] 43 (0, 0))) := ⟨by (with_reducible repeat (first | refine bN_q ?_ _ | refine bW_q ?_ | refine bL_q ?_ _)); refine blk_put (cs := #[.int .i64 t592, .slice none 0 0]) ?_ 1 _ rfl; (with_reducible repeat (first | refine bN_q ?_ _ | refine bW_q ?_ | refine bL_q ?_ _)); refine blk_put (cs := #[.int .i64 0, .slice none 0 0]) ?_ 0 _ rfl; (with_reducible repeat (first | refine bN_q ?_ _ | refine bW_q ?_ | refine bL_q ?_ _)); exact BK600.out⟩
 have n6_ : Aside0 (IsS83 w ((w9.setCell ⟨gb600, 0, none⟩ (.int .i64 t592)).setCell ⟨gb600, 1, none⟩ (.slice Ao14 t593.length co14)) g588 t586 t599) := ⟨m121_q⟩
 have n7_ : Aside0 (Below w.heap.size w ((w9.setCell ⟨gb600, 0, none⟩ (.int .i64 t592)).setCell ⟨gb600, 1, none⟩ (.slice Ao14 t593.length co14))) := ⟨m96_q⟩
 (try clear HO591)
 (try clear HO595)
 (try clear HO598)
 (try clear BK584)
 (try clear BK585)
 (try clear BK600)
 (try clear HI588)
 (try clear HB)
 generalize ((w9.setCell ⟨gb600, 0, none⟩ (.int .i64 t592)).setCell ⟨gb600, 1, none⟩ (.slice Ao14 t593.length co14)) = w15 at n0_ n1_ n2_ n3_ n4_ n5_ n6_ n7_ ⊢
 have HO591 := n0_
 have HO595 := n1_
 have HO598 := n2_
 have BK584 := n3_
 have BK585 := n4_
 have BK600 := n5_
 have HI588 := n6_
 have HB := n7_
 clear n0_ n1_ n2_ n3_ n4_ n5_ n6_ n7_
 replace HO591 := Ae_q (tD_q HO591.out)
 replace HO595 := Ae_q (rD_q HO595.out)
 replace HO598 := Ae_q (rD_q HO598.out)
 replace BK584 := Ae_q (bW_q BK584.out)
 replace BK585 := Ae_q (bW_q BK585.out)
 replace BK600 := Ae_q (bW_q BK600.out)
 replace HI588 := Ae_q (i0_q HI588.out)
 replace HB := Ae_q (bD_q HB.out)
 refine start_ (n := 9) (S := fun w' => w'.cell? ⟨gb600, 0, none⟩ = some (.int .i64 t592) ∧ w'.cell? ⟨gb600, 1, none⟩ = some (.slice Ao14 t593.length co14)) (ds := []) #[false, false, false, false, false, false, false, false, false] m8_q rfl rfl ⟨(bC_q BK600.out 0).trans rfl, (bC_q BK600.out 1).trans rfl⟩ (fun hHeld => ?_); refine with_tabW spec_DrawOutageRepair.tab3 spec_DrawOutageRepair.bits3 (fun HT_ HW_ => ?_)
 generalize w15.drew = w16 at HO591 HO595 HO598 BK584 BK585 BK600 HI588 HB hHeld ⊢
 refine pJ HT_ 0 18 rfl rfl ?_
 refine pJ HT_ 2 20 rfl rfl ?_
 refine pJ HT_ 3 21 rfl rfl ?_
 refine take_ (i := 1) (N := some 19) (v := ?_) (a' := ?_) #[true, true, true, true, false, false, false, false, false] rfl rfl (take_ofW HT_.out HW_.out m8_q) (fun _ _ _ h => h) (Or.inl ⟨by rfl, ?_⟩) hHeld ?_ ?_
 rotate_left
 ·rintro w' ⟨s0, s1⟩
  go_simp
  with_reducible rfl
 rotate_left
 ·simp only [pS_q]
  rfl
 refine one_ (i := 4) (N := some 22) #[true, true, true, true, true, false, false, false, false] rfl rfl (one_of HT_.out m8_q) (by decide) (fun K hK => ?_)
 refine goes_ Try.func54 m8_q rfl #[.pointer (some ⟨g588, 0, none⟩)] (by rfl) rfl rfl m0_q ?_
 with_reducible refine (spec_l92Outage.calls k g588 t586 t599 t601 t602 t603 t604 w _ ?side1 ?side2 A4.out).mono ?_
 (case side1 => exact m121_q)
 (case side2 => exact m96_q)
 rintro e w17 ⟨rfl, hi, hb, hk⟩
 refine ⟨_, rfl, ?_⟩
 replace BK584 := Ae_q (kB_q hk (g' := gb584) (o := .cells #[.int .i64 0, .slice none 0 0] 43 (0, 0)) (bup BK584.out) NB584_588.out (by simp))
 replace BK585 := Ae_q (kB_q hk (g' := gb585) (o := .cells #[.int .i64 0, .int .i64 0, .int .i64 0] 31 (0, 0)) (bup BK585.out) NB585_588.out (by simp))
 replace HO591 := Ae_q (Kd.S_mono (Kd.S_keep (IsS83.apartS (show IsS83 w _ g588 t586 t599 from by repeat (with_reducible first | exact HI588.out | apply i2_q | apply i1_q | apply i0_q | apply i3_q | refine i4_q ?_ NB588_584.out _ | refine i4_q ?_ NB588_585.out _ | refine i4_q ?_ NB588_600.out _)) m158_q (by decide)) hk (fun _ h => h.2)) (fun _ h => h.1))
 replace HO595 := Ae_q (rM_q (rK_q (IsS83.apart (show IsS83 w _ g588 t586 t599 from by repeat (with_reducible first | exact HI588.out | apply i2_q | apply i1_q | apply i0_q | apply i3_q | refine i4_q ?_ NB588_584.out _ | refine i4_q ?_ NB588_585.out _ | refine i4_q ?_ NB588_600.out _)) (rup HO595.out) (by decide)) hk (fun _ h => h.2)) (fun _ h => h.1))
 replace HO598 := Ae_q (rM_q (rK_q (IsS83.apart (show IsS83 w _ g588 t586 t599 from by repeat (with_reducible first | exact HI588.out | apply i2_q | apply i1_q | apply i0_q | apply i3_q | refine i4_q ?_ NB588_584.out _ | refine i4_q ?_ NB588_585.out _ | refine i4_q ?_ NB588_600.out _)) (rup HO598.out) (by decide)) hk (fun _ h => h.2)) (fun _ h => h.1))
 replace BK600 := Ae_q (kB_q hk (g' := gb600) (o := .cells #[.int .i64 t592, .slice Ao14 t593.length co14] 43 (0, 0)) (bup BK600.out) NB600_588.out (by simp))
 replace HB := Ae_q (hb)
 replace HI588 := Ae_q (hi)
 (try clear hb)
 (try clear hb2)
 (try clear hk)
 (try clear hi)
 refine hK.out _ _ ⟨(bC_q BK600.out 0).trans rfl, (bC_q BK600.out 1).trans rfl⟩ (fun hHeld => ?_)
 clear hK K
 refine nJ_q ?_
 refine pJ HT_ 5 2 rfl rfl ?_
 refine one_ (i := 6) (N := none) #[true, true, true, true, true, true, true, false, false] rfl rfl (one_of HT_.out m8_q) (by decide) (fun K hK => ?_)
 have hs18 : cI w17 gb584 0 0 := cZ BK584 0 rfl
 have hfs18 := bF_q BK584.out 0
 have hns18_1 := NB585_584.out
 have hns18_2 := NB600_584.out
 have hms18_1 := NB584_585.out
 have hms18_2 := NB584_600.out
 have hs19 : w17.cell? ⟨gb584, 1, none⟩ = some (.slice none 0 0) := (bC_q BK584.out 1).trans rfl
 have hfs19 := bF_q BK584.out 1
 have hns19_1 := NB585_584.out
 have hns19_2 := NB600_584.out
 have hms19_1 := NB584_585.out
 have hms19_2 := NB584_600.out
 refine skip_ (w1 := ?_) (by rfl) rfl ?_ ?_
 rotate_left
 ·go_simp
  rfl
 refine hK.out _ _ ⟨((cell_far (p := ⟨gb584, _, none⟩) NB600_584.out _).trans (((cell_far (p := ⟨gb584, _, none⟩) NB600_584.out _).trans (hHeld.1)))), ((cell_far (p := ⟨gb584, _, none⟩) NB600_584.out _).trans (((cell_far (p := ⟨gb584, _, none⟩) NB600_584.out _).trans (hHeld.2))))⟩ (fun hHeld => ?_)
 clear hK K
 refine pJ HT_ 7 4 rfl rfl ?_
 refine one_ (i := 8) (N := none) #[true, true, true, true, true, true, true, true, true] rfl rfl (one_of HT_.out m8_q) (by decide) (fun K hK => ?_)
 have hs20 : cI w17 gb585 0 0 := cZ BK585 0 rfl
 have hfs20 := bF_q BK585.out 0
 have hns20_0 := NB584_585.out
 have hns20_2 := NB600_585.out
 have hms20_0 := NB585_584.out
 have hms20_2 := NB585_600.out
 have hs21 : cI w17 gb585 1 0 := cZ BK585 1 rfl
 have hfs21 := bF_q BK585.out 1
 have hns21_0 := NB584_585.out
 have hns21_2 := NB600_585.out
 have hms21_0 := NB585_584.out
 have hms21_2 := NB585_600.out
 have hs22 : cI w17 gb585 2 0 := cZ BK585 2 rfl
 have hfs22 := bF_q BK585.out 2
 have hns22_0 := NB584_585.out
 have hns22_2 := NB600_585.out
 have hms22_0 := NB585_584.out
 have hms22_2 := NB585_600.out
 refine skip_ (w1 := ?_) (by rfl) rfl ?_ ?_
 rotate_left
 ·go_simp
  rfl
 refine hK.out _ _ ⟨((cell_far (p := ⟨gb585, _, none⟩) NB600_585.out _).trans (((cell_far (p := ⟨gb585, _, none⟩) NB600_585.out _).trans (((cell_far (p := ⟨gb585, _, none⟩) NB600_585.out _).trans (hHeld.1)))))), ((cell_far (p := ⟨gb585, _, none⟩) NB600_585.out _).trans (((cell_far (p := ⟨gb585, _, none⟩) NB600_585.out _).trans (((cell_far (p := ⟨gb585, _, none⟩) NB600_585.out _).trans (hHeld.2))))))⟩ (fun hHeld => ?_)
 clear hK K
 refine done_ (done_of HT_.out m8_q) ?_
 try go_wp2
 refine bodyPost_ret (results_list (rs := [.tmp 2, .cell 3 43, .tmp 4, .cell 5 31]) rfl (by simp) (.tmp (.cell gb584 43 #[.int .i64 t592, .slice Ao14 t593.length co14] (0, 0) _ rfl (by (with_reducible repeat (first | refine bN_q ?_ _ | refine bW_q ?_ | refine bL_q ?_ _)); refine blk_far ?_ NB584_585.out _; (with_reducible repeat (first | refine bN_q ?_ _ | refine bW_q ?_ | refine bL_q ?_ _)); refine blk_far ?_ NB584_585.out _; (with_reducible repeat (first | refine bN_q ?_ _ | refine bW_q ?_ | refine bL_q ?_ _)); refine blk_far ?_ NB584_585.out _; (with_reducible repeat (first | refine bN_q ?_ _ | refine bW_q ?_ | refine bL_q ?_ _)); refine blk_put (cs := #[.int .i64 t592, .slice none 0 0]) ?_ 1 _ rfl; (with_reducible repeat (first | refine bN_q ?_ _ | refine bW_q ?_ | refine bL_q ?_ _)); refine blk_put (cs := #[.int .i64 0, .slice none 0 0]) ?_ 0 _ rfl; (with_reducible repeat (first | refine bN_q ?_ _ | refine bW_q ?_ | refine bL_q ?_ _)); exact BK584.out) Try.underlying43 rfl m8_q (.tmp (.cell gb585 31 #[.int .i64 t601, .int .i64 t602, .int .i64 t603] (0, 0) _ rfl (by (with_reducible repeat (first | refine bN_q ?_ _ | refine bW_q ?_ | refine bL_q ?_ _)); refine blk_put (cs := #[.int .i64 t601, .int .i64 t602, .int .i64 0]) ?_ 2 _ rfl; (with_reducible repeat (first | refine bN_q ?_ _ | refine bW_q ?_ | refine bL_q ?_ _)); refine blk_put (cs := #[.int .i64 t601, .int .i64 0, .int .i64 0]) ?_ 1 _ rfl; (with_reducible repeat (first | refine bN_q ?_ _ | refine bW_q ?_ | refine bL_q ?_ _)); refine blk_put (cs := #[.int .i64 0, .int .i64 0, .int .i64 0]) ?_ 0 _ rfl; (with_reducible repeat (first | refine bN_q ?_ _ | refine bW_q ?_ | refine bL_q ?_ _)); refine blk_far ?_ NB585_584.out _; (with_reducible repeat (first | refine bN_q ?_ _ | refine bW_q ?_ | refine bL_q ?_ _)); refine blk_far ?_ NB585_584.out _; (with_reducible repeat (first | refine bN_q ?_ _ | refine bW_q ?_ | refine bL_q ?_ _)); exact BK585.out) Try.underlying31 rfl m8_q .nil))))) rfl ?_
 exact ⟨_, _, _, m6_q, by (with_reducible repeat (first | apply tA_q | apply tN_q | apply tD_q)); exact Kd.S_mono (Kd.S_far (p := ⟨gb585, 2, none⟩) (Kd.S_far (p := ⟨gb585, 1, none⟩) (Kd.S_far (p := ⟨gb585, 0, none⟩) (Kd.S_far (p := ⟨gb584, 1, none⟩) (Kd.S_far (p := ⟨gb584, 0, none⟩) (Kd.S_types (Kd.S_types HO591.out BK584.out (by decide)) BK585.out (by decide)) (fun _ hk => hk.1.2) (.int .i64 t592)) (fun _ hk => hk.1.2) (.slice Ao14 t593.length co14)) (fun _ hk => hk.2) (.int .i64 t601)) (fun _ hk => hk.2) (.int .i64 t602)) (fun _ hk => hk.2) (.int .i64 t603)) (fun _ hk => ⟨hk.1.1.1, hk.1.1.2⟩), by (with_reducible repeat (first | apply rA_q | apply rN_q | apply rD_q)); exact rM_q (Kd.R_far (p := ⟨gb585, 2, none⟩) (Kd.R_far (p := ⟨gb585, 1, none⟩) (Kd.R_far (p := ⟨gb585, 0, none⟩) (Kd.R_far (p := ⟨gb584, 1, none⟩) (Kd.R_far (p := ⟨gb584, 0, none⟩) (Kd.R_types (Kd.R_types HO595.out BK584.out (by decide)) BK585.out (by decide)) (fun _ hk => hk.1.2) (.int .i64 t592)) (fun _ hk => hk.1.2) (.slice Ao14 t593.length co14)) (fun _ hk => hk.2) (.int .i64 t601)) (fun _ hk => hk.2) (.int .i64 t602)) (fun _ hk => hk.2) (.int .i64 t603)) (fun _ hk => hk.1.1), by (with_reducible repeat (first | apply rA_q | apply rN_q | apply rD_q)); exact rM_q (Kd.R_far (p := ⟨gb585, 2, none⟩) (Kd.R_far (p := ⟨gb585, 1, none⟩) (Kd.R_far (p := ⟨gb585, 0, none⟩) (Kd.R_far (p := ⟨gb584, 1, none⟩) (Kd.R_far (p := ⟨gb584, 0, none⟩) (Kd.R_types (Kd.R_types HO598.out BK584.out (by decide)) BK585.out (by decide)) (fun _ hk => hk.1.2) (.int .i64 t592)) (fun _ hk => hk.1.2) (.slice Ao14 t593.length co14)) (fun _ hk => hk.2) (.int .i64 t601)) (fun _ hk => hk.2) (.int .i64 t602)) (fun _ hk => hk.2) (.int .i64 t603)) (fun _ hk => hk.1.1), m96_q⟩

def impl_PlanValid.f (k : Nat) (l0 : List (S63)) (a1_0 : Int) (l1_1 : List Int) (l2 : List Int) : Option (Bool) := (impl_KitchenValid.f a1_0 l1_1).bind fun t606 => (if t606 = true then ((impl_startsValid.f k l0 l2).bind fun t607 => (if t607 = true then ((impl_planFits.f k l0 a1_0 l1_1 l2).bind fun t608 => (some t608)) else (some false))) else (some false))
set_option maxHeartbeats 8000000 in
set_option maxRecDepth 100000 in
theorem impl_PlanValid.calls (k : Nat) (A0 : Option Addr) (c0 : Nat) (l0 : List (S63)) (a1_0 : Int) (A1_1 : Option Addr) (c1_1 : Nat) (l1_1 : List Int) (A2 : Option Addr) (c2 : Nat) (l2 : List Int) (r : Bool) (w : World) (hr0 : Kd.C k63 w A0 l0.length l0) (hc0 : l0.length ≤ c0) (hr1_1 : Kd.C kI_q w A1_1 l1_1.length l1_1) (hc1_1 : l1_1.length ≤ c1_1) (hr2 : Kd.C kI_q w A2 l2.length l2) (hc2 : l2.length ≤ c2) (h : impl_PlanValid.f k l0 a1_0 l1_1 l2 = some r) :
    Calls Try.prog 31 #[.slice A0 l0.length c0, .agg #[.int .i64 a1_0, .slice A1_1 l1_1.length c1_1], .slice A2 l2.length c2] w fun e w' => e = .returned (.bool r) ∧ Below w.heap.size w w' := by
 have hu43 := Try.underlying43
 have HR0 := Ae_q hr0
 have HC0 := Ae_q hc0
 clear hr0 hc0
 have HR1_1 := Ae_q hr1_1
 have HC1_1 := Ae_q hc1_1
 clear hr1_1 hc1_1
 have HR2 := Ae_q hr2
 have HC2 := Ae_q hc2
 clear hr2 hc2
 have HB := Ae_q (bR_q w.heap.size w)
 have H : ((impl_KitchenValid.f a1_0 l1_1).bind fun t606 => (if t606 = true then ((impl_startsValid.f k l0 l2).bind fun t607 => (if t607 = true then ((impl_planFits.f k l0 a1_0 l1_1 l2).bind fun t608 => (some t608)) else (some false))) else (some false))) = some r := h
 clear h
 replace H := oB_q.mp H
 obtain ⟨t606, A40, H⟩ := H
 replace H : (if t606 = true then ((impl_startsValid.f k l0 l2).bind fun t607 => (if t607 = true then ((impl_planFits.f k l0 a1_0 l1_1 l2).bind fun t608 => (some t608)) else (some false))) else (some false)) = some r := H
 have A4 := Ae_q A40
 clear A40
 by_cases c5 : t606 = true
 rotate_left
 ·replace c5 := fM_q.mpr c5
  subst c5
  have H1 : (some false) = some r := by rw [if_neg (show ¬ (false = true) by decide)] at H; exact H
  clear H
  have H := H1
  clear H1
  obtain rfl := oI_q H
  go_enter Try.func31, Try.ntmps31
  go_wp2_with (first | ((with_reducible refine gD_q (N := 4) rfl ?_); refine bE_q ?hg (N := 4) ?hd (cs := #[.int .i64 a1_0, .slice A1_1 l1_1.length c1_1]) (t := 43) ?hr ?_; (case hd => rfl); (case hg => rfl); (case hr => exact m5_q); intro gb605 hg w19 hbox hb; have BK605 := Ae_q (hbox); have GW605 := Ae_q ((by rw [hg]; exact (bZ_q (bel HB.out)) : w.heap.size ≤ gb605)); have GE605 := Ae_q ((by rw [hg]; exact (bZ_q (bel HB.out)) : w.heap.size ≤ gb605)); replace HB := Ae_q (bT_q (bel HB.out) hb); clear hb hbox hg; have hcz20_0 : cI w19 gb605 0 a1_0 := cZ BK605 0 rfl; have hcz20_1 : w19.cell? ⟨gb605, 1, none⟩ = some (.slice A1_1 l1_1.length c1_1) := (bC_q BK605.out 1).trans rfl; have hfz20_0 := bF_q BK605.out 0; have hfz20_1 := bF_q BK605.out 1) | ((with_reducible refine gC_q (f := 49) rfl ?_); refine gL_q (some 8) rfl rfl Try.func49 m8_q rfl #[.agg #[.int .i64 a1_0, .slice A1_1 l1_1.length c1_1]] rfl m0_q ?_; (with_reducible refine (impl_KitchenValid.calls a1_0 _ _ l1_1 false _ ?side1 ?side2 A4.out).mono ?_); (case side1 => exact m67_q); (case side2 => exact m119_q); rintro e w' ⟨rfl, hb⟩; refine ⟨_, rfl, ?_⟩; replace BK605 := Ae_q (bB_q (g := gb605) (o := .cells #[.int .i64 a1_0, .slice A1_1 l1_1.length c1_1] 43 (0, 0)) (bup BK605.out) hb); replace HB := Ae_q (bT_q m70_q hb); (try clear hb); (try clear hb2); (try clear hk); (try clear hi)))
  go_ret
  exact ⟨m6_q, m70_q⟩
 subst c5
 have H1 : ((impl_startsValid.f k l0 l2).bind fun t607 => (if t607 = true then ((impl_planFits.f k l0 a1_0 l1_1 l2).bind fun t608 => (some t608)) else (some false))) = some r := by rw [if_pos rfl] at H; exact H
 clear H
 have H := H1
 clear H1
 replace H := oB_q.mp H
 obtain ⟨t607, A60, H⟩ := H
 replace H : (if t607 = true then ((impl_planFits.f k l0 a1_0 l1_1 l2).bind fun t608 => (some t608)) else (some false)) = some r := H
 have A6 := Ae_q A60
 clear A60
 by_cases c7 : t607 = true
 rotate_left
 ·replace c7 := fM_q.mpr c7
  subst c7
  have H1 : (some false) = some r := by rw [if_neg (show ¬ (false = true) by decide)] at H; exact H
  clear H
  have H := H1
  clear H1
  obtain rfl := oI_q H
  go_enter Try.func31, Try.ntmps31
  go_wp2_with (first | ((with_reducible refine gD_q (N := 4) rfl ?_); refine bE_q ?hg (N := 4) ?hd (cs := #[.int .i64 a1_0, .slice A1_1 l1_1.length c1_1]) (t := 43) ?hr ?_; (case hd => rfl); (case hg => rfl); (case hr => exact m5_q); intro gb605 hg w15 hbox hb; have BK605 := Ae_q (hbox); have GW605 := Ae_q ((by rw [hg]; exact (bZ_q (bel HB.out)) : w.heap.size ≤ gb605)); have GE605 := Ae_q ((by rw [hg]; exact (bZ_q (bel HB.out)) : w.heap.size ≤ gb605)); replace HB := Ae_q (bT_q (bel HB.out) hb); clear hb hbox hg; have hcz16_0 : cI w15 gb605 0 a1_0 := cZ BK605 0 rfl; have hcz16_1 : w15.cell? ⟨gb605, 1, none⟩ = some (.slice A1_1 l1_1.length c1_1) := (bC_q BK605.out 1).trans rfl; have hfz16_0 := bF_q BK605.out 0; have hfz16_1 := bF_q BK605.out 1) | ((first | ((with_reducible refine gC_q (f := 49) rfl ?_); refine gL_q (some 8) rfl rfl Try.func49 m8_q rfl #[.agg #[.int .i64 a1_0, .slice A1_1 l1_1.length c1_1]] rfl m0_q ?_; (with_reducible refine (impl_KitchenValid.calls a1_0 _ _ l1_1 true _ ?side1 ?side2 A4.out).mono ?_); (case side1 => exact m67_q); (case side2 => exact m119_q); rintro e w17 ⟨rfl, hb⟩; refine ⟨_, rfl, ?_⟩) | (go_at_call 38; (with_reducible refine (impl_startsValid.calls k _ _ l0 _ _ l2 false _ ?side1 ?side2 ?side3 ?side4 A6.out).mono ?_); (case side1 => exact m42_q); (case side2 => exact m97_q); (case side3 => exact m64_q); (case side4 => exact m120_q); rintro e w' ⟨rfl, hb⟩)); replace BK605 := Ae_q (bB_q (g := gb605) (o := .cells #[.int .i64 a1_0, .slice A1_1 l1_1.length c1_1] 43 (0, 0)) (bup BK605.out) hb); replace HB := Ae_q (bT_q m70_q hb); (try clear hb); (try clear hb2); (try clear hk); (try clear hi)))
  go_ret
  exact ⟨m6_q, m70_q⟩
 subst c7
 have H1 : ((impl_planFits.f k l0 a1_0 l1_1 l2).bind fun t608 => (some t608)) = some r := by rw [if_pos rfl] at H; exact H
 clear H
 have H := H1
 clear H1
 replace H := oB_q.mp H
 obtain ⟨t608, A80, H⟩ := H
 replace H : (some t608) = some r := H
 have A8 := Ae_q A80
 clear A80
 obtain rfl := oI_q H
 go_enter Try.func31, Try.ntmps31
 go_wp2_with (first | ((with_reducible refine gD_q (N := 4) rfl ?_); refine bE_q ?hg (N := 4) ?hd (cs := #[.int .i64 a1_0, .slice A1_1 l1_1.length c1_1]) (t := 43) ?hr ?_; (case hd => rfl); (case hg => rfl); (case hr => exact m5_q); intro gb605 hg w9 hbox hb; have BK605 := Ae_q (hbox); have GW605 := Ae_q ((by rw [hg]; exact (bZ_q (bel HB.out)) : w.heap.size ≤ gb605)); have GE605 := Ae_q ((by rw [hg]; exact (bZ_q (bel HB.out)) : w.heap.size ≤ gb605)); replace HB := Ae_q (bT_q (bel HB.out) hb); clear hb hbox hg; have hcz10_0 : cI w9 gb605 0 a1_0 := cZ BK605 0 rfl; have hcz10_1 : w9.cell? ⟨gb605, 1, none⟩ = some (.slice A1_1 l1_1.length c1_1) := (bC_q BK605.out 1).trans rfl; have hfz10_0 := bF_q BK605.out 0; have hfz10_1 := bF_q BK605.out 1) | ((with_reducible refine gC_q (f := 49) rfl ?_); refine gL_q (some 8) rfl rfl Try.func49 m8_q rfl #[.agg #[.int .i64 a1_0, .slice A1_1 l1_1.length c1_1]] rfl m0_q ?_; (with_reducible refine (impl_KitchenValid.calls a1_0 _ _ l1_1 true _ ?side1 ?side2 A4.out).mono ?_); (case side1 => exact m67_q); (case side2 => exact m119_q); rintro e w' ⟨rfl, hb⟩; refine ⟨_, rfl, ?_⟩; replace BK605 := Ae_q (bB_q (g := gb605) (o := .cells #[.int .i64 a1_0, .slice A1_1 l1_1.length c1_1] 43 (0, 0)) (bup BK605.out) hb); replace HB := Ae_q (bT_q m70_q hb); (try clear hb); (try clear hb2); (try clear hk); (try clear hi)) | (go_at_call 38; (with_reducible refine (impl_startsValid.calls k _ _ l0 _ _ l2 true _ ?side1 ?side2 ?side3 ?side4 A6.out).mono ?_); (case side1 => exact m42_q); (case side2 => exact m97_q); (case side3 => exact m64_q); (case side4 => exact m120_q); rintro e w12 ⟨rfl, hb⟩; replace BK605 := Ae_q (bB_q (g := gb605) (o := .cells #[.int .i64 a1_0, .slice A1_1 l1_1.length c1_1] 43 (0, 0)) (bup BK605.out) hb); replace HB := Ae_q (bT_q m70_q hb); (try clear hb); (try clear hb2); (try clear hk); (try clear hi); have hcz13_0 : cI w12 gb605 0 a1_0 := cZ BK605 0 rfl; have hcz13_1 : w12.cell? ⟨gb605, 1, none⟩ = some (.slice A1_1 l1_1.length c1_1) := (bC_q BK605.out 1).trans rfl; have hfz13_0 := bF_q BK605.out 0; have hfz13_1 := bF_q BK605.out 1) | (go_at_call 57; (with_reducible refine (impl_planFits.calls k _ _ l0 a1_0 _ _ l1_1 _ _ l2 t608 _ ?side1 ?side2 ?side3 ?side4 ?side5 ?side6 A8.out).mono ?_); (case side1 => exact m42_q); (case side2 => exact m97_q); (case side3 => exact m67_q); (case side4 => exact m119_q); (case side5 => exact m64_q); (case side6 => exact m120_q); rintro e w' ⟨rfl, hb⟩; replace BK605 := Ae_q (bB_q (g := gb605) (o := .cells #[.int .i64 a1_0, .slice A1_1 l1_1.length c1_1] 43 (0, 0)) (bup BK605.out) hb); replace HB := Ae_q (bT_q m70_q hb); (try clear hb); (try clear hb2); (try clear hk); (try clear hi)))
 go_ret
 exact ⟨m6_q, m70_q⟩

end Go.Proofs.Ytfnpiacmlahegaa.PRp
