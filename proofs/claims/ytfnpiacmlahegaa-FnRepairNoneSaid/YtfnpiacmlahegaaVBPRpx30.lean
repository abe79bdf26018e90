import Derived.Test.YtfnpiacmlahegaaVBPRpx0
import Derived.Test.YtfnpiacmlahegaaVBPRpx5
import Derived.Test.YtfnpiacmlahegaaVBPRpx23
import Derived.Test.YtfnpiacmlahegaaVBPRpx24
import Derived.Test.YtfnpiacmlahegaaVBPRpx26
import Derived.Test.YtfnpiacmlahegaaVBPRpx27
namespace Go.Proofs.Ytfnpiacmlahegaa.PRp
open Go.RowKit Go.Proofs.YtfnpiacmlahegaaW.PrintWords Go.Proofs.YtfnpiacmlahegaaW.PrintLast Go.Proofs.YtfnpiacmlahegaaW.PrintMore
attribute [local go_sem] max2_int min2_int max_two min_two max_three min_three max_four min_four
set_option linter.unusedVariables false
set_option linter.unusedSimpArgs false

def laws_FnRepairNone.j0 : Nat → List (S63) → List Int → List Int → Bool → List Int → Bool → Bool → Int → List Int → Int → Int → Int → Option (Bool)
 | 0, _, _, _, _, _, _, _, _, _, _, _, _ => none
 | k + 1, x3, x5, x7, x8, x9, x10, x51, x777000, x777001, x778000, x778001, x778002 => if x51 = true then (if (x8 == x10) = true then ((laws_sameInts.f k x7 x9).bind fun t787 => (some t787)) else (some false)) else ((impl_OutageRepair.f k x3 x777000 x777001 x7 x778000 x778001 x778002).bind fun bt788 => (if bt788.2 = true then ((laws_sameInts.f k bt788.1 x7).bind fun t792 => (if t792 = true then ((impl_OutageHits.f k x3 x5 x778000 x778001 x778002).bind fun t793 => (if (t793.length : Int) > 0 then (some true) else ((laws_sameInts.f k x7 x5).bind fun t796 => (some t796)))) else (some false))) else (some false)))
def laws_FnRepairNone.f (k : Nat) (l0 : List Int) : Option (Bool) := if (l0.length : Int) > 1048576 then (some true) else ((spec_DrawOutageRepair.f k l0).bind fun bt763 => ((impl_OutageRepair.f k bt763.1 bt763.2.1 bt763.2.2.1 bt763.2.2.2.1 bt763.2.2.2.2.1 bt763.2.2.2.2.2.1 bt763.2.2.2.2.2.2).bind fun bt778 => ((spec_OutageRepair.f k bt763.1 bt763.2.1 bt763.2.2.1 bt763.2.2.2.1 bt763.2.2.2.2.1 bt763.2.2.2.2.2.1 bt763.2.2.2.2.2.2).bind fun bt782 => (if (bt778.2 != bt782.2) = true then (laws_FnRepairNone.j0 k bt763.1 bt763.2.2.2.1 bt778.1 bt778.2 bt782.1 bt782.2 true bt763.2.1 bt763.2.2.1 bt763.2.2.2.2.1 bt763.2.2.2.2.2.1 bt763.2.2.2.2.2.2) else ((laws_sameInts.f k bt778.1 bt782.1).bind fun t786 => (if t786 = true then (laws_FnRepairNone.j0 k bt763.1 bt763.2.2.2.1 bt778.1 bt778.2 bt782.1 bt782.2 (!bt778.2) bt763.2.1 bt763.2.2.1 bt763.2.2.2.2.1 bt763.2.2.2.2.2.1 bt763.2.2.2.2.2.2) else (laws_FnRepairNone.j0 k bt763.1 bt763.2.2.2.1 bt778.1 bt778.2 bt782.1 bt782.2 true bt763.2.1 bt763.2.2.1 bt763.2.2.2.2.1 bt763.2.2.2.2.2.1 bt763.2.2.2.2.2.2)))))))
set_option maxHeartbeats 8000000 in
set_option maxRecDepth 100000 in
theorem laws_FnRepairNone.calls (k : Nat) (A0 : Option Addr) (c0 : Nat) (l0 : List Int) (r : Bool) (w : World) (hr0 : Kd.C (Kd.int .u8) w A0 l0.length l0) (hc0 : l0.length ≤ c0) (h : laws_FnRepairNone.f k l0 = some r) :
    Calls Try.prog 7 #[.slice A0 l0.length c0] w fun e w' => e = .returned (.bool r) ∧ Below w.heap.size w w' := by
 have hu43 := Try.underlying43
 have hu31 := Try.underlying31
 have HR0 := Ae_q hr0
 have HC0 := Ae_q hc0
 clear hr0 hc0
 have HB := Ae_q (bR_q w.heap.size w)
 have H : (if (l0.length : Int) > 1048576 then (some true) else ((spec_DrawOutageRepair.f k l0).bind fun bt763 => ((impl_OutageRepair.f k bt763.1 bt763.2.1 bt763.2.2.1 bt763.2.2.2.1 bt763.2.2.2.2.1 bt763.2.2.2.2.2.1 bt763.2.2.2.2.2.2).bind fun bt778 => ((spec_OutageRepair.f k bt763.1 bt763.2.1 bt763.2.2.1 bt763.2.2.2.1 bt763.2.2.2.2.1 bt763.2.2.2.2.2.1 bt763.2.2.2.2.2.2).bind fun bt782 => (if (bt778.2 != bt782.2) = true then (laws_FnRepairNone.j0 k bt763.1 bt763.2.2.2.1 bt778.1 bt778.2 bt782.1 bt782.2 true bt763.2.1 bt763.2.2.1 bt763.2.2.2.2.1 bt763.2.2.2.2.2.1 bt763.2.2.2.2.2.2) else ((laws_sameInts.f k bt778.1 bt782.1).bind fun t786 => (if t786 = true then (laws_FnRepairNone.j0 k bt763.1 bt763.2.2.2.1 bt778.1 bt778.2 bt782.1 bt782.2 (!bt778.2) bt763.2.1 bt763.2.2.1 bt763.2.2.2.2.1 bt763.2.2.2.2.2.1 bt763.2.2.2.2.2.2) else (laws_FnRepairNone.j0 k bt763.1 bt763.2.2.2.1 bt778.1 bt778.2 bt782.1 bt782.2 true bt763.2.1 bt763.2.2.1 bt763.2.2.2.2.1 bt763.2.2.2.2.2.1 bt763.2.2.2.2.2.2)))))))) = some r := h
 clear h
 by_cases c2 : (l0.length : Int) > 1048576
 ·rw [if_pos c2] at H
  have c2b0 : decide (1048576 < (l0.length : Int)) = true := dT_q c2
  have c2b1 : decide (1048576 < l0.length) = true := dT_q (by omega)
  clear c2
  obtain rfl := oI_q H
  go_enter Try.func7, Try.ntmps7
  go_wp2
  go_ret
  exact ⟨m6_q, bel HB.out⟩
 rw [if_neg c2] at H
 have c2b0 : decide (1048576 < (l0.length : Int)) = false := dF_q c2
 have c2b1 : decide (1048576 < l0.length) = false := dF_q (by omega)
 clear c2
 replace H := oB_q.mp H
 obtain ⟨⟨t763, t766, t767, t770, t773, t774, t775⟩, A30, H⟩ := H
 replace H : ((impl_OutageRepair.f k t763 t766 t767 t770 t773 t774 t775).bind fun bt778 => ((spec_OutageRepair.f k t763 t766 t767 t770 t773 t774 t775).bind fun bt782 => (if (bt778.2 != bt782.2) = true then (laws_FnRepairNone.j0 k t763 t770 bt778.1 bt778.2 bt782.1 bt782.2 true t766 t767 t773 t774 t775) else ((laws_sameInts.f k bt778.1 bt782.1).bind fun t786 => (if t786 = true then (laws_FnRepairNone.j0 k t763 t770 bt778.1 bt778.2 bt782.1 bt782.2 (!bt778.2) t766 t767 t773 t774 t775) else (laws_FnRepairNone.j0 k t763 t770 bt778.1 bt778.2 bt782.1 bt782.2 true t766 t767 t773 t774 t775)))))) = some r := H
 have A3 := Ae_q A30
 clear A30
 replace H := oB_q.mp H
 obtain ⟨⟨t778, t781⟩, A40, H⟩ := H
 replace H : ((spec_OutageRepair.f k t763 t766 t767 t770 t773 t774 t775).bind fun bt782 => (if (t781 != bt782.2) = true then (laws_FnRepairNone.j0 k t763 t770 t778 t781 bt782.1 bt782.2 true t766 t767 t773 t774 t775) else ((laws_sameInts.f k t778 bt782.1).bind fun t786 => (if t786 = true then (laws_FnRepairNone.j0 k t763 t770 t778 t781 bt782.1 bt782.2 (!t781) t766 t767 t773 t774 t775) else (laws_FnRepairNone.j0 k t763 t770 t778 t781 bt782.1 bt782.2 true t766 t767 t773 t774 t775))))) = some r := H
 have A4 := Ae_q A40
 clear A40
 replace H := oB_q.mp H
 obtain ⟨⟨t782, t785⟩, A50, H⟩ := H
 replace H : (if (t781 != t785) = true then (laws_FnRepairNone.j0 k t763 t770 t778 t781 t782 t785 true t766 t767 t773 t774 t775) else ((laws_sameInts.f k t778 t782).bind fun t786 => (if t786 = true then (laws_FnRepairNone.j0 k t763 t770 t778 t781 t782 t785 (!t781) t766 t767 t773 t774 t775) else (laws_FnRepairNone.j0 k t763 t770 t778 t781 t782 t785 true t766 t767 t773 t774 t775)))) = some r := H
 have A5 := Ae_q A50
 clear A50
 have HC6 := Ae_q H
 clear H
 go_enter Try.func7, Try.ntmps7
 go_upto_region 6 with (first | ((with_reducible refine gC_q (f := 27) rfl ?_); refine gL_q (some 18) rfl rfl Try.func27 m9_q rfl #[.slice A0 l0.length c0] rfl m0_q ?_; (with_reducible refine (spec_DrawOutageRepair.calls k _ _ l0 t763 t766 t767 t770 t773 t774 t775 _ ?side1 ?side2 A3.out).mono ?_); (case side1 => repeat (first | exact HR0.out | (with_reducible refine cA_q ?_ _) | (with_reducible refine cN_q ?_ _) | (with_reducible refine cD_q ?_))); (case side2 => exact m94_q); rintro e w' ⟨v764, v768, v771, rfl, ho0, ho1, ho2, hb⟩; refine ⟨_, rfl, ?_⟩; have HO765 := Ae_q (Kd.S_lower ho0 (bZ_q (bel HB.out))); have HO769 := Ae_q (rL_q ho1 (bZ_q (bel HB.out))); have HO772 := Ae_q (rL_q ho2 (bZ_q (bel HB.out))); replace HB := Ae_q (bT_q (bel HB.out) hb); (try clear hb); (try clear hb2); (try clear hk); (try clear hi); (try clear ho0); (try clear ho1); (try clear ho2)) | ((with_reducible refine gD_q (N := 4) rfl ?_); (try (refine gate_guard (by rfl) ?_; dsimp only)); refine bE_q ?hg (N := 4) ?hd (cs := #[.int .i64 0, .slice none 0 0]) (t := 43) ?hr ?_; (case hd => rfl); (case hg => rfl); (case hr => exact m5_q); intro gb776 hg w' hbox hb; replace HO765 := Ae_q (Kd.S_below m136_q hb); replace HO769 := Ae_q (rO_q (rup HO769.out) hb); replace HO772 := Ae_q (rO_q (rup HO772.out) hb); have BK776 := Ae_q (hbox); have GW776 := Ae_q ((by rw [hg]; exact (bZ_q (bel HB.out)) : w.heap.size ≤ gb776)); have GE776 := Ae_q ((by rw [hg]; exact (bZ_q (bel HB.out)) : w.heap.size ≤ gb776)); replace HB := Ae_q (bT_q (bel HB.out) hb); clear hb hbox hg) | ((with_reducible refine gD_q (N := 6) rfl ?_); (try (refine gate_guard (by rfl) ?_; dsimp only)); refine bE_q ?hg (N := 6) ?hd (cs := #[.int .i64 0, .int .i64 0, .int .i64 0]) (t := 31) ?hr ?_; (case hd => rfl); (case hg => rfl); (case hr => exact m5_q); intro gb777 hg w9 hbox hb; replace HO765 := Ae_q (Kd.S_below m136_q hb); replace HO769 := Ae_q (rO_q (rup HO769.out) hb); replace HO772 := Ae_q (rO_q (rup HO772.out) hb); have BK777 := Ae_q (hbox); have GW777 := Ae_q ((by rw [hg]; exact (bZ_q m132_q) : w.heap.size ≤ gb777)); have GE777 := Ae_q ((by rw [hg]; exact (bZ_q m132_q) : w.heap.size ≤ gb777)); replace HB := Ae_q (bT_q m132_q hb); have NB776_777 := Ae_q ((by rw [hg]; exact nL_q (blk_lt (g := gb776) (o := .cells #[.int .i64 0, .slice none 0 0] 43 (0, 0)) (bup BK776.out)) : gb776 ≠ gb777)); have NB777_776 := Ae_q ((by rw [hg]; exact nG_q (blk_lt (g := gb776) (o := .cells #[.int .i64 0, .slice none 0 0] 43 (0, 0)) (bup BK776.out)) : gb777 ≠ gb776)); replace BK776 := Ae_q (bB_q (g := gb776) (o := .cells #[.int .i64 0, .slice none 0 0] 43 (0, 0)) (bup BK776.out) hb); clear hb hbox hg; have hnb10 := NB776_777.out; have hnc10 := NB777_776.out; have hcz11_0 : cI w9 gb776 0 0 := cZ BK776 0 rfl; have hcz11_1 : w9.cell? ⟨gb776, 1, none⟩ = some (.slice none 0 0) := (bC_q BK776.out 1).trans rfl; have hfz11_0 := bF_q BK776.out 0; have hfz11_1 := bF_q BK776.out 1; obtain ⟨Ao12, co12, eo12⟩ := rS_q HO769.out; subst eo12; have hcz13_0 : cI w9 gb777 0 0 := cZ BK777 0 rfl; have hcz13_1 : cI w9 gb777 1 0 := cZ BK777 1 rfl; have hcz13_2 : cI w9 gb777 2 0 := cZ BK777 2 rfl; have hfz13_0 := bF_q BK777.out 0; have hfz13_1 := bF_q BK777.out 1; have hfz13_2 := bF_q BK777.out 2; obtain ⟨Ao14, co14, eo14⟩ := Kd.S_slice HO765.out; subst eo14; obtain ⟨Ao15, co15, eo15⟩ := rS_q HO772.out; subst eo15) | ((with_reducible refine gC_q (f := 28) rfl ?_); refine gL_q (some 28) rfl rfl Try.func28 m9_q rfl #[.slice Ao14 t763.length co14, .agg #[.int .i64 t766, .slice Ao12 t767.length co12], .slice Ao15 t770.length co15, .agg #[.int .i64 t773, .int .i64 t774, .int .i64 t775]] rfl m0_q ?_; (with_reducible refine (impl_OutageRepair.calls k _ _ t763 t766 _ _ t767 _ _ t770 t773 t774 t775 t778 t781 _ ?side1 ?side2 ?side3 ?side4 ?side5 ?side6 A4.out).mono ?_); (case side1 => refine (Kd.S_reads' (e := 63) (base := w.heap.size) (ok := fun k_ => (some k_ ≠ (.slice Ao12 t767.length co12 : Value).ownBlock ∧ some k_ ≠ (.slice Ao15 t770.length co15 : Value).ownBlock)) (n := t763.length) (c := co14) ?_).2.2; exact (by (with_reducible repeat (first | apply tA_q | apply tN_q | apply tD_q)); exact (Kd.S_mono (Kd.S_mono (Kd.S_far (p := ⟨gb777, 2, none⟩) (Kd.S_far (p := ⟨gb777, 1, none⟩) (Kd.S_far (p := ⟨gb777, 0, none⟩) (Kd.S_far (p := ⟨gb776, 1, none⟩) (Kd.S_far (p := ⟨gb776, 0, none⟩) (Kd.S_types (Kd.S_types HO765.out BK776.out (by decide)) BK777.out (by decide)) (fun _ hk => hk.1.2) (.int .i64 t766)) (fun _ hk => hk.1.2) (.slice Ao12 t767.length co12)) (fun _ hk => hk.2) (.int .i64 t773)) (fun _ hk => hk.2) (.int .i64 t774)) (fun _ hk => hk.2) (.int .i64 t775)) (fun _ h_ => h_.1)) (fun _ h_ => h_.1)))); (case side2 => exact (Kd.S_reads' HO765.out).2.1); (case side3 => refine (rR_q (e := 3) (base := w.heap.size) (ok := fun k_ => some k_ ≠ (.slice Ao15 t770.length co15 : Value).ownBlock) (n := t767.length) (c := co12) ?_).2.2; exact (by (with_reducible repeat (first | apply rA_q | apply rN_q | apply rD_q)); exact (rM_q (rM_q (Kd.R_far (p := ⟨gb777, 2, none⟩) (Kd.R_far (p := ⟨gb777, 1, none⟩) (Kd.R_far (p := ⟨gb777, 0, none⟩) (Kd.R_far (p := ⟨gb776, 1, none⟩) (Kd.R_far (p := ⟨gb776, 0, none⟩) (Kd.R_types (Kd.R_types HO769.out BK776.out (by decide)) BK777.out (by decide)) (fun _ hk => hk.1.2) (.int .i64 t766)) (fun _ hk => hk.1.2) (.slice Ao12 t767.length co12)) (fun _ hk => hk.2) (.int .i64 t773)) (fun _ hk => hk.2) (.int .i64 t774)) (fun _ hk => hk.2) (.int .i64 t775)) (fun _ h_ => h_.1)) (fun _ h_ => h_.1)))); (case side4 => exact (rR_q HO769.out).2.1); (case side5 => refine (rR_q (e := 3) (base := w.heap.size) (ok := fun k_ => some k_ ≠ (.slice Ao12 t767.length co12 : Value).ownBlock) (n := t770.length) (c := co15) ?_).2.2; exact (by (with_reducible repeat (first | apply rA_q | apply rN_q | apply rD_q)); exact (rM_q (rM_q (Kd.R_far (p := ⟨gb777, 2, none⟩) (Kd.R_far (p := ⟨gb777, 1, none⟩) (Kd.R_far (p := ⟨gb777, 0, none⟩) (Kd.R_far (p := ⟨gb776, 1, none⟩) (Kd.R_far (p := ⟨gb776, 0, none⟩) (Kd.R_types (Kd.R_types HO772.out BK776.out (by decide)) BK777.out (by decide)) (fun _ hk => hk.1.2) (.int .i64 t766)) (fun _ hk => hk.1.2) (.slice Ao12 t767.length co12)) (fun _ hk => hk.2) (.int .i64 t773)) (fun _ hk => hk.2) (.int .i64 t774)) (fun _ hk => hk.2) (.int .i64 t775)) (fun _ h_ => h_.1)) (fun _ h_ => h_.1)))); (case side6 => exact (rR_q HO772.out).2.1); rintro e w16 ⟨v779, rfl, ho0, hb⟩; refine ⟨_, rfl, ?_⟩; replace HO765 := Ae_q (Kd.S_elder' (by (with_reducible repeat (first | apply tA_q | apply tN_q | apply tD_q)); exact (Kd.S_mono (Kd.S_mono (Kd.S_far (p := ⟨gb777, 2, none⟩) (Kd.S_far (p := ⟨gb777, 1, none⟩) (Kd.S_far (p := ⟨gb777, 0, none⟩) (Kd.S_far (p := ⟨gb776, 1, none⟩) (Kd.S_far (p := ⟨gb776, 0, none⟩) (Kd.S_types (Kd.S_types HO765.out BK776.out (by decide)) BK777.out (by decide)) (fun _ hk => hk.1.2) (.int .i64 t766)) (fun _ hk => hk.1.2) (.slice Ao12 t767.length co12)) (fun _ hk => hk.2) (.int .i64 t773)) (fun _ hk => hk.2) (.int .i64 t774)) (fun _ hk => hk.2) (.int .i64 t775)) (fun _ h_ => h_.1)) (fun _ h_ => h_.1))) (rB_q ho0) hb); have HO780 := Ae_q (rL_q (rW_q (rW_q ho0 (rT_q (by (with_reducible repeat (first | apply rA_q | apply rN_q | apply rD_q)); exact (rM_q (rM_q (Kd.R_far (p := ⟨gb777, 2, none⟩) (Kd.R_far (p := ⟨gb777, 1, none⟩) (Kd.R_far (p := ⟨gb777, 0, none⟩) (Kd.R_far (p := ⟨gb776, 1, none⟩) (Kd.R_far (p := ⟨gb776, 0, none⟩) (Kd.R_types (Kd.R_types HO769.out BK776.out (by decide)) BK777.out (by decide)) (fun _ hk => hk.1.2) (.int .i64 t766)) (fun _ hk => hk.1.2) (.slice Ao12 t767.length co12)) (fun _ hk => hk.2) (.int .i64 t773)) (fun _ hk => hk.2) (.int .i64 t774)) (fun _ hk => hk.2) (.int .i64 t775)) (fun _ h_ => h_.1)) (fun _ h_ => h_.1))))) (rT_q (by (with_reducible repeat (first | apply rA_q | apply rN_q | apply rD_q)); exact (rM_q (rM_q (Kd.R_far (p := ⟨gb777, 2, none⟩) (Kd.R_far (p := ⟨gb777, 1, none⟩) (Kd.R_far (p := ⟨gb777, 0, none⟩) (Kd.R_far (p := ⟨gb776, 1, none⟩) (Kd.R_far (p := ⟨gb776, 0, none⟩) (Kd.R_types (Kd.R_types HO772.out BK776.out (by decide)) BK777.out (by decide)) (fun _ hk => hk.1.2) (.int .i64 t766)) (fun _ hk => hk.1.2) (.slice Ao12 t767.length co12)) (fun _ hk => hk.2) (.int .i64 t773)) (fun _ hk => hk.2) (.int .i64 t774)) (fun _ hk => hk.2) (.int .i64 t775)) (fun _ h_ => h_.1)) (fun _ h_ => h_.1))))) (bZ_q m14_q)); replace HO769 := Ae_q (rE_q (by (with_reducible repeat (first | apply rA_q | apply rN_q | apply rD_q)); exact (rM_q (rM_q (Kd.R_far (p := ⟨gb777, 2, none⟩) (Kd.R_far (p := ⟨gb777, 1, none⟩) (Kd.R_far (p := ⟨gb777, 0, none⟩) (Kd.R_far (p := ⟨gb776, 1, none⟩) (Kd.R_far (p := ⟨gb776, 0, none⟩) (Kd.R_types (Kd.R_types HO769.out BK776.out (by decide)) BK777.out (by decide)) (fun _ hk => hk.1.2) (.int .i64 t766)) (fun _ hk => hk.1.2) (.slice Ao12 t767.length co12)) (fun _ hk => hk.2) (.int .i64 t773)) (fun _ hk => hk.2) (.int .i64 t774)) (fun _ hk => hk.2) (.int .i64 t775)) (fun _ h_ => h_.1)) (fun _ h_ => h_.1))) (rB_q ho0) hb); replace HO772 := Ae_q (rE_q (by (with_reducible repeat (first | apply rA_q | apply rN_q | apply rD_q)); exact (rM_q (rM_q (Kd.R_far (p := ⟨gb777, 2, none⟩) (Kd.R_far (p := ⟨gb777, 1, none⟩) (Kd.R_far (p := ⟨gb777, 0, none⟩) (Kd.R_far (p := ⟨gb776, 1, none⟩) (Kd.R_far (p := ⟨gb776, 0, none⟩) (Kd.R_types (Kd.R_types HO772.out BK776.out (by decide)) BK777.out (by decide)) (fun _ hk => hk.1.2) (.int .i64 t766)) (fun _ hk => hk.1.2) (.slice Ao12 t767.length co12)) (fun _ hk => hk.2) (.int .i64 t773)) (fun _ hk => hk.2) (.int .i64 t774)) (fun _ hk => hk.2) (.int .i64 t775)) (fun _ h_ => h_.1)) (fun _ h_ => h_.1))) (rB_q ho0) hb); replace BK776 := Ae_q (bB_q (g := gb776) (o := .cells #[.int .i64 t766, .slice Ao12 t767.length co12] 43 (0, 0)) (by (with_reducible repeat (first | refine bN_q ?_ _ | refine bW_q ?_ | refine bL_q ?_ _)); refine blk_far ?_ NB776_777.out _; (with_reducible repeat (first | refine bN_q ?_ _ | refine bW_q ?_ | refine bL_q ?_ _)); refine blk_far ?_ NB776_777.out _; (with_reducible repeat (first | refine bN_q ?_ _ | refine bW_q ?_ | refine bL_q ?_ _)); refine blk_far ?_ NB776_777.out _; (with_reducible repeat (first | refine bN_q ?_ _ | refine bW_q ?_ | refine bL_q ?_ _)); refine blk_put (cs := #[.int .i64 t766, .slice none 0 0]) ?_ 1 _ rfl; (with_reducible repeat (first | refine bN_q ?_ _ | refine bW_q ?_ | refine bL_q ?_ _)); refine blk_put (cs := #[.int .i64 0, .slice none 0 0]) ?_ 0 _ rfl; (with_reducible repeat (first | refine bN_q ?_ _ | refine bW_q ?_ | refine bL_q ?_ _)); exact BK776.out) hb); replace BK777 := Ae_q (bB_q (g := gb777) (o := .cells #[.int .i64 t773, .int .i64 t774, .int .i64 t775] 31 (0, 0)) (by (with_reducible repeat (first | refine bN_q ?_ _ | refine bW_q ?_ | refine bL_q ?_ _)); refine blk_put (cs := #[.int .i64 t773, .int .i64 t774, .int .i64 0]) ?_ 2 _ rfl; (with_reducible repeat (first | refine bN_q ?_ _ | refine bW_q ?_ | refine bL_q ?_ _)); refine blk_put (cs := #[.int .i64 t773, .int .i64 0, .int .i64 0]) ?_ 1 _ rfl; (with_reducible repeat (first | refine bN_q ?_ _ | refine bW_q ?_ | refine bL_q ?_ _)); refine blk_put (cs := #[.int .i64 0, .int .i64 0, .int .i64 0]) ?_ 0 _ rfl; (with_reducible repeat (first | refine bN_q ?_ _ | refine bW_q ?_ | refine bL_q ?_ _)); refine blk_far ?_ NB777_776.out _; (with_reducible repeat (first | refine bN_q ?_ _ | refine bW_q ?_ | refine bL_q ?_ _)); refine blk_far ?_ NB777_776.out _; (with_reducible repeat (first | refine bN_q ?_ _ | refine bW_q ?_ | refine bL_q ?_ _)); exact BK777.out) hb); replace HB := Ae_q (bT_q m14_q hb); (try clear hb); (try clear hb2); (try clear hk); (try clear hi); (try clear ho0); have hcz17_0 : cI w16 gb776 0 t766 := cZ BK776 0 rfl; have hcz17_1 : w16.cell? ⟨gb776, 1, none⟩ = some (.slice Ao12 t767.length co12) := (bC_q BK776.out 1).trans rfl; have hfz17_0 := bF_q BK776.out 0; have hfz17_1 := bF_q BK776.out 1; have hcz18_0 : cI w16 gb777 0 t773 := cZ BK777 0 rfl; have hcz18_1 : cI w16 gb777 1 t774 := cZ BK777 1 rfl; have hcz18_2 : cI w16 gb777 2 t775 := cZ BK777 2 rfl; have hfz18_0 := bF_q BK777.out 0; have hfz18_1 := bF_q BK777.out 1; have hfz18_2 := bF_q BK777.out 2) | ((with_reducible refine gC_q (f := 29) rfl ?_); refine gL_q (some 36) rfl rfl Try.func29 m9_q rfl #[.slice Ao14 t763.length co14, .agg #[.int .i64 t766, .slice Ao12 t767.length co12], .slice Ao15 t770.length co15, .agg #[.int .i64 t773, .int .i64 t774, .int .i64 t775]] rfl m0_q ?_; (with_reducible refine (spec_OutageRepair.calls k _ _ t763 t766 _ _ t767 _ _ t770 t773 t774 t775 t782 t785 _ ?side1 ?side2 ?side3 ?side4 ?side5 ?side6 A5.out).mono ?_); (case side1 => repeat (first | exact (Kd.S_reads' HO765.out).2.2 | (with_reducible refine cA_q ?_ _) | (with_reducible refine cN_q ?_ _) | (with_reducible refine cD_q ?_))); (case side2 => exact (Kd.S_reads' HO765.out).2.1); (case side3 => exact cup (rR_q HO769.out).2.2); (case side4 => exact (rR_q HO769.out).2.1); (case side5 => exact cup (rR_q HO772.out).2.2); (case side6 => exact (rR_q HO772.out).2.1); rintro e w' ⟨v783, rfl, ho0, hb⟩; refine ⟨_, rfl, ?_⟩; replace HO765 := Ae_q (Kd.S_elder' m136_q (rB_q ho0) hb); have HO784 := Ae_q (rL_q (rW_q (rW_q (rW_q ho0 (rT_q (rup HO769.out))) (rT_q (rup HO772.out))) (rT_q (rup HO780.out))) (bZ_q m14_q)); replace HO769 := Ae_q (rE_q (rup HO769.out) (rB_q ho0) hb); replace HO772 := Ae_q (rE_q (rup HO772.out) (rB_q ho0) hb); replace HO780 := Ae_q (rE_q (rup HO780.out) (rB_q ho0) hb); replace BK776 := Ae_q (bB_q (g := gb776) (o := .cells #[.int .i64 t766, .slice Ao12 t767.length co12] 43 (0, 0)) (bup BK776.out) hb); replace BK777 := Ae_q (bB_q (g := gb777) (o := .cells #[.int .i64 t773, .int .i64 t774, .int .i64 t775] 31 (0, 0)) (bup BK777.out) hb); replace HB := Ae_q (bT_q m14_q hb); (try clear hb); (try clear hb2); (try clear hk); (try clear hi); (try clear ho0)))
 (try simp only [Act.put, sA_q, sZ_q, sS_q])
 go_cut [51] (fun v51 wc => ∃ (kq : Nat) (x51_5 : Bool), v51 = .bool x51_5 ∧ Aside0 (laws_FnRepairNone.j0 kq t763 t770 t778 t781 t782 t785 x51_5 t766 t767 t773 t774 t775 = some r) ∧ Aside0 (kq ≤ k) ∧ Aside0 (Kd.S k63 63 wc w.heap.size (fun k_ => some k_ ≠ ((.slice Ao15 t770.length co15) : Value).ownBlock ∧ some k_ ≠ (v779 : Value).ownBlock ∧ some k_ ≠ (v783 : Value).ownBlock ∧ some k_ ≠ ((.slice Ao12 t767.length co12) : Value).ownBlock) (.slice Ao14 t763.length co14) t763) ∧ Aside0 (Kd.R kI_q 3 wc w.heap.size (fun k_ => some k_ ≠ (v779 : Value).ownBlock ∧ some k_ ≠ (v783 : Value).ownBlock ∧ some k_ ≠ ((.slice Ao12 t767.length co12) : Value).ownBlock) (.slice Ao15 t770.length co15) t770) ∧ Aside0 (Kd.R kI_q 3 wc w.heap.size (fun k_ => some k_ ≠ ((.slice Ao15 t770.length co15) : Value).ownBlock ∧ some k_ ≠ (v783 : Value).ownBlock ∧ some k_ ≠ ((.slice Ao12 t767.length co12) : Value).ownBlock) v779 t778) ∧ Aside0 (Kd.R kI_q 3 wc w.heap.size (fun k_ => some k_ ≠ ((.slice Ao15 t770.length co15) : Value).ownBlock ∧ some k_ ≠ (v779 : Value).ownBlock ∧ some k_ ≠ ((.slice Ao12 t767.length co12) : Value).ownBlock) v783 t782) ∧ Aside0 (Kd.R kI_q 3 wc w.heap.size (fun k_ => some k_ ≠ ((.slice Ao15 t770.length co15) : Value).ownBlock ∧ some k_ ≠ (v779 : Value).ownBlock ∧ some k_ ≠ (v783 : Value).ownBlock) (.slice Ao12 t767.length co12) t767) ∧ Aside0 (wc.heap[gb776]? = some (.cells #[.int .i64 t766, (.slice Ao12 t767.length co12)] 43 (0, 0))) ∧ Aside0 (wc.heap[gb777]? = some (.cells #[.int .i64 t773, .int .i64 t774, .int .i64 t775] 31 (0, 0))) ∧ Aside0 (Below w.heap.size w wc))
 case first =>
  have H := HC6.out
  clear HC6
  by_cases c20 : (t781 != t785) = true
  ·rw [if_pos c20] at H
   have c20b0 : (t781 != t785) = true := c20
   (try (have c20b1 : decide (t781 = t785) = false := by simpa using c20))
   (try (have c20b2 : (t781 == t785) = false := by simpa using c20))
   (try (have c20b3 : ¬ (t781 = t785) := by simpa using c20))
   clear c20
   (first | rw [c20b0] | (simp only [i64_w, i32_w]; rw [c20b0]) | skip)
   have H' := Ae_q H
   clear H
   go_wp2
   go_meet
   case rel => exact ⟨_, (true), m7_q, H', ⟨m101_q⟩, ⟨m104_q⟩, ⟨m117_q⟩, ⟨m114_q⟩, ⟨m115_q⟩, ⟨m118_q⟩, ⟨bup BK776.out⟩, ⟨bup BK777.out⟩, ⟨m14_q⟩⟩
  rw [if_neg c20] at H
  have c20b0 : (t781 != t785) = false := by simpa using c20
  (try (have c20b1 : decide (t781 = t785) = true := by simpa using c20))
  (try (have c20b2 : (t781 == t785) = true := by simpa using c20))
  clear c20
  (first | rw [c20b0] | (simp only [i64_w, i32_w]; rw [c20b0]) | skip)
  replace H := oB_q.mp H
  obtain ⟨t786, A210, H⟩ := H
  replace H : (if t786 = true then (laws_FnRepairNone.j0 k t763 t770 t778 t781 t782 t785 (!t781) t766 t767 t773 t774 t775) else (laws_FnRepairNone.j0 k t763 t770 t778 t781 t782 t785 true t766 t767 t773 t774 t775)) = some r := H
  have A21 := Ae_q A210
  clear A210
  by_cases c22 : t786 = true
  ·subst c22
   have H1 : (laws_FnRepairNone.j0 k t763 t770 t778 t781 t782 t785 (!t781) t766 t767 t773 t774 t775) = some r := by rw [if_pos rfl] at H; exact H
   clear H
   have H := H1
   clear H1
   have H' := Ae_q H
   clear H
   obtain ⟨Ao23, co23, eo23⟩ := rS_q HO780.out
   subst eo23
   obtain ⟨Ao24, co24, eo24⟩ := rS_q HO784.out
   subst eo24
   go_wp2_with (first | (go_at_call 30; (with_reducible refine (laws_sameInts.calls k _ _ t778 _ _ t782 true _ ?side1 ?side2 ?side3 ?side4 A21.out).mono ?_); (case side1 => exact cup (rR_q HO780.out).2.2); (case side2 => exact (rR_q HO780.out).2.1); (case side3 => exact cup (rR_q HO784.out).2.2); (case side4 => exact (rR_q HO784.out).2.1); rintro e w' ⟨rfl, ⟨nd, rfl⟩⟩))
   go_meet
   case rel => exact ⟨_, (!t781), m7_q, H', ⟨m101_q⟩, ⟨m104_q⟩, ⟨m117_q⟩, ⟨m114_q⟩, ⟨m115_q⟩, ⟨m118_q⟩, ⟨bup BK776.out⟩, ⟨bup BK777.out⟩, ⟨m14_q⟩⟩
  replace c22 := fM_q.mpr c22
  subst c22
  have H1 : (laws_FnRepairNone.j0 k t763 t770 t778 t781 t782 t785 true t766 t767 t773 t774 t775) = some r := by rw [if_neg (show ¬ (false = true) by decide)] at H; exact H
  clear H
  have H := H1
  clear H1
  have H' := Ae_q H
  clear H
  obtain ⟨Ao25, co25, eo25⟩ := rS_q HO780.out
  subst eo25
  obtain ⟨Ao26, co26, eo26⟩ := rS_q HO784.out
  subst eo26
  go_wp2_with (first | (go_at_call 30; (with_reducible refine (laws_sameInts.calls k _ _ t778 _ _ t782 false _ ?side1 ?side2 ?side3 ?side4 A21.out).mono ?_); (case side1 => exact cup (rR_q HO780.out).2.2); (case side2 => exact (rR_q HO780.out).2.1); (case side3 => exact cup (rR_q HO784.out).2.2); (case side4 => exact (rR_q HO784.out).2.1); rintro e w' ⟨rfl, ⟨nd, rfl⟩⟩))
  go_meet
  case rel => exact ⟨_, (true), m7_q, H', ⟨m101_q⟩, ⟨m104_q⟩, ⟨m117_q⟩, ⟨m114_q⟩, ⟨m115_q⟩, ⟨m118_q⟩, ⟨bup BK776.out⟩, ⟨bup BK777.out⟩, ⟨m14_q⟩⟩
 case rest =>
  clear HC6
  try clear c1
  try clear c2
  try clear c2b0
  try clear c2b1
  try clear p2
  try clear c7
  try clear c10
  try clear c20
  try clear c20b0
  try clear c20b1
  try clear c20b2
  try clear c22
  try clear hcz11_0
  try clear hcz11_1
  try clear hcz13_0
  try clear hcz13_1
  try clear hcz13_2
  try clear hcz17_0
  try clear hcz17_1
  try clear hcz18_0
  try clear hcz18_1
  try clear hcz18_2
  try clear hfz11_0
  try clear hfz11_1
  try clear hfz13_0
  try clear hfz13_1
  try clear hfz13_2
  try clear hfz17_0
  try clear hfz17_1
  try clear hfz18_0
  try clear hfz18_1
  try clear hfz18_2
  obtain ⟨kq, x51_5, rfl, HA, HJ5, HO_3, HO_5, HO_7, HO_9, HO_777001, BK776, BK777, HB⟩ := hcut
  cases kq with
  | zero => exact absurd HA.out (by simp [laws_FnRepairNone.j0])
  | succ kj5 =>
   have H := HA.out
   clear HA
   simp only [laws_FnRepairNone.j0] at H
   by_cases c27 : x51_5 = true
   ·subst c27
    have H1 : (if (t781 == t785) = true then ((laws_sameInts.f kj5 t778 t782).bind fun t787 => (some t787)) else (some false)) = some r := by rw [if_pos rfl] at H; exact H
    clear H
    have H := H1
    clear H1
    by_cases c28 : (t781 == t785) = true
    rotate_left
    ·rw [if_neg c28] at H
     have c28b0 : (t781 == t785) = false := by simpa using c28
     (try (have c28b1 : decide (t781 = t785) = false := by simpa using c28))
     (try (have c28b2 : (t781 == t785) = false := by simpa using c28))
     (try (have c28b3 : ¬ (t781 = t785) := by simpa using c28))
     clear c28
     obtain rfl := oI_q H
     go_wp2
     go_ret
     exact ⟨m6_q, m14_q⟩
    rw [if_pos c28] at H
    have c28b0 : (t781 == t785) = true := c28
    (try (have c28b1 : decide (t781 = t785) = true := by simpa using c28))
    (try (have c28b2 : (t781 == t785) = true := by simpa using c28))
    clear c28
    replace H := oB_q.mp H
    obtain ⟨t787, A290, H⟩ := H
    replace H : (some t787) = some r := H
    have A29 := Ae_q A290
    clear A290
    obtain rfl := oI_q H
    obtain ⟨Ao30, co30, eo30⟩ := rS_q HO_7.out
    subst eo30
    obtain ⟨Ao31, co31, eo31⟩ := rS_q HO_9.out
    subst eo31
    go_wp2_with (first | (go_at_call 30; (with_reducible refine (laws_sameInts.calls kj5 _ _ t778 _ _ t782 t787 _ ?side1 ?side2 ?side3 ?side4 A29.out).mono ?_); (case side1 => exact m137_q); (case side2 => exact m145_q); (case side3 => exact cup (rR_q HO_9.out).2.2); (case side4 => exact (rR_q HO_9.out).2.1); rintro e w' ⟨rfl, ⟨nd, rfl⟩⟩))
    go_ret
    exact ⟨m6_q, m14_q⟩
   replace c27 := fM_q.mpr c27
   subst c27
   have H1 : ((impl_OutageRepair.f kj5 t763 t766 t767 t778 t773 t774 t775).bind fun bt788 => (if bt788.2 = true then ((laws_sameInts.f kj5 bt788.1 t778).bind fun t792 => (if t792 = true then ((impl_OutageHits.f kj5 t763 t770 t773 t774 t775).bind fun t793 => (if (t793.length : Int) > 0 then (some true) else ((laws_sameInts.f kj5 t778 t770).bind fun t796 => (some t796)))) else (some false))) else (some false))) = some r := by rw [if_neg (show ¬ (false = true) by decide)] at H; exact H
   clear H
   have H := H1
   clear H1
   replace H := oB_q.mp H
   obtain ⟨⟨t788, t791⟩, A320, H⟩ := H
   replace H : (if t791 = true then ((laws_sameInts.f kj5 t788 t778).bind fun t792 => (if t792 = true then ((impl_OutageHits.f kj5 t763 t770 t773 t774 t775).bind fun t793 => (if (t793.length : Int) > 0 then (some true) else ((laws_sameInts.f kj5 t778 t770).bind fun t796 => (some t796)))) else (some false))) else (some false)) = some r := H
   have A32 := Ae_q A320
   clear A320
   by_cases c33 : t791 = true
   rotate_left
   ·replace c33 := fM_q.mpr c33
    subst c33
    have H1 : (some false) = some r := by rw [if_neg (show ¬ (false = true) by decide)] at H; exact H
    clear H
    have H := H1
    clear H1
    obtain rfl := oI_q H
    have hnb63 := NB776_777.out
    have hnc63 := NB777_776.out
    have hcz64_0 : cI wc gb776 0 t766 := cZ BK776 0 rfl
    have hcz64_1 : wc.cell? ⟨gb776, 1, none⟩ = some (.slice Ao12 t767.length co12) := (bC_q BK776.out 1).trans rfl
    have hfz64_0 := bF_q BK776.out 0
    have hfz64_1 := bF_q BK776.out 1
    have hcz65_0 : cI wc gb777 0 t773 := cZ BK777 0 rfl
    have hcz65_1 : cI wc gb777 1 t774 := cZ BK777 1 rfl
    have hcz65_2 : cI wc gb777 2 t775 := cZ BK777 2 rfl
    have hfz65_0 := bF_q BK777.out 0
    have hfz65_1 := bF_q BK777.out 1
    have hfz65_2 := bF_q BK777.out 2
    obtain ⟨Ao66, co66, eo66⟩ := rS_q HO_7.out
    subst eo66
    go_wp2_with (first | ((with_reducible refine gC_q (f := 28) rfl ?_); refine gL_q (some 65) rfl rfl Try.func28 m9_q rfl #[.slice Ao14 t763.length co14, .agg #[.int .i64 t766, .slice Ao12 t767.length co12], .slice Ao66 t778.length co66, .agg #[.int .i64 t773, .int .i64 t774, .int .i64 t775]] rfl m0_q ?_; (with_reducible refine (impl_OutageRepair.calls kj5 _ _ t763 t766 _ _ t767 _ _ t778 t773 t774 t775 t788 false _ ?side1 ?side2 ?side3 ?side4 ?side5 ?side6 A32.out).mono ?_); (case side1 => exact m66_q); (case side2 => exact m149_q); (case side3 => exact m158_q); (case side4 => exact m163_q); (case side5 => exact m137_q); (case side6 => exact m145_q); rintro e w' ⟨v789, rfl, ho0, hb⟩; refine ⟨_, rfl, ?_⟩; replace HO_3 := Ae_q (Kd.S_elder' m20_q (rB_q ho0) hb); have HO790 := Ae_q (rL_q (rW_q (rW_q (rW_q (rW_q ho0 (rT_q (rup HO_5.out))) (rT_q (rup HO_7.out))) (rT_q (rup HO_9.out))) (rT_q (rup HO_777001.out))) (bZ_q m14_q)); replace HO_5 := Ae_q (rE_q (rup HO_5.out) (rB_q ho0) hb); replace HO_7 := Ae_q (rE_q (rup HO_7.out) (rB_q ho0) hb); replace HO_9 := Ae_q (rE_q (rup HO_9.out) (rB_q ho0) hb); replace HO_777001 := Ae_q (rE_q (rup HO_777001.out) (rB_q ho0) hb); replace BK776 := Ae_q (bB_q (g := gb776) (o := .cells #[.int .i64 t766, .slice Ao12 t767.length co12] 43 (0, 0)) (bup BK776.out) hb); replace BK777 := Ae_q (bB_q (g := gb777) (o := .cells #[.int .i64 t773, .int .i64 t774, .int .i64 t775] 31 (0, 0)) (bup BK777.out) hb); replace HB := Ae_q (bT_q m14_q hb); (try clear hb); (try clear hb2); (try clear hk); (try clear hi); (try clear ho0)))
    go_ret
    exact ⟨m6_q, m14_q⟩
   subst c33
   have H1 : ((laws_sameInts.f kj5 t788 t778).bind fun t792 => (if t792 = true then ((impl_OutageHits.f kj5 t763 t770 t773 t774 t775).bind fun t793 => (if (t793.length : Int) > 0 then (some true) else ((laws_sameInts.f kj5 t778 t770).bind fun t796 => (some t796)))) else (some false))) = some r := by rw [if_pos rfl] at H; exact H
   clear H
   have H := H1
   clear H1
   replace H := oB_q.mp H
   obtain ⟨t792, A340, H⟩ := H
   replace H : (if t792 = true then ((impl_OutageHits.f kj5 t763 t770 t773 t774 t775).bind fun t793 => (if (t793.length : Int) > 0 then (some true) else ((laws_sameInts.f kj5 t778 t770).bind fun t796 => (some t796)))) else (some false)) = some r := H
   have A34 := Ae_q A340
   clear A340
   by_cases c35 : t792 = true
   rotate_left
   ·replace c35 := fM_q.mpr c35
    subst c35
    have H1 : (some false) = some r := by rw [if_neg (show ¬ (false = true) by decide)] at H; exact H
    clear H
    have H := H1
    clear H1
    obtain rfl := oI_q H
    have hnb57 := NB776_777.out
    have hnc57 := NB777_776.out
    have hcz58_0 : cI wc gb776 0 t766 := cZ BK776 0 rfl
    have hcz58_1 : wc.cell? ⟨gb776, 1, none⟩ = some (.slice Ao12 t767.length co12) := (bC_q BK776.out 1).trans rfl
    have hfz58_0 := bF_q BK776.out 0
    have hfz58_1 := bF_q BK776.out 1
    have hcz59_0 : cI wc gb777 0 t773 := cZ BK777 0 rfl
    have hcz59_1 : cI wc gb777 1 t774 := cZ BK777 1 rfl
    have hcz59_2 : cI wc gb777 2 t775 := cZ BK777 2 rfl
    have hfz59_0 := bF_q BK777.out 0
    have hfz59_1 := bF_q BK777.out 1
    have hfz59_2 := bF_q BK777.out 2
    obtain ⟨Ao60, co60, eo60⟩ := rS_q HO_7.out
    subst eo60
    go_wp2_with (first | ((with_reducible refine gC_q (f := 28) rfl ?_); refine gL_q (some 65) rfl rfl Try.func28 m9_q rfl #[.slice Ao14 t763.length co14, .agg #[.int .i64 t766, .slice Ao12 t767.length co12], .slice Ao60 t778.length co60, .agg #[.int .i64 t773, .int .i64 t774, .int .i64 t775]] rfl m0_q ?_; (with_reducible refine (impl_OutageRepair.calls kj5 _ _ t763 t766 _ _ t767 _ _ t778 t773 t774 t775 t788 true _ ?side1 ?side2 ?side3 ?side4 ?side5 ?side6 A32.out).mono ?_); (case side1 => exact m66_q); (case side2 => exact m149_q); (case side3 => exact m158_q); (case side4 => exact m163_q); (case side5 => exact m137_q); (case side6 => exact m145_q); rintro e w' ⟨v789, rfl, ho0, hb⟩; refine ⟨_, rfl, ?_⟩; replace HO_3 := Ae_q (Kd.S_elder' m20_q (rB_q ho0) hb); have HO790 := Ae_q (rL_q (rW_q (rW_q (rW_q (rW_q ho0 (rT_q (rup HO_5.out))) (rT_q (rup HO_7.out))) (rT_q (rup HO_9.out))) (rT_q (rup HO_777001.out))) (bZ_q m14_q)); replace HO_5 := Ae_q (rE_q (rup HO_5.out) (rB_q ho0) hb); replace HO_7 := Ae_q (rE_q (rup HO_7.out) (rB_q ho0) hb); replace HO_9 := Ae_q (rE_q (rup HO_9.out) (rB_q ho0) hb); replace HO_777001 := Ae_q (rE_q (rup HO_777001.out) (rB_q ho0) hb); replace BK776 := Ae_q (bB_q (g := gb776) (o := .cells #[.int .i64 t766, .slice Ao12 t767.length co12] 43 (0, 0)) (bup BK776.out) hb); replace BK777 := Ae_q (bB_q (g := gb777) (o := .cells #[.int .i64 t773, .int .i64 t774, .int .i64 t775] 31 (0, 0)) (bup BK777.out) hb); replace HB := Ae_q (bT_q m14_q hb); (try clear hb); (try clear hb2); (try clear hk); (try clear hi); (try clear ho0); obtain ⟨Ao62, co62, eo62⟩ := rS_q HO790.out; subst eo62) | (go_at_call 30; (with_reducible refine (laws_sameInts.calls kj5 _ _ t788 _ _ t778 false _ ?side1 ?side2 ?side3 ?side4 A34.out).mono ?_); (case side1 => exact cup (rR_q HO790.out).2.2); (case side2 => exact (rR_q HO790.out).2.1); (case side3 => exact m137_q); (case side4 => exact m145_q); rintro e w' ⟨rfl, ⟨nd, rfl⟩⟩))
    go_ret
    exact ⟨m6_q, m14_q⟩
   subst c35
   have H1 : ((impl_OutageHits.f kj5 t763 t770 t773 t774 t775).bind fun t793 => (if (t793.length : Int) > 0 then (some true) else ((laws_sameInts.f kj5 t778 t770).bind fun t796 => (some t796)))) = some r := by rw [if_pos rfl] at H; exact H
   clear H
   have H := H1
   clear H1
   replace H := oB_q.mp H
   obtain ⟨t793, A360, H⟩ := H
   replace H : (if (t793.length : Int) > 0 then (some true) else ((laws_sameInts.f kj5 t778 t770).bind fun t796 => (some t796))) = some r := H
   have A36 := Ae_q A360
   clear A360
   by_cases c37 : (t793.length : Int) > 0
   ·rw [if_pos c37] at H
    have c37b0 : decide (0 < (t793.length : Int)) = true := dT_q c37
    have c37b1 : decide (0 < t793.length) = true := dT_q (by omega)
    clear c37
    obtain rfl := oI_q H
    have hnb38 := NB776_777.out
    have hnc38 := NB777_776.out
    have hcz39_0 : cI wc gb776 0 t766 := cZ BK776 0 rfl
    have hcz39_1 : wc.cell? ⟨gb776, 1, none⟩ = some (.slice Ao12 t767.length co12) := (bC_q BK776.out 1).trans rfl
    have hfz39_0 := bF_q BK776.out 0
    have hfz39_1 := bF_q BK776.out 1
    have hcz40_0 : cI wc gb777 0 t773 := cZ BK777 0 rfl
    have hcz40_1 : cI wc gb777 1 t774 := cZ BK777 1 rfl
    have hcz40_2 : cI wc gb777 2 t775 := cZ BK777 2 rfl
    have hfz40_0 := bF_q BK777.out 0
    have hfz40_1 := bF_q BK777.out 1
    have hfz40_2 := bF_q BK777.out 2
    obtain ⟨Ao41, co41, eo41⟩ := rS_q HO_7.out
    subst eo41
    go_wp2_with (first | ((with_reducible refine gC_q (f := 28) rfl ?_); refine gL_q (some 65) rfl rfl Try.func28 m9_q rfl #[.slice Ao14 t763.length co14, .agg #[.int .i64 t766, .slice Ao12 t767.length co12], .slice Ao41 t778.length co41, .agg #[.int .i64 t773, .int .i64 t774, .int .i64 t775]] rfl m0_q ?_; (with_reducible refine (impl_OutageRepair.calls kj5 _ _ t763 t766 _ _ t767 _ _ t778 t773 t774 t775 t788 true _ ?side1 ?side2 ?side3 ?side4 ?side5 ?side6 A32.out).mono ?_); (case side1 => exact m66_q); (case side2 => exact m149_q); (case side3 => exact m158_q); (case side4 => exact m163_q); (case side5 => exact m137_q); (case side6 => exact m145_q); rintro e w42 ⟨v789, rfl, ho0, hb⟩; refine ⟨_, rfl, ?_⟩; replace HO_3 := Ae_q (Kd.S_elder' m20_q (rB_q ho0) hb); have HO790 := Ae_q (rL_q (rW_q (rW_q (rW_q (rW_q ho0 (rT_q (rup HO_5.out))) (rT_q (rup HO_7.out))) (rT_q (rup HO_9.out))) (rT_q (rup HO_777001.out))) (bZ_q m14_q)); replace HO_5 := Ae_q (rE_q (rup HO_5.out) (rB_q ho0) hb); replace HO_7 := Ae_q (rE_q (rup HO_7.out) (rB_q ho0) hb); replace HO_9 := Ae_q (rE_q (rup HO_9.out) (rB_q ho0) hb); replace HO_777001 := Ae_q (rE_q (rup HO_777001.out) (rB_q ho0) hb); replace BK776 := Ae_q (bB_q (g := gb776) (o := .cells #[.int .i64 t766, .slice Ao12 t767.length co12] 43 (0, 0)) (bup BK776.out) hb); replace BK777 := Ae_q (bB_q (g := gb777) (o := .cells #[.int .i64 t773, .int .i64 t774, .int .i64 t775] 31 (0, 0)) (bup BK777.out) hb); replace HB := Ae_q (bT_q m14_q hb); (try clear hb); (try clear hb2); (try clear hk); (try clear hi); (try clear ho0); obtain ⟨Ao43, co43, eo43⟩ := rS_q HO790.out; subst eo43) | (go_at_call 30; (with_reducible refine (laws_sameInts.calls kj5 _ _ t788 _ _ t778 true _ ?side1 ?side2 ?side3 ?side4 A34.out).mono ?_); (case side1 => exact cup (rR_q HO790.out).2.2); (case side2 => exact (rR_q HO790.out).2.1); (case side3 => exact m137_q); (case side4 => exact m145_q); rintro e w' ⟨rfl, ⟨nd, rfl⟩⟩; have hcz44_0 : cI w42 gb777 0 t773 := cZ BK777 0 rfl; have hcz44_1 : cI w42 gb777 1 t774 := cZ BK777 1 rfl; have hcz44_2 : cI w42 gb777 2 t775 := cZ BK777 2 rfl; have hfz44_0 := bF_q BK777.out 0; have hfz44_1 := bF_q BK777.out 1; have hfz44_2 := bF_q BK777.out 2) | (go_at_call 15; (with_reducible refine (impl_OutageHits.calls kj5 _ _ t763 _ _ t770 t773 t774 t775 t793 _ ?side1 ?side2 ?side3 ?side4 A36.out).mono ?_); (case side1 => exact m66_q); (case side2 => exact m149_q); (case side3 => exact cup (rR_q HO_5.out).2.2); (case side4 => exact (rR_q HO_5.out).2.1); rintro e w' ⟨v794, rfl, ho0, hb⟩; replace HO_3 := Ae_q (Kd.S_elder' m20_q (rB_q ho0) hb); have HO795 := Ae_q (rL_q (rW_q (rW_q (rW_q (rW_q (rW_q ho0 (rT_q (rup HO_5.out))) (rT_q (rup HO_7.out))) (rT_q (rup HO_9.out))) (rT_q (rup HO_777001.out))) (rT_q (rup HO790.out))) (bZ_q m14_q)); replace HO_5 := Ae_q (rE_q (rup HO_5.out) (rB_q ho0) hb); replace HO_7 := Ae_q (rE_q (rup HO_7.out) (rB_q ho0) hb); replace HO_9 := Ae_q (rE_q (rup HO_9.out) (rB_q ho0) hb); replace HO_777001 := Ae_q (rE_q (rup HO_777001.out) (rB_q ho0) hb); replace HO790 := Ae_q (rE_q (rup HO790.out) (rB_q ho0) hb); replace BK776 := Ae_q (bB_q (g := gb776) (o := .cells #[.int .i64 t766, .slice Ao12 t767.length co12] 43 (0, 0)) (bup BK776.out) hb); replace BK777 := Ae_q (bB_q (g := gb777) (o := .cells #[.int .i64 t773, .int .i64 t774, .int .i64 t775] 31 (0, 0)) (bup BK777.out) hb); replace HB := Ae_q (bT_q m14_q hb); (try clear hb); (try clear hb2); (try clear hk); (try clear hi); (try clear ho0); obtain ⟨Ao46, co46, eo46⟩ := rS_q HO795.out; subst eo46))
    go_ret
    exact ⟨m6_q, m14_q⟩
   rw [if_neg c37] at H
   have c37b0 : decide (0 < (t793.length : Int)) = false := dF_q c37
   have c37b1 : decide (0 < t793.length) = false := dF_q (by omega)
   clear c37
   replace H := oB_q.mp H
   obtain ⟨t796, A470, H⟩ := H
   replace H : (some t796) = some r := H
   have A47 := Ae_q A470
   clear A470
   obtain rfl := oI_q H
   have hnb48 := NB776_777.out
   have hnc48 := NB777_776.out
   have hcz49_0 : cI wc gb776 0 t766 := cZ BK776 0 rfl
   have hcz49_1 : wc.cell? ⟨gb776, 1, none⟩ = some (.slice Ao12 t767.length co12) := (bC_q BK776.out 1).trans rfl
   have hfz49_0 := bF_q BK776.out 0
   have hfz49_1 := bF_q BK776.out 1
   have hcz50_0 : cI wc gb777 0 t773 := cZ BK777 0 rfl
   have hcz50_1 : cI wc gb777 1 t774 := cZ BK777 1 rfl
   have hcz50_2 : cI wc gb777 2 t775 := cZ BK777 2 rfl
   have hfz50_0 := bF_q BK777.out 0
   have hfz50_1 := bF_q BK777.out 1
   have hfz50_2 := bF_q BK777.out 2
   obtain ⟨Ao51, co51, eo51⟩ := rS_q HO_7.out
   subst eo51
   go_wp2_with (first | ((with_reducible refine gC_q (f := 28) rfl ?_); refine gL_q (some 65) rfl rfl Try.func28 m9_q rfl #[.slice Ao14 t763.length co14, .agg #[.int .i64 t766, .slice Ao12 t767.length co12], .slice Ao51 t778.length co51, .agg #[.int .i64 t773, .int .i64 t774, .int .i64 t775]] rfl m0_q ?_; (with_reducible refine (impl_OutageRepair.calls kj5 _ _ t763 t766 _ _ t767 _ _ t778 t773 t774 t775 t788 true _ ?side1 ?side2 ?side3 ?side4 ?side5 ?side6 A32.out).mono ?_); (case side1 => exact m66_q); (case side2 => exact m149_q); (case side3 => exact m158_q); (case side4 => exact m163_q); (case side5 => exact m137_q); (case side6 => exact m145_q); rintro e w52 ⟨v789, rfl, ho0, hb⟩; refine ⟨_, rfl, ?_⟩; replace HO_3 := Ae_q (Kd.S_elder' m20_q (rB_q ho0) hb); have HO790 := Ae_q (rL_q (rW_q (rW_q (rW_q (rW_q ho0 (rT_q (rup HO_5.out))) (rT_q (rup HO_7.out))) (rT_q (rup HO_9.out))) (rT_q (rup HO_777001.out))) (bZ_q m14_q)); replace HO_5 := Ae_q (rE_q (rup HO_5.out) (rB_q ho0) hb); replace HO_7 := Ae_q (rE_q (rup HO_7.out) (rB_q ho0) hb); replace HO_9 := Ae_q (rE_q (rup HO_9.out) (rB_q ho0) hb); replace HO_777001 := Ae_q (rE_q (rup HO_777001.out) (rB_q ho0) hb); replace BK776 := Ae_q (bB_q (g := gb776) (o := .cells #[.int .i64 t766, .slice Ao12 t767.length co12] 43 (0, 0)) (bup BK776.out) hb); replace BK777 := Ae_q (bB_q (g := gb777) (o := .cells #[.int .i64 t773, .int .i64 t774, .int .i64 t775] 31 (0, 0)) (bup BK777.out) hb); replace HB := Ae_q (bT_q m14_q hb); (try clear hb); (try clear hb2); (try clear hk); (try clear hi); (try clear ho0); obtain ⟨Ao53, co53, eo53⟩ := rS_q HO790.out; subst eo53) | (go_at_call 30; (first | ((with_reducible refine (laws_sameInts.calls kj5 _ _ t788 _ _ t778 true _ ?side1 ?side2 ?side3 ?side4 A34.out).mono ?_); (case side1 => exact cup (rR_q HO790.out).2.2); (case side2 => exact (rR_q HO790.out).2.1); (case side3 => exact m137_q); (case side4 => exact m145_q); rintro e w' ⟨rfl, ⟨nd, rfl⟩⟩; have hcz54_0 : cI w52 gb777 0 t773 := cZ BK777 0 rfl; have hcz54_1 : cI w52 gb777 1 t774 := cZ BK777 1 rfl; have hcz54_2 : cI w52 gb777 2 t775 := cZ BK777 2 rfl; have hfz54_0 := bF_q BK777.out 0; have hfz54_1 := bF_q BK777.out 1; have hfz54_2 := bF_q BK777.out 2) | ((with_reducible refine (laws_sameInts.calls kj5 _ _ t778 _ _ t770 t796 _ ?side1 ?side2 ?side3 ?side4 A47.out).mono ?_); (case side1 => exact m137_q); (case side2 => exact m145_q); (case side3 => exact cup (rR_q HO_5.out).2.2); (case side4 => exact (rR_q HO_5.out).2.1); rintro e w' ⟨rfl, ⟨nd, rfl⟩⟩))) | (go_at_call 15; (with_reducible refine (impl_OutageHits.calls kj5 _ _ t763 _ _ t770 t773 t774 t775 t793 _ ?side1 ?side2 ?side3 ?side4 A36.out).mono ?_); (case side1 => exact m66_q); (case side2 => exact m149_q); (case side3 => exact cup (rR_q HO_5.out).2.2); (case side4 => exact (rR_q HO_5.out).2.1); rintro e w' ⟨v794, rfl, ho0, hb⟩; replace HO_3 := Ae_q (Kd.S_elder' m20_q (rB_q ho0) hb); have HO795 := Ae_q (rL_q (rW_q (rW_q (rW_q (rW_q (rW_q ho0 (rT_q (rup HO_5.out))) (rT_q (rup HO_7.out))) (rT_q (rup HO_9.out))) (rT_q (rup HO_777001.out))) (rT_q (rup HO790.out))) (bZ_q m14_q)); replace HO_5 := Ae_q (rE_q (rup HO_5.out) (rB_q ho0) hb); replace HO_7 := Ae_q (rE_q (rup HO_7.out) (rB_q ho0) hb); replace HO_9 := Ae_q (rE_q (rup HO_9.out) (rB_q ho0) hb); replace HO_777001 := Ae_q (rE_q (rup HO_777001.out) (rB_q ho0) hb); replace HO790 := Ae_q (rE_q (rup HO790.out) (rB_q ho0) hb); replace BK776 := Ae_q (bB_q (g := gb776) (o := .cells #[.int .i64 t766, .slice Ao12 t767.length co12] 43 (0, 0)) (bup BK776.out) hb); replace BK777 := Ae_q (bB_q (g := gb777) (o := .cells #[.int .i64 t773, .int .i64 t774, .int .i64 t775] 31 (0, 0)) (bup BK777.out) hb); replace HB := Ae_q (bT_q m14_q hb); (try clear hb); (try clear hb2); (try clear hk); (try clear hi); (try clear ho0); obtain ⟨Ao56, co56, eo56⟩ := rS_q HO795.out; subst eo56))
   go_ret
   exact ⟨m6_q, m14_q⟩

def laws_FnRepairNone.Pure : Prop := ∀ (l0 : List Int), l0.length ≤ maxLen → l0.length * 1 ≤ 140737488351232 → (∀ x ∈ l0, (Lit.int .u8 x).wf = true) → ∃ k, laws_FnRepairNone.f k l0 = some true
theorem laws_FnRepairNone.walk (P : laws_FnRepairNone.Pure) (a0 : Option Addr) (len0 cap0 : Nat) (z0 : List Int) (w : World) (w0 : (a0 = none ∧ len0 = 0 ∧ cap0 = 0 ∧ z0 = []) ∨ ∃ x, a0 = some x ∧ len0 ≤ cap0 ∧ cap0 ≤ maxLen ∧ z0.length = cap0 ∧ (∀ i, i < z0.length → w.cell? (x.add i) = some (.int .u8 (z0.getD i 0))) ∧ ∀ n ∈ z0, (Lit.int .u8 n).wf = true) (y0 : len0 * 1 ≤ 140737488351232) :
    Calls Try.prog 7 #[.slice a0 len0 cap0] w fun e w' => e = .returned (.bool true) ∧ Below w.heap.size w w' := by
 obtain ⟨l0, rfl, hr0, hm0, hw0, hc0⟩ := ReadsInt.ofRowC w0
 obtain ⟨k, h⟩ := P l0 hm0 y0 hw0
 refine (laws_FnRepairNone.calls k _ _ l0 true w (Kd.C_of_reads (d := (0 : Int)) (h1 := fun _ => rfl) hr0) hc0 h).mono ?_
 rintro e w' ⟨rfl, hd⟩
 exact ⟨rfl, hd⟩

end Go.Proofs.Ytfnpiacmlahegaa.PRp
