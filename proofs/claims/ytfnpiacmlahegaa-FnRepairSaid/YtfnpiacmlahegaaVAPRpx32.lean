import Derived.Test.YtfnpiacmlahegaaVAPRpx0
import Derived.Test.YtfnpiacmlahegaaVAPRpx5
import Derived.Test.YtfnpiacmlahegaaVAPRpx23
import Derived.Test.YtfnpiacmlahegaaVAPRpx24
import Derived.Test.YtfnpiacmlahegaaVAPRpx26
import Derived.Test.YtfnpiacmlahegaaVAPRpx27
import Derived.Test.YtfnpiacmlahegaaVAPRpx31
namespace Go.Proofs.Ytfnpiacmlahegaa.PRp
open Go.RowKit Go.Proofs.YtfnpiacmlahegaaW.PrintWords Go.Proofs.YtfnpiacmlahegaaW.PrintLast Go.Proofs.YtfnpiacmlahegaaW.PrintMore
attribute [local go_sem] max2_int min2_int max_two min_two max_three min_three max_four min_four
set_option linter.unusedVariables false
set_option linter.unusedSimpArgs false

def laws_FnRepair.j0 : Nat → List (S63) → List Int → List Int → Bool → List Int → Bool → Bool → Int → List Int → Int → Int → Int → Option (Bool)
 | 0, _, _, _, _, _, _, _, _, _, _, _, _ => none
 | k + 1, x3, x5, x7, x8, x9, x10, x49, x898000, x898001, x899000, x899001, x899002 => if x49 = true then (if (x8 == x10) = true then ((laws_sameInts.f k x7 x9).bind fun t908 => (some t908)) else (some false)) else ((impl_PlanValid.f k x3 x898000 x898001 x7).bind fun t909 => (if t909 = true then ((impl_OutageHits.f k x3 x7 x899000 x899001 x899002).bind fun t910 => (if (t910.length : Int) = 0 then ((impl_PlanDelay.f k x5 x7).bind fun t913 => (some (decide (t913 ≥ 0)))) else (some false))) else (some false)))
def laws_FnRepair.f (k : Nat) (l0 : List Int) : Option (Bool) := if (l0.length : Int) > 1048576 then (some true) else ((spec_DrawOutageRepair.f k l0).bind fun bt884 => ((impl_OutageRepair.f k bt884.1 bt884.2.1 bt884.2.2.1 bt884.2.2.2.1 bt884.2.2.2.2.1 bt884.2.2.2.2.2.1 bt884.2.2.2.2.2.2).bind fun bt899 => ((spec_OutageRepair.f k bt884.1 bt884.2.1 bt884.2.2.1 bt884.2.2.2.1 bt884.2.2.2.2.1 bt884.2.2.2.2.2.1 bt884.2.2.2.2.2.2).bind fun bt903 => (if (bt899.2 != bt903.2) = true then (laws_FnRepair.j0 k bt884.1 bt884.2.2.2.1 bt899.1 bt899.2 bt903.1 bt903.2 true bt884.2.1 bt884.2.2.1 bt884.2.2.2.2.1 bt884.2.2.2.2.2.1 bt884.2.2.2.2.2.2) else ((laws_sameInts.f k bt899.1 bt903.1).bind fun t907 => (if t907 = true then (laws_FnRepair.j0 k bt884.1 bt884.2.2.2.1 bt899.1 bt899.2 bt903.1 bt903.2 (!bt899.2) bt884.2.1 bt884.2.2.1 bt884.2.2.2.2.1 bt884.2.2.2.2.2.1 bt884.2.2.2.2.2.2) else (laws_FnRepair.j0 k bt884.1 bt884.2.2.2.1 bt899.1 bt899.2 bt903.1 bt903.2 true bt884.2.1 bt884.2.2.1 bt884.2.2.2.2.1 bt884.2.2.2.2.2.1 bt884.2.2.2.2.2.2)))))))
set_option maxHeartbeats 8000000 in
set_option maxRecDepth 100000 in
theorem laws_FnRepair.calls (k : Nat) (A0 : Option Addr) (c0 : Nat) (l0 : List Int) (r : Bool) (w : World) (hr0 : Kd.C (Kd.int .u8) w A0 l0.length l0) (hc0 : l0.length ≤ c0) (h : laws_FnRepair.f k l0 = some r) :
    Calls Try.prog 9 #[.slice A0 l0.length c0] w fun e w' => e = .returned (.bool r) ∧ Below w.heap.size w w' := by
 have hu43 := Try.underlying43
 have hu31 := Try.underlying31
 have HR0 := Ae_q hr0
 have HC0 := Ae_q hc0
 clear hr0 hc0
 have HB := Ae_q (bR_q w.heap.size w)
 have H : (if (l0.length : Int) > 1048576 then (some true) else ((spec_DrawOutageRepair.f k l0).bind fun bt884 => ((impl_OutageRepair.f k bt884.1 bt884.2.1 bt884.2.2.1 bt884.2.2.2.1 bt884.2.2.2.2.1 bt884.2.2.2.2.2.1 bt884.2.2.2.2.2.2).bind fun bt899 => ((spec_OutageRepair.f k bt884.1 bt884.2.1 bt884.2.2.1 bt884.2.2.2.1 bt884.2.2.2.2.1 bt884.2.2.2.2.2.1 bt884.2.2.2.2.2.2).bind fun bt903 => (if (bt899.2 != bt903.2) = true then (laws_FnRepair.j0 k bt884.1 bt884.2.2.2.1 bt899.1 bt899.2 bt903.1 bt903.2 true bt884.2.1 bt884.2.2.1 bt884.2.2.2.2.1 bt884.2.2.2.2.2.1 bt884.2.2.2.2.2.2) else ((laws_sameInts.f k bt899.1 bt903.1).bind fun t907 => (if t907 = true then (laws_FnRepair.j0 k bt884.1 bt884.2.2.2.1 bt899.1 bt899.2 bt903.1 bt903.2 (!bt899.2) bt884.2.1 bt884.2.2.1 bt884.2.2.2.2.1 bt884.2.2.2.2.2.1 bt884.2.2.2.2.2.2) else (laws_FnRepair.j0 k bt884.1 bt884.2.2.2.1 bt899.1 bt899.2 bt903.1 bt903.2 true bt884.2.1 bt884.2.2.1 bt884.2.2.2.2.1 bt884.2.2.2.2.2.1 bt884.2.2.2.2.2.2)))))))) = some r := h
 clear h
 by_cases c2 : (l0.length : Int) > 1048576
 ·rw [if_pos c2] at H
  have c2b0 : decide (1048576 < (l0.length : Int)) = true := dT_q c2
  have c2b1 : decide (1048576 < l0.length) = true := dT_q (by omega)
  clear c2
  obtain rfl := oI_q H
  go_enter Try.func9, Try.ntmps9
  go_wp2
  go_ret
  exact ⟨m6_q, bel HB.out⟩
 rw [if_neg c2] at H
 have c2b0 : decide (1048576 < (l0.length : Int)) = false := dF_q c2
 have c2b1 : decide (1048576 < l0.length) = false := dF_q (by omega)
 clear c2
 replace H := oB_q.mp H
 obtain ⟨⟨t884, t887, t888, t891, t894, t895, t896⟩, A30, H⟩ := H
 replace H : ((impl_OutageRepair.f k t884 t887 t888 t891 t894 t895 t896).bind fun bt899 => ((spec_OutageRepair.f k t884 t887 t888 t891 t894 t895 t896).bind fun bt903 => (if (bt899.2 != bt903.2) = true then (laws_FnRepair.j0 k t884 t891 bt899.1 bt899.2 bt903.1 bt903.2 true t887 t888 t894 t895 t896) else ((laws_sameInts.f k bt899.1 bt903.1).bind fun t907 => (if t907 = true then (laws_FnRepair.j0 k t884 t891 bt899.1 bt899.2 bt903.1 bt903.2 (!bt899.2) t887 t888 t894 t895 t896) else (laws_FnRepair.j0 k t884 t891 bt899.1 bt899.2 bt903.1 bt903.2 true t887 t888 t894 t895 t896)))))) = some r := H
 have A3 := Ae_q A30
 clear A30
 replace H := oB_q.mp H
 obtain ⟨⟨t899, t902⟩, A40, H⟩ := H
 replace H : ((spec_OutageRepair.f k t884 t887 t888 t891 t894 t895 t896).bind fun bt903 => (if (t902 != bt903.2) = true then (laws_FnRepair.j0 k t884 t891 t899 t902 bt903.1 bt903.2 true t887 t888 t894 t895 t896) else ((laws_sameInts.f k t899 bt903.1).bind fun t907 => (if t907 = true then (laws_FnRepair.j0 k t884 t891 t899 t902 bt903.1 bt903.2 (!t902) t887 t888 t894 t895 t896) else (laws_FnRepair.j0 k t884 t891 t899 t902 bt903.1 bt903.2 true t887 t888 t894 t895 t896))))) = some r := H
 have A4 := Ae_q A40
 clear A40
 replace H := oB_q.mp H
 obtain ⟨⟨t903, t906⟩, A50, H⟩ := H
 replace H : (if (t902 != t906) = true then (laws_FnRepair.j0 k t884 t891 t899 t902 t903 t906 true t887 t888 t894 t895 t896) else ((laws_sameInts.f k t899 t903).bind fun t907 => (if t907 = true then (laws_FnRepair.j0 k t884 t891 t899 t902 t903 t906 (!t902) t887 t888 t894 t895 t896) else (laws_FnRepair.j0 k t884 t891 t899 t902 t903 t906 true t887 t888 t894 t895 t896)))) = some r := H
 have A5 := Ae_q A50
 clear A50
 have HC6 := Ae_q H
 clear H
 go_enter Try.func9, Try.ntmps9
 go_upto_region 6 with (first | ((with_reducible refine gC_q (f := 27) rfl ?_); refine gL_q (some 16) rfl rfl Try.func27 m9_q rfl #[.slice A0 l0.length c0] rfl m0_q ?_; (with_reducible refine (spec_DrawOutageRepair.calls k _ _ l0 t884 t887 t888 t891 t894 t895 t896 _ ?side1 ?side2 A3.out).mono ?_); (case side1 => repeat (first | exact HR0.out | (with_reducible refine cA_q ?_ _) | (with_reducible refine cN_q ?_ _) | (with_reducible refine cD_q ?_))); (case side2 => exact m94_q); rintro e w' ⟨v885, v889, v892, rfl, ho0, ho1, ho2, hb⟩; refine ⟨_, rfl, ?_⟩; have HO886 := Ae_q (Kd.S_lower ho0 (bZ_q (bel HB.out))); have HO890 := Ae_q (rL_q ho1 (bZ_q (bel HB.out))); have HO893 := Ae_q (rL_q ho2 (bZ_q (bel HB.out))); replace HB := Ae_q (bT_q (bel HB.out) hb); (try clear hb); (try clear hb2); (try clear hk); (try clear hi); (try clear ho0); (try clear ho1); (try clear ho2)) | ((with_reducible refine gD_q (N := 4) rfl ?_); (try (refine gate_guard (by rfl) ?_; dsimp only)); refine bE_q ?hg (N := 4) ?hd (cs := #[.int .i64 0, .slice none 0 0]) (t := 43) ?hr ?_; (case hd => rfl); (case hg => rfl); (case hr => exact m5_q); intro gb897 hg w' hbox hb; replace HO886 := Ae_q (Kd.S_below m137_q hb); replace HO890 := Ae_q (rO_q (rup HO890.out) hb); replace HO893 := Ae_q (rO_q (rup HO893.out) hb); have BK897 := Ae_q (hbox); have GW897 := Ae_q ((by rw [hg]; exact (bZ_q (bel HB.out)) : w.heap.size ≤ gb897)); have GE897 := Ae_q ((by rw [hg]; exact (bZ_q (bel HB.out)) : w.heap.size ≤ gb897)); replace HB := Ae_q (bT_q (bel HB.out) hb); clear hb hbox hg) | ((with_reducible refine gD_q (N := 6) rfl ?_); (try (refine gate_guard (by rfl) ?_; dsimp only)); refine bE_q ?hg (N := 6) ?hd (cs := #[.int .i64 0, .int .i64 0, .int .i64 0]) (t := 31) ?hr ?_; (case hd => rfl); (case hg => rfl); (case hr => exact m5_q); intro gb898 hg w9 hbox hb; replace HO886 := Ae_q (Kd.S_below m137_q hb); replace HO890 := Ae_q (rO_q (rup HO890.out) hb); replace HO893 := Ae_q (rO_q (rup HO893.out) hb); have BK898 := Ae_q (hbox); have GW898 := Ae_q ((by rw [hg]; exact (bZ_q m132_q) : w.heap.size ≤ gb898)); have GE898 := Ae_q ((by rw [hg]; exact (bZ_q m132_q) : w.heap.size ≤ gb898)); replace HB := Ae_q (bT_q m132_q hb); have NB897_898 := Ae_q ((by rw [hg]; exact nL_q (blk_lt (g := gb897) (o := .cells #[.int .i64 0, .slice none 0 0] 43 (0, 0)) (bup BK897.out)) : gb897 ≠ gb898)); have NB898_897 := Ae_q ((by rw [hg]; exact nG_q (blk_lt (g := gb897) (o := .cells #[.int .i64 0, .slice none 0 0] 43 (0, 0)) (bup BK897.out)) : gb898 ≠ gb897)); replace BK897 := Ae_q (bB_q (g := gb897) (o := .cells #[.int .i64 0, .slice none 0 0] 43 (0, 0)) (bup BK897.out) hb); clear hb hbox hg; have hnb10 := NB897_898.out; have hnc10 := NB898_897.out; have hcz11_0 : cI w9 gb897 0 0 := cZ BK897 0 rfl; have hcz11_1 : w9.cell? ⟨gb897, 1, none⟩ = some (.slice none 0 0) := (bC_q BK897.out 1).trans rfl; have hfz11_0 := bF_q BK897.out 0; have hfz11_1 := bF_q BK897.out 1; obtain ⟨Ao12, co12, eo12⟩ := rS_q HO890.out; subst eo12; have hcz13_0 : cI w9 gb898 0 0 := cZ BK898 0 rfl; have hcz13_1 : cI w9 gb898 1 0 := cZ BK898 1 rfl; have hcz13_2 : cI w9 gb898 2 0 := cZ BK898 2 rfl; have hfz13_0 := bF_q BK898.out 0; have hfz13_1 := bF_q BK898.out 1; have hfz13_2 := bF_q BK898.out 2; obtain ⟨Ao14, co14, eo14⟩ := Kd.S_slice HO886.out; subst eo14; obtain ⟨Ao15, co15, eo15⟩ := rS_q HO893.out; subst eo15) | ((with_reducible refine gC_q (f := 28) rfl ?_); refine gL_q (some 26) rfl rfl Try.func28 m9_q rfl #[.slice Ao14 t884.length co14, .agg #[.int .i64 t887, .slice Ao12 t888.length co12], .slice Ao15 t891.length co15, .agg #[.int .i64 t894, .int .i64 t895, .int .i64 t896]] rfl m0_q ?_; (with_reducible refine (impl_OutageRepair.calls k _ _ t884 t887 _ _ t888 _ _ t891 t894 t895 t896 t899 t902 _ ?side1 ?side2 ?side3 ?side4 ?side5 ?side6 A4.out).mono ?_); (case side1 => refine (Kd.S_reads' (e := 63) (base := w.heap.size) (ok := fun k_ => (some k_ ≠ (.slice Ao12 t888.length co12 : Value).ownBlock ∧ some k_ ≠ (.slice Ao15 t891.length co15 : Value).ownBlock)) (n := t884.length) (c := co14) ?_).2.2; exact (by (with_reducible repeat (first | apply tA_q | apply tN_q | apply tD_q)); exact (Kd.S_mono (Kd.S_mono (Kd.S_far (p := ⟨gb898, 2, none⟩) (Kd.S_far (p := ⟨gb898, 1, none⟩) (Kd.S_far (p := ⟨gb898, 0, none⟩) (Kd.S_far (p := ⟨gb897, 1, none⟩) (Kd.S_far (p := ⟨gb897, 0, none⟩) (Kd.S_types (Kd.S_types HO886.out BK897.out (by decide)) BK898.out (by decide)) (fun _ hk => hk.1.2) (.int .i64 t887)) (fun _ hk => hk.1.2) (.slice Ao12 t888.length co12)) (fun _ hk => hk.2) (.int .i64 t894)) (fun _ hk => hk.2) (.int .i64 t895)) (fun _ hk => hk.2) (.int .i64 t896)) (fun _ h_ => h_.1)) (fun _ h_ => h_.1)))); (case side2 => exact (Kd.S_reads' HO886.out).2.1); (case side3 => refine (rR_q (e := 3) (base := w.heap.size) (ok := fun k_ => some k_ ≠ (.slice Ao15 t891.length co15 : Value).ownBlock) (n := t888.length) (c := co12) ?_).2.2; exact (by (with_reducible repeat (first | apply rA_q | apply rN_q | apply rD_q)); exact (rM_q (rM_q (Kd.R_far (p := ⟨gb898, 2, none⟩) (Kd.R_far (p := ⟨gb898, 1, none⟩) (Kd.R_far (p := ⟨gb898, 0, none⟩) (Kd.R_far (p := ⟨gb897, 1, none⟩) (Kd.R_far (p := ⟨gb897, 0, none⟩) (Kd.R_types (Kd.R_types HO890.out BK897.out (by decide)) BK898.out (by decide)) (fun _ hk => hk.1.2) (.int .i64 t887)) (fun _ hk => hk.1.2) (.slice Ao12 t888.length co12)) (fun _ hk => hk.2) (.int .i64 t894)) (fun _ hk => hk.2) (.int .i64 t895)) (fun _ hk => hk.2) (.int .i64 t896)) (fun _ h_ => h_.1)) (fun _ h_ => h_.1)))); (case side4 => exact (rR_q HO890.out).2.1); (case side5 => refine (rR_q (e := 3) (base := w.heap.size) (ok := fun k_ => some k_ ≠ (.slice Ao12 t888.length co12 : Value).ownBlock) (n := t891.length) (c := co15) ?_).2.2; exact (by (with_reducible repeat (first | apply rA_q | apply rN_q | apply rD_q)); exact (rM_q (rM_q (Kd.R_far (p := ⟨gb898, 2, none⟩) (Kd.R_far (p := ⟨gb898, 1, none⟩) (Kd.R_far (p := ⟨gb898, 0, none⟩) (Kd.R_far (p := ⟨gb897, 1, none⟩) (Kd.R_far (p := ⟨gb897, 0, none⟩) (Kd.R_types (Kd.R_types HO893.out BK897.out (by decide)) BK898.out (by decide)) (fun _ hk => hk.1.2) (.int .i64 t887)) (fun _ hk => hk.1.2) (.slice Ao12 t888.length co12)) (fun _ hk => hk.2) (.int .i64 t894)) (fun _ hk => hk.2) (.int .i64 t895)) (fun _ hk => hk.2) (.int .i64 t896)) (fun _ h_ => h_.1)) (fun _ h_ => h_.1)))); (case side6 => exact (rR_q HO893.out).2.1); rintro e w16 ⟨v900, rfl, ho0, hb⟩; refine ⟨_, rfl, ?_⟩; replace HO886 := Ae_q (Kd.S_elder' (by (with_reducible repeat (first | apply tA_q | apply tN_q | apply tD_q)); exact (Kd.S_mono (Kd.S_mono (Kd.S_far (p := ⟨gb898, 2, none⟩) (Kd.S_far (p := ⟨gb898, 1, none⟩) (Kd.S_far (p := ⟨gb898, 0, none⟩) (Kd.S_far (p := ⟨gb897, 1, none⟩) (Kd.S_far (p := ⟨gb897, 0, none⟩) (Kd.S_types (Kd.S_types HO886.out BK897.out (by decide)) BK898.out (by decide)) (fun _ hk => hk.1.2) (.int .i64 t887)) (fun _ hk => hk.1.2) (.slice Ao12 t888.length co12)) (fun _ hk => hk.2) (.int .i64 t894)) (fun _ hk => hk.2) (.int .i64 t895)) (fun _ hk => hk.2) (.int .i64 t896)) (fun _ h_ => h_.1)) (fun _ h_ => h_.1))) (rB_q ho0) hb); have HO901 := Ae_q (rL_q (rW_q (rW_q ho0 (rT_q (by (with_reducible repeat (first | apply rA_q | apply rN_q | apply rD_q)); exact (rM_q (rM_q (Kd.R_far (p := ⟨gb898, 2, none⟩) (Kd.R_far (p := ⟨gb898, 1, none⟩) (Kd.R_far (p := ⟨gb898, 0, none⟩) (Kd.R_far (p := ⟨gb897, 1, none⟩) (Kd.R_far (p := ⟨gb897, 0, none⟩) (Kd.R_types (Kd.R_types HO890.out BK897.out (by decide)) BK898.out (by decide)) (fun _ hk => hk.1.2) (.int .i64 t887)) (fun _ hk => hk.1.2) (.slice Ao12 t888.length co12)) (fun _ hk => hk.2) (.int .i64 t894)) (fun _ hk => hk.2) (.int .i64 t895)) (fun _ hk => hk.2) (.int .i64 t896)) (fun _ h_ => h_.1)) (fun _ h_ => h_.1))))) (rT_q (by (with_reducible repeat (first | apply rA_q | apply rN_q | apply rD_q)); exact (rM_q (rM_q (Kd.R_far (p := ⟨gb898, 2, none⟩) (Kd.R_far (p := ⟨gb898, 1, none⟩) (Kd.R_far (p := ⟨gb898, 0, none⟩) (Kd.R_far (p := ⟨gb897, 1, none⟩) (Kd.R_far (p := ⟨gb897, 0, none⟩) (Kd.R_types (Kd.R_types HO893.out BK897.out (by decide)) BK898.out (by decide)) (fun _ hk => hk.1.2) (.int .i64 t887)) (fun _ hk => hk.1.2) (.slice Ao12 t888.length co12)) (fun _ hk => hk.2) (.int .i64 t894)) (fun _ hk => hk.2) (.int .i64 t895)) (fun _ hk => hk.2) (.int .i64 t896)) (fun _ h_ => h_.1)) (fun _ h_ => h_.1))))) (bZ_q m18_q)); replace HO890 := Ae_q (rE_q (by (with_reducible repeat (first | apply rA_q | apply rN_q | apply rD_q)); exact (rM_q (rM_q (Kd.R_far (p := ⟨gb898, 2, none⟩) (Kd.R_far (p := ⟨gb898, 1, none⟩) (Kd.R_far (p := ⟨gb898, 0, none⟩) (Kd.R_far (p := ⟨gb897, 1, none⟩) (Kd.R_far (p := ⟨gb897, 0, none⟩) (Kd.R_types (Kd.R_types HO890.out BK897.out (by decide)) BK898.out (by decide)) (fun _ hk => hk.1.2) (.int .i64 t887)) (fun _ hk => hk.1.2) (.slice Ao12 t888.length co12)) (fun _ hk => hk.2) (.int .i64 t894)) (fun _ hk => hk.2) (.int .i64 t895)) (fun _ hk => hk.2) (.int .i64 t896)) (fun _ h_ => h_.1)) (fun _ h_ => h_.1))) (rB_q ho0) hb); replace HO893 := Ae_q (rE_q (by (with_reducible repeat (first | apply rA_q | apply rN_q | apply rD_q)); exact (rM_q (rM_q (Kd.R_far (p := ⟨gb898, 2, none⟩) (Kd.R_far (p := ⟨gb898, 1, none⟩) (Kd.R_far (p := ⟨gb898, 0, none⟩) (Kd.R_far (p := ⟨gb897, 1, none⟩) (Kd.R_far (p := ⟨gb897, 0, none⟩) (Kd.R_types (Kd.R_types HO893.out BK897.out (by decide)) BK898.out (by decide)) (fun _ hk => hk.1.2) (.int .i64 t887)) (fun _ hk => hk.1.2) (.slice Ao12 t888.length co12)) (fun _ hk => hk.2) (.int .i64 t894)) (fun _ hk => hk.2) (.int .i64 t895)) (fun _ hk => hk.2) (.int .i64 t896)) (fun _ h_ => h_.1)) (fun _ h_ => h_.1))) (rB_q ho0) hb); replace BK897 := Ae_q (bB_q (g := gb897) (o := .cells #[.int .i64 t887, .slice Ao12 t888.length co12] 43 (0, 0)) (by (with_reducible repeat (first | refine bN_q ?_ _ | refine bW_q ?_ | refine bL_q ?_ _)); refine blk_far ?_ NB897_898.out _; (with_reducible repeat (first | refine bN_q ?_ _ | refine bW_q ?_ | refine bL_q ?_ _)); refine blk_far ?_ NB897_898.out _; (with_reducible repeat (first | refine bN_q ?_ _ | refine bW_q ?_ | refine bL_q ?_ _)); refine blk_far ?_ NB897_898.out _; (with_reducible repeat (first | refine bN_q ?_ _ | refine bW_q ?_ | refine bL_q ?_ _)); refine blk_put (cs := #[.int .i64 t887, .slice none 0 0]) ?_ 1 _ rfl; (with_reducible repeat (first | refine bN_q ?_ _ | refine bW_q ?_ | refine bL_q ?_ _)); refine blk_put (cs := #[.int .i64 0, .slice none 0 0]) ?_ 0 _ rfl; (with_reducible repeat (first | refine bN_q ?_ _ | refine bW_q ?_ | refine bL_q ?_ _)); exact BK897.out) hb); replace BK898 := Ae_q (bB_q (g := gb898) (o := .cells #[.int .i64 t894, .int .i64 t895, .int .i64 t896] 31 (0, 0)) (by (with_reducible repeat (first | refine bN_q ?_ _ | refine bW_q ?_ | refine bL_q ?_ _)); refine blk_put (cs := #[.int .i64 t894, .int .i64 t895, .int .i64 0]) ?_ 2 _ rfl; (with_reducible repeat (first | refine bN_q ?_ _ | refine bW_q ?_ | refine bL_q ?_ _)); refine blk_put (cs := #[.int .i64 t894, .int .i64 0, .int .i64 0]) ?_ 1 _ rfl; (with_reducible repeat (first | refine bN_q ?_ _ | refine bW_q ?_ | refine bL_q ?_ _)); refine blk_put (cs := #[.int .i64 0, .int .i64 0, .int .i64 0]) ?_ 0 _ rfl; (with_reducible repeat (first | refine bN_q ?_ _ | refine bW_q ?_ | refine bL_q ?_ _)); refine blk_far ?_ NB898_897.out _; (with_reducible repeat (first | refine bN_q ?_ _ | refine bW_q ?_ | refine bL_q ?_ _)); refine blk_far ?_ NB898_897.out _; (with_reducible repeat (first | refine bN_q ?_ _ | refine bW_q ?_ | refine bL_q ?_ _)); exact BK898.out) hb); replace HB := Ae_q (bT_q m18_q hb); (try clear hb); (try clear hb2); (try clear hk); (try clear hi); (try clear ho0); have hcz17_0 : cI w16 gb897 0 t887 := cZ BK897 0 rfl; have hcz17_1 : w16.cell? ⟨gb897, 1, none⟩ = some (.slice Ao12 t888.length co12) := (bC_q BK897.out 1).trans rfl; have hfz17_0 := bF_q BK897.out 0; have hfz17_1 := bF_q BK897.out 1; have hcz18_0 : cI w16 gb898 0 t894 := cZ BK898 0 rfl; have hcz18_1 : cI w16 gb898 1 t895 := cZ BK898 1 rfl; have hcz18_2 : cI w16 gb898 2 t896 := cZ BK898 2 rfl; have hfz18_0 := bF_q BK898.out 0; have hfz18_1 := bF_q BK898.out 1; have hfz18_2 := bF_q BK898.out 2) | ((with_reducible refine gC_q (f := 29) rfl ?_); refine gL_q (some 34) rfl rfl Try.func29 m9_q rfl #[.slice Ao14 t884.length co14, .agg #[.int .i64 t887, .slice Ao12 t888.length co12], .slice Ao15 t891.length co15, .agg #[.int .i64 t894, .int .i64 t895, .int .i64 t896]] rfl m0_q ?_; (with_reducible refine (spec_OutageRepair.calls k _ _ t884 t887 _ _ t888 _ _ t891 t894 t895 t896 t903 t906 _ ?side1 ?side2 ?side3 ?side4 ?side5 ?side6 A5.out).mono ?_); (case side1 => repeat (first | exact (Kd.S_reads' HO886.out).2.2 | (with_reducible refine cA_q ?_ _) | (with_reducible refine cN_q ?_ _) | (with_reducible refine cD_q ?_))); (case side2 => exact (Kd.S_reads' HO886.out).2.1); (case side3 => exact cup (rR_q HO890.out).2.2); (case side4 => exact (rR_q HO890.out).2.1); (case side5 => exact cup (rR_q HO893.out).2.2); (case side6 => exact (rR_q HO893.out).2.1); rintro e w' ⟨v904, rfl, ho0, hb⟩; refine ⟨_, rfl, ?_⟩; replace HO886 := Ae_q (Kd.S_elder' m137_q (rB_q ho0) hb); have HO905 := Ae_q (rL_q (rW_q (rW_q (rW_q ho0 (rT_q (rup HO890.out))) (rT_q (rup HO893.out))) (rT_q (rup HO901.out))) (bZ_q m18_q)); replace HO890 := Ae_q (rE_q (rup HO890.out) (rB_q ho0) hb); replace HO893 := Ae_q (rE_q (rup HO893.out) (rB_q ho0) hb); replace HO901 := Ae_q (rE_q (rup HO901.out) (rB_q ho0) hb); replace BK897 := Ae_q (bB_q (g := gb897) (o := .cells #[.int .i64 t887, .slice Ao12 t888.length co12] 43 (0, 0)) (bup BK897.out) hb); replace BK898 := Ae_q (bB_q (g := gb898) (o := .cells #[.int .i64 t894, .int .i64 t895, .int .i64 t896] 31 (0, 0)) (bup BK898.out) hb); replace HB := Ae_q (bT_q m18_q hb); (try clear hb); (try clear hb2); (try clear hk); (try clear hi); (try clear ho0)))
 (try simp only [Act.put, sA_q, sZ_q, sS_q])
 go_cut [49] (fun v49 wc => ∃ (kq : Nat) (x49_5 : Bool), v49 = .bool x49_5 ∧ Aside0 (laws_FnRepair.j0 kq t884 t891 t899 t902 t903 t906 x49_5 t887 t888 t894 t895 t896 = some r) ∧ Aside0 (kq ≤ k) ∧ Aside0 (Kd.S k63 63 wc w.heap.size (fun k_ => some k_ ≠ ((.slice Ao15 t891.length co15) : Value).ownBlock ∧ some k_ ≠ (v900 : Value).ownBlock ∧ some k_ ≠ (v904 : Value).ownBlock ∧ some k_ ≠ ((.slice Ao12 t888.length co12) : Value).ownBlock) (.slice Ao14 t884.length co14) t884) ∧ Aside0 (Kd.R kI_q 3 wc w.heap.size (fun k_ => some k_ ≠ (v900 : Value).ownBlock ∧ some k_ ≠ (v904 : Value).ownBlock ∧ some k_ ≠ ((.slice Ao12 t888.length co12) : Value).ownBlock) (.slice Ao15 t891.length co15) t891) ∧ Aside0 (Kd.R kI_q 3 wc w.heap.size (fun k_ => some k_ ≠ ((.slice Ao15 t891.length co15) : Value).ownBlock ∧ some k_ ≠ (v904 : Value).ownBlock ∧ some k_ ≠ ((.slice Ao12 t888.length co12) : Value).ownBlock) v900 t899) ∧ Aside0 (Kd.R kI_q 3 wc w.heap.size (fun k_ => some k_ ≠ ((.slice Ao15 t891.length co15) : Value).ownBlock ∧ some k_ ≠ (v900 : Value).ownBlock ∧ some k_ ≠ ((.slice Ao12 t888.length co12) : Value).ownBlock) v904 t903) ∧ Aside0 (Kd.R kI_q 3 wc w.heap.size (fun k_ => some k_ ≠ ((.slice Ao15 t891.length co15) : Value).ownBlock ∧ some k_ ≠ (v900 : Value).ownBlock ∧ some k_ ≠ (v904 : Value).ownBlock) (.slice Ao12 t888.length co12) t888) ∧ Aside0 (wc.heap[gb897]? = some (.cells #[.int .i64 t887, (.slice Ao12 t888.length co12)] 43 (0, 0))) ∧ Aside0 (wc.heap[gb898]? = some (.cells #[.int .i64 t894, .int .i64 t895, .int .i64 t896] 31 (0, 0))) ∧ Aside0 (Below w.heap.size w wc))
 case first =>
  have H := HC6.out
  clear HC6
  by_cases c20 : (t902 != t906) = true
  ·rw [if_pos c20] at H
   have c20b0 : (t902 != t906) = true := c20
   (try (have c20b1 : decide (t902 = t906) = false := by simpa using c20))
   (try (have c20b2 : (t902 == t906) = false := by simpa using c20))
   (try (have c20b3 : ¬ (t902 = t906) := by simpa using c20))
   clear c20
   (first | rw [c20b0] | (simp only [i64_w, i32_w]; rw [c20b0]) | skip)
   have H' := Ae_q H
   clear H
   go_wp2
   go_meet
   case rel => exact ⟨_, (true), m7_q, H', ⟨m101_q⟩, ⟨m104_q⟩, ⟨m117_q⟩, ⟨m114_q⟩, ⟨m115_q⟩, ⟨m118_q⟩, ⟨bup BK897.out⟩, ⟨bup BK898.out⟩, ⟨m18_q⟩⟩
  rw [if_neg c20] at H
  have c20b0 : (t902 != t906) = false := by simpa using c20
  (try (have c20b1 : decide (t902 = t906) = true := by simpa using c20))
  (try (have c20b2 : (t902 == t906) = true := by simpa using c20))
  clear c20
  (first | rw [c20b0] | (simp only [i64_w, i32_w]; rw [c20b0]) | skip)
  replace H := oB_q.mp H
  obtain ⟨t907, A210, H⟩ := H
  replace H : (if t907 = true then (laws_FnRepair.j0 k t884 t891 t899 t902 t903 t906 (!t902) t887 t888 t894 t895 t896) else (laws_FnRepair.j0 k t884 t891 t899 t902 t903 t906 true t887 t888 t894 t895 t896)) = some r := H
  have A21 := Ae_q A210
  clear A210
  by_cases c22 : t907 = true
  ·subst c22
   have H1 : (laws_FnRepair.j0 k t884 t891 t899 t902 t903 t906 (!t902) t887 t888 t894 t895 t896) = some r := by rw [if_pos rfl] at H; exact H
   clear H
   have H := H1
   clear H1
   have H' := Ae_q H
   clear H
   obtain ⟨Ao23, co23, eo23⟩ := rS_q HO901.out
   subst eo23
   obtain ⟨Ao24, co24, eo24⟩ := rS_q HO905.out
   subst eo24
   go_wp2_with (first | (go_at_call 30; (with_reducible refine (laws_sameInts.calls k _ _ t899 _ _ t903 true _ ?side1 ?side2 ?side3 ?side4 A21.out).mono ?_); (case side1 => exact cup (rR_q HO901.out).2.2); (case side2 => exact (rR_q HO901.out).2.1); (case side3 => exact cup (rR_q HO905.out).2.2); (case side4 => exact (rR_q HO905.out).2.1); rintro e w' ⟨rfl, ⟨nd, rfl⟩⟩))
   go_meet
   case rel => exact ⟨_, (!t902), m7_q, H', ⟨m101_q⟩, ⟨m104_q⟩, ⟨m117_q⟩, ⟨m114_q⟩, ⟨m115_q⟩, ⟨m118_q⟩, ⟨bup BK897.out⟩, ⟨bup BK898.out⟩, ⟨m18_q⟩⟩
  replace c22 := fM_q.mpr c22
  subst c22
  have H1 : (laws_FnRepair.j0 k t884 t891 t899 t902 t903 t906 true t887 t888 t894 t895 t896) = some r := by rw [if_neg (show ¬ (false = true) by decide)] at H; exact H
  clear H
  have H := H1
  clear H1
  have H' := Ae_q H
  clear H
  obtain ⟨Ao25, co25, eo25⟩ := rS_q HO901.out
  subst eo25
  obtain ⟨Ao26, co26, eo26⟩ := rS_q HO905.out
  subst eo26
  go_wp2_with (first | (go_at_call 30; (with_reducible refine (laws_sameInts.calls k _ _ t899 _ _ t903 false _ ?side1 ?side2 ?side3 ?side4 A21.out).mono ?_); (case side1 => exact cup (rR_q HO901.out).2.2); (case side2 => exact (rR_q HO901.out).2.1); (case side3 => exact cup (rR_q HO905.out).2.2); (case side4 => exact (rR_q HO905.out).2.1); rintro e w' ⟨rfl, ⟨nd, rfl⟩⟩))
  go_meet
  case rel => exact ⟨_, (true), m7_q, H', ⟨m101_q⟩, ⟨m104_q⟩, ⟨m117_q⟩, ⟨m114_q⟩, ⟨m115_q⟩, ⟨m118_q⟩, ⟨bup BK897.out⟩, ⟨bup BK898.out⟩, ⟨m18_q⟩⟩
 case rest =>
  clear HC6
  try clear c1
  try clear c2
  try clear c2b0
  try clear c2b1
  try clear p2
  try clear c9
  try clear c10
  try clear c20
  try clear c20b0
  try clear c20b1
  try clear c20b2
  try clear c22
  try clear hcz11_0
  try clear hcz11_1
  try clear hcz13_0
  try clear hcz13_1
  try clear hcz13_2
  try clear hcz17_0
  try clear hcz17_1
  try clear hcz18_0
  try clear hcz18_1
  try clear hcz18_2
  try clear hfz11_0
  try clear hfz11_1
  try clear hfz13_0
  try clear hfz13_1
  try clear hfz13_2
  try clear hfz17_0
  try clear hfz17_1
  try clear hfz18_0
  try clear hfz18_1
  try clear hfz18_2
  obtain ⟨kq, x49_5, rfl, HA, HJ5, HO_3, HO_5, HO_7, HO_9, HO_898001, BK897, BK898, HB⟩ := hcut
  cases kq with
  | zero => exact absurd HA.out (by simp [laws_FnRepair.j0])
  | succ kj5 =>
   have H := HA.out
   clear HA
   simp only [laws_FnRepair.j0] at H
   by_cases c27 : x49_5 = true
   ·subst c27
    have H1 : (if (t902 == t906) = true then ((laws_sameInts.f kj5 t899 t903).bind fun t908 => (some t908)) else (some false)) = some r := by rw [if_pos rfl] at H; exact H
    clear H
    have H := H1
    clear H1
    by_cases c28 : (t902 == t906) = true
    rotate_left
    ·rw [if_neg c28] at H
     have c28b0 : (t902 == t906) = false := by simpa using c28
     (try (have c28b1 : decide (t902 = t906) = false := by simpa using c28))
     (try (have c28b2 : (t902 == t906) = false := by simpa using c28))
     (try (have c28b3 : ¬ (t902 = t906) := by simpa using c28))
     clear c28
     obtain rfl := oI_q H
     go_wp2
     go_ret
     exact ⟨m6_q, m18_q⟩
    rw [if_pos c28] at H
    have c28b0 : (t902 == t906) = true := c28
    (try (have c28b1 : decide (t902 = t906) = true := by simpa using c28))
    (try (have c28b2 : (t902 == t906) = true := by simpa using c28))
    clear c28
    replace H := oB_q.mp H
    obtain ⟨t908, A290, H⟩ := H
    replace H : (some t908) = some r := H
    have A29 := Ae_q A290
    clear A290
    obtain rfl := oI_q H
    obtain ⟨Ao30, co30, eo30⟩ := rS_q HO_7.out
    subst eo30
    obtain ⟨Ao31, co31, eo31⟩ := rS_q HO_9.out
    subst eo31
    go_wp2_with (first | (go_at_call 30; (with_reducible refine (laws_sameInts.calls kj5 _ _ t899 _ _ t903 t908 _ ?side1 ?side2 ?side3 ?side4 A29.out).mono ?_); (case side1 => exact m147_q); (case side2 => exact m150_q); (case side3 => exact cup (rR_q HO_9.out).2.2); (case side4 => exact (rR_q HO_9.out).2.1); rintro e w' ⟨rfl, ⟨nd, rfl⟩⟩))
    go_ret
    exact ⟨m6_q, m18_q⟩
   replace c27 := fM_q.mpr c27
   subst c27
   have H1 : ((impl_PlanValid.f kj5 t884 t887 t888 t899).bind fun t909 => (if t909 = true then ((impl_OutageHits.f kj5 t884 t899 t894 t895 t896).bind fun t910 => (if (t910.length : Int) = 0 then ((impl_PlanDelay.f kj5 t891 t899).bind fun t913 => (some (decide (t913 ≥ 0)))) else (some false))) else (some false))) = some r := by rw [if_neg (show ¬ (false = true) by decide)] at H; exact H
   clear H
   have H := H1
   clear H1
   replace H := oB_q.mp H
   obtain ⟨t909, A320, H⟩ := H
   replace H : (if t909 = true then ((impl_OutageHits.f kj5 t884 t899 t894 t895 t896).bind fun t910 => (if (t910.length : Int) = 0 then ((impl_PlanDelay.f kj5 t891 t899).bind fun t913 => (some (decide (t913 ≥ 0)))) else (some false))) else (some false)) = some r := H
   have A32 := Ae_q A320
   clear A320
   by_cases c33 : t909 = true
   rotate_left
   ·replace c33 := fM_q.mpr c33
    subst c33
    have H1 : (some false) = some r := by rw [if_neg (show ¬ (false = true) by decide)] at H; exact H
    clear H
    have H := H1
    clear H1
    obtain rfl := oI_q H
    have hnb51 := NB897_898.out
    have hnc51 := NB898_897.out
    have hcz52_0 : cI wc gb897 0 t887 := cZ BK897 0 rfl
    have hcz52_1 : wc.cell? ⟨gb897, 1, none⟩ = some (.slice Ao12 t888.length co12) := (bC_q BK897.out 1).trans rfl
    have hfz52_0 := bF_q BK897.out 0
    have hfz52_1 := bF_q BK897.out 1
    obtain ⟨Ao53, co53, eo53⟩ := rS_q HO_7.out
    subst eo53
    go_wp2_with (first | ((with_reducible refine gC_q (f := 31) rfl ?_); refine gL_q (some 61) rfl rfl Try.func31 m9_q rfl #[.slice Ao14 t884.length co14, .agg #[.int .i64 t887, .slice Ao12 t888.length co12], .slice Ao53 t899.length co53] rfl m0_q ?_; (with_reducible refine (impl_PlanValid.calls kj5 _ _ t884 t887 _ _ t888 _ _ t899 false _ ?side1 ?side2 ?side3 ?side4 ?side5 ?side6 A32.out).mono ?_); (case side1 => exact m78_q); (case side2 => exact m155_q); (case side3 => exact cup (rR_q HO_898001.out).2.2); (case side4 => exact (rR_q HO_898001.out).2.1); (case side5 => exact m147_q); (case side6 => exact m150_q); rintro e w' ⟨rfl, hb⟩; refine ⟨_, rfl, ?_⟩; replace HO_3 := Ae_q (Kd.S_below m20_q hb); replace HO_5 := Ae_q (rO_q (rup HO_5.out) hb); replace HO_7 := Ae_q (rO_q (rup HO_7.out) hb); replace HO_9 := Ae_q (rO_q (rup HO_9.out) hb); replace HO_898001 := Ae_q (rO_q (rup HO_898001.out) hb); replace BK897 := Ae_q (bB_q (g := gb897) (o := .cells #[.int .i64 t887, .slice Ao12 t888.length co12] 43 (0, 0)) (bup BK897.out) hb); replace BK898 := Ae_q (bB_q (g := gb898) (o := .cells #[.int .i64 t894, .int .i64 t895, .int .i64 t896] 31 (0, 0)) (bup BK898.out) hb); replace HB := Ae_q (bT_q m18_q hb); (try clear hb); (try clear hb2); (try clear hk); (try clear hi)))
    go_ret
    exact ⟨m6_q, m18_q⟩
   subst c33
   have H1 : ((impl_OutageHits.f kj5 t884 t899 t894 t895 t896).bind fun t910 => (if (t910.length : Int) = 0 then ((impl_PlanDelay.f kj5 t891 t899).bind fun t913 => (some (decide (t913 ≥ 0)))) else (some false))) = some r := by rw [if_pos rfl] at H; exact H
   clear H
   have H := H1
   clear H1
   replace H := oB_q.mp H
   obtain ⟨t910, A340, H⟩ := H
   replace H : (if (t910.length : Int) = 0 then ((impl_PlanDelay.f kj5 t891 t899).bind fun t913 => (some (decide (t913 ≥ 0)))) else (some false)) = some r := H
   have A34 := Ae_q A340
   clear A340
   by_cases c35 : (t910.length : Int) = 0
   rotate_left
   ·rw [if_neg c35] at H
    have c35b0 : ((t910.length : Int) == 0) = false := fN_q.mpr c35
    have c35b1 : ((t910.length : Int) != 0) = true := nI_q.mpr c35
    have c35b2 : ¬ (t910 = []) := fun h_ => c35 (by rw [h_]; rfl)
    obtain rfl := oI_q H
    have hnb44 := NB897_898.out
    have hnc44 := NB898_897.out
    have hcz45_0 : cI wc gb897 0 t887 := cZ BK897 0 rfl
    have hcz45_1 : wc.cell? ⟨gb897, 1, none⟩ = some (.slice Ao12 t888.length co12) := (bC_q BK897.out 1).trans rfl
    have hfz45_0 := bF_q BK897.out 0
    have hfz45_1 := bF_q BK897.out 1
    obtain ⟨Ao46, co46, eo46⟩ := rS_q HO_7.out
    subst eo46
    go_wp2_with (first | ((with_reducible refine gC_q (f := 31) rfl ?_); refine gL_q (some 61) rfl rfl Try.func31 m9_q rfl #[.slice Ao14 t884.length co14, .agg #[.int .i64 t887, .slice Ao12 t888.length co12], .slice Ao46 t899.length co46] rfl m0_q ?_; (with_reducible refine (impl_PlanValid.calls kj5 _ _ t884 t887 _ _ t888 _ _ t899 true _ ?side1 ?side2 ?side3 ?side4 ?side5 ?side6 A32.out).mono ?_); (case side1 => exact m78_q); (case side2 => exact m155_q); (case side3 => exact cup (rR_q HO_898001.out).2.2); (case side4 => exact (rR_q HO_898001.out).2.1); (case side5 => exact m147_q); (case side6 => exact m150_q); rintro e w47 ⟨rfl, hb⟩; refine ⟨_, rfl, ?_⟩; replace HO_3 := Ae_q (Kd.S_below m20_q hb); replace HO_5 := Ae_q (rO_q (rup HO_5.out) hb); replace HO_7 := Ae_q (rO_q (rup HO_7.out) hb); replace HO_9 := Ae_q (rO_q (rup HO_9.out) hb); replace HO_898001 := Ae_q (rO_q (rup HO_898001.out) hb); replace BK897 := Ae_q (bB_q (g := gb897) (o := .cells #[.int .i64 t887, .slice Ao12 t888.length co12] 43 (0, 0)) (bup BK897.out) hb); replace BK898 := Ae_q (bB_q (g := gb898) (o := .cells #[.int .i64 t894, .int .i64 t895, .int .i64 t896] 31 (0, 0)) (bup BK898.out) hb); replace HB := Ae_q (bT_q m18_q hb); (try clear hb); (try clear hb2); (try clear hk); (try clear hi); have hcz48_0 : cI w47 gb898 0 t894 := cZ BK898 0 rfl; have hcz48_1 : cI w47 gb898 1 t895 := cZ BK898 1 rfl; have hcz48_2 : cI w47 gb898 2 t896 := cZ BK898 2 rfl; have hfz48_0 := bF_q BK898.out 0; have hfz48_1 := bF_q BK898.out 1; have hfz48_2 := bF_q BK898.out 2) | (go_at_call 15; (with_reducible refine (impl_OutageHits.calls kj5 _ _ t884 _ _ t899 t894 t895 t896 t910 _ ?side1 ?side2 ?side3 ?side4 A34.out).mono ?_); (case side1 => exact m78_q); (case side2 => exact m155_q); (case side3 => exact m147_q); (case side4 => exact m150_q); rintro e w' ⟨v911, rfl, ho0, hb⟩; replace HO_3 := Ae_q (Kd.S_elder' m20_q (rB_q ho0) hb); have HO912 := Ae_q (rL_q (rW_q (rW_q (rW_q (rW_q ho0 (rT_q (rup HO_5.out))) (rT_q (rup HO_7.out))) (rT_q (rup HO_9.out))) (rT_q (rup HO_898001.out))) (bZ_q m18_q)); replace HO_5 := Ae_q (rE_q (rup HO_5.out) (rB_q ho0) hb); replace HO_7 := Ae_q (rE_q (rup HO_7.out) (rB_q ho0) hb); replace HO_9 := Ae_q (rE_q (rup HO_9.out) (rB_q ho0) hb); replace HO_898001 := Ae_q (rE_q (rup HO_898001.out) (rB_q ho0) hb); replace BK897 := Ae_q (bB_q (g := gb897) (o := .cells #[.int .i64 t887, .slice Ao12 t888.length co12] 43 (0, 0)) (bup BK897.out) hb); replace BK898 := Ae_q (bB_q (g := gb898) (o := .cells #[.int .i64 t894, .int .i64 t895, .int .i64 t896] 31 (0, 0)) (bup BK898.out) hb); replace HB := Ae_q (bT_q m18_q hb); (try clear hb); (try clear hb2); (try clear hk); (try clear hi); (try clear ho0); obtain ⟨Ao50, co50, eo50⟩ := rS_q HO912.out; subst eo50))
    go_ret
    exact ⟨m6_q, m18_q⟩
   rw [if_pos c35] at H
   have c35b0 : ((t910.length : Int) == 0) = true := beq_iff_eq.mpr c35
   have c35b1 : ((t910.length : Int) != 0) = false := nE_q.mpr c35
   clear c35
   replace H := oB_q.mp H
   obtain ⟨t913, A360, H⟩ := H
   replace H : (some (decide (t913 ≥ 0))) = some r := H
   have A36 := Ae_q A360
   clear A360
   obtain rfl := oI_q H
   have hnb37 := NB897_898.out
   have hnc37 := NB898_897.out
   have hcz38_0 : cI wc gb897 0 t887 := cZ BK897 0 rfl
   have hcz38_1 : wc.cell? ⟨gb897, 1, none⟩ = some (.slice Ao12 t888.length co12) := (bC_q BK897.out 1).trans rfl
   have hfz38_0 := bF_q BK897.out 0
   have hfz38_1 := bF_q BK897.out 1
   obtain ⟨Ao39, co39, eo39⟩ := rS_q HO_7.out
   subst eo39
   go_wp2_with (first | ((with_reducible refine gC_q (f := 31) rfl ?_); refine gL_q (some 61) rfl rfl Try.func31 m9_q rfl #[.slice Ao14 t884.length co14, .agg #[.int .i64 t887, .slice Ao12 t888.length co12], .slice Ao39 t899.length co39] rfl m0_q ?_; (with_reducible refine (impl_PlanValid.calls kj5 _ _ t884 t887 _ _ t888 _ _ t899 true _ ?side1 ?side2 ?side3 ?side4 ?side5 ?side6 A32.out).mono ?_); (case side1 => exact m78_q); (case side2 => exact m155_q); (case side3 => exact cup (rR_q HO_898001.out).2.2); (case side4 => exact (rR_q HO_898001.out).2.1); (case side5 => exact m147_q); (case side6 => exact m150_q); rintro e w40 ⟨rfl, hb⟩; refine ⟨_, rfl, ?_⟩; replace HO_3 := Ae_q (Kd.S_below m20_q hb); replace HO_5 := Ae_q (rO_q (rup HO_5.out) hb); replace HO_7 := Ae_q (rO_q (rup HO_7.out) hb); replace HO_9 := Ae_q (rO_q (rup HO_9.out) hb); replace HO_898001 := Ae_q (rO_q (rup HO_898001.out) hb); replace BK897 := Ae_q (bB_q (g := gb897) (o := .cells #[.int .i64 t887, .slice Ao12 t888.length co12] 43 (0, 0)) (bup BK897.out) hb); replace BK898 := Ae_q (bB_q (g := gb898) (o := .cells #[.int .i64 t894, .int .i64 t895, .int .i64 t896] 31 (0, 0)) (bup BK898.out) hb); replace HB := Ae_q (bT_q m18_q hb); (try clear hb); (try clear hb2); (try clear hk); (try clear hi); have hcz41_0 : cI w40 gb898 0 t894 := cZ BK898 0 rfl; have hcz41_1 : cI w40 gb898 1 t895 := cZ BK898 1 rfl; have hcz41_2 : cI w40 gb898 2 t896 := cZ BK898 2 rfl; have hfz41_0 := bF_q BK898.out 0; have hfz41_1 := bF_q BK898.out 1; have hfz41_2 := bF_q BK898.out 2) | (go_at_call 15; (with_reducible refine (impl_OutageHits.calls kj5 _ _ t884 _ _ t899 t894 t895 t896 t910 _ ?side1 ?side2 ?side3 ?side4 A34.out).mono ?_); (case side1 => exact m78_q); (case side2 => exact m155_q); (case side3 => exact m147_q); (case side4 => exact m150_q); rintro e w' ⟨v911, rfl, ho0, hb⟩; replace HO_3 := Ae_q (Kd.S_elder' m20_q (rB_q ho0) hb); have HO912 := Ae_q (rL_q (rW_q (rW_q (rW_q (rW_q ho0 (rT_q (rup HO_5.out))) (rT_q (rup HO_7.out))) (rT_q (rup HO_9.out))) (rT_q (rup HO_898001.out))) (bZ_q m18_q)); replace HO_5 := Ae_q (rE_q (rup HO_5.out) (rB_q ho0) hb); replace HO_7 := Ae_q (rE_q (rup HO_7.out) (rB_q ho0) hb); replace HO_9 := Ae_q (rE_q (rup HO_9.out) (rB_q ho0) hb); replace HO_898001 := Ae_q (rE_q (rup HO_898001.out) (rB_q ho0) hb); replace BK897 := Ae_q (bB_q (g := gb897) (o := .cells #[.int .i64 t887, .slice Ao12 t888.length co12] 43 (0, 0)) (bup BK897.out) hb); replace BK898 := Ae_q (bB_q (g := gb898) (o := .cells #[.int .i64 t894, .int .i64 t895, .int .i64 t896] 31 (0, 0)) (bup BK898.out) hb); replace HB := Ae_q (bT_q m18_q hb); (try clear hb); (try clear hb2); (try clear hk); (try clear hi); (try clear ho0); obtain ⟨Ao43, co43, eo43⟩ := rS_q HO912.out; subst eo43) | (go_at_call 32; (with_reducible refine (impl_PlanDelay.calls kj5 _ _ t891 _ _ t899 t913 _ ?side1 ?side2 ?side3 ?side4 A36.out).mono ?_); (case side1 => exact cup (rR_q HO_5.out).2.2); (case side2 => exact (rR_q HO_5.out).2.1); (case side3 => exact m147_q); (case side4 => exact m150_q); rintro e w' ⟨rfl, ⟨nd, rfl⟩⟩))
   go_ret
   exact ⟨m6_q, m18_q⟩

def laws_FnRepair.Pure : Prop := ∀ (l0 : List Int), l0.length ≤ maxLen → l0.length * 1 ≤ 140737488351232 → (∀ x ∈ l0, (Lit.int .u8 x).wf = true) → ∃ k, laws_FnRepair.f k l0 = some true
theorem laws_FnRepair.walk (P : laws_FnRepair.Pure) (a0 : Option Addr) (len0 cap0 : Nat) (z0 : List Int) (w : World) (w0 : (a0 = none ∧ len0 = 0 ∧ cap0 = 0 ∧ z0 = []) ∨ ∃ x, a0 = some x ∧ len0 ≤ cap0 ∧ cap0 ≤ maxLen ∧ z0.length = cap0 ∧ (∀ i, i < z0.length → w.cell? (x.add i) = some (.int .u8 (z0.getD i 0))) ∧ ∀ n ∈ z0, (Lit.int .u8 n).wf = true) (y0 : len0 * 1 ≤ 140737488351232) :
    Calls Try.prog 9 #[.slice a0 len0 cap0] w fun e w' => e = .returned (.bool true) ∧ Below w.heap.size w w' := by
 obtain ⟨l0, rfl, hr0, hm0, hw0, hc0⟩ := ReadsInt.ofRowC w0
 obtain ⟨k, h⟩ := P l0 hm0 y0 hw0
 refine (laws_FnRepair.calls k _ _ l0 true w (Kd.C_of_reads (d := (0 : Int)) (h1 := fun _ => rfl) hr0) hc0 h).mono ?_
 rintro e w' ⟨rfl, hd⟩
 exact ⟨rfl, hd⟩

end Go.Proofs.Ytfnpiacmlahegaa.PRp
