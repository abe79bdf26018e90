import Derived.Test.YtfnpiacmlahegaaVEPRpx0
import Derived.Test.YtfnpiacmlahegaaVEPRpx3
import Derived.Test.YtfnpiacmlahegaaVEPRpx4
namespace Go.Proofs.Ytfnpiacmlahegaa.PRp
open Go.RowKit Go.Proofs.YtfnpiacmlahegaaW.PrintWords Go.Proofs.YtfnpiacmlahegaaW.PrintLast Go.Proofs.YtfnpiacmlahegaaW.PrintMore
attribute [local go_sem] max2_int min2_int max_two min_two max_three min_three max_four min_four
set_option linter.unusedVariables false
set_option linter.unusedSimpArgs false

def impl_isStart.f (a0 : Int) : Option (Bool) := (impl_within.f a0 0 999).bind fun t169 => (some t169)
set_option maxHeartbeats 8000000 in
set_option maxRecDepth 100000 in
theorem impl_isStart.calls (a0 : Int) (r : Bool) (w : World) (h : impl_isStart.f a0 = some r) :
    Calls Try.prog 58 #[.int .i64 a0] w fun e w' => e = .returned (.bool r) ∧ Drawn0 w w' := by
 have H : ((impl_within.f a0 0 999).bind fun t169 => (some t169)) = some r := h
 clear h
 replace H := oB_q.mp H
 obtain ⟨t169, A20, H⟩ := H
 replace H : (some t169) = some r := H
 have A2 := Ae_q A20
 clear A20
 obtain rfl := oI_q H
 go_enter Try.func58, Try.ntmps58
 go_wp2_with (first | ((with_reducible refine gC_q (f := 63) rfl ?_); refine gL_q (some 4) rfl rfl Try.func63 m8_q rfl #[.int .i64 a0, .int .i64 0, .int .i64 999] rfl m1_q ?_; (with_reducible refine (impl_within.calls a0 0 999 t169 _ A2.out).mono ?_); rintro e w' ⟨rfl, ⟨nd, rfl⟩⟩; refine ⟨_, rfl, ?_⟩))
 go_ret
 exact ⟨m4_q, m23_q⟩

def impl_isTool.f (a0 : Int) : Option (Bool) := (impl_within.f a0 1 4).bind fun t170 => (some t170)
set_option maxHeartbeats 8000000 in
set_option maxRecDepth 100000 in
theorem impl_isTool.calls (a0 : Int) (r : Bool) (w : World) (h : impl_isTool.f a0 = some r) :
    Calls Try.prog 62 #[.int .i64 a0] w fun e w' => e = .returned (.bool r) ∧ Drawn0 w w' := by
 have H : ((impl_within.f a0 1 4).bind fun t170 => (some t170)) = some r := h
 clear h
 replace H := oB_q.mp H
 obtain ⟨t170, A20, H⟩ := H
 replace H : (some t170) = some r := H
 have A2 := Ae_q A20
 clear A20
 obtain rfl := oI_q H
 go_enter Try.func62, Try.ntmps62
 go_wp2_with (first | ((with_reducible refine gC_q (f := 63) rfl ?_); refine gL_q (some 4) rfl rfl Try.func63 m8_q rfl #[.int .i64 a0, .int .i64 1, .int .i64 4] rfl m1_q ?_; (with_reducible refine (impl_within.calls a0 1 4 t170 _ A2.out).mono ?_); rintro e w' ⟨rfl, ⟨nd, rfl⟩⟩; refine ⟨_, rfl, ?_⟩))
 go_ret
 exact ⟨m4_q, m23_q⟩

def impl_outageValid.f (a0_0 : Int) (a0_1 : Int) (a0_2 : Int) : Option (Bool) := (impl_isTool.f a0_0).bind fun t172 => (if t172 = true then ((impl_isStart.f a0_1).bind fun t173 => (if t173 = true then ((impl_within.f a0_2 a0_1 999).bind fun t174 => (some t174)) else (some false))) else (some false))
set_option maxHeartbeats 8000000 in
set_option maxRecDepth 100000 in
theorem impl_outageValid.calls (a0_0 : Int) (a0_1 : Int) (a0_2 : Int) (r : Bool) (w : World) (h : impl_outageValid.f a0_0 a0_1 a0_2 = some r) :
    Calls Try.prog 39 #[.agg #[.int .i64 a0_0, .int .i64 a0_1, .int .i64 a0_2]] w fun e w' => e = .returned (.bool r) ∧ Below w.heap.size w w' := by
 have hu31 := Try.underlying31
 have HB := Ae_q (bR_q w.heap.size w)
 have H : ((impl_isTool.f a0_0).bind fun t172 => (if t172 = true then ((impl_isStart.f a0_1).bind fun t173 => (if t173 = true then ((impl_within.f a0_2 a0_1 999).bind fun t174 => (some t174)) else (some false))) else (some false))) = some r := h
 clear h
 replace H := oB_q.mp H
 obtain ⟨t172, A20, H⟩ := H
 replace H : (if t172 = true then ((impl_isStart.f a0_1).bind fun t173 => (if t173 = true then ((impl_within.f a0_2 a0_1 999).bind fun t174 => (some t174)) else (some false))) else (some false)) = some r := H
 have A2 := Ae_q A20
 clear A20
 by_cases c3 : t172 = true
 rotate_left
 ·replace c3 := fM_q.mpr c3
  subst c3
  have H1 : (some false) = some r := by rw [if_neg (show ¬ (false = true) by decide)] at H; exact H
  clear H
  have H := H1
  clear H1
  obtain rfl := oI_q H
  go_enter Try.func39, Try.ntmps39
  go_wp2_with (first | ((with_reducible refine gD_q (N := 1) rfl ?_); refine bE_q ?hg (N := 1) ?hd (cs := #[.int .i64 a0_0, .int .i64 a0_1, .int .i64 a0_2]) (t := 31) ?hr ?_; (case hd => rfl); (case hg => rfl); (case hr => exact m9_q); intro gb171 hg w11 hbox hb; have BK171 := Ae_q (hbox); have GW171 := Ae_q ((by rw [hg]; exact (bZ_q (bel HB.out)) : w.heap.size ≤ gb171)); have GE171 := Ae_q ((by rw [hg]; exact (bZ_q (bel HB.out)) : w.heap.size ≤ gb171)); replace HB := Ae_q (bT_q (bel HB.out) hb); clear hb hbox hg; have hcz12_0 : cI w11 gb171 0 a0_0 := cZ BK171 0 rfl; have hcz12_1 : cI w11 gb171 1 a0_1 := cZ BK171 1 rfl; have hcz12_2 : cI w11 gb171 2 a0_2 := cZ BK171 2 rfl; have hfz12_0 := bF_q BK171.out 0; have hfz12_1 := bF_q BK171.out 1; have hfz12_2 := bF_q BK171.out 2) | ((with_reducible refine gC_q (f := 62) rfl ?_); refine gL_q (some 5) rfl rfl Try.func62 m8_q rfl #[.int .i64 a0_0] rfl m1_q ?_; (with_reducible refine (impl_isTool.calls a0_0 false _ A2.out).mono ?_); rintro e w' ⟨rfl, ⟨nd, rfl⟩⟩; refine ⟨_, rfl, ?_⟩))
  go_ret
  exact ⟨m2_q, m43_q⟩
 subst c3
 have H1 : ((impl_isStart.f a0_1).bind fun t173 => (if t173 = true then ((impl_within.f a0_2 a0_1 999).bind fun t174 => (some t174)) else (some false))) = some r := by rw [if_pos rfl] at H; exact H
 clear H
 have H := H1
 clear H1
 replace H := oB_q.mp H
 obtain ⟨t173, A40, H⟩ := H
 replace H : (if t173 = true then ((impl_within.f a0_2 a0_1 999).bind fun t174 => (some t174)) else (some false)) = some r := H
 have A4 := Ae_q A40
 clear A40
 by_cases c5 : t173 = true
 rotate_left
 ·replace c5 := fM_q.mpr c5
  subst c5
  have H1 : (some false) = some r := by rw [if_neg (show ¬ (false = true) by decide)] at H; exact H
  clear H
  have H := H1
  clear H1
  obtain rfl := oI_q H
  go_enter Try.func39, Try.ntmps39
  go_wp2_with (first | ((with_reducible refine gD_q (N := 1) rfl ?_); refine bE_q ?hg (N := 1) ?hd (cs := #[.int .i64 a0_0, .int .i64 a0_1, .int .i64 a0_2]) (t := 31) ?hr ?_; (case hd => rfl); (case hg => rfl); (case hr => exact m9_q); intro gb171 hg w9 hbox hb; have BK171 := Ae_q (hbox); have GW171 := Ae_q ((by rw [hg]; exact (bZ_q (bel HB.out)) : w.heap.size ≤ gb171)); have GE171 := Ae_q ((by rw [hg]; exact (bZ_q (bel HB.out)) : w.heap.size ≤ gb171)); replace HB := Ae_q (bT_q (bel HB.out) hb); clear hb hbox hg; have hcz10_0 : cI w9 gb171 0 a0_0 := cZ BK171 0 rfl; have hcz10_1 : cI w9 gb171 1 a0_1 := cZ BK171 1 rfl; have hcz10_2 : cI w9 gb171 2 a0_2 := cZ BK171 2 rfl; have hfz10_0 := bF_q BK171.out 0; have hfz10_1 := bF_q BK171.out 1; have hfz10_2 := bF_q BK171.out 2) | ((with_reducible refine gC_q (f := 62) rfl ?_); refine gL_q (some 5) rfl rfl Try.func62 m8_q rfl #[.int .i64 a0_0] rfl m1_q ?_; (with_reducible refine (impl_isTool.calls a0_0 true _ A2.out).mono ?_); rintro e w' ⟨rfl, ⟨nd, rfl⟩⟩; refine ⟨_, rfl, ?_⟩) | (go_at_call 58; (with_reducible refine (impl_isStart.calls a0_1 false _ A4.out).mono ?_); rintro e w' ⟨rfl, ⟨nd, rfl⟩⟩))
  go_ret
  exact ⟨m2_q, m43_q⟩
 subst c5
 have H1 : ((impl_within.f a0_2 a0_1 999).bind fun t174 => (some t174)) = some r := by rw [if_pos rfl] at H; exact H
 clear H
 have H := H1
 clear H1
 replace H := oB_q.mp H
 obtain ⟨t174, A60, H⟩ := H
 replace H : (some t174) = some r := H
 have A6 := Ae_q A60
 clear A60
 obtain rfl := oI_q H
 go_enter Try.func39, Try.ntmps39
 go_wp2_with (first | ((with_reducible refine gD_q (N := 1) rfl ?_); refine bE_q ?hg (N := 1) ?hd (cs := #[.int .i64 a0_0, .int .i64 a0_1, .int .i64 a0_2]) (t := 31) ?hr ?_; (case hd => rfl); (case hg => rfl); (case hr => exact m9_q); intro gb171 hg w7 hbox hb; have BK171 := Ae_q (hbox); have GW171 := Ae_q ((by rw [hg]; exact (bZ_q (bel HB.out)) : w.heap.size ≤ gb171)); have GE171 := Ae_q ((by rw [hg]; exact (bZ_q (bel HB.out)) : w.heap.size ≤ gb171)); replace HB := Ae_q (bT_q (bel HB.out) hb); clear hb hbox hg; have hcz8_0 : cI w7 gb171 0 a0_0 := cZ BK171 0 rfl; have hcz8_1 : cI w7 gb171 1 a0_1 := cZ BK171 1 rfl; have hcz8_2 : cI w7 gb171 2 a0_2 := cZ BK171 2 rfl; have hfz8_0 := bF_q BK171.out 0; have hfz8_1 := bF_q BK171.out 1; have hfz8_2 := bF_q BK171.out 2) | ((with_reducible refine gC_q (f := 62) rfl ?_); refine gL_q (some 5) rfl rfl Try.func62 m8_q rfl #[.int .i64 a0_0] rfl m1_q ?_; (with_reducible refine (impl_isTool.calls a0_0 true _ A2.out).mono ?_); rintro e w' ⟨rfl, ⟨nd, rfl⟩⟩; refine ⟨_, rfl, ?_⟩) | ((first | (go_at_call 58; (with_reducible refine (impl_isStart.calls a0_1 true _ A4.out).mono ?_)) | (go_at_call 63; (with_reducible refine (impl_within.calls a0_2 a0_1 999 t174 _ A6.out).mono ?_))); rintro e w' ⟨rfl, ⟨nd, rfl⟩⟩))
 go_ret
 exact ⟨m2_q, m43_q⟩

def impl_Outage_disturbs.f (a0_0 : Int) (a0_1 : Int) (a0_2 : Int) (a1_0 : Int) (a1_1 : Int) (a1_2 : Int) (l1_3 : List Int) (a2 : Int) : Option (Bool) := if a1_2 = a0_0 then (if a2 < a0_2 then (some (decide ((wrap64 (a2 + a1_0)) > a0_1))) else (some false)) else (some false)
set_option maxHeartbeats 8000000 in
set_option maxRecDepth 100000 in
theorem impl_Outage_disturbs.calls (a0_0 : Int) (a0_1 : Int) (a0_2 : Int) (a1_0 : Int) (a1_1 : Int) (a1_2 : Int) (A1_3 : Option Addr) (c1_3 : Nat) (l1_3 : List Int) (a2 : Int) (r : Bool) (w : World) (hr1_3 : Kd.C kI_q w A1_3 l1_3.length l1_3) (hc1_3 : l1_3.length ≤ c1_3) (h : impl_Outage_disturbs.f a0_0 a0_1 a0_2 a1_0 a1_1 a1_2 l1_3 a2 = some r) :
    Calls Try.prog 40 #[.agg #[.int .i64 a0_0, .int .i64 a0_1, .int .i64 a0_2], .agg #[.int .i64 a1_0, .int .i64 a1_1, .int .i64 a1_2, .slice A1_3 l1_3.length c1_3], .int .i64 a2] w fun e w' => e = .returned (.bool r) ∧ Below w.heap.size w w' := by
 have hu31 := Try.underlying31
 have hu63 := Try.underlying63
 have HR1_3 := Ae_q hr1_3
 have HC1_3 := Ae_q hc1_3
 clear hr1_3 hc1_3
 have HB := Ae_q (bR_q w.heap.size w)
 have H : (if a1_2 = a0_0 then (if a2 < a0_2 then (some (decide ((wrap64 (a2 + a1_0)) > a0_1))) else (some false)) else (some false)) = some r := h
 clear h
 by_cases c4 : a1_2 = a0_0
 rotate_left
 ·rw [if_neg c4] at H
  have c4b0 : (a1_2 == a0_0) = false := fN_q.mpr c4
  have c4b1 : (a1_2 != a0_0) = true := nI_q.mpr c4
  obtain rfl := oI_q H
  go_enter Try.func40, Try.ntmps40
  go_wp2_with (first | ((with_reducible refine gD_q (N := 3) rfl ?_); refine bE_q ?hg (N := 3) ?hd (cs := #[.int .i64 a0_0, .int .i64 a0_1, .int .i64 a0_2]) (t := 31) ?hr ?_; (case hd => rfl); (case hg => rfl); (case hr => exact m9_q); intro gb175 hg w' hbox hb; have BK175 := Ae_q (hbox); have GW175 := Ae_q ((by rw [hg]; exact (bZ_q (bel HB.out)) : w.heap.size ≤ gb175)); have GE175 := Ae_q ((by rw [hg]; exact (bZ_q (bel HB.out)) : w.heap.size ≤ gb175)); replace HB := Ae_q (bT_q (bel HB.out) hb); clear hb hbox hg) | ((with_reducible refine gD_q (N := 4) rfl ?_); refine bE_q ?hg (N := 4) ?hd (cs := #[.int .i64 a1_0, .int .i64 a1_1, .int .i64 a1_2, .slice A1_3 l1_3.length c1_3]) (t := 63) ?hr ?_; (case hd => rfl); (case hg => rfl); (case hr => exact m9_q); intro gb176 hg w17 hbox hb; have BK176 := Ae_q (hbox); have GW176 := Ae_q ((by rw [hg]; exact (bZ_q m22_q) : w.heap.size ≤ gb176)); have GE176 := Ae_q ((by rw [hg]; exact (bZ_q m22_q) : w.heap.size ≤ gb176)); replace HB := Ae_q (bT_q m22_q hb); have NB175_176 := Ae_q ((by rw [hg]; exact nL_q (blk_lt (g := gb175) (o := .cells #[.int .i64 a0_0, .int .i64 a0_1, .int .i64 a0_2] 31 (0, 0)) (bup BK175.out)) : gb175 ≠ gb176)); have NB176_175 := Ae_q ((by rw [hg]; exact nG_q (blk_lt (g := gb175) (o := .cells #[.int .i64 a0_0, .int .i64 a0_1, .int .i64 a0_2] 31 (0, 0)) (bup BK175.out)) : gb176 ≠ gb175)); replace BK175 := Ae_q (bB_q (g := gb175) (o := .cells #[.int .i64 a0_0, .int .i64 a0_1, .int .i64 a0_2] 31 (0, 0)) (bup BK175.out) hb); clear hb hbox hg; have hnb18 := NB176_175.out; have hnc18 := NB175_176.out; have hcz19_0 : cI w17 gb176 0 a1_0 := cZ BK176 0 rfl; have hcz19_1 : cI w17 gb176 1 a1_1 := cZ BK176 1 rfl; have hcz19_2 : cI w17 gb176 2 a1_2 := cZ BK176 2 rfl; have hcz19_3 : w17.cell? ⟨gb176, 3, none⟩ = some (.slice A1_3 l1_3.length c1_3) := (bC_q BK176.out 3).trans rfl; have hfz19_0 := bF_q BK176.out 0; have hfz19_1 := bF_q BK176.out 1; have hfz19_2 := bF_q BK176.out 2; have hfz19_3 := bF_q BK176.out 3; have hcz20_0 : cI w17 gb175 0 a0_0 := cZ BK175 0 rfl; have hcz20_1 : cI w17 gb175 1 a0_1 := cZ BK175 1 rfl; have hcz20_2 : cI w17 gb175 2 a0_2 := cZ BK175 2 rfl; have hfz20_0 := bF_q BK175.out 0; have hfz20_1 := bF_q BK175.out 1; have hfz20_2 := bF_q BK175.out 2))
  go_ret
  exact ⟨m2_q, m36_q⟩
 rw [if_pos c4] at H
 have c4b0 : (a1_2 == a0_0) = true := beq_iff_eq.mpr c4
 have c4b1 : (a1_2 != a0_0) = false := nE_q.mpr c4
 clear c4
 by_cases c5 : a2 < a0_2
 ·rw [if_pos c5] at H
  have c5b0 : decide (a2 < a0_2) = true := dT_q c5
  clear c5
  obtain rfl := oI_q H
  go_enter Try.func40, Try.ntmps40
  go_wp2_with (first | ((with_reducible refine gD_q (N := 3) rfl ?_); refine bE_q ?hg (N := 3) ?hd (cs := #[.int .i64 a0_0, .int .i64 a0_1, .int .i64 a0_2]) (t := 31) ?hr ?_; (case hd => rfl); (case hg => rfl); (case hr => exact m9_q); intro gb175 hg w6 hbox hb; have BK175 := Ae_q (hbox); have GW175 := Ae_q ((by rw [hg]; exact (bZ_q (bel HB.out)) : w.heap.size ≤ gb175)); have GE175 := Ae_q ((by rw [hg]; exact (bZ_q (bel HB.out)) : w.heap.size ≤ gb175)); replace HB := Ae_q (bT_q (bel HB.out) hb); clear hb hbox hg) | ((with_reducible refine gD_q (N := 4) rfl ?_); refine bE_q ?hg (N := 4) ?hd (cs := #[.int .i64 a1_0, .int .i64 a1_1, .int .i64 a1_2, .slice A1_3 l1_3.length c1_3]) (t := 63) ?hr ?_; (case hd => rfl); (case hg => rfl); (case hr => exact m9_q); intro gb176 hg w7 hbox hb; have BK176 := Ae_q (hbox); have GW176 := Ae_q ((by rw [hg]; exact (bZ_q m22_q) : w.heap.size ≤ gb176)); have GE176 := Ae_q ((by rw [hg]; exact (bZ_q m22_q) : w.heap.size ≤ gb176)); replace HB := Ae_q (bT_q m22_q hb); have NB175_176 := Ae_q ((by rw [hg]; exact nL_q (blk_lt (g := gb175) (o := .cells #[.int .i64 a0_0, .int .i64 a0_1, .int .i64 a0_2] 31 (0, 0)) (bup BK175.out)) : gb175 ≠ gb176)); have NB176_175 := Ae_q ((by rw [hg]; exact nG_q (blk_lt (g := gb175) (o := .cells #[.int .i64 a0_0, .int .i64 a0_1, .int .i64 a0_2] 31 (0, 0)) (bup BK175.out)) : gb176 ≠ gb175)); replace BK175 := Ae_q (bB_q (g := gb175) (o := .cells #[.int .i64 a0_0, .int .i64 a0_1, .int .i64 a0_2] 31 (0, 0)) (bup BK175.out) hb); clear hb hbox hg; have hnb8 := NB176_175.out; have hnc8 := NB175_176.out; have hcz9_0 : cI w7 gb176 0 a1_0 := cZ BK176 0 rfl; have hcz9_1 : cI w7 gb176 1 a1_1 := cZ BK176 1 rfl; have hcz9_2 : cI w7 gb176 2 a1_2 := cZ BK176 2 rfl; have hcz9_3 : w7.cell? ⟨gb176, 3, none⟩ = some (.slice A1_3 l1_3.length c1_3) := (bC_q BK176.out 3).trans rfl; have hfz9_0 := bF_q BK176.out 0; have hfz9_1 := bF_q BK176.out 1; have hfz9_2 := bF_q BK176.out 2; have hfz9_3 := bF_q BK176.out 3; have hcz10_0 : cI w7 gb175 0 a0_0 := cZ BK175 0 rfl; have hcz10_1 : cI w7 gb175 1 a0_1 := cZ BK175 1 rfl; have hcz10_2 : cI w7 gb175 2 a0_2 := cZ BK175 2 rfl; have hfz10_0 := bF_q BK175.out 0; have hfz10_1 := bF_q BK175.out 1; have hfz10_2 := bF_q BK175.out 2))
  go_ret
  exact ⟨m2_q, m36_q⟩
 rw [if_neg c5] at H
 have c5b0 : decide (a2 < a0_2) = false := dF_q c5
 clear c5
 obtain rfl := oI_q H
 go_enter Try.func40, Try.ntmps40
 go_wp2_with (first | ((with_reducible refine gD_q (N := 3) rfl ?_); refine bE_q ?hg (N := 3) ?hd (cs := #[.int .i64 a0_0, .int .i64 a0_1, .int .i64 a0_2]) (t := 31) ?hr ?_; (case hd => rfl); (case hg => rfl); (case hr => exact m9_q); intro gb175 hg w11 hbox hb; have BK175 := Ae_q (hbox); have GW175 := Ae_q ((by rw [hg]; exact (bZ_q (bel HB.out)) : w.heap.size ≤ gb175)); have GE175 := Ae_q ((by rw [hg]; exact (bZ_q (bel HB.out)) : w.heap.size ≤ gb175)); replace HB := Ae_q (bT_q (bel HB.out) hb); clear hb hbox hg) | ((with_reducible refine gD_q (N := 4) rfl ?_); refine bE_q ?hg (N := 4) ?hd (cs := #[.int .i64 a1_0, .int .i64 a1_1, .int .i64 a1_2, .slice A1_3 l1_3.length c1_3]) (t := 63) ?hr ?_; (case hd => rfl); (case hg => rfl); (case hr => exact m9_q); intro gb176 hg w12 hbox hb; have BK176 := Ae_q (hbox); have GW176 := Ae_q ((by rw [hg]; exact (bZ_q m22_q) : w.heap.size ≤ gb176)); have GE176 := Ae_q ((by rw [hg]; exact (bZ_q m22_q) : w.heap.size ≤ gb176)); replace HB := Ae_q (bT_q m22_q hb); have NB175_176 := Ae_q ((by rw [hg]; exact nL_q (blk_lt (g := gb175) (o := .cells #[.int .i64 a0_0, .int .i64 a0_1, .int .i64 a0_2] 31 (0, 0)) (bup BK175.out)) : gb175 ≠ gb176)); have NB176_175 := Ae_q ((by rw [hg]; exact nG_q (blk_lt (g := gb175) (o := .cells #[.int .i64 a0_0, .int .i64 a0_1, .int .i64 a0_2] 31 (0, 0)) (bup BK175.out)) : gb176 ≠ gb175)); replace BK175 := Ae_q (bB_q (g := gb175) (o := .cells #[.int .i64 a0_0, .int .i64 a0_1, .int .i64 a0_2] 31 (0, 0)) (bup BK175.out) hb); clear hb hbox hg; have hnb13 := NB176_175.out; have hnc13 := NB175_176.out; have hcz14_0 : cI w12 gb176 0 a1_0 := cZ BK176 0 rfl; have hcz14_1 : cI w12 gb176 1 a1_1 := cZ BK176 1 rfl; have hcz14_2 : cI w12 gb176 2 a1_2 := cZ BK176 2 rfl; have hcz14_3 : w12.cell? ⟨gb176, 3, none⟩ = some (.slice A1_3 l1_3.length c1_3) := (bC_q BK176.out 3).trans rfl; have hfz14_0 := bF_q BK176.out 0; have hfz14_1 := bF_q BK176.out 1; have hfz14_2 := bF_q BK176.out 2; have hfz14_3 := bF_q BK176.out 3; have hcz15_0 : cI w12 gb175 0 a0_0 := cZ BK175 0 rfl; have hcz15_1 : cI w12 gb175 1 a0_1 := cZ BK175 1 rfl; have hcz15_2 : cI w12 gb175 2 a0_2 := cZ BK175 2 rfl; have hfz15_0 := bF_q BK175.out 0; have hfz15_1 := bF_q BK175.out 1; have hfz15_2 := bF_q BK175.out 2))
 go_ret
 exact ⟨m2_q, m36_q⟩

mutual
def impl_OutageHits.j0 : Nat → List (S63) → List Int → List Int → Bool → Int → Int → Int → Option (List Int)
 | 0, _, _, _, _, _, _, _ => none
 | k + 1, x0, x1, x7, x19, x178000, x178001, x178002 => if x19 = true then (some x7) else (impl_OutageHits.l0 k x1 x7 x0 (x0.length : Int) 0 x178000 x178001 x178002)
def impl_OutageHits.l0 : Nat → List Int → List Int → List (S63) → Int → Int → Int → Int → Int → Option (List Int)
 | 0, _, _, _, _, _, _, _, _ => none
 | k + 1, x1, x7, x21, x22, x23, x178000, x178001, x178002 => if x23 < x22 then (if 0 ≤ x23 then (if x23 < (x21.length : Int) then (if x23 < (x1.length : Int) then ((impl_Outage_disturbs.f x178000 x178001 x178002 ((rd_T63 x21 x23).f0) ((rd_T63 x21 x23).f1) ((rd_T63 x21 x23).f2) ((rd_T63 x21 x23).f3) (rd x1 x23)).bind fun t186 => (if t186 = true then (if x7.length < 17592186044416 then (impl_OutageHits.l0 k x1 (x7 ++ [x23]) x21 x22 (wrap64 (x23 + 1)) x178000 x178001 x178002) else (none)) else (impl_OutageHits.l0 k x1 x7 x21 x22 (wrap64 (x23 + 1)) x178000 x178001 x178002))) else (none)) else (none)) else (none)) else (some x7)
end
def impl_OutageHits.f (k : Nat) (l0 : List (S63)) (l1 : List Int) (a2_0 : Int) (a2_1 : Int) (a2_2 : Int) : Option (List Int) := (some (([] : List Int) : List Int)).bind fun y178 => ((impl_startsValid.f k l0 l1).bind fun t181 => (if t181 = true then ((impl_outageValid.f a2_0 a2_1 a2_2).bind fun t182 => (impl_OutageHits.j0 k l0 l1 y178 (!t182) a2_0 a2_1 a2_2)) else (impl_OutageHits.j0 k l0 l1 y178 true a2_0 a2_1 a2_2)))
set_option maxHeartbeats 8000000 in
set_option maxRecDepth 100000 in
theorem impl_OutageHits.calls (k : Nat) (A0 : Option Addr) (c0 : Nat) (l0 : List (S63)) (A1 : Option Addr) (c1 : Nat) (l1 : List Int) (a2_0 : Int) (a2_1 : Int) (a2_2 : Int) (r : List Int) (w : World) (hr0 : Kd.C k63 w A0 l0.length l0) (hc0 : l0.length ≤ c0) (hr1 : Kd.C kI_q w A1 l1.length l1) (hc1 : l1.length ≤ c1) (h : impl_OutageHits.f k l0 l1 a2_0 a2_1 a2_2 = some r) :
    Calls Try.prog 15 #[.slice A0 l0.length c0, .slice A1 l1.length c1, .agg #[.int .i64 a2_0, .int .i64 a2_1, .int .i64 a2_2]] w fun e w' => ∃ v0_ : Value, e = .returned (v0_) ∧ Kd.R kI_q 3 w' w.heap.size (fun _ => True) v0_ r ∧ Below w.heap.size w w' := by
 have hu31 := Try.underlying31
 have hu63 := Try.underlying63
 have HR0 := Ae_q hr0
 have HC0 := Ae_q hc0
 clear hr0 hc0
 have HR1 := Ae_q hr1
 have HC1 := Ae_q hc1
 clear hr1 hc1
 have HB := Ae_q (bR_q w.heap.size w)
 have H : ((some (([] : List Int) : List Int)).bind fun y178 => ((impl_startsValid.f k l0 l1).bind fun t181 => (if t181 = true then ((impl_outageValid.f a2_0 a2_1 a2_2).bind fun t182 => (impl_OutageHits.j0 k l0 l1 y178 (!t182) a2_0 a2_1 a2_2)) else (impl_OutageHits.j0 k l0 l1 y178 true a2_0 a2_1 a2_2)))) = some r := h
 clear h
 obtain ⟨y178, hy178⟩ : ∃ y_ : List Int, y_ = (([] : List Int)) := ⟨_, rfl⟩
 replace H : ((impl_startsValid.f k l0 l1).bind fun t181 => (if t181 = true then ((impl_outageValid.f a2_0 a2_1 a2_2).bind fun t182 => (impl_OutageHits.j0 k l0 l1 y178 (!t182) a2_0 a2_1 a2_2)) else (impl_OutageHits.j0 k l0 l1 y178 true a2_0 a2_1 a2_2))) = some r := by first | (rw [hy178]; with_reducible exact H) | (have H2_ := (oS_q _ _).symm.trans H; rw [hy178]; with_reducible exact H2_) | (have H2_ := (oS_q _ _).symm.trans H; with_reducible exact H2_) | with_reducible exact H | (rw [hy178]; exact H) | exact H
 have Ny178 := Ae_q hy178
 clear hy178
 have HC4 := Ae_q H
 clear H
 go_enter Try.func15, Try.ntmps15
 go_upto_region 2 with (first | ((with_reducible refine gD_q (N := 5) rfl ?_); refine bE_q ?hg (N := 5) ?hd (cs := #[.int .i64 a2_0, .int .i64 a2_1, .int .i64 a2_2]) (t := 31) ?hr ?_; (case hd => rfl); (case hg => rfl); (case hr => exact m9_q); intro gb177 hg w' hbox hb; have BK177 := Ae_q (hbox); have GW177 := Ae_q ((by rw [hg]; exact (bZ_q (bel HB.out)) : w.heap.size ≤ gb177)); have GE177 := Ae_q ((by rw [hg]; exact (bZ_q (bel HB.out)) : w.heap.size ≤ gb177)); replace HB := Ae_q (bT_q (bel HB.out) hb); clear hb hbox hg) | ((with_reducible refine gD_q (N := 10) rfl ?_); refine Kd.R_lit kI_q _ 3 ?hg (N := 10) ?hd (xs := ([] : List Int)) (inner := []) (ok := fun _ => True) (okp := fun _ => True) ?hr ?hp (fun _ hk => hk) trivial (bR_q _ _) (nR_q _) (by simp) ?_; (case hd => rfl); (case hg => rfl); (case hr => exact m9_q); (case hp => exact (Reps.none _ _)); intro v179 w6 ho7 hb hg_ hnew_; clear hg_ hnew_; (first | rw [← Ny178.out] at ho7 | (simp only [Int.reduceToNat] at ho7; rw [← Ny178.out] at ho7)); have HO180 := Ae_q (rL_q ho7 (bZ_q m12_q)); replace BK177 := Ae_q (bB_q (g := gb177) (o := .cells #[.int .i64 a2_0, .int .i64 a2_1, .int .i64 a2_2] 31 (0, 0)) (bup BK177.out) hb); replace HB := Ae_q (bT_q m12_q hb); clear hb ho7))
 (try simp only [Act.put, sA_q, sZ_q, sS_q])
 go_cut [19] (fun v19 wc => ∃ (kq : Nat) (x19_3 : Bool), v19 = .bool x19_3 ∧ Aside0 (impl_OutageHits.j0 kq l0 l1 y178 x19_3 a2_0 a2_1 a2_2 = some r) ∧ Aside0 (kq ≤ k) ∧ Aside0 (Kd.R kI_q 3 wc w.heap.size (fun _ => True) v179 y178) ∧ Aside0 (wc.heap[gb177]? = some (.cells #[.int .i64 a2_0, .int .i64 a2_1, .int .i64 a2_2] 31 (0, 0))) ∧ Aside0 (Below w.heap.size w wc))
 case first =>
  have H := HC4.out
  clear HC4
  replace H := oB_q.mp H
  obtain ⟨t181, A80, H⟩ := H
  replace H : (if t181 = true then ((impl_outageValid.f a2_0 a2_1 a2_2).bind fun t182 => (impl_OutageHits.j0 k l0 l1 y178 (!t182) a2_0 a2_1 a2_2)) else (impl_OutageHits.j0 k l0 l1 y178 true a2_0 a2_1 a2_2)) = some r := H
  have A8 := Ae_q A80
  clear A80
  by_cases c9 : t181 = true
  rotate_left
  ·replace c9 := fM_q.mpr c9
   subst c9
   have H1 : (impl_OutageHits.j0 k l0 l1 y178 true a2_0 a2_1 a2_2) = some r := by rw [if_neg (show ¬ (false = true) by decide)] at H; exact H
   clear H
   have H := H1
   clear H1
   have H' := Ae_q H
   clear H
   go_wp2_with (first | ((with_reducible refine gC_q (f := 38) rfl ?_); refine gL_q (some 13) rfl rfl Try.func38 m8_q rfl #[.slice A0 l0.length c0, .slice A1 l1.length c1] rfl m1_q ?_; (with_reducible refine (impl_startsValid.calls k _ _ l0 _ _ l1 false _ ?side1 ?side2 ?side3 ?side4 A8.out).mono ?_); (case side1 => exact m25_q); (case side2 => exact m39_q); (case side3 => exact m30_q); (case side4 => exact m46_q); rintro e w' ⟨rfl, hb⟩; refine ⟨_, rfl, ?_⟩; replace HO180 := Ae_q (rO_q (rup HO180.out) hb); replace BK177 := Ae_q (bB_q (g := gb177) (o := .cells #[.int .i64 a2_0, .int .i64 a2_1, .int .i64 a2_2] 31 (0, 0)) (bup BK177.out) hb); replace HB := Ae_q (bT_q m12_q hb); (try clear hb); (try clear hb2); (try clear hk); (try clear hi)))
   go_meet
   case rel => exact ⟨_, (true), m4_q, H', ⟨m71_q⟩, ⟨rup HO180.out⟩, ⟨bup BK177.out⟩, ⟨m12_q⟩⟩
  subst c9
  have H1 : ((impl_outageValid.f a2_0 a2_1 a2_2).bind fun t182 => (impl_OutageHits.j0 k l0 l1 y178 (!t182) a2_0 a2_1 a2_2)) = some r := by rw [if_pos rfl] at H; exact H
  clear H
  have H := H1
  clear H1
  replace H := oB_q.mp H
  obtain ⟨t182, A100, H⟩ := H
  replace H : (impl_OutageHits.j0 k l0 l1 y178 (!t182) a2_0 a2_1 a2_2) = some r := H
  have A10 := Ae_q A100
  clear A100
  have H' := Ae_q H
  clear H
  go_wp2_with (first | ((with_reducible refine gC_q (f := 38) rfl ?_); refine gL_q (some 13) rfl rfl Try.func38 m8_q rfl #[.slice A0 l0.length c0, .slice A1 l1.length c1] rfl m1_q ?_; (with_reducible refine (impl_startsValid.calls k _ _ l0 _ _ l1 true _ ?side1 ?side2 ?side3 ?side4 A8.out).mono ?_); (case side1 => exact m25_q); (case side2 => exact m39_q); (case side3 => exact m30_q); (case side4 => exact m46_q); rintro e w11 ⟨rfl, hb⟩; refine ⟨_, rfl, ?_⟩; replace HO180 := Ae_q (rO_q (rup HO180.out) hb); replace BK177 := Ae_q (bB_q (g := gb177) (o := .cells #[.int .i64 a2_0, .int .i64 a2_1, .int .i64 a2_2] 31 (0, 0)) (bup BK177.out) hb); replace HB := Ae_q (bT_q m12_q hb); (try clear hb); (try clear hb2); (try clear hk); (try clear hi); have hcz12_0 : cI w11 gb177 0 a2_0 := cZ BK177 0 rfl; have hcz12_1 : cI w11 gb177 1 a2_1 := cZ BK177 1 rfl; have hcz12_2 : cI w11 gb177 2 a2_2 := cZ BK177 2 rfl; have hfz12_0 := bF_q BK177.out 0; have hfz12_1 := bF_q BK177.out 1; have hfz12_2 := bF_q BK177.out 2) | (go_at_call 39; (with_reducible refine (impl_outageValid.calls a2_0 a2_1 a2_2 t182 _ A10.out).mono ?_); rintro e w' ⟨rfl, hb⟩; replace HO180 := Ae_q (rO_q (rup HO180.out) hb); replace BK177 := Ae_q (bB_q (g := gb177) (o := .cells #[.int .i64 a2_0, .int .i64 a2_1, .int .i64 a2_2] 31 (0, 0)) (bup BK177.out) hb); replace HB := Ae_q (bT_q m12_q hb); (try clear hb); (try clear hb2); (try clear hk); (try clear hi)))
  go_meet
  case rel => exact ⟨_, (!t182), m4_q, H', ⟨m71_q⟩, ⟨rup HO180.out⟩, ⟨bup BK177.out⟩, ⟨m12_q⟩⟩
 case rest =>
  clear HC4
  try clear c1
  try clear p2
  try clear c3
  try clear c9
  try clear hcz12_0
  try clear hcz12_1
  try clear hcz12_2
  try clear hfz12_0
  try clear hfz12_1
  try clear hfz12_2
  obtain ⟨kq, x19_3, rfl, HA, HJ3, HO_7, BK177, HB⟩ := hcut
  cases kq with
  | zero => exact absurd HA.out (by simp [impl_OutageHits.j0])
  | succ kj3 =>
   have H := HA.out
   clear HA
   simp only [impl_OutageHits.j0] at H
   by_cases c15 : x19_3 = true
   ·subst c15
    have H1 : (some y178) = some r := by rw [if_pos rfl] at H; exact H
    clear H
    have H := H1
    clear H1
    obtain rfl := oI_q H
    go_wp2
    go_ret
    exact ⟨_, m2_q, rup HO_7.out, m12_q⟩
   replace c15 := fM_q.mpr c15
   subst c15
   have H1 : (impl_OutageHits.l0 kj3 l1 y178 l0 (l0.length : Int) 0 a2_0 a2_1 a2_2) = some r := by rw [if_neg (show ¬ (false = true) by decide)] at H; exact H
   clear H
   have H := H1
   clear H1
   have H' := Ae_q H
   clear H
   go_wp2
   go_loopg [7, 23] kj3 (fun kq v7 v23 w' => ∃ (x7_2 : List Int) (x23_2 : Int), v23 = .int .i64 x23_2 ∧ Aside0 (impl_OutageHits.l0 kq l1 x7_2 l0 (l0.length : Int) x23_2 a2_0 a2_1 a2_2 = some r) ∧ Aside0 (kq ≤ kj3) ∧ Aside0 (Kd.R kI_q 3 w' w.heap.size (fun _ => True) v7 x7_2) ∧ Aside0 (w'.heap[gb177]? = some (.cells #[.int .i64 a2_0, .int .i64 a2_1, .int .i64 a2_2] 31 (0, 0))) ∧ Aside0 (Below w.heap.size w w'))
   case atStart => exact ⟨(y178), (0), m4_q, H', ⟨nR_q _⟩, ⟨rup HO_7.out⟩, ⟨bup BK177.out⟩, ⟨m12_q⟩⟩
   case round =>
    clear H'
    try clear c1
    try clear p2
    try clear c3
    try clear c9
    try clear c15
    try clear hcz12_0
    try clear hcz12_1
    try clear hcz12_2
    try clear hfz12_0
    try clear hfz12_1
    try clear hfz12_2
    try clear p2
    obtain ⟨x7_2, x23_2, rfl, HA, HK2, HO_7, BK177, HB⟩ := hrel
    cases gk with
    | zero => exact absurd HA.out (by simp [impl_OutageHits.l0])
    | succ k2 =>
     have H := HA.out
     clear HA
     simp only [impl_OutageHits.l0] at H
     by_cases c16 : x23_2 < (l0.length : Int)
     rotate_left
     ·rw [if_neg c16] at H
      have c16b0 : decide (x23_2 < (l0.length : Int)) = false := dF_q c16
      clear c16
      obtain rfl := oI_q H
      go_wp2
      go_ret
      exact ⟨_, m2_q, rup HO_7.out, m12_q⟩
     rw [if_pos c16] at H
     have c16b0 : decide (x23_2 < (l0.length : Int)) = true := dT_q c16
     clear c16
     by_cases c17 : 0 ≤ x23_2
     rotate_left
     ·rw [if_neg c17] at H
      exact absurd H (by simp)
     rw [if_pos c17] at H
     have c17b0 : decide (0 ≤ x23_2) = true := dT_q c17
     clear c17
     by_cases c18 : x23_2 < (l0.length : Int)
     rotate_left
     ·rw [if_neg c18] at H
      exact absurd H (by simp)
     rw [if_pos c18] at H
     have c18b0 : decide (x23_2 < (l0.length : Int)) = true := dT_q c18
     clear c18
     by_cases c19 : x23_2 < (l1.length : Int)
     rotate_left
     ·rw [if_neg c19] at H
      exact absurd H (by simp)
     rw [if_pos c19] at H
     have c19b0 : decide (x23_2 < (l1.length : Int)) = true := dT_q c19
     clear c19
     replace H := oB_q.mp H
     obtain ⟨t186, A200, H⟩ := H
     replace H : (if t186 = true then (if x7_2.length < 17592186044416 then (impl_OutageHits.l0 k2 l1 (x7_2 ++ [x23_2]) l0 (l0.length : Int) (wrap64 (x23_2 + 1)) a2_0 a2_1 a2_2) else (none)) else (impl_OutageHits.l0 k2 l1 x7_2 l0 (l0.length : Int) (wrap64 (x23_2 + 1)) a2_0 a2_1 a2_2)) = some r := H
     have A20 := Ae_q A200
     clear A200
     by_cases c21 : t186 = true
     rotate_left
     ·replace c21 := fM_q.mpr c21
      subst c21
      have H1 : (impl_OutageHits.l0 k2 l1 x7_2 l0 (l0.length : Int) (wrap64 (x23_2 + 1)) a2_0 a2_1 a2_2) = some r := by rw [if_neg (show ¬ (false = true) by decide)] at H; exact H
      clear H
      have H := H1
      clear H1
      have H' := Ae_q H
      clear H
      have p183 : 0 ≤ (x23_2 : Int) := oD_q (by assumption)
      have q183 : x23_2 < (l0.length : Int) := oD_q (by assumption)
      obtain ⟨ad183, A183_3, c183_3, e183, hx183_0, hx183_1, hx183_2, hx183_3, hl183_3, hi183_3⟩ := at_T63 HR0.out x23_2 p183 q183
      cases e183
      replace hx183_0 := cel HB.out hx183_0
      replace hx183_1 := cel HB.out hx183_1
      replace hx183_2 := cel HB.out hx183_2
      replace hx183_3 := cel HB.out hx183_3
      have HR183_3 := Ae_q hi183_3
      have HC183_3 := Ae_q hl183_3
      clear hi183_3 hl183_3
      replace p183 := eq_true p183
      replace q183 := eq_true q183
      try go_wp2_with (first | ((with_reducible refine gD_q (N := 9) rfl ?_); refine bE_q ?hg (N := 9) ?hd (cs := #[.int .i64 0, .int .i64 0, .int .i64 0, .slice none 0 0]) (t := 63) ?hr ?_; (case hd => rfl); (case hg => rfl); (case hr => exact m9_q); intro gb184 hg w30 hbox hb; replace HO_7 := Ae_q (rO_q (rup HO_7.out) hb); have BK184 := Ae_q (hbox); have GW184 := Ae_q ((by rw [hg]; exact (bZ_q m12_q) : w.heap.size ≤ gb184)); have GE184 := Ae_q ((by rw [hg]; exact (bZ_q m12_q) : w.heap.size ≤ gb184)); replace HB := Ae_q (bT_q m12_q hb); have NB177_184 := Ae_q ((by rw [hg]; exact nL_q (blk_lt (g := gb177) (o := .cells #[.int .i64 a2_0, .int .i64 a2_1, .int .i64 a2_2] 31 (0, 0)) (bup BK177.out)) : gb177 ≠ gb184)); have NB184_177 := Ae_q ((by rw [hg]; exact nG_q (blk_lt (g := gb177) (o := .cells #[.int .i64 a2_0, .int .i64 a2_1, .int .i64 a2_2] 31 (0, 0)) (bup BK177.out)) : gb184 ≠ gb177)); replace BK177 := Ae_q (bB_q (g := gb177) (o := .cells #[.int .i64 a2_0, .int .i64 a2_1, .int .i64 a2_2] 31 (0, 0)) (bup BK177.out) hb); clear hb hbox hg; have hnb31 := NB184_177.out; have hnc31 := NB177_184.out; have hcz32_0 : cI w30 gb184 0 0 := cZ BK184 0 rfl; have hcz32_1 : cI w30 gb184 1 0 := cZ BK184 1 rfl; have hcz32_2 : cI w30 gb184 2 0 := cZ BK184 2 rfl; have hcz32_3 : w30.cell? ⟨gb184, 3, none⟩ = some (.slice none 0 0) := (bC_q BK184.out 3).trans rfl; have hfz32_0 := bF_q BK184.out 0; have hfz32_1 := bF_q BK184.out 1; have hfz32_2 := bF_q BK184.out 2; have hfz32_3 := bF_q BK184.out 3))
      have n0_ : Aside0 (Kd.R kI_q 3 ((((w30.setCell ⟨gb184, 0, none⟩ (.int .i64 ((rd_T63 l0 x23_2).f0))).setCell ⟨gb184, 1, none⟩ (.int .i64 ((rd_T63 l0 x23_2).f1))).setCell ⟨gb184, 2, none⟩ (.int .i64 ((rd_T63 l0 x23_2).f2))).setCell ⟨gb184, 3, none⟩ (.slice A183_3 ((rd_T63 l0 x23_2).f3).length c183_3)) w.heap.size (fun _ => True) u7 x7_2) := ⟨by (with_reducible repeat (first | apply rA_q | apply rN_q | apply rD_q)); exact rM_q (Kd.R_far (p := ⟨gb184, 3, none⟩) (Kd.R_far (p := ⟨gb184, 2, none⟩) (Kd.R_far (p := ⟨gb184, 1, none⟩) (Kd.R_far (p := ⟨gb184, 0, none⟩) (Kd.R_types HO_7.out BK184.out (by decide)) (fun _ hk => hk.2) (.int .i64 ((rd_T63 l0 x23_2).f0))) (fun _ hk => hk.2) (.int .i64 ((rd_T63 l0 x23_2).f1))) (fun _ hk => hk.2) (.int .i64 ((rd_T63 l0 x23_2).f2))) (fun _ hk => hk.2) (.slice A183_3 ((rd_T63 l0 x23_2).f3).length c183_3)) (fun _ hk => trivial)⟩
      have n1_ : Aside0 (((((w30.setCell ⟨gb184, 0, none⟩ (.int .i64 ((rd_T63 l0 x23_2).f0))).setCell ⟨gb184, 1, none⟩ (.int .i64 ((rd_T63 l0 x23_2).f1))).setCell ⟨gb184, 2, none⟩ (.int .i64 ((rd_T63 l0 x23_2).f2))).setCell ⟨gb184, 3, none⟩ (.slice A183_3 ((rd_T63 l0 x23_2).f3).length c183_3)).heap[gb177]? = some (.cells #[.int .i64 a2_0, .int .i64 a2_1, .int .i64 a2_2] 31 (0, 0))) := ⟨m15_q⟩
      have n2_ : Aside0 (((((w30.setCell ⟨gb184, 0, none⟩ (.int .i64 ((rd_T63 l0 x23_2).f0))).setCell ⟨gb184, 1, none⟩ (.int .i64 ((rd_T63 l0 x23_2).f1))).setCell ⟨gb184, 2, none⟩ (.int .i64 ((rd_T63 l0 x23_2).f2))).setCell ⟨gb184, 3, none⟩ (.slice A183_3 ((rd_T63 l0 x23_2).f3).length c183_3)).heap[gb184]? = some (.cells #[.int .i64 ((rd_T63 l0 x23_2).f0), .int .i64 ((rd_T63 l0 x23_2).f1), .int .i64 ((rd_T63 l0 x23_2).f2), .slice A183_3 ((rd_T63 l0 x23_2).f3).length c183_3] 63 (0, 0))) := ⟨m10_q⟩
      have n3_ : Aside0 (Below w.heap.size w ((((w30.setCell ⟨gb184, 0, none⟩ (.int .i64 ((rd_T63 l0 x23_2).f0))).setCell ⟨gb184, 1, none⟩ (.int .i64 ((rd_T63 l0 x23_2).f1))).setCell ⟨gb184, 2, none⟩ (.int .i64 ((rd_T63 l0 x23_2).f2))).setCell ⟨gb184, 3, none⟩ (.slice A183_3 ((rd_T63 l0 x23_2).f3).length c183_3))) := ⟨m18_q⟩
      (try clear HO_7)
      (try clear BK177)
      (try clear BK184)
      (try clear HB)
      generalize ((((w30.setCell ⟨gb184, 0, none⟩ (.int .i64 ((rd_T63 l0 x23_2).f0))).setCell ⟨gb184, 1, none⟩ (.int .i64 ((rd_T63 l0 x23_2).f1))).setCell ⟨gb184, 2, none⟩ (.int .i64 ((rd_T63 l0 x23_2).f2))).setCell ⟨gb184, 3, none⟩ (.slice A183_3 ((rd_T63 l0 x23_2).f3).length c183_3)) = w33 at n0_ n1_ n2_ n3_ ⊢
      have HO_7 := n0_
      have BK177 := n1_
      have BK184 := n2_
      have HB := n3_
      clear n0_ n1_ n2_ n3_
      replace HO_7 := Ae_q (rD_q HO_7.out)
      replace BK177 := Ae_q (bW_q BK177.out)
      replace BK184 := Ae_q (bW_q BK184.out)
      replace HB := Ae_q (bD_q HB.out)
      have p185 : 0 ≤ (x23_2 : Int) := oD_q (by assumption)
      have q185 : x23_2 < (l1.length : Int) := oD_q (by assumption)
      obtain ⟨ad185, e185, hx185_0⟩ := aI_q HR1.out x23_2 p185 q185
      have hw185_0 := hx185_0
      cases e185
      replace hx185_0 := cel HB.out hx185_0
      replace p185 := eq_true p185
      replace q185 := eq_true q185
      refine start_ (n := 7) (S := fun w' => w'.cell? ⟨gb177, 0, none⟩ = some (.int .i64 a2_0) ∧ w'.cell? ⟨gb177, 1, none⟩ = some (.int .i64 a2_1) ∧ w'.cell? ⟨gb177, 2, none⟩ = some (.int .i64 a2_2) ∧ w'.cell? ⟨gb184, 0, none⟩ = some (.int .i64 ((rd_T63 l0 x23_2).f0)) ∧ w'.cell? ⟨gb184, 1, none⟩ = some (.int .i64 ((rd_T63 l0 x23_2).f1)) ∧ w'.cell? ⟨gb184, 2, none⟩ = some (.int .i64 ((rd_T63 l0 x23_2).f2)) ∧ w'.cell? ⟨gb184, 3, none⟩ = some (.slice A183_3 ((rd_T63 l0 x23_2).f3).length c183_3) ∧ w'.cell? (ad185.add (x23_2).toNat) = some (.int .i64 (rd l1 x23_2))) (ds := []) #[false, false, false, false, false, false, false] m8_q rfl rfl ⟨(bC_q BK177.out 0).trans rfl, (bC_q BK177.out 1).trans rfl, (bC_q BK177.out 2).trans rfl, (bC_q BK184.out 0).trans rfl, (bC_q BK184.out 1).trans rfl, (bC_q BK184.out 2).trans rfl, (bC_q BK184.out 3).trans rfl, (cel HB.out hw185_0)⟩ (fun hHeld => ?_)
      generalize w33.drew = w34 at HO_7 BK177 BK184 HB hx185_0 hHeld ⊢
      refine pure_ (i := 2) (N := some 30) (v := ?_) (a' := ?_) #[false, false, true, false, false, false, false] rfl rfl m8_q (fun _ _ _ h => h) (Or.inl ⟨by rfl, ?_⟩) ?_ ?_
      rotate_left
      ·intro w'
       go_simp
       with_reducible rfl
      rotate_left
      ·simp only [pS_q]
       rfl
      refine pure_ (i := 3) (N := some 31) (v := ?_) (a' := ?_) #[false, false, true, true, false, false, false] rfl rfl m8_q (fun _ _ _ h => h) (Or.inl ⟨by rfl, ?_⟩) ?_ ?_
      rotate_left
      ·intro w'
       go_simp
       with_reducible rfl
      rotate_left
      ·simp only [pS_q]
       rfl
      refine pure_ (i := 4) (N := some 32) (v := ?_) (a' := ?_) #[false, false, true, true, true, false, false] rfl rfl m8_q (fun _ _ _ h => h) (Or.inl ⟨by rfl, ?_⟩) ?_ ?_
      rotate_left
      ·intro w'
       go_simp
       with_reducible rfl
      rotate_left
      ·simp only [pS_q]
       rfl
      refine take_ (i := 0) (N := some 28) (v := ?_) (a' := ?_) #[true, false, true, true, true, false, false] rfl rfl m8_q (fun _ _ _ h => h) (Or.inl ⟨by rfl, ?_⟩) hHeld ?_ ?_
      rotate_left
      ·rintro w' ⟨s0, s1, s2, s3, s4, s5, s6, s7⟩
       go_simp
       with_reducible rfl
      rotate_left
      ·simp only [pS_q]
       rfl
      refine take_ (i := 1) (N := some 29) (v := ?_) (a' := ?_) #[true, true, true, true, true, false, false] rfl rfl m8_q (fun _ _ _ h => h) (Or.inl ⟨by rfl, ?_⟩) hHeld ?_ ?_
      rotate_left
      ·rintro w' ⟨s0, s1, s2, s3, s4, s5, s6, s7⟩
       go_simp
       with_reducible rfl
      rotate_left
      ·simp only [pS_q]
       rfl
      refine take_ (i := 5) (N := some 33) (v := ?_) (a' := ?_) #[true, true, true, true, true, true, false] rfl rfl m8_q (fun _ _ _ h => h) (Or.inl ⟨by rfl, ?_⟩) hHeld ?_ ?_
      rotate_left
      ·rintro w' ⟨s0, s1, s2, s3, s4, s5, s6, s7⟩
       go_simp
       with_reducible rfl
      rotate_left
      ·simp only [pS_q]
       rfl
      refine one_ (i := 6) (N := some 34) #[true, true, true, true, true, true, true] rfl rfl m8_q (by decide) (fun K hK => ?_)
      refine goes_ Try.func40 m8_q rfl #[.agg #[.int .i64 a2_0, .int .i64 a2_1, .int .i64 a2_2], .agg #[.int .i64 ((rd_T63 l0 x23_2).f0), .int .i64 ((rd_T63 l0 x23_2).f1), .int .i64 ((rd_T63 l0 x23_2).f2), .slice A183_3 ((rd_T63 l0 x23_2).f3).length c183_3], .int .i64 (rd l1 x23_2)] (by rfl) rfl rfl m1_q ?_
      with_reducible refine (impl_Outage_disturbs.calls a2_0 a2_1 a2_2 ((rd_T63 l0 x23_2).f0) ((rd_T63 l0 x23_2).f1) ((rd_T63 l0 x23_2).f2) _ _ ((rd_T63 l0 x23_2).f3) (rd l1 x23_2) false _ ?side1 ?side2 A20.out).mono ?_
      (case side1 => exact cup (cB_q HR183_3.out HB.out))
      (case side2 => exact HC183_3.out)
      rintro e w' ⟨rfl, hb⟩
      refine ⟨_, rfl, ?_⟩
      replace HO_7 := Ae_q (rO_q (rup HO_7.out) hb)
      replace BK177 := Ae_q (bB_q (g := gb177) (o := .cells #[.int .i64 a2_0, .int .i64 a2_1, .int .i64 a2_2] 31 (0, 0)) (bup BK177.out) hb)
      replace BK184 := Ae_q (bB_q (g := gb184) (o := .cells #[.int .i64 ((rd_T63 l0 x23_2).f0), .int .i64 ((rd_T63 l0 x23_2).f1), .int .i64 ((rd_T63 l0 x23_2).f2), .slice A183_3 ((rd_T63 l0 x23_2).f3).length c183_3] 63 (0, 0)) (bup BK184.out) hb)
      replace HB := Ae_q (bT_q m18_q hb)
      (try clear hb)
      (try clear hb2)
      (try clear hk)
      (try clear hi)
      refine hK.out _ _ ⟨(bC_q BK177.out 0).trans rfl, (bC_q BK177.out 1).trans rfl, (bC_q BK177.out 2).trans rfl, (bC_q BK184.out 0).trans rfl, (bC_q BK184.out 1).trans rfl, (bC_q BK184.out 2).trans rfl, (bC_q BK184.out 3).trans rfl, (cel HB.out hw185_0)⟩ (fun hHeld => ?_)
      clear hK K
      refine nJ_q ?_
      refine done_ m8_q ?_
      try go_wp2
      go_roundg k2
      case measure => have := HJ3.out; have := HK2.out; omega
      case rel => exact ⟨(x7_2), (wrap64 (x23_2 + 1)), m4_q, H', ⟨by have := HJ3.out; have := HK2.out; omega⟩, ⟨rup HO_7.out⟩, ⟨bup BK177.out⟩, ⟨m18_q⟩⟩
     subst c21
     have H1 : (if x7_2.length < 17592186044416 then (impl_OutageHits.l0 k2 l1 (x7_2 ++ [x23_2]) l0 (l0.length : Int) (wrap64 (x23_2 + 1)) a2_0 a2_1 a2_2) else (none)) = some r := by rw [if_pos rfl] at H; exact H
     clear H
     have H := H1
     clear H1
     by_cases c22 : x7_2.length < 17592186044416
     rotate_left
     ·rw [if_neg c22] at H
      exact absurd H (by simp)
     rw [if_pos c22] at H
     have LMc22 := Ae_q c22
     clear c22
     obtain ⟨y187, hy187⟩ : ∃ y_ : List Int, y_ = (x7_2 ++ [x23_2]) := ⟨_, rfl⟩
     replace H : (impl_OutageHits.l0 k2 l1 y187 l0 (l0.length : Int) (wrap64 (x23_2 + 1)) a2_0 a2_1 a2_2) = some r := by first | (rw [hy187]; with_reducible exact H) | (have H2_ := (oS_q _ _).symm.trans H; rw [hy187]; with_reducible exact H2_) | (have H2_ := (oS_q _ _).symm.trans H; with_reducible exact H2_) | with_reducible exact H | (rw [hy187]; exact H) | exact H
     have Ny187 := Ae_q hy187
     clear hy187
     have H' := Ae_q H
     clear H
     have p183 : 0 ≤ (x23_2 : Int) := oD_q (by assumption)
     have q183 : x23_2 < (l0.length : Int) := oD_q (by assumption)
     obtain ⟨ad183, A183_3, c183_3, e183, hx183_0, hx183_1, hx183_2, hx183_3, hl183_3, hi183_3⟩ := at_T63 HR0.out x23_2 p183 q183
     cases e183
     replace hx183_0 := cel HB.out hx183_0
     replace hx183_1 := cel HB.out hx183_1
     replace hx183_2 := cel HB.out hx183_2
     replace hx183_3 := cel HB.out hx183_3
     have HR183_3 := Ae_q hi183_3
     have HC183_3 := Ae_q hl183_3
     clear hi183_3 hl183_3
     replace p183 := eq_true p183
     replace q183 := eq_true q183
     try go_wp2_with (first | ((with_reducible refine gD_q (N := 9) rfl ?_); refine bE_q ?hg (N := 9) ?hd (cs := #[.int .i64 0, .int .i64 0, .int .i64 0, .slice none 0 0]) (t := 63) ?hr ?_; (case hd => rfl); (case hg => rfl); (case hr => exact m9_q); intro gb184 hg w23 hbox hb; replace HO_7 := Ae_q (rO_q (rup HO_7.out) hb); have BK184 := Ae_q (hbox); have GW184 := Ae_q ((by rw [hg]; exact (bZ_q m12_q) : w.heap.size ≤ gb184)); have GE184 := Ae_q ((by rw [hg]; exact (bZ_q m12_q) : w.heap.size ≤ gb184)); replace HB := Ae_q (bT_q m12_q hb); have NB177_184 := Ae_q ((by rw [hg]; exact nL_q (blk_lt (g := gb177) (o := .cells #[.int .i64 a2_0, .int .i64 a2_1, .int .i64 a2_2] 31 (0, 0)) (bup BK177.out)) : gb177 ≠ gb184)); have NB184_177 := Ae_q ((by rw [hg]; exact nG_q (blk_lt (g := gb177) (o := .cells #[.int .i64 a2_0, .int .i64 a2_1, .int .i64 a2_2] 31 (0, 0)) (bup BK177.out)) : gb184 ≠ gb177)); replace BK177 := Ae_q (bB_q (g := gb177) (o := .cells #[.int .i64 a2_0, .int .i64 a2_1, .int .i64 a2_2] 31 (0, 0)) (bup BK177.out) hb); clear hb hbox hg; have hnb24 := NB184_177.out; have hnc24 := NB177_184.out; have hcz25_0 : cI w23 gb184 0 0 := cZ BK184 0 rfl; have hcz25_1 : cI w23 gb184 1 0 := cZ BK184 1 rfl; have hcz25_2 : cI w23 gb184 2 0 := cZ BK184 2 rfl; have hcz25_3 : w23.cell? ⟨gb184, 3, none⟩ = some (.slice none 0 0) := (bC_q BK184.out 3).trans rfl; have hfz25_0 := bF_q BK184.out 0; have hfz25_1 := bF_q BK184.out 1; have hfz25_2 := bF_q BK184.out 2; have hfz25_3 := bF_q BK184.out 3))
     have n0_ : Aside0 (Kd.R kI_q 3 ((((w23.setCell ⟨gb184, 0, none⟩ (.int .i64 ((rd_T63 l0 x23_2).f0))).setCell ⟨gb184, 1, none⟩ (.int .i64 ((rd_T63 l0 x23_2).f1))).setCell ⟨gb184, 2, none⟩ (.int .i64 ((rd_T63 l0 x23_2).f2))).setCell ⟨gb184, 3, none⟩ (.slice A183_3 ((rd_T63 l0 x23_2).f3).length c183_3)) w.heap.size (fun _ => True) u7 x7_2) := ⟨by (with_reducible repeat (first | apply rA_q | apply rN_q | apply rD_q)); exact rM_q (Kd.R_far (p := ⟨gb184, 3, none⟩) (Kd.R_far (p := ⟨gb184, 2, none⟩) (Kd.R_far (p := ⟨gb184, 1, none⟩) (Kd.R_far (p := ⟨gb184, 0, none⟩) (Kd.R_types HO_7.out BK184.out (by decide)) (fun _ hk => hk.2) (.int .i64 ((rd_T63 l0 x23_2).f0))) (fun _ hk => hk.2) (.int .i64 ((rd_T63 l0 x23_2).f1))) (fun _ hk => hk.2) (.int .i64 ((rd_T63 l0 x23_2).f2))) (fun _ hk => hk.2) (.slice A183_3 ((rd_T63 l0 x23_2).f3).length c183_3)) (fun _ hk => trivial)⟩
     have n1_ : Aside0 (((((w23.setCell ⟨gb184, 0, none⟩ (.int .i64 ((rd_T63 l0 x23_2).f0))).setCell ⟨gb184, 1, none⟩ (.int .i64 ((rd_T63 l0 x23_2).f1))).setCell ⟨gb184, 2, none⟩ (.int .i64 ((rd_T63 l0 x23_2).f2))).setCell ⟨gb184, 3, none⟩ (.slice A183_3 ((rd_T63 l0 x23_2).f3).length c183_3)).heap[gb177]? = some (.cells #[.int .i64 a2_0, .int .i64 a2_1, .int .i64 a2_2] 31 (0, 0))) := ⟨m15_q⟩
     have n2_ : Aside0 (((((w23.setCell ⟨gb184, 0, none⟩ (.int .i64 ((rd_T63 l0 x23_2).f0))).setCell ⟨gb184, 1, none⟩ (.int .i64 ((rd_T63 l0 x23_2).f1))).setCell ⟨gb184, 2, none⟩ (.int .i64 ((rd_T63 l0 x23_2).f2))).setCell ⟨gb184, 3, none⟩ (.slice A183_3 ((rd_T63 l0 x23_2).f3).length c183_3)).heap[gb184]? = some (.cells #[.int .i64 ((rd_T63 l0 x23_2).f0), .int .i64 ((rd_T63 l0 x23_2).f1), .int .i64 ((rd_T63 l0 x23_2).f2), .slice A183_3 ((rd_T63 l0 x23_2).f3).length c183_3] 63 (0, 0))) := ⟨m10_q⟩
     have n3_ : Aside0 (Below w.heap.size w ((((w23.setCell ⟨gb184, 0, none⟩ (.int .i64 ((rd_T63 l0 x23_2).f0))).setCell ⟨gb184, 1, none⟩ (.int .i64 ((rd_T63 l0 x23_2).f1))).setCell ⟨gb184, 2, none⟩ (.int .i64 ((rd_T63 l0 x23_2).f2))).setCell ⟨gb184, 3, none⟩ (.slice A183_3 ((rd_T63 l0 x23_2).f3).length c183_3))) := ⟨m18_q⟩
     (try clear HO_7)
     (try clear BK177)
     (try clear BK184)
     (try clear HB)
     generalize ((((w23.setCell ⟨gb184, 0, none⟩ (.int .i64 ((rd_T63 l0 x23_2).f0))).setCell ⟨gb184, 1, none⟩ (.int .i64 ((rd_T63 l0 x23_2).f1))).setCell ⟨gb184, 2, none⟩ (.int .i64 ((rd_T63 l0 x23_2).f2))).setCell ⟨gb184, 3, none⟩ (.slice A183_3 ((rd_T63 l0 x23_2).f3).length c183_3)) = w26 at n0_ n1_ n2_ n3_ ⊢
     have HO_7 := n0_
     have BK177 := n1_
     have BK184 := n2_
     have HB := n3_
     clear n0_ n1_ n2_ n3_
     replace HO_7 := Ae_q (rD_q HO_7.out)
     replace BK177 := Ae_q (bW_q BK177.out)
     replace BK184 := Ae_q (bW_q BK184.out)
     replace HB := Ae_q (bD_q HB.out)
     have p185 : 0 ≤ (x23_2 : Int) := oD_q (by assumption)
     have q185 : x23_2 < (l1.length : Int) := oD_q (by assumption)
     obtain ⟨ad185, e185, hx185_0⟩ := aI_q HR1.out x23_2 p185 q185
     have hw185_0 := hx185_0
     cases e185
     replace hx185_0 := cel HB.out hx185_0
     replace p185 := eq_true p185
     replace q185 := eq_true q185
     refine start_ (n := 7) (S := fun w' => w'.cell? ⟨gb177, 0, none⟩ = some (.int .i64 a2_0) ∧ w'.cell? ⟨gb177, 1, none⟩ = some (.int .i64 a2_1) ∧ w'.cell? ⟨gb177, 2, none⟩ = some (.int .i64 a2_2) ∧ w'.cell? ⟨gb184, 0, none⟩ = some (.int .i64 ((rd_T63 l0 x23_2).f0)) ∧ w'.cell? ⟨gb184, 1, none⟩ = some (.int .i64 ((rd_T63 l0 x23_2).f1)) ∧ w'.cell? ⟨gb184, 2, none⟩ = some (.int .i64 ((rd_T63 l0 x23_2).f2)) ∧ w'.cell? ⟨gb184, 3, none⟩ = some (.slice A183_3 ((rd_T63 l0 x23_2).f3).length c183_3) ∧ w'.cell? (ad185.add (x23_2).toNat) = some (.int .i64 (rd l1 x23_2))) (ds := []) #[false, false, false, false, false, false, false] m8_q rfl rfl ⟨(bC_q BK177.out 0).trans rfl, (bC_q BK177.out 1).trans rfl, (bC_q BK177.out 2).trans rfl, (bC_q BK184.out 0).trans rfl, (bC_q BK184.out 1).trans rfl, (bC_q BK184.out 2).trans rfl, (bC_q BK184.out 3).trans rfl, (cel HB.out hw185_0)⟩ (fun hHeld => ?_)
     generalize w26.drew = w27 at HO_7 BK177 BK184 HB hx185_0 hHeld ⊢
     refine pure_ (i := 2) (N := some 30) (v := ?_) (a' := ?_) #[false, false, true, false, false, false, false] rfl rfl m8_q (fun _ _ _ h => h) (Or.inl ⟨by rfl, ?_⟩) ?_ ?_
     rotate_left
     ·intro w'
      go_simp
      with_reducible rfl
     rotate_left
     ·simp only [pS_q]
      rfl
     refine pure_ (i := 3) (N := some 31) (v := ?_) (a' := ?_) #[false, false, true, true, false, false, false] rfl rfl m8_q (fun _ _ _ h => h) (Or.inl ⟨by rfl, ?_⟩) ?_ ?_
     rotate_left
     ·intro w'
      go_simp
      with_reducible rfl
     rotate_left
     ·simp only [pS_q]
      rfl
     refine pure_ (i := 4) (N := some 32) (v := ?_) (a' := ?_) #[false, false, true, true, true, false, false] rfl rfl m8_q (fun _ _ _ h => h) (Or.inl ⟨by rfl, ?_⟩) ?_ ?_
     rotate_left
     ·intro w'
      go_simp
      with_reducible rfl
     rotate_left
     ·simp only [pS_q]
      rfl
     refine take_ (i := 0) (N := some 28) (v := ?_) (a' := ?_) #[true, false, true, true, true, false, false] rfl rfl m8_q (fun _ _ _ h => h) (Or.inl ⟨by rfl, ?_⟩) hHeld ?_ ?_
     rotate_left
     ·rintro w' ⟨s0, s1, s2, s3, s4, s5, s6, s7⟩
      go_simp
      with_reducible rfl
     rotate_left
     ·simp only [pS_q]
      rfl
     refine take_ (i := 1) (N := some 29) (v := ?_) (a' := ?_) #[true, true, true, true, true, false, false] rfl rfl m8_q (fun _ _ _ h => h) (Or.inl ⟨by rfl, ?_⟩) hHeld ?_ ?_
     rotate_left
     ·rintro w' ⟨s0, s1, s2, s3, s4, s5, s6, s7⟩
      go_simp
      with_reducible rfl
     rotate_left
     ·simp only [pS_q]
      rfl
     refine take_ (i := 5) (N := some 33) (v := ?_) (a' := ?_) #[true, true, true, true, true, true, false] rfl rfl m8_q (fun _ _ _ h => h) (Or.inl ⟨by rfl, ?_⟩) hHeld ?_ ?_
     rotate_left
     ·rintro w' ⟨s0, s1, s2, s3, s4, s5, s6, s7⟩
      go_simp
      with_reducible rfl
     rotate_left
     ·simp only [pS_q]
      rfl
     refine one_ (i := 6) (N := some 34) #[true, true, true, true, true, true, true] rfl rfl m8_q (by decide) (fun K hK => ?_)
     refine goes_ Try.func40 m8_q rfl #[.agg #[.int .i64 a2_0, .int .i64 a2_1, .int .i64 a2_2], .agg #[.int .i64 ((rd_T63 l0 x23_2).f0), .int .i64 ((rd_T63 l0 x23_2).f1), .int .i64 ((rd_T63 l0 x23_2).f2), .slice A183_3 ((rd_T63 l0 x23_2).f3).length c183_3], .int .i64 (rd l1 x23_2)] (by rfl) rfl rfl m1_q ?_
     with_reducible refine (impl_Outage_disturbs.calls a2_0 a2_1 a2_2 ((rd_T63 l0 x23_2).f0) ((rd_T63 l0 x23_2).f1) ((rd_T63 l0 x23_2).f2) _ _ ((rd_T63 l0 x23_2).f3) (rd l1 x23_2) true _ ?side1 ?side2 A20.out).mono ?_
     (case side1 => exact cup (cB_q HR183_3.out HB.out))
     (case side2 => exact HC183_3.out)
     rintro e w' ⟨rfl, hb⟩
     refine ⟨_, rfl, ?_⟩
     replace HO_7 := Ae_q (rO_q (rup HO_7.out) hb)
     replace BK177 := Ae_q (bB_q (g := gb177) (o := .cells #[.int .i64 a2_0, .int .i64 a2_1, .int .i64 a2_2] 31 (0, 0)) (bup BK177.out) hb)
     replace BK184 := Ae_q (bB_q (g := gb184) (o := .cells #[.int .i64 ((rd_T63 l0 x23_2).f0), .int .i64 ((rd_T63 l0 x23_2).f1), .int .i64 ((rd_T63 l0 x23_2).f2), .slice A183_3 ((rd_T63 l0 x23_2).f3).length c183_3] 63 (0, 0)) (bup BK184.out) hb)
     replace HB := Ae_q (bT_q m18_q hb)
     (try clear hb)
     (try clear hb2)
     (try clear hk)
     (try clear hi)
     refine hK.out _ _ ⟨(bC_q BK177.out 0).trans rfl, (bC_q BK177.out 1).trans rfl, (bC_q BK177.out 2).trans rfl, (bC_q BK184.out 0).trans rfl, (bC_q BK184.out 1).trans rfl, (bC_q BK184.out 2).trans rfl, (bC_q BK184.out 3).trans rfl, (cel HB.out hw185_0)⟩ (fun hHeld => ?_)
     clear hK K
     refine nJ_q ?_
     refine done_ m8_q ?_
     try go_wp2_with (first | ((with_reducible refine gate_builtin (b := .append) (xs := #[.tmp 35, .tmp 37]) rfl ?_); at_builtin; refine Kd.R_append kI_q (w0 := w) w.heap.size rfl (.tmp 35) (.tmp 37) 23 3 (.int .i64 0) 8 rfl Try.underlying23 info3 rfl (by decide) (by omega) u7 x7_2 x23_2 [.int .i64 x23_2] (fun _ => True) (fun _ => False) rfl rfl ?aP (fun _ hk => hk.elim) ?aF ?aO ?aB ?aS ?aL ?_; (case aP => exact rfl); (case aB => exact m18_q); (case aF => exact (fun _ _ => trivial)); (case aO => exact (rup HO_7.out)); (case aS => exact (bZ_q m18_q)); (case aL => have := LMc22.out; omega); intro v188 w29 ho hb hg hat; rw [← Ny187.out] at ho; replace BK177 := Ae_q (bG_q (g := gb177) (o := .cells #[.int .i64 a2_0, .int .i64 a2_1, .int .i64 a2_2] 31 (0, 0)) (bup BK177.out) hg (Kd.R_ne HO_7.out BK177.out (by decide))); replace BK184 := Ae_q (bG_q (g := gb184) (o := .cells #[.int .i64 ((rd_T63 l0 x23_2).f0), .int .i64 ((rd_T63 l0 x23_2).f1), .int .i64 ((rd_T63 l0 x23_2).f2), .slice A183_3 ((rd_T63 l0 x23_2).f3).length c183_3] 63 (0, 0)) (bup BK184.out) hg (Kd.R_ne HO_7.out BK184.out (by decide))); replace HB := Ae_q (hb); have HO189 := Ae_q (ho); clear HO_7; clear ho hb hg hat))
     go_roundg k2
     case measure => have := HJ3.out; have := HK2.out; omega
     case rel => exact ⟨(y187), (wrap64 (x23_2 + 1)), m4_q, H', ⟨by have := HJ3.out; have := HK2.out; omega⟩, ⟨rup HO189.out⟩, ⟨bup BK177.out⟩, ⟨m18_q⟩⟩

def laws_eqIntS.l0 : Nat → List Int → List Int → Int → Option (Bool)
 | 0, _, _, _ => none
 | k + 1, x0, x1, x5 => if x5 < (x0.length : Int) then (if 0 ≤ x5 then (if x5 < (x1.length : Int) then (if (rd x0 x5) = (rd x1 x5) then (laws_eqIntS.l0 k x0 x1 (wrap64 (x5 + 1))) else (some false)) else (none)) else (none)) else (some true)
def laws_eqIntS.f (k : Nat) (l0 : List Int) (l1 : List Int) : Option (Bool) := if (l0.length : Int) = (l1.length : Int) then (laws_eqIntS.l0 k l0 l1 0) else (some false)
set_option maxHeartbeats 8000000 in
set_option maxRecDepth 100000 in
theorem laws_eqIntS.calls (k : Nat) (A0 : Option Addr) (c0 : Nat) (l0 : List Int) (A1 : Option Addr) (c1 : Nat) (l1 : List Int) (r : Bool) (w : World) (hr0 : Kd.C kI_q w A0 l0.length l0) (hc0 : l0.length ≤ c0) (hr1 : Kd.C kI_q w A1 l1.length l1) (hc1 : l1.length ≤ c1) (h : laws_eqIntS.f k l0 l1 = some r) :
    Calls Try.prog 16 #[.slice A0 l0.length c0, .slice A1 l1.length c1] w fun e w' => e = .returned (.bool r) ∧ Drawn0 w w' := by
 have HR0 := Ae_q hr0
 have HC0 := Ae_q hc0
 clear hr0 hc0
 have HR1 := Ae_q hr1
 have HC1 := Ae_q hc1
 clear hr1 hc1
 have H : (if (l0.length : Int) = (l1.length : Int) then (laws_eqIntS.l0 k l0 l1 0) else (some false)) = some r := h
 clear h
 by_cases c3 : (l0.length : Int) = (l1.length : Int)
 rotate_left
 ·rw [if_neg c3] at H
  have c3b0 : ((l0.length : Int) == (l1.length : Int)) = false := fN_q.mpr c3
  have c3b1 : ((l0.length : Int) != (l1.length : Int)) = true := nI_q.mpr c3
  have c3b2 : (l0.length == l1.length) = false := by first | simpa using c3 | (simp at c3 ⊢; omega)
  obtain rfl := oI_q H
  go_enter Try.func16, Try.ntmps16
  go_wp2
  repeat (go_quiet (fail); try go_wp2)
  go_ret
  exact ⟨m4_q, m23_q⟩
 rw [if_pos c3] at H
 have c3b0 : ((l0.length : Int) == (l1.length : Int)) = true := beq_iff_eq.mpr c3
 have c3b1 : ((l0.length : Int) != (l1.length : Int)) = false := nE_q.mpr c3
 have c3b2 : (l0.length == l1.length) = true := by first | simpa using c3 | (simp at c3 ⊢; omega)
 clear c3
 have H' := Ae_q H
 clear H
 go_enter Try.func16, Try.ntmps16
 go_wp2
 repeat (go_quiet (fail); try go_wp2)
 go_loopg [5] k (fun kq v5 w' => ∃ (x5_1 : Int), v5 = .int .i64 x5_1 ∧ Aside0 (laws_eqIntS.l0 kq l0 l1 x5_1 = some r) ∧ Aside0 (kq ≤ k) ∧ Drawn0 w w')
 case atStart => exact ⟨(0), m4_q, H', ⟨nR_q _⟩, m23_q⟩
 case round =>
  clear H'
  try clear c1
  try clear p2
  try clear c3
  try clear c3b0
  try clear c3b1
  try clear c3b2
  obtain ⟨x5_1, rfl, HA, HK1, ⟨m1, rfl⟩⟩ := hrel
  cases gk with
  | zero => exact absurd HA.out (by simp [laws_eqIntS.l0])
  | succ k1 =>
   have H := HA.out
   clear HA
   simp only [laws_eqIntS.l0] at H
   by_cases c4 : x5_1 < (l0.length : Int)
   rotate_left
   ·rw [if_neg c4] at H
    have c4b0 : decide (x5_1 < (l0.length : Int)) = false := dF_q c4
    clear c4
    obtain rfl := oI_q H
    go_wp2
    repeat (go_quiet (fail); try go_wp2)
    go_ret
    exact ⟨m4_q, m23_q⟩
   rw [if_pos c4] at H
   have c4b0 : decide (x5_1 < (l0.length : Int)) = true := dT_q c4
   clear c4
   by_cases c5 : 0 ≤ x5_1
   rotate_left
   ·rw [if_neg c5] at H
    exact absurd H (by simp)
   rw [if_pos c5] at H
   have c5b0 : decide (0 ≤ x5_1) = true := dT_q c5
   clear c5
   by_cases c6 : x5_1 < (l1.length : Int)
   rotate_left
   ·rw [if_neg c6] at H
    exact absurd H (by simp)
   rw [if_pos c6] at H
   have c6b0 : decide (x5_1 < (l1.length : Int)) = true := dT_q c6
   clear c6
   by_cases c7 : (rd l0 x5_1) = (rd l1 x5_1)
   rotate_left
   ·rw [if_neg c7] at H
    have c7b0 : ((rd l0 x5_1) == (rd l1 x5_1)) = false := fN_q.mpr c7
    have c7b1 : ((rd l0 x5_1) != (rd l1 x5_1)) = true := nI_q.mpr c7
    obtain rfl := oI_q H
    have p190 : 0 ≤ (x5_1 : Int) := oD_q (by assumption)
    have q190 : x5_1 < (l0.length : Int) := oD_q (by assumption)
    obtain ⟨ad190, e190, hx190_0⟩ := aI_q HR0.out x5_1 p190 q190
    cases e190
    replace p190 := eq_true p190
    replace q190 := eq_true q190
    have p191 : 0 ≤ (x5_1 : Int) := oD_q (by assumption)
    have q191 : x5_1 < (l1.length : Int) := oD_q (by assumption)
    obtain ⟨ad191, e191, hx191_0⟩ := aI_q HR1.out x5_1 p191 q191
    cases e191
    replace p191 := eq_true p191
    replace q191 := eq_true q191
    go_wp2
    repeat (go_quiet (fail); try go_wp2)
    go_ret
    exact ⟨m4_q, m23_q⟩
   rw [if_pos c7] at H
   have c7b0 : ((rd l0 x5_1) == (rd l1 x5_1)) = true := beq_iff_eq.mpr c7
   have c7b1 : ((rd l0 x5_1) != (rd l1 x5_1)) = false := nE_q.mpr c7
   clear c7
   have H' := Ae_q H
   clear H
   have p190 : 0 ≤ (x5_1 : Int) := oD_q (by assumption)
   have q190 : x5_1 < (l0.length : Int) := oD_q (by assumption)
   obtain ⟨ad190, e190, hx190_0⟩ := aI_q HR0.out x5_1 p190 q190
   cases e190
   replace p190 := eq_true p190
   replace q190 := eq_true q190
   have p191 : 0 ≤ (x5_1 : Int) := oD_q (by assumption)
   have q191 : x5_1 < (l1.length : Int) := oD_q (by assumption)
   obtain ⟨ad191, e191, hx191_0⟩ := aI_q HR1.out x5_1 p191 q191
   cases e191
   replace p191 := eq_true p191
   replace q191 := eq_true q191
   go_wp2
   repeat (go_quiet (fail); try go_wp2)
   go_roundg k1
   case measure => have := HK1.out; omega
   case rel => exact ⟨(wrap64 (x5_1 + 1)), m4_q, H', ⟨m53_q⟩, m23_q⟩

end Go.Proofs.Ytfnpiacmlahegaa.PRp
