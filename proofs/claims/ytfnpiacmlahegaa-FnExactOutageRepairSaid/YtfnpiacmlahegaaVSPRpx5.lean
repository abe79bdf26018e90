import Derived.Test.YtfnpiacmlahegaaVSPRpx0
import Derived.Test.YtfnpiacmlahegaaVSPRpx3
import Derived.Test.YtfnpiacmlahegaaVSPRpx4
namespace Go.Proofs.Ytfnpiacmlahegaa.PRp
open Go.RowKit Go.Proofs.YtfnpiacmlahegaaW.PrintWords Go.Proofs.YtfnpiacmlahegaaW.PrintLast Go.Proofs.YtfnpiacmlahegaaW.PrintMore
attribute [local go_sem] max2_int min2_int max_two min_two max_three min_three max_four min_four
set_option linter.unusedVariables false
set_option linter.unusedSimpArgs false

def impl_isStart.f (a0 : Int) : Option (Bool) := (impl_within.f a0 0 999).bind fun t169 => (some t169)
set_option maxHeartbeats 8000000 in
set_option maxRecDepth 100000 in
theorem impl_isStart.calls (a0 : Int) (r : Bool) (w : World) (h : impl_isStart.f a0 = some r) :
    Calls Try.prog 58 #[.int .i64 a0] w fun e w' => e = .returned (.bool r) ∧ Drawn0 w w' := by
 have H : ((impl_within.f a0 0 999).bind fun t169 => (some t169)) = some r := h
 clear h
 replace H := oB_q.mp H
 obtain ⟨t169, A20, H⟩ := H
 replace H : (some t169) = some r := H
 have A2 := Ae_q A20
 clear A20
 obtain rfl := oI_q H
 go_enter Try.func58, Try.ntmps58
 go_wp2_with (first | ((with_reducible refine gC_q (f := 63) rfl ?_); refine gL_q (some 4) rfl rfl Try.func63 m7_q rfl #[.int .i64 a0, .int .i64 0, .int .i64 999] rfl m1_q ?_; (with_reducible refine (impl_within.calls a0 0 999 t169 _ A2.out).mono ?_); rintro e w' ⟨rfl, ⟨nd, rfl⟩⟩; refine ⟨_, rfl, ?_⟩))
 go_ret
 exact ⟨m5_q, m37_q⟩

def impl_isTool.f (a0 : Int) : Option (Bool) := (impl_within.f a0 1 4).bind fun t170 => (some t170)
set_option maxHeartbeats 8000000 in
set_option maxRecDepth 100000 in
theorem impl_isTool.calls (a0 : Int) (r : Bool) (w : World) (h : impl_isTool.f a0 = some r) :
    Calls Try.prog 62 #[.int .i64 a0] w fun e w' => e = .returned (.bool r) ∧ Drawn0 w w' := by
 have H : ((impl_within.f a0 1 4).bind fun t170 => (some t170)) = some r := h
 clear h
 replace H := oB_q.mp H
 obtain ⟨t170, A20, H⟩ := H
 replace H : (some t170) = some r := H
 have A2 := Ae_q A20
 clear A20
 obtain rfl := oI_q H
 go_enter Try.func62, Try.ntmps62
 go_wp2_with (first | ((with_reducible refine gC_q (f := 63) rfl ?_); refine gL_q (some 4) rfl rfl Try.func63 m7_q rfl #[.int .i64 a0, .int .i64 1, .int .i64 4] rfl m1_q ?_; (with_reducible refine (impl_within.calls a0 1 4 t170 _ A2.out).mono ?_); rintro e w' ⟨rfl, ⟨nd, rfl⟩⟩; refine ⟨_, rfl, ?_⟩))
 go_ret
 exact ⟨m5_q, m37_q⟩

def impl_outageValid.f (a0_0 : Int) (a0_1 : Int) (a0_2 : Int) : Option (Bool) := (impl_isTool.f a0_0).bind fun t172 => (if t172 = true then ((impl_isStart.f a0_1).bind fun t173 => (if t173 = true then ((impl_within.f a0_2 a0_1 999).bind fun t174 => (some t174)) else (some false))) else (some false))
set_option maxHeartbeats 8000000 in
set_option maxRecDepth 100000 in
theorem impl_outageValid.calls (a0_0 : Int) (a0_1 : Int) (a0_2 : Int) (r : Bool) (w : World) (h : impl_outageValid.f a0_0 a0_1 a0_2 = some r) :
    Calls Try.prog 39 #[.agg #[.int .i64 a0_0, .int .i64 a0_1, .int .i64 a0_2]] w fun e w' => e = .returned (.bool r) ∧ Below w.heap.size w w' := by
 have hu31 := Try.underlying31
 have HB := Ae_q (bR_q w.heap.size w)
 have H : ((impl_isTool.f a0_0).bind fun t172 => (if t172 = true then ((impl_isStart.f a0_1).bind fun t173 => (if t173 = true then ((impl_within.f a0_2 a0_1 999).bind fun t174 => (some t174)) else (some false))) else (some false))) = some r := h
 clear h
 replace H := oB_q.mp H
 obtain ⟨t172, A20, H⟩ := H
 replace H : (if t172 = true then ((impl_isStart.f a0_1).bind fun t173 => (if t173 = true then ((impl_within.f a0_2 a0_1 999).bind fun t174 => (some t174)) else (some false))) else (some false)) = some r := H
 have A2 := Ae_q A20
 clear A20
 by_cases c3 : t172 = true
 rotate_left
 ·replace c3 := fM_q.mpr c3
  subst c3
  have H1 : (some false) = some r := by rw [if_neg (show ¬ (false = true) by decide)] at H; exact H
  clear H
  have H := H1
  clear H1
  obtain rfl := oI_q H
  go_enter Try.func39, Try.ntmps39
  go_wp2_with (first | ((with_reducible refine gD_q (N := 1) rfl ?_); refine bE_q ?hg (N := 1) ?hd (cs := #[.int .i64 a0_0, .int .i64 a0_1, .int .i64 a0_2]) (t := 31) ?hr ?_; (case hd => rfl); (case hg => rfl); (case hr => exact m6_q); intro gb171 hg w11 hbox hb; have BK171 := Ae_q (hbox); have GW171 := Ae_q ((by rw [hg]; exact (bZ_q (bel HB.out)) : w.heap.size ≤ gb171)); have GE171 := Ae_q ((by rw [hg]; exact (bZ_q (bel HB.out)) : w.heap.size ≤ gb171)); replace HB := Ae_q (bT_q (bel HB.out) hb); clear hb hbox hg; have hcz12_0 : cI w11 gb171 0 a0_0 := cZ BK171 0 rfl; have hcz12_1 : cI w11 gb171 1 a0_1 := cZ BK171 1 rfl; have hcz12_2 : cI w11 gb171 2 a0_2 := cZ BK171 2 rfl; have hfz12_0 := bF_q BK171.out 0; have hfz12_1 := bF_q BK171.out 1; have hfz12_2 := bF_q BK171.out 2) | ((with_reducible refine gC_q (f := 62) rfl ?_); refine gL_q (some 5) rfl rfl Try.func62 m7_q rfl #[.int .i64 a0_0] rfl m1_q ?_; (with_reducible refine (impl_isTool.calls a0_0 false _ A2.out).mono ?_); rintro e w' ⟨rfl, ⟨nd, rfl⟩⟩; refine ⟨_, rfl, ?_⟩))
  go_ret
  exact ⟨m4_q, m84_q⟩
 subst c3
 have H1 : ((impl_isStart.f a0_1).bind fun t173 => (if t173 = true then ((impl_within.f a0_2 a0_1 999).bind fun t174 => (some t174)) else (some false))) = some r := by rw [if_pos rfl] at H; exact H
 clear H
 have H := H1
 clear H1
 replace H := oB_q.mp H
 obtain ⟨t173, A40, H⟩ := H
 replace H : (if t173 = true then ((impl_within.f a0_2 a0_1 999).bind fun t174 => (some t174)) else (some false)) = some r := H
 have A4 := Ae_q A40
 clear A40
 by_cases c5 : t173 = true
 rotate_left
 ·replace c5 := fM_q.mpr c5
  subst c5
  have H1 : (some false) = some r := by rw [if_neg (show ¬ (false = true) by decide)] at H; exact H
  clear H
  have H := H1
  clear H1
  obtain rfl := oI_q H
  go_enter Try.func39, Try.ntmps39
  go_wp2_with (first | ((with_reducible refine gD_q (N := 1) rfl ?_); refine bE_q ?hg (N := 1) ?hd (cs := #[.int .i64 a0_0, .int .i64 a0_1, .int .i64 a0_2]) (t := 31) ?hr ?_; (case hd => rfl); (case hg => rfl); (case hr => exact m6_q); intro gb171 hg w9 hbox hb; have BK171 := Ae_q (hbox); have GW171 := Ae_q ((by rw [hg]; exact (bZ_q (bel HB.out)) : w.heap.size ≤ gb171)); have GE171 := Ae_q ((by rw [hg]; exact (bZ_q (bel HB.out)) : w.heap.size ≤ gb171)); replace HB := Ae_q (bT_q (bel HB.out) hb); clear hb hbox hg; have hcz10_0 : cI w9 gb171 0 a0_0 := cZ BK171 0 rfl; have hcz10_1 : cI w9 gb171 1 a0_1 := cZ BK171 1 rfl; have hcz10_2 : cI w9 gb171 2 a0_2 := cZ BK171 2 rfl; have hfz10_0 := bF_q BK171.out 0; have hfz10_1 := bF_q BK171.out 1; have hfz10_2 := bF_q BK171.out 2) | ((with_reducible refine gC_q (f := 62) rfl ?_); refine gL_q (some 5) rfl rfl Try.func62 m7_q rfl #[.int .i64 a0_0] rfl m1_q ?_; (with_reducible refine (impl_isTool.calls a0_0 true _ A2.out).mono ?_); rintro e w' ⟨rfl, ⟨nd, rfl⟩⟩; refine ⟨_, rfl, ?_⟩) | (go_at_call 58; (with_reducible refine (impl_isStart.calls a0_1 false _ A4.out).mono ?_); rintro e w' ⟨rfl, ⟨nd, rfl⟩⟩))
  go_ret
  exact ⟨m4_q, m84_q⟩
 subst c5
 have H1 : ((impl_within.f a0_2 a0_1 999).bind fun t174 => (some t174)) = some r := by rw [if_pos rfl] at H; exact H
 clear H
 have H := H1
 clear H1
 replace H := oB_q.mp H
 obtain ⟨t174, A60, H⟩ := H
 replace H : (some t174) = some r := H
 have A6 := Ae_q A60
 clear A60
 obtain rfl := oI_q H
 go_enter Try.func39, Try.ntmps39
 go_wp2_with (first | ((with_reducible refine gD_q (N := 1) rfl ?_); refine bE_q ?hg (N := 1) ?hd (cs := #[.int .i64 a0_0, .int .i64 a0_1, .int .i64 a0_2]) (t := 31) ?hr ?_; (case hd => rfl); (case hg => rfl); (case hr => exact m6_q); intro gb171 hg w7 hbox hb; have BK171 := Ae_q (hbox); have GW171 := Ae_q ((by rw [hg]; exact (bZ_q (bel HB.out)) : w.heap.size ≤ gb171)); have GE171 := Ae_q ((by rw [hg]; exact (bZ_q (bel HB.out)) : w.heap.size ≤ gb171)); replace HB := Ae_q (bT_q (bel HB.out) hb); clear hb hbox hg; have hcz8_0 : cI w7 gb171 0 a0_0 := cZ BK171 0 rfl; have hcz8_1 : cI w7 gb171 1 a0_1 := cZ BK171 1 rfl; have hcz8_2 : cI w7 gb171 2 a0_2 := cZ BK171 2 rfl; have hfz8_0 := bF_q BK171.out 0; have hfz8_1 := bF_q BK171.out 1; have hfz8_2 := bF_q BK171.out 2) | ((with_reducible refine gC_q (f := 62) rfl ?_); refine gL_q (some 5) rfl rfl Try.func62 m7_q rfl #[.int .i64 a0_0] rfl m1_q ?_; (with_reducible refine (impl_isTool.calls a0_0 true _ A2.out).mono ?_); rintro e w' ⟨rfl, ⟨nd, rfl⟩⟩; refine ⟨_, rfl, ?_⟩) | ((first | (go_at_call 58; (with_reducible refine (impl_isStart.calls a0_1 true _ A4.out).mono ?_)) | (go_at_call 63; (with_reducible refine (impl_within.calls a0_2 a0_1 999 t174 _ A6.out).mono ?_))); rintro e w' ⟨rfl, ⟨nd, rfl⟩⟩))
 go_ret
 exact ⟨m4_q, m84_q⟩

def impl_Outage_disturbs.f (a0_0 : Int) (a0_1 : Int) (a0_2 : Int) (a1_0 : Int) (a1_1 : Int) (a1_2 : Int) (l1_3 : List Int) (a2 : Int) : Option (Bool) := if a1_2 = a0_0 then (if a2 < a0_2 then (some (decide ((wrap64 (a2 + a1_0)) > a0_1))) else (some false)) else (some false)
set_option maxHeartbeats 8000000 in
set_option maxRecDepth 100000 in
theorem impl_Outage_disturbs.calls (a0_0 : Int) (a0_1 : Int) (a0_2 : Int) (a1_0 : Int) (a1_1 : Int) (a1_2 : Int) (A1_3 : Option Addr) (c1_3 : Nat) (l1_3 : List Int) (a2 : Int) (r : Bool) (w : World) (hr1_3 : Kd.C kI_q w A1_3 l1_3.length l1_3) (hc1_3 : l1_3.length ≤ c1_3) (h : impl_Outage_disturbs.f a0_0 a0_1 a0_2 a1_0 a1_1 a1_2 l1_3 a2 = some r) :
    Calls Try.prog 40 #[.agg #[.int .i64 a0_0, .int .i64 a0_1, .int .i64 a0_2], .agg #[.int .i64 a1_0, .int .i64 a1_1, .int .i64 a1_2, .slice A1_3 l1_3.length c1_3], .int .i64 a2] w fun e w' => e = .returned (.bool r) ∧ Below w.heap.size w w' := by
 have hu31 := Try.underlying31
 have hu63 := Try.underlying63
 have HR1_3 := Ae_q hr1_3
 have HC1_3 := Ae_q hc1_3
 clear hr1_3 hc1_3
 have HB := Ae_q (bR_q w.heap.size w)
 have H : (if a1_2 = a0_0 then (if a2 < a0_2 then (some (decide ((wrap64 (a2 + a1_0)) > a0_1))) else (some false)) else (some false)) = some r := h
 clear h
 by_cases c4 : a1_2 = a0_0
 rotate_left
 ·rw [if_neg c4] at H
  have c4b0 : (a1_2 == a0_0) = false := fN_q.mpr c4
  have c4b1 : (a1_2 != a0_0) = true := nI_q.mpr c4
  obtain rfl := oI_q H
  go_enter Try.func40, Try.ntmps40
  go_wp2_with (first | ((with_reducible refine gD_q (N := 3) rfl ?_); refine bE_q ?hg (N := 3) ?hd (cs := #[.int .i64 a0_0, .int .i64 a0_1, .int .i64 a0_2]) (t := 31) ?hr ?_; (case hd => rfl); (case hg => rfl); (case hr => exact m6_q); intro gb175 hg w' hbox hb; have BK175 := Ae_q (hbox); have GW175 := Ae_q ((by rw [hg]; exact (bZ_q (bel HB.out)) : w.heap.size ≤ gb175)); have GE175 := Ae_q ((by rw [hg]; exact (bZ_q (bel HB.out)) : w.heap.size ≤ gb175)); replace HB := Ae_q (bT_q (bel HB.out) hb); clear hb hbox hg) | ((with_reducible refine gD_q (N := 4) rfl ?_); refine bE_q ?hg (N := 4) ?hd (cs := #[.int .i64 a1_0, .int .i64 a1_1, .int .i64 a1_2, .slice A1_3 l1_3.length c1_3]) (t := 63) ?hr ?_; (case hd => rfl); (case hg => rfl); (case hr => exact m6_q); intro gb176 hg w17 hbox hb; have BK176 := Ae_q (hbox); have GW176 := Ae_q ((by rw [hg]; exact (bZ_q m33_q) : w.heap.size ≤ gb176)); have GE176 := Ae_q ((by rw [hg]; exact (bZ_q m33_q) : w.heap.size ≤ gb176)); replace HB := Ae_q (bT_q m33_q hb); have NB175_176 := Ae_q ((by rw [hg]; exact nL_q (blk_lt (g := gb175) (o := .cells #[.int .i64 a0_0, .int .i64 a0_1, .int .i64 a0_2] 31 (0, 0)) (bup BK175.out)) : gb175 ≠ gb176)); have NB176_175 := Ae_q ((by rw [hg]; exact nG_q (blk_lt (g := gb175) (o := .cells #[.int .i64 a0_0, .int .i64 a0_1, .int .i64 a0_2] 31 (0, 0)) (bup BK175.out)) : gb176 ≠ gb175)); replace BK175 := Ae_q (bB_q (g := gb175) (o := .cells #[.int .i64 a0_0, .int .i64 a0_1, .int .i64 a0_2] 31 (0, 0)) (bup BK175.out) hb); clear hb hbox hg; have hnb18 := NB176_175.out; have hnc18 := NB175_176.out; have hcz19_0 : cI w17 gb176 0 a1_0 := cZ BK176 0 rfl; have hcz19_1 : cI w17 gb176 1 a1_1 := cZ BK176 1 rfl; have hcz19_2 : cI w17 gb176 2 a1_2 := cZ BK176 2 rfl; have hcz19_3 : w17.cell? ⟨gb176, 3, none⟩ = some (.slice A1_3 l1_3.length c1_3) := (bC_q BK176.out 3).trans rfl; have hfz19_0 := bF_q BK176.out 0; have hfz19_1 := bF_q BK176.out 1; have hfz19_2 := bF_q BK176.out 2; have hfz19_3 := bF_q BK176.out 3; have hcz20_0 : cI w17 gb175 0 a0_0 := cZ BK175 0 rfl; have hcz20_1 : cI w17 gb175 1 a0_1 := cZ BK175 1 rfl; have hcz20_2 : cI w17 gb175 2 a0_2 := cZ BK175 2 rfl; have hfz20_0 := bF_q BK175.out 0; have hfz20_1 := bF_q BK175.out 1; have hfz20_2 := bF_q BK175.out 2))
  go_ret
  exact ⟨m4_q, m68_q⟩
 rw [if_pos c4] at H
 have c4b0 : (a1_2 == a0_0) = true := beq_iff_eq.mpr c4
 have c4b1 : (a1_2 != a0_0) = false := nE_q.mpr c4
 clear c4
 by_cases c5 : a2 < a0_2
 ·rw [if_pos c5] at H
  have c5b0 : decide (a2 < a0_2) = true := dT_q c5
  clear c5
  obtain rfl := oI_q H
  go_enter Try.func40, Try.ntmps40
  go_wp2_with (first | ((with_reducible refine gD_q (N := 3) rfl ?_); refine bE_q ?hg (N := 3) ?hd (cs := #[.int .i64 a0_0, .int .i64 a0_1, .int .i64 a0_2]) (t := 31) ?hr ?_; (case hd => rfl); (case hg => rfl); (case hr => exact m6_q); intro gb175 hg w' hbox hb; have BK175 := Ae_q (hbox); have GW175 := Ae_q ((by rw [hg]; exact (bZ_q (bel HB.out)) : w.heap.size ≤ gb175)); have GE175 := Ae_q ((by rw [hg]; exact (bZ_q (bel HB.out)) : w.heap.size ≤ gb175)); replace HB := Ae_q (bT_q (bel HB.out) hb); clear hb hbox hg) | ((with_reducible refine gD_q (N := 4) rfl ?_); refine bE_q ?hg (N := 4) ?hd (cs := #[.int .i64 a1_0, .int .i64 a1_1, .int .i64 a1_2, .slice A1_3 l1_3.length c1_3]) (t := 63) ?hr ?_; (case hd => rfl); (case hg => rfl); (case hr => exact m6_q); intro gb176 hg w7 hbox hb; have BK176 := Ae_q (hbox); have GW176 := Ae_q ((by rw [hg]; exact (bZ_q m33_q) : w.heap.size ≤ gb176)); have GE176 := Ae_q ((by rw [hg]; exact (bZ_q m33_q) : w.heap.size ≤ gb176)); replace HB := Ae_q (bT_q m33_q hb); have NB175_176 := Ae_q ((by rw [hg]; exact nL_q (blk_lt (g := gb175) (o := .cells #[.int .i64 a0_0, .int .i64 a0_1, .int .i64 a0_2] 31 (0, 0)) (bup BK175.out)) : gb175 ≠ gb176)); have NB176_175 := Ae_q ((by rw [hg]; exact nG_q (blk_lt (g := gb175) (o := .cells #[.int .i64 a0_0, .int .i64 a0_1, .int .i64 a0_2] 31 (0, 0)) (bup BK175.out)) : gb176 ≠ gb175)); replace BK175 := Ae_q (bB_q (g := gb175) (o := .cells #[.int .i64 a0_0, .int .i64 a0_1, .int .i64 a0_2] 31 (0, 0)) (bup BK175.out) hb); clear hb hbox hg; have hnb8 := NB176_175.out; have hnc8 := NB175_176.out; have hcz9_0 : cI w7 gb176 0 a1_0 := cZ BK176 0 rfl; have hcz9_1 : cI w7 gb176 1 a1_1 := cZ BK176 1 rfl; have hcz9_2 : cI w7 gb176 2 a1_2 := cZ BK176 2 rfl; have hcz9_3 : w7.cell? ⟨gb176, 3, none⟩ = some (.slice A1_3 l1_3.length c1_3) := (bC_q BK176.out 3).trans rfl; have hfz9_0 := bF_q BK176.out 0; have hfz9_1 := bF_q BK176.out 1; have hfz9_2 := bF_q BK176.out 2; have hfz9_3 := bF_q BK176.out 3; have hcz10_0 : cI w7 gb175 0 a0_0 := cZ BK175 0 rfl; have hcz10_1 : cI w7 gb175 1 a0_1 := cZ BK175 1 rfl; have hcz10_2 : cI w7 gb175 2 a0_2 := cZ BK175 2 rfl; have hfz10_0 := bF_q BK175.out 0; have hfz10_1 := bF_q BK175.out 1; have hfz10_2 := bF_q BK175.out 2))
  go_ret
  exact ⟨m4_q, m68_q⟩
 rw [if_neg c5] at H
 have c5b0 : decide (a2 < a0_2) = false := dF_q c5
 clear c5
 obtain rfl := oI_q H
 go_enter Try.func40, Try.ntmps40
 go_wp2_with (first | ((with_reducible refine gD_q (N := 3) rfl ?_); refine bE_q ?hg (N := 3) ?hd (cs := #[.int .i64 a0_0, .int .i64 a0_1, .int .i64 a0_2]) (t := 31) ?hr ?_; (case hd => rfl); (case hg => rfl); (case hr => exact m6_q); intro gb175 hg w11 hbox hb; have BK175 := Ae_q (hbox); have GW175 := Ae_q ((by rw [hg]; exact (bZ_q (bel HB.out)) : w.heap.size ≤ gb175)); have GE175 := Ae_q ((by rw [hg]; exact (bZ_q (bel HB.out)) : w.heap.size ≤ gb175)); replace HB := Ae_q (bT_q (bel HB.out) hb); clear hb hbox hg) | ((with_reducible refine gD_q (N := 4) rfl ?_); refine bE_q ?hg (N := 4) ?hd (cs := #[.int .i64 a1_0, .int .i64 a1_1, .int .i64 a1_2, .slice A1_3 l1_3.length c1_3]) (t := 63) ?hr ?_; (case hd => rfl); (case hg => rfl); (case hr => exact m6_q); intro gb176 hg w12 hbox hb; have BK176 := Ae_q (hbox); have GW176 := Ae_q ((by rw [hg]; exact (bZ_q m33_q) : w.heap.size ≤ gb176)); have GE176 := Ae_q ((by rw [hg]; exact (bZ_q m33_q) : w.heap.size ≤ gb176)); replace HB := Ae_q (bT_q m33_q hb); have NB175_176 := Ae_q ((by rw [hg]; exact nL_q (blk_lt (g := gb175) (o := .cells #[.int .i64 a0_0, .int .i64 a0_1, .int .i64 a0_2] 31 (0, 0)) (bup BK175.out)) : gb175 ≠ gb176)); have NB176_175 := Ae_q ((by rw [hg]; exact nG_q (blk_lt (g := gb175) (o := .cells #[.int .i64 a0_0, .int .i64 a0_1, .int .i64 a0_2] 31 (0, 0)) (bup BK175.out)) : gb176 ≠ gb175)); replace BK175 := Ae_q (bB_q (g := gb175) (o := .cells #[.int .i64 a0_0, .int .i64 a0_1, .int .i64 a0_2] 31 (0, 0)) (bup BK175.out) hb); clear hb hbox hg; have hnb13 := NB176_175.out; have hnc13 := NB175_176.out; have hcz14_0 : cI w12 gb176 0 a1_0 := cZ BK176 0 rfl; have hcz14_1 : cI w12 gb176 1 a1_1 := cZ BK176 1 rfl; have hcz14_2 : cI w12 gb176 2 a1_2 := cZ BK176 2 rfl; have hcz14_3 : w12.cell? ⟨gb176, 3, none⟩ = some (.slice A1_3 l1_3.length c1_3) := (bC_q BK176.out 3).trans rfl; have hfz14_0 := bF_q BK176.out 0; have hfz14_1 := bF_q BK176.out 1; have hfz14_2 := bF_q BK176.out 2; have hfz14_3 := bF_q BK176.out 3; have hcz15_0 : cI w12 gb175 0 a0_0 := cZ BK175 0 rfl; have hcz15_1 : cI w12 gb175 1 a0_1 := cZ BK175 1 rfl; have hcz15_2 : cI w12 gb175 2 a0_2 := cZ BK175 2 rfl; have hfz15_0 := bF_q BK175.out 0; have hfz15_1 := bF_q BK175.out 1; have hfz15_2 := bF_q BK175.out 2))
 go_ret
 exact ⟨m4_q, m68_q⟩

def laws_eqIntS.l0 : Nat → List Int → List Int → Int → Option (Bool)
 | 0, _, _, _ => none
 | k + 1, x0, x1, x5 => if x5 < (x0.length : Int) then (if 0 ≤ x5 then (if x5 < (x1.length : Int) then (if (rd x0 x5) = (rd x1 x5) then (laws_eqIntS.l0 k x0 x1 (wrap64 (x5 + 1))) else (some false)) else (none)) else (none)) else (some true)
def laws_eqIntS.f (k : Nat) (l0 : List Int) (l1 : List Int) : Option (Bool) := if (l0.length : Int) = (l1.length : Int) then (laws_eqIntS.l0 k l0 l1 0) else (some false)
set_option maxHeartbeats 8000000 in
set_option maxRecDepth 100000 in
theorem laws_eqIntS.calls (k : Nat) (A0 : Option Addr) (c0 : Nat) (l0 : List Int) (A1 : Option Addr) (c1 : Nat) (l1 : List Int) (r : Bool) (w : World) (hr0 : Kd.C kI_q w A0 l0.length l0) (hc0 : l0.length ≤ c0) (hr1 : Kd.C kI_q w A1 l1.length l1) (hc1 : l1.length ≤ c1) (h : laws_eqIntS.f k l0 l1 = some r) :
    Calls Try.prog 16 #[.slice A0 l0.length c0, .slice A1 l1.length c1] w fun e w' => e = .returned (.bool r) ∧ Drawn0 w w' := by
 have HR0 := Ae_q hr0
 have HC0 := Ae_q hc0
 clear hr0 hc0
 have HR1 := Ae_q hr1
 have HC1 := Ae_q hc1
 clear hr1 hc1
 have H : (if (l0.length : Int) = (l1.length : Int) then (laws_eqIntS.l0 k l0 l1 0) else (some false)) = some r := h
 clear h
 by_cases c3 : (l0.length : Int) = (l1.length : Int)
 rotate_left
 ·rw [if_neg c3] at H
  have c3b0 : ((l0.length : Int) == (l1.length : Int)) = false := fN_q.mpr c3
  have c3b1 : ((l0.length : Int) != (l1.length : Int)) = true := nI_q.mpr c3
  have c3b2 : (l0.length == l1.length) = false := by first | simpa using c3 | (simp at c3 ⊢; omega)
  obtain rfl := oI_q H
  go_enter Try.func16, Try.ntmps16
  go_wp2
  repeat (go_quiet (fail); try go_wp2)
  go_ret
  exact ⟨m5_q, m37_q⟩
 rw [if_pos c3] at H
 have c3b0 : ((l0.length : Int) == (l1.length : Int)) = true := beq_iff_eq.mpr c3
 have c3b1 : ((l0.length : Int) != (l1.length : Int)) = false := nE_q.mpr c3
 have c3b2 : (l0.length == l1.length) = true := by first | simpa using c3 | (simp at c3 ⊢; omega)
 clear c3
 have H' := Ae_q H
 clear H
 go_enter Try.func16, Try.ntmps16
 go_wp2
 repeat (go_quiet (fail); try go_wp2)
 go_loopg [5] k (fun kq v5 w' => ∃ (x5_1 : Int), v5 = .int .i64 x5_1 ∧ Aside0 (laws_eqIntS.l0 kq l0 l1 x5_1 = some r) ∧ Aside0 (kq ≤ k) ∧ Drawn0 w w')
 case atStart => exact ⟨(0), m5_q, H', ⟨nR_q _⟩, m37_q⟩
 case round =>
  clear H'
  try clear c1
  try clear p2
  try clear c3
  try clear c3b0
  try clear c3b1
  try clear c3b2
  obtain ⟨x5_1, rfl, HA, HK1, ⟨m1, rfl⟩⟩ := hrel
  cases gk with
  | zero => exact absurd HA.out (by simp [laws_eqIntS.l0])
  | succ k1 =>
   have H := HA.out
   clear HA
   simp only [laws_eqIntS.l0] at H
   by_cases c4 : x5_1 < (l0.length : Int)
   rotate_left
   ·rw [if_neg c4] at H
    have c4b0 : decide (x5_1 < (l0.length : Int)) = false := dF_q c4
    clear c4
    obtain rfl := oI_q H
    go_wp2
    repeat (go_quiet (fail); try go_wp2)
    go_ret
    exact ⟨m5_q, m37_q⟩
   rw [if_pos c4] at H
   have c4b0 : decide (x5_1 < (l0.length : Int)) = true := dT_q c4
   clear c4
   by_cases c5 : 0 ≤ x5_1
   rotate_left
   ·rw [if_neg c5] at H
    exact absurd H (by simp)
   rw [if_pos c5] at H
   have c5b0 : decide (0 ≤ x5_1) = true := dT_q c5
   clear c5
   by_cases c6 : x5_1 < (l1.length : Int)
   rotate_left
   ·rw [if_neg c6] at H
    exact absurd H (by simp)
   rw [if_pos c6] at H
   have c6b0 : decide (x5_1 < (l1.length : Int)) = true := dT_q c6
   clear c6
   by_cases c7 : (rd l0 x5_1) = (rd l1 x5_1)
   rotate_left
   ·rw [if_neg c7] at H
    have c7b0 : ((rd l0 x5_1) == (rd l1 x5_1)) = false := fN_q.mpr c7
    have c7b1 : ((rd l0 x5_1) != (rd l1 x5_1)) = true := nI_q.mpr c7
    obtain rfl := oI_q H
    have p190 : 0 ≤ (x5_1 : Int) := oD_q (by assumption)
    have q190 : x5_1 < (l0.length : Int) := oD_q (by assumption)
    obtain ⟨ad190, e190, hx190_0⟩ := aI_q HR0.out x5_1 p190 q190
    cases e190
    replace p190 := eq_true p190
    replace q190 := eq_true q190
    have p191 : 0 ≤ (x5_1 : Int) := oD_q (by assumption)
    have q191 : x5_1 < (l1.length : Int) := oD_q (by assumption)
    obtain ⟨ad191, e191, hx191_0⟩ := aI_q HR1.out x5_1 p191 q191
    cases e191
    replace p191 := eq_true p191
    replace q191 := eq_true q191
    go_wp2
    repeat (go_quiet (fail); try go_wp2)
    go_ret
    exact ⟨m5_q, m37_q⟩
   rw [if_pos c7] at H
   have c7b0 : ((rd l0 x5_1) == (rd l1 x5_1)) = true := beq_iff_eq.mpr c7
   have c7b1 : ((rd l0 x5_1) != (rd l1 x5_1)) = false := nE_q.mpr c7
   clear c7
   have H' := Ae_q H
   clear H
   have p190 : 0 ≤ (x5_1 : Int) := oD_q (by assumption)
   have q190 : x5_1 < (l0.length : Int) := oD_q (by assumption)
   obtain ⟨ad190, e190, hx190_0⟩ := aI_q HR0.out x5_1 p190 q190
   cases e190
   replace p190 := eq_true p190
   replace q190 := eq_true q190
   have p191 : 0 ≤ (x5_1 : Int) := oD_q (by assumption)
   have q191 : x5_1 < (l1.length : Int) := oD_q (by assumption)
   obtain ⟨ad191, e191, hx191_0⟩ := aI_q HR1.out x5_1 p191 q191
   cases e191
   replace p191 := eq_true p191
   replace q191 := eq_true q191
   go_wp2
   repeat (go_quiet (fail); try go_wp2)
   go_roundg k1
   case measure => have := HK1.out; omega
   case rel => exact ⟨(wrap64 (x5_1 + 1)), m5_q, H', ⟨m74_q⟩, m37_q⟩

end Go.Proofs.Ytfnpiacmlahegaa.PRp
