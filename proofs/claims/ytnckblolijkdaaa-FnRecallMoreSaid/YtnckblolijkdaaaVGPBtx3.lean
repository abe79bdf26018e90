import Derived.Test.YtnckblolijkdaaaVGPBtx0
import Derived.Test.YtnckblolijkdaaaVGPBtx1
import Derived.Test.YtnckblolijkdaaaVGPBtx2
namespace Go.Proofs.Ytnckblolijkdaaa.PBt
open Go.RowKit Go.Proofs.YtnckblolijkdaaaW.PrintWords Go.Proofs.YtnckblolijkdaaaW.PrintLast Go.Proofs.YtnckblolijkdaaaW.PrintMore
attribute [local go_sem] max2_int min2_int max_two min_two max_three min_three max_four min_four
set_option linter.unusedVariables false
set_option linter.unusedSimpArgs false

def spec_l6Open.f (l0 : List Int) : Option (List Int × Int) := if (l0.length : Int) > 2000 then (if 2000 ≤ (l0.length : Int) then (some (l0.take 2000, 0)) else (none)) else (some (l0, 0))
set_option maxHeartbeats 8000000 in
set_option maxRecDepth 100000 in
theorem spec_l6Open.calls (A0 : Option Addr) (c0 : Nat) (l0 : List Int) (r1 : List Int) (r2 : Int) (w0 w : World) (hB : Below w0.heap.size w0 w) (hr0 : Kd.C (Kd.int .u8) w0 A0 l0.length l0) (hc0 : l0.length ≤ c0) (h : spec_l6Open.f l0 = some (r1, r2)) :
    Calls Try.prog 43 #[.slice A0 l0.length c0] w fun e w' => ∃ g_ : Nat, e = .returned (.pointer (some ⟨g_, 0, none⟩)) ∧ IsS82 w0 w' g_ r1 r2 ∧ Below w0.heap.size w0 w' ∧ Below w.heap.size w w' := by
 have hu82 := Try.underlying82
 have HR0 := Ae_q hr0
 have HC0 := Ae_q hc0
 clear hr0 hc0
 have HBW := Ae_q (bR_q w.heap.size w)
 have HW0 := Ae_q hB.size
 have HB := Ae_q hB
 clear hB
 have H : (if (l0.length : Int) > 2000 then (if 2000 ≤ (l0.length : Int) then (some (l0.take 2000, 0)) else (none)) else (some (l0, 0))) = some (r1, r2) := h
 clear h
 by_cases c2 : (l0.length : Int) > 2000
 rotate_left
 ·rw [if_neg c2] at H
  have c2b0 : decide (2000 < (l0.length : Int)) = false := dF_q c2
  have c2b1 : decide (2000 < l0.length) = false := dF_q (by omega)
  clear c2
  simp only [oE_q, pE_q] at H
  obtain ⟨rfl, rfl⟩ := H
  go_enter Try.func43, Try.ntmps43
  go_wp2_with (first | ((with_reducible refine gD_q (N := 10) rfl ?_); refine bE_q ?hg (N := 10) ?hd (cs := #[.slice A0 l0.length c0, .int .i64 0]) (t := 82) ?hr ?_; (case hd => rfl); (case hg => rfl); (case hr => exact m11_q); intro gb106 hg w' hbox hb; replace HB := Ae_q (bT_q (bel HB.out) hb); have BK106 := Ae_q (hbox); have GW106 := Ae_q ((by rw [hg]; exact (bZ_q m29_q) : w.heap.size ≤ gb106)); have GE106 := Ae_q ((nT_q HW0.out (by rw [hg]; exact (bZ_q m29_q) : w.heap.size ≤ gb106) : w0.heap.size ≤ gb106)); replace HBW := Ae_q (bT_q HBW.out hb); clear hb hbox hg))
  go_ret
  exact ⟨_, rfl, (show IsS82 w0 _ gb106 l0 0 from ⟨_, _, bup BK106.out, GE106.out, HR0.out⟩), by repeat (with_reducible first | exact HB.out | apply bA_q | apply pB_q | apply bD_q | refine bS_q ?_ GE106.out), by repeat (with_reducible first | exact HBW.out | apply bA_q | apply pB_q | apply bD_q | refine bS_q ?_ GW106.out)⟩
 rw [if_pos c2] at H
 have c2b0 : decide (2000 < (l0.length : Int)) = true := dT_q c2
 have c2b1 : decide (2000 < l0.length) = true := dT_q (by omega)
 clear c2
 by_cases c3 : 2000 ≤ (l0.length : Int)
 rotate_left
 ·rw [if_neg c3] at H
  exact absurd H (by simp)
 rw [if_pos c3] at H
 have c3b0 := eq_true c3
 have c3b1 : decide (2000 ≤ (l0.length : Int)) = true := dT_q c3
 clear c3
 simp only [oE_q, pE_q] at H
 obtain ⟨rfl, rfl⟩ := H
 obtain ⟨i04, hi04, _, hsz4, _⟩ := info_parts info5
 obtain ⟨hcut4, hA4, hC4⟩ := print_take_of (P := Try.prog) (Value.int .u8) 0 22 5 .i64 Try.underlying22 hi04 hsz4 A0 c0 l0 2000 (by omega) (oD_q (by assumption)) HC0.out
 have HR104 := Ae_q (Kd.C_of_reads (h1 := fun _ => rfl) (hA4 _ (Kd.reads_of_C HR0.out)))
 have HC104 := Ae_q hC4
 clear hA4 hC4 hi04 hsz4
 go_enter Try.func43, Try.ntmps43
 go_wp2_with (first | ((with_reducible refine gD_q (N := 10) rfl ?_); refine bE_q ?hg (N := 10) ?hd (cs := #[.slice A0 (l0.take 2000).length c0, .int .i64 0]) (t := 82) ?hr ?_; (case hd => rfl); (case hg => rfl); (case hr => exact m11_q); intro gb105 hg w' hbox hb; replace HB := Ae_q (bT_q (bel HB.out) hb); have BK105 := Ae_q (hbox); have GW105 := Ae_q ((by rw [hg]; exact (bZ_q m29_q) : w.heap.size ≤ gb105)); have GE105 := Ae_q ((nT_q HW0.out (by rw [hg]; exact (bZ_q m29_q) : w.heap.size ≤ gb105) : w0.heap.size ≤ gb105)); replace HBW := Ae_q (bT_q HBW.out hb); clear hb hbox hg))
 go_ret
 exact ⟨_, rfl, (show IsS82 w0 _ gb105 (l0.take 2000) 0 from ⟨_, _, bup BK105.out, GE105.out, HR104.out⟩), by repeat (with_reducible first | exact HB.out | apply bA_q | apply pB_q | apply bD_q | refine bS_q ?_ GE105.out), by repeat (with_reducible first | exact HBW.out | apply bA_q | apply pB_q | apply bD_q | refine bS_q ?_ GW105.out)⟩

def impl_within.f (a0 : Int) (a1 : Int) (a2 : Int) : Option (Bool) := if a0 ≥ a1 then (some (decide (a0 ≤ a2))) else (some false)
set_option maxHeartbeats 8000000 in
set_option maxRecDepth 100000 in
theorem impl_within.calls (a0 : Int) (a1 : Int) (a2 : Int) (r : Bool) (w : World) (h : impl_within.f a0 a1 a2 = some r) :
    Calls Try.prog 47 #[.int .i64 a0, .int .i64 a1, .int .i64 a2] w fun e w' => e = .returned (.bool r) ∧ Drawn0 w w' := by
 have H : (if a0 ≥ a1 then (some (decide (a0 ≤ a2))) else (some false)) = some r := h
 clear h
 by_cases c4 : a0 ≥ a1
 ·rw [if_pos c4] at H
  have c4b0 : decide (a1 ≤ a0) = true := dT_q c4
  clear c4
  obtain rfl := oI_q H
  go_enter Try.func47, Try.ntmps47
  go_wp2
  go_ret
  exact ⟨m5_q, m8_q⟩
 rw [if_neg c4] at H
 have c4b0 : decide (a1 ≤ a0) = false := dF_q c4
 clear c4
 obtain rfl := oI_q H
 go_enter Try.func47, Try.ntmps47
 go_wp2
 go_ret
 exact ⟨m5_q, m8_q⟩

def impl_isId.f (a0 : Int) : Option (Bool) := (impl_within.f a0 1 20).bind fun t114 => (some t114)
set_option maxHeartbeats 8000000 in
set_option maxRecDepth 100000 in
theorem impl_isId.calls (a0 : Int) (r : Bool) (w : World) (h : impl_isId.f a0 = some r) :
    Calls Try.prog 44 #[.int .i64 a0] w fun e w' => e = .returned (.bool r) ∧ Drawn0 w w' := by
 have H : ((impl_within.f a0 1 20).bind fun t114 => (some t114)) = some r := h
 clear h
 replace H := oB_q.mp H
 obtain ⟨t114, A20, H⟩ := H
 replace H : (some t114) = some r := H
 have A2 := Ae_q A20
 clear A20
 obtain rfl := oI_q H
 go_enter Try.func44, Try.ntmps44
 go_wp2_with (first | ((with_reducible refine gC_q (f := 47) rfl ?_); refine gL_q (some 4) rfl rfl Try.func47 m9_q rfl #[.int .i64 a0, .int .i64 1, .int .i64 20] rfl m0_q ?_; (with_reducible refine (impl_within.calls a0 1 20 t114 _ A2.out).mono ?_); rintro e w' ⟨rfl, ⟨nd, rfl⟩⟩; refine ⟨_, rfl, ?_⟩))
 go_ret
 exact ⟨m5_q, m8_q⟩

def impl_idsAscend.l0 : Nat → List Int → List Int → Int → Int → Option (Bool)
 | 0, _, _, _, _ => none
 | k + 1, x0, x5, x6, x7 => if x7 < x6 then (if 0 ≤ x7 then (if x7 < (x5.length : Int) then ((impl_isId.f (rd x5 x7)).bind fun t116 => (if t116 = true then (if x7 > 0 then (if 0 ≤ (wrap64 (x7 - 1)) then (if (wrap64 (x7 - 1)) < (x0.length : Int) then (if (rd x0 (wrap64 (x7 - 1))) ≥ (rd x5 x7) then (some false) else (impl_idsAscend.l0 k x0 x5 x6 (wrap64 (x7 + 1)))) else (none)) else (none)) else (impl_idsAscend.l0 k x0 x5 x6 (wrap64 (x7 + 1)))) else (some false))) else (none)) else (none)) else (some true)
def impl_idsAscend.f (k : Nat) (l0 : List Int) : Option (Bool) := impl_idsAscend.l0 k l0 l0 (l0.length : Int) 0
set_option maxHeartbeats 8000000 in
set_option maxRecDepth 100000 in
theorem impl_idsAscend.calls (k : Nat) (A0 : Option Addr) (c0 : Nat) (l0 : List Int) (r : Bool) (w : World) (hr0 : Kd.C kI_q w A0 l0.length l0) (hc0 : l0.length ≤ c0) (h : impl_idsAscend.f k l0 = some r) :
    Calls Try.prog 45 #[.slice A0 l0.length c0] w fun e w' => e = .returned (.bool r) ∧ Drawn0 w w' := by
 have HR0 := Ae_q hr0
 have HC0 := Ae_q hc0
 clear hr0 hc0
 have H : (impl_idsAscend.l0 k l0 l0 (l0.length : Int) 0) = some r := h
 clear h
 have H' := Ae_q H
 clear H
 go_enter Try.func45, Try.ntmps45
 go_wp2
 go_loopg [7] k (fun kq v7 w' => ∃ (x7_1 : Int), v7 = .int .i64 x7_1 ∧ Aside0 (impl_idsAscend.l0 kq l0 l0 (l0.length : Int) x7_1 = some r) ∧ Aside0 (kq ≤ k) ∧ Drawn0 w w')
 case atStart => exact ⟨(0), m5_q, H', ⟨nR_q _⟩, m8_q⟩
 case round =>
  clear H'
  obtain ⟨x7_1, rfl, HA, HK1, ⟨m1, rfl⟩⟩ := hrel
  cases gk with
  | zero => exact absurd HA.out (by simp [impl_idsAscend.l0])
  | succ k1 =>
   have H := HA.out
   clear HA
   simp only [impl_idsAscend.l0] at H
   by_cases c2 : x7_1 < (l0.length : Int)
   rotate_left
   ·rw [if_neg c2] at H
    have c2b0 : decide (x7_1 < (l0.length : Int)) = false := dF_q c2
    clear c2
    obtain rfl := oI_q H
    go_wp2
    go_ret
    exact ⟨m5_q, m8_q⟩
   rw [if_pos c2] at H
   have c2b0 : decide (x7_1 < (l0.length : Int)) = true := dT_q c2
   clear c2
   by_cases c3 : 0 ≤ x7_1
   rotate_left
   ·rw [if_neg c3] at H
    exact absurd H (by simp)
   rw [if_pos c3] at H
   have c3b0 : decide (0 ≤ x7_1) = true := dT_q c3
   clear c3
   by_cases c4 : x7_1 < (l0.length : Int)
   rotate_left
   ·rw [if_neg c4] at H
    exact absurd H (by simp)
   rw [if_pos c4] at H
   have c4b0 : decide (x7_1 < (l0.length : Int)) = true := dT_q c4
   clear c4
   replace H := oB_q.mp H
   obtain ⟨t116, A50, H⟩ := H
   replace H : (if t116 = true then (if x7_1 > 0 then (if 0 ≤ (wrap64 (x7_1 - 1)) then (if (wrap64 (x7_1 - 1)) < (l0.length : Int) then (if (rd l0 (wrap64 (x7_1 - 1))) ≥ (rd l0 x7_1) then (some false) else (impl_idsAscend.l0 k1 l0 l0 (l0.length : Int) (wrap64 (x7_1 + 1)))) else (none)) else (none)) else (impl_idsAscend.l0 k1 l0 l0 (l0.length : Int) (wrap64 (x7_1 + 1)))) else (some false)) = some r := H
   have A5 := Ae_q A50
   clear A50
   by_cases c6 : t116 = true
   rotate_left
   ·replace c6 := fM_q.mpr c6
    subst c6
    have H1 : (some false) = some r := by rw [if_neg (show ¬ (false = true) by decide)] at H; exact H
    clear H
    have H := H1
    clear H1
    obtain rfl := oI_q H
    have p115 : 0 ≤ (x7_1 : Int) := oD_q (by assumption)
    have q115 : x7_1 < (l0.length : Int) := oD_q (by assumption)
    obtain ⟨ad115, e115, hx115_0⟩ := aI_q HR0.out x7_1 p115 q115
    cases e115
    replace p115 := eq_true p115
    replace q115 := eq_true q115
    go_wp2_with (first | ((with_reducible refine gC_q (f := 44) rfl ?_); refine gL_q (some 13) rfl rfl Try.func44 m9_q rfl #[.int .i64 (rd l0 x7_1)] rfl m0_q ?_; (with_reducible refine (impl_isId.calls (rd l0 x7_1) false _ A5.out).mono ?_); rintro e w' ⟨rfl, ⟨nd, rfl⟩⟩; refine ⟨_, rfl, ?_⟩))
    go_ret
    exact ⟨m5_q, m8_q⟩
   subst c6
   have H1 : (if x7_1 > 0 then (if 0 ≤ (wrap64 (x7_1 - 1)) then (if (wrap64 (x7_1 - 1)) < (l0.length : Int) then (if (rd l0 (wrap64 (x7_1 - 1))) ≥ (rd l0 x7_1) then (some false) else (impl_idsAscend.l0 k1 l0 l0 (l0.length : Int) (wrap64 (x7_1 + 1)))) else (none)) else (none)) else (impl_idsAscend.l0 k1 l0 l0 (l0.length : Int) (wrap64 (x7_1 + 1)))) = some r := by rw [if_pos rfl] at H; exact H
   clear H
   have H := H1
   clear H1
   by_cases c7 : x7_1 > 0
   rotate_left
   ·rw [if_neg c7] at H
    have c7b0 : decide (0 < x7_1) = false := dF_q c7
    clear c7
    have H' := Ae_q H
    clear H
    have p115 : 0 ≤ (x7_1 : Int) := oD_q (by assumption)
    have q115 : x7_1 < (l0.length : Int) := oD_q (by assumption)
    obtain ⟨ad115, e115, hx115_0⟩ := aI_q HR0.out x7_1 p115 q115
    cases e115
    replace p115 := eq_true p115
    replace q115 := eq_true q115
    go_wp2_with (first | ((with_reducible refine gC_q (f := 44) rfl ?_); refine gL_q (some 13) rfl rfl Try.func44 m9_q rfl #[.int .i64 (rd l0 x7_1)] rfl m0_q ?_; (with_reducible refine (impl_isId.calls (rd l0 x7_1) true _ A5.out).mono ?_); rintro e w' ⟨rfl, ⟨nd, rfl⟩⟩; refine ⟨_, rfl, ?_⟩))
    go_roundg k1
    case measure => have := HK1.out; omega
    case rel => exact ⟨(wrap64 (x7_1 + 1)), m5_q, H', ⟨m26_q⟩, m8_q⟩
   rw [if_pos c7] at H
   have c7b0 : decide (0 < x7_1) = true := dT_q c7
   clear c7
   obtain ⟨ji8, hji8⟩ : ∃ j_ : Int, (wrap64 (x7_1 - 1)) = j_ := ⟨_, rfl⟩
   replace H : (if 0 ≤ (ji8) then (if (ji8) < (l0.length : Int) then (if (rd l0 (ji8)) ≥ (rd l0 x7_1) then (some false) else (impl_idsAscend.l0 k1 l0 l0 (l0.length : Int) (wrap64 (x7_1 + 1)))) else (none)) else (none)) = some r := by first | (rw [hji8] at H; exact H) | (simp only [hji8] at H ⊢; exact H)
   (try rw [hji8] at A5)
   have hji8w : (IntKind.i64.wrap (x7_1 - 1)) = ji8 := (i64_w _).trans hji8
   by_cases c9 : 0 ≤ (ji8)
   rotate_left
   ·rw [if_neg c9] at H
    exact absurd H (by simp)
   rw [if_pos c9] at H
   have c9b0 : decide (0 ≤ (ji8)) = true := dT_q c9
   clear c9
   by_cases c10 : (ji8) < (l0.length : Int)
   rotate_left
   ·rw [if_neg c10] at H
    exact absurd H (by simp)
   rw [if_pos c10] at H
   have c10b0 : decide ((ji8) < (l0.length : Int)) = true := dT_q c10
   clear c10
   by_cases c11 : (rd l0 (ji8)) ≥ (rd l0 x7_1)
   ·rw [if_pos c11] at H
    have c11b0 : decide ((rd l0 x7_1) ≤ (rd l0 (ji8))) = true := dT_q c11
    clear c11
    obtain rfl := oI_q H
    have p115 : 0 ≤ (x7_1 : Int) := oD_q (by assumption)
    have q115 : x7_1 < (l0.length : Int) := oD_q (by assumption)
    obtain ⟨ad115, e115, hx115_0⟩ := aI_q HR0.out x7_1 p115 q115
    cases e115
    replace p115 := eq_true p115
    replace q115 := eq_true q115
    go_wp2_with (first | ((with_reducible refine gC_q (f := 44) rfl ?_); refine gL_q (some 13) rfl rfl Try.func44 m9_q rfl #[.int .i64 (rd l0 x7_1)] rfl m0_q ?_; (with_reducible refine (impl_isId.calls (rd l0 x7_1) true _ A5.out).mono ?_); rintro e w' ⟨rfl, ⟨nd, rfl⟩⟩; refine ⟨_, rfl, ?_⟩; have p117 : 0 ≤ ((ji8) : Int) := oD_q (by assumption); have q117 : (ji8) < (l0.length : Int) := oD_q (by assumption); obtain ⟨ad117, e117, hx117_0⟩ := aI_q HR0.out (ji8) p117 q117; obtain rfl : ad115 = ad117 := (by injection e117); replace p117 := eq_true p117; replace q117 := eq_true q117))
    go_ret
    exact ⟨by first | rfl | (simp; done) | (simp only [← hji8] <;> (first | rfl | simp)) | (simp [*]; done), m8_q⟩
   rw [if_neg c11] at H
   have c11b0 : decide ((rd l0 x7_1) ≤ (rd l0 (ji8))) = false := dF_q c11
   clear c11
   have H' := Ae_q H
   clear H
   have p115 : 0 ≤ (x7_1 : Int) := oD_q (by assumption)
   have q115 : x7_1 < (l0.length : Int) := oD_q (by assumption)
   obtain ⟨ad115, e115, hx115_0⟩ := aI_q HR0.out x7_1 p115 q115
   cases e115
   replace p115 := eq_true p115
   replace q115 := eq_true q115
   go_wp2_with (first | ((with_reducible refine gC_q (f := 44) rfl ?_); refine gL_q (some 13) rfl rfl Try.func44 m9_q rfl #[.int .i64 (rd l0 x7_1)] rfl m0_q ?_; (with_reducible refine (impl_isId.calls (rd l0 x7_1) true _ A5.out).mono ?_); rintro e w' ⟨rfl, ⟨nd, rfl⟩⟩; refine ⟨_, rfl, ?_⟩; have p117 : 0 ≤ ((ji8) : Int) := oD_q (by assumption); have q117 : (ji8) < (l0.length : Int) := oD_q (by assumption); obtain ⟨ad117, e117, hx117_0⟩ := aI_q HR0.out (ji8) p117 q117; obtain rfl : ad115 = ad117 := (by injection e117); replace p117 := eq_true p117; replace q117 := eq_true q117))
   go_roundg k1
   case measure => have := HK1.out; omega
   case rel => exact ⟨(wrap64 (x7_1 + 1)), m5_q, H', ⟨m26_q⟩, m8_q⟩

def impl_isMinute.f (a0 : Int) : Option (Bool) := (impl_within.f a0 0 1439).bind fun t118 => (some t118)
set_option maxHeartbeats 8000000 in
set_option maxRecDepth 100000 in
theorem impl_isMinute.calls (a0 : Int) (r : Bool) (w : World) (h : impl_isMinute.f a0 = some r) :
    Calls Try.prog 46 #[.int .i64 a0] w fun e w' => e = .returned (.bool r) ∧ Drawn0 w w' := by
 have H : ((impl_within.f a0 0 1439).bind fun t118 => (some t118)) = some r := h
 clear h
 replace H := oB_q.mp H
 obtain ⟨t118, A20, H⟩ := H
 replace H : (some t118) = some r := H
 have A2 := Ae_q A20
 clear A20
 obtain rfl := oI_q H
 go_enter Try.func46, Try.ntmps46
 go_wp2_with (first | ((with_reducible refine gC_q (f := 47) rfl ?_); refine gL_q (some 4) rfl rfl Try.func47 m9_q rfl #[.int .i64 a0, .int .i64 0, .int .i64 1439] rfl m0_q ?_; (with_reducible refine (impl_within.calls a0 0 1439 t118 _ A2.out).mono ?_); rintro e w' ⟨rfl, ⟨nd, rfl⟩⟩; refine ⟨_, rfl, ?_⟩))
 go_ret
 exact ⟨m5_q, m8_q⟩

end Go.Proofs.Ytnckblolijkdaaa.PBt
