import Derived.Test.YtnckblolijkdaaaVJPBtx0
import Derived.Test.YtnckblolijkdaaaVJPBtx10
import Derived.Test.YtnckblolijkdaaaVJPBtx11
namespace Go.Proofs.Ytnckblolijkdaaa.PBt
open Go.RowKit Go.Proofs.YtnckblolijkdaaaW.PrintWords Go.Proofs.YtnckblolijkdaaaW.PrintLast Go.Proofs.YtnckblolijkdaaaW.PrintMore
attribute [local go_sem] max2_int min2_int max_two min_two max_three min_three max_four min_four
set_option linter.unusedVariables false
set_option linter.unusedSimpArgs false

def spec_l42Find.l0 : Nat → List (S39) → Int → Int → Option (Int)
 | 0, _, _, _ => none
 | k + 1, x0, x1, x5 => if x5 < (x0.length : Int) then (if 0 ≤ x5 then (if ((rd_T39 x0 x5).f0) = x1 then (some x5) else (spec_l42Find.l0 k x0 x1 (wrap64 (x5 + 1)))) else (none)) else (some (-1))
def spec_l42Find.f (k : Nat) (l0 : List (S39)) (a1 : Int) : Option (Int) := spec_l42Find.l0 k l0 a1 0
set_option maxHeartbeats 8000000 in
set_option maxRecDepth 100000 in
theorem spec_l42Find.calls (k : Nat) (A0 : Option Addr) (c0 : Nat) (l0 : List (S39)) (a1 : Int) (r : Int) (w : World) (hr0 : Kd.C k39 w A0 l0.length l0) (hc0 : l0.length ≤ c0) (h : spec_l42Find.f k l0 a1 = some r) :
    Calls Try.prog 60 #[.slice A0 l0.length c0, .int .i64 a1] w fun e w' => e = .returned (.int .i64 r) ∧ Drawn0 w w' := by
 have HR0 := Ae_q hr0
 have HC0 := Ae_q hc0
 clear hr0 hc0
 have H : (spec_l42Find.l0 k l0 a1 0) = some r := h
 clear h
 have H' := Ae_q H
 clear H
 go_enter Try.func60, Try.ntmps60
 go_wp2
 go_loopg [5] k (fun kq v5 w' => ∃ (x5_1 : Int), v5 = .int .i64 x5_1 ∧ Aside0 (spec_l42Find.l0 kq l0 a1 x5_1 = some r) ∧ Aside0 (kq ≤ k) ∧ Drawn0 w w')
 case atStart => exact ⟨(0), m3_q, H', ⟨nR_q _⟩, m8_q⟩
 case round =>
  clear H'
  try clear p2
  obtain ⟨x5_1, rfl, HA, HK1, ⟨m1, rfl⟩⟩ := hrel
  cases gk with
  | zero => exact absurd HA.out (by simp [spec_l42Find.l0])
  | succ k1 =>
   have H := HA.out
   clear HA
   simp only [spec_l42Find.l0] at H
   by_cases c3 : x5_1 < (l0.length : Int)
   rotate_left
   ·rw [if_neg c3] at H
    have c3b0 : decide (x5_1 < (l0.length : Int)) = false := dF_q c3
    clear c3
    obtain rfl := oI_q H
    go_wp2
    go_ret
    exact ⟨m3_q, m8_q⟩
   rw [if_pos c3] at H
   have c3b0 : decide (x5_1 < (l0.length : Int)) = true := dT_q c3
   clear c3
   by_cases c4 : 0 ≤ x5_1
   rotate_left
   ·rw [if_neg c4] at H
    exact absurd H (by simp)
   rw [if_pos c4] at H
   have c4b0 : decide (0 ≤ x5_1) = true := dT_q c4
   clear c4
   by_cases c5 : ((rd_T39 l0 x5_1).f0) = a1
   ·rw [if_pos c5] at H
    have c5b0 : (((rd_T39 l0 x5_1).f0) == a1) = true := beq_iff_eq.mpr c5
    have c5b1 : (((rd_T39 l0 x5_1).f0) != a1) = false := nE_q.mpr c5
    clear c5
    obtain rfl := oI_q H
    have p174 : 0 ≤ (x5_1 : Int) := oD_q (by assumption)
    have q174 : x5_1 < (l0.length : Int) := oD_q (by assumption)
    obtain ⟨ad174, A174_1, c174_1, e174, hx174_0, hx174_1, hx174_2, hx174_3, hl174_1, hi174_1⟩ := at_T39 HR0.out x5_1 p174 q174
    cases e174
    have HR174_1 := Ae_q hi174_1
    have HC174_1 := Ae_q hl174_1
    clear hi174_1 hl174_1
    replace p174 := eq_true p174
    replace q174 := eq_true q174
    go_wp2
    go_ret
    exact ⟨m3_q, m8_q⟩
   rw [if_neg c5] at H
   have c5b0 : (((rd_T39 l0 x5_1).f0) == a1) = false := fN_q.mpr c5
   have c5b1 : (((rd_T39 l0 x5_1).f0) != a1) = true := nI_q.mpr c5
   have H' := Ae_q H
   clear H
   have p174 : 0 ≤ (x5_1 : Int) := oD_q (by assumption)
   have q174 : x5_1 < (l0.length : Int) := oD_q (by assumption)
   obtain ⟨ad174, A174_1, c174_1, e174, hx174_0, hx174_1, hx174_2, hx174_3, hl174_1, hi174_1⟩ := at_T39 HR0.out x5_1 p174 q174
   cases e174
   have HR174_1 := Ae_q hi174_1
   have HC174_1 := Ae_q hl174_1
   clear hi174_1 hl174_1
   replace p174 := eq_true p174
   replace q174 := eq_true q174
   go_wp2
   go_roundg k1
   case measure => have := HK1.out; omega
   case rel => exact ⟨(wrap64 (x5_1 + 1)), m3_q, H', ⟨m28_q⟩, m8_q⟩

def spec_PlatesValid.l0 : Nat → List (S39) → List (S49) → Int → Option (Bool)
 | 0, _, _, _ => none
 | k + 1, x0, x1, x5 => if x5 < (x1.length : Int) then (if 0 ≤ x5 then ((spec_l6In.f ((rd_T49 x1 x5).f0) 1 99).bind fun t178 => (if t178 = true then ((spec_l42Find.f k x0 ((rd_T49 x1 x5).f1)).bind fun t179 => (if t179 < 0 then (some false) else ((spec_l6In.f ((rd_T49 x1 x5).f2) 0 1439).bind fun t180 => (if t180 = true then (spec_PlatesValid.l0 k x0 x1 (wrap64 (x5 + 1))) else (some false))))) else (some false))) else (none)) else ((spec_BatchesValid.f k x0).bind fun t175 => (if t175 = true then (some (decide ((x1.length : Int) ≤ 16))) else (some false)))
def spec_PlatesValid.f (k : Nat) (l0 : List (S39)) (l1 : List (S49)) : Option (Bool) := spec_PlatesValid.l0 k l0 l1 0
set_option maxHeartbeats 8000000 in
set_option maxRecDepth 100000 in
theorem spec_PlatesValid.calls (k : Nat) (A0 : Option Addr) (c0 : Nat) (l0 : List (S39)) (A1 : Option Addr) (c1 : Nat) (l1 : List (S49)) (r : Bool) (w : World) (hr0 : Kd.C k39 w A0 l0.length l0) (hc0 : l0.length ≤ c0) (hr1 : Kd.C k49 w A1 l1.length l1) (hc1 : l1.length ≤ c1) (h : spec_PlatesValid.f k l0 l1 = some r) :
    Calls Try.prog 31 #[.slice A0 l0.length c0, .slice A1 l1.length c1] w fun e w' => e = .returned (.bool r) ∧ Below w.heap.size w w' := by
 have hu49 := Try.underlying49
 have HR0 := Ae_q hr0
 have HC0 := Ae_q hc0
 clear hr0 hc0
 have HR1 := Ae_q hr1
 have HC1 := Ae_q hc1
 clear hr1 hc1
 have HB := Ae_q (bR_q w.heap.size w)
 have H : (spec_PlatesValid.l0 k l0 l1 0) = some r := h
 clear h
 have H' := Ae_q H
 clear H
 go_enter Try.func31, Try.ntmps31
 go_wp2
 go_loopg [5] k (fun kq v5 w' => ∃ (x5_1 : Int), v5 = .int .i64 x5_1 ∧ Aside0 (spec_PlatesValid.l0 kq l0 l1 x5_1 = some r) ∧ Aside0 (kq ≤ k) ∧ Aside0 (Below w.heap.size w w'))
 case atStart => exact ⟨(0), m3_q, H', ⟨nR_q _⟩, ⟨bel HB.out⟩⟩
 case round =>
  clear H'
  try clear c1
  try clear p2
  obtain ⟨x5_1, rfl, HA, HK1, HB⟩ := hrel
  cases gk with
  | zero => exact absurd HA.out (by simp [spec_PlatesValid.l0])
  | succ k1 =>
   have H := HA.out
   clear HA
   simp only [spec_PlatesValid.l0] at H
   by_cases c3 : x5_1 < (l1.length : Int)
   rotate_left
   ·rw [if_neg c3] at H
    have c3b0 : decide (x5_1 < (l1.length : Int)) = false := dF_q c3
    clear c3
    replace H := oB_q.mp H
    obtain ⟨t175, A190, H⟩ := H
    replace H : (if t175 = true then (some (decide ((l1.length : Int) ≤ 16))) else (some false)) = some r := H
    have A19 := Ae_q A190
    clear A190
    by_cases c20 : t175 = true
    ·subst c20
     have H1 : (some (decide ((l1.length : Int) ≤ 16))) = some r := by rw [if_pos rfl] at H; exact H
     clear H
     have H := H1
     clear H1
     obtain rfl := oI_q H
     go_wp2_with (first | ((with_reducible refine gC_q (f := 16) rfl ?_); refine gL_q (some 35) rfl rfl Try.func16 m5_q rfl #[.slice A0 l0.length c0] rfl m0_q ?_; (with_reducible refine (spec_BatchesValid.calls k1 _ _ l0 true _ ?side1 ?side2 A19.out).mono ?_); (case side1 => exact m34_q); (case side2 => exact m32_q); rintro e w' ⟨rfl, hb⟩; refine ⟨_, rfl, ?_⟩; replace HB := Ae_q (bT_q (bel HB.out) hb); (try clear hb); (try clear hb2); (try clear hk); (try clear hi)))
     go_ret
     exact ⟨m2_q, bel HB.out⟩
    replace c20 := fM_q.mpr c20
    subst c20
    have H1 : (some false) = some r := by rw [if_neg (show ¬ (false = true) by decide)] at H; exact H
    clear H
    have H := H1
    clear H1
    obtain rfl := oI_q H
    go_wp2_with (first | ((with_reducible refine gC_q (f := 16) rfl ?_); refine gL_q (some 35) rfl rfl Try.func16 m5_q rfl #[.slice A0 l0.length c0] rfl m0_q ?_; (with_reducible refine (spec_BatchesValid.calls k1 _ _ l0 false _ ?side1 ?side2 A19.out).mono ?_); (case side1 => exact m34_q); (case side2 => exact m32_q); rintro e w22 ⟨rfl, hb⟩; refine ⟨_, rfl, ?_⟩; replace HB := Ae_q (bT_q (bel HB.out) hb); (try clear hb); (try clear hb2); (try clear hk); (try clear hi)))
    go_ret
    exact ⟨m2_q, bel HB.out⟩
   rw [if_pos c3] at H
   have c3b0 : decide (x5_1 < (l1.length : Int)) = true := dT_q c3
   clear c3
   by_cases c4 : 0 ≤ x5_1
   rotate_left
   ·rw [if_neg c4] at H
    exact absurd H (by simp)
   rw [if_pos c4] at H
   have c4b0 : decide (0 ≤ x5_1) = true := dT_q c4
   clear c4
   replace H := oB_q.mp H
   obtain ⟨t178, A50, H⟩ := H
   replace H : (if t178 = true then ((spec_l42Find.f k1 l0 ((rd_T49 l1 x5_1).f1)).bind fun t179 => (if t179 < 0 then (some false) else ((spec_l6In.f ((rd_T49 l1 x5_1).f2) 0 1439).bind fun t180 => (if t180 = true then (spec_PlatesValid.l0 k1 l0 l1 (wrap64 (x5_1 + 1))) else (some false))))) else (some false)) = some r := H
   have A5 := Ae_q A50
   clear A50
   by_cases c6 : t178 = true
   rotate_left
   ·replace c6 := fM_q.mpr c6
    subst c6
    have H1 : (some false) = some r := by rw [if_neg (show ¬ (false = true) by decide)] at H; exact H
    clear H
    have H := H1
    clear H1
    obtain rfl := oI_q H
    have p176 : 0 ≤ (x5_1 : Int) := oD_q (by assumption)
    have q176 : x5_1 < (l1.length : Int) := oD_q (by assumption)
    obtain ⟨ad176, e176, hx176_0, hx176_1, hx176_2⟩ := at_T49 HR1.out x5_1 p176 q176
    cases e176
    replace hx176_0 := cel HB.out hx176_0
    replace hx176_1 := cel HB.out hx176_1
    replace hx176_2 := cel HB.out hx176_2
    replace p176 := eq_true p176
    replace q176 := eq_true q176
    go_wp2_with (first | ((with_reducible refine gD_q (N := 6) rfl ?_); (try (refine gate_guard (by rfl) ?_; dsimp only)); refine bE_q ?hg (N := 6) ?hd (cs := #[.int .i64 0, .int .i64 0, .int .i64 0]) (t := 49) ?hr ?_; (case hd => rfl); (case hg => rfl); (case hr => exact m6_q); intro gb177 hg w17 hbox hb; have BK177 := Ae_q (hbox); have GW177 := Ae_q ((by rw [hg]; exact (bZ_q (bel HB.out)) : w.heap.size ≤ gb177)); have GE177 := Ae_q ((by rw [hg]; exact (bZ_q (bel HB.out)) : w.heap.size ≤ gb177)); replace HB := Ae_q (bT_q (bel HB.out) hb); clear hb hbox hg; have hcz18_0 : cI w17 gb177 0 0 := cZ BK177 0 rfl; have hcz18_1 : cI w17 gb177 1 0 := cZ BK177 1 rfl; have hcz18_2 : cI w17 gb177 2 0 := cZ BK177 2 rfl; have hfz18_0 := bF_q BK177.out 0; have hfz18_1 := bF_q BK177.out 1; have hfz18_2 := bF_q BK177.out 2) | ((with_reducible refine gC_q (f := 59) rfl ?_); refine gL_q (some 19) rfl rfl Try.func59 m5_q rfl #[.int .i64 ((rd_T49 l1 x5_1).f0), .int .i64 1, .int .i64 99] rfl m0_q ?_; (with_reducible refine (spec_l6In.calls ((rd_T49 l1 x5_1).f0) 1 99 false _ A5.out).mono ?_); rintro e w' ⟨rfl, ⟨nd, rfl⟩⟩; refine ⟨_, rfl, ?_⟩))
    go_ret
    exact ⟨m2_q, m18_q⟩
   subst c6
   have H1 : ((spec_l42Find.f k1 l0 ((rd_T49 l1 x5_1).f1)).bind fun t179 => (if t179 < 0 then (some false) else ((spec_l6In.f ((rd_T49 l1 x5_1).f2) 0 1439).bind fun t180 => (if t180 = true then (spec_PlatesValid.l0 k1 l0 l1 (wrap64 (x5_1 + 1))) else (some false))))) = some r := by rw [if_pos rfl] at H; exact H
   clear H
   have H := H1
   clear H1
   replace H := oB_q.mp H
   obtain ⟨t179, A70, H⟩ := H
   replace H : (if t179 < 0 then (some false) else ((spec_l6In.f ((rd_T49 l1 x5_1).f2) 0 1439).bind fun t180 => (if t180 = true then (spec_PlatesValid.l0 k1 l0 l1 (wrap64 (x5_1 + 1))) else (some false)))) = some r := H
   have A7 := Ae_q A70
   clear A70
   by_cases c8 : t179 < 0
   ·rw [if_pos c8] at H
    have c8b0 : decide (t179 < 0) = true := dT_q c8
    clear c8
    obtain rfl := oI_q H
    have p176 : 0 ≤ (x5_1 : Int) := oD_q (by assumption)
    have q176 : x5_1 < (l1.length : Int) := oD_q (by assumption)
    obtain ⟨ad176, e176, hx176_0, hx176_1, hx176_2⟩ := at_T49 HR1.out x5_1 p176 q176
    cases e176
    replace hx176_0 := cel HB.out hx176_0
    replace hx176_1 := cel HB.out hx176_1
    replace hx176_2 := cel HB.out hx176_2
    replace p176 := eq_true p176
    replace q176 := eq_true q176
    go_wp2_with (first | ((with_reducible refine gD_q (N := 6) rfl ?_); (try (refine gate_guard (by rfl) ?_; dsimp only)); refine bE_q ?hg (N := 6) ?hd (cs := #[.int .i64 0, .int .i64 0, .int .i64 0]) (t := 49) ?hr ?_; (case hd => rfl); (case hg => rfl); (case hr => exact m6_q); intro gb177 hg w9 hbox hb; have BK177 := Ae_q (hbox); have GW177 := Ae_q ((by rw [hg]; exact (bZ_q (bel HB.out)) : w.heap.size ≤ gb177)); have GE177 := Ae_q ((by rw [hg]; exact (bZ_q (bel HB.out)) : w.heap.size ≤ gb177)); replace HB := Ae_q (bT_q (bel HB.out) hb); clear hb hbox hg; have hcz10_0 : cI w9 gb177 0 0 := cZ BK177 0 rfl; have hcz10_1 : cI w9 gb177 1 0 := cZ BK177 1 rfl; have hcz10_2 : cI w9 gb177 2 0 := cZ BK177 2 rfl; have hfz10_0 := bF_q BK177.out 0; have hfz10_1 := bF_q BK177.out 1; have hfz10_2 := bF_q BK177.out 2) | ((with_reducible refine gC_q (f := 59) rfl ?_); refine gL_q (some 19) rfl rfl Try.func59 m5_q rfl #[.int .i64 ((rd_T49 l1 x5_1).f0), .int .i64 1, .int .i64 99] rfl m0_q ?_; (with_reducible refine (spec_l6In.calls ((rd_T49 l1 x5_1).f0) 1 99 true _ A5.out).mono ?_); rintro e w' ⟨rfl, ⟨nd, rfl⟩⟩; refine ⟨_, rfl, ?_⟩) | (go_at_call 60; (with_reducible refine (spec_l42Find.calls k1 _ _ l0 ((rd_T49 l1 x5_1).f1) t179 _ ?side1 ?side2 A7.out).mono ?_); (case side1 => exact cB_q HR0.out m18_q); (case side2 => exact m32_q); rintro e w' ⟨rfl, ⟨nd, rfl⟩⟩))
    go_ret
    exact ⟨m2_q, m18_q⟩
   rw [if_neg c8] at H
   have c8b0 : decide (t179 < 0) = false := dF_q c8
   clear c8
   replace H := oB_q.mp H
   obtain ⟨t180, A110, H⟩ := H
   replace H : (if t180 = true then (spec_PlatesValid.l0 k1 l0 l1 (wrap64 (x5_1 + 1))) else (some false)) = some r := H
   have A11 := Ae_q A110
   clear A110
   by_cases c12 : t180 = true
   ·subst c12
    have H1 : (spec_PlatesValid.l0 k1 l0 l1 (wrap64 (x5_1 + 1))) = some r := by rw [if_pos rfl] at H; exact H
    clear H
    have H := H1
    clear H1
    have H' := Ae_q H
    clear H
    have p176 : 0 ≤ (x5_1 : Int) := oD_q (by assumption)
    have q176 : x5_1 < (l1.length : Int) := oD_q (by assumption)
    obtain ⟨ad176, e176, hx176_0, hx176_1, hx176_2⟩ := at_T49 HR1.out x5_1 p176 q176
    cases e176
    replace hx176_0 := cel HB.out hx176_0
    replace hx176_1 := cel HB.out hx176_1
    replace hx176_2 := cel HB.out hx176_2
    replace p176 := eq_true p176
    replace q176 := eq_true q176
    go_wp2_with (first | ((with_reducible refine gD_q (N := 6) rfl ?_); (try (refine gate_guard (by rfl) ?_; dsimp only)); refine bE_q ?hg (N := 6) ?hd (cs := #[.int .i64 0, .int .i64 0, .int .i64 0]) (t := 49) ?hr ?_; (case hd => rfl); (case hg => rfl); (case hr => exact m6_q); intro gb177 hg w13 hbox hb; have BK177 := Ae_q (hbox); have GW177 := Ae_q ((by rw [hg]; exact (bZ_q (bel HB.out)) : w.heap.size ≤ gb177)); have GE177 := Ae_q ((by rw [hg]; exact (bZ_q (bel HB.out)) : w.heap.size ≤ gb177)); replace HB := Ae_q (bT_q (bel HB.out) hb); clear hb hbox hg; have hcz14_0 : cI w13 gb177 0 0 := cZ BK177 0 rfl; have hcz14_1 : cI w13 gb177 1 0 := cZ BK177 1 rfl; have hcz14_2 : cI w13 gb177 2 0 := cZ BK177 2 rfl; have hfz14_0 := bF_q BK177.out 0; have hfz14_1 := bF_q BK177.out 1; have hfz14_2 := bF_q BK177.out 2) | ((with_reducible refine gC_q (f := 59) rfl ?_); refine gL_q (some 19) rfl rfl Try.func59 m5_q rfl #[.int .i64 ((rd_T49 l1 x5_1).f0), .int .i64 1, .int .i64 99] rfl m0_q ?_; (with_reducible refine (spec_l6In.calls ((rd_T49 l1 x5_1).f0) 1 99 true _ A5.out).mono ?_); rintro e w' ⟨rfl, ⟨nd, rfl⟩⟩; refine ⟨_, rfl, ?_⟩) | ((first | (go_at_call 60; (with_reducible refine (spec_l42Find.calls k1 _ _ l0 ((rd_T49 l1 x5_1).f1) t179 _ ?side1 ?side2 A7.out).mono ?_); (case side1 => exact cB_q HR0.out m18_q); (case side2 => exact m32_q)) | (go_at_call 59; (with_reducible refine (spec_l6In.calls ((rd_T49 l1 x5_1).f2) 0 1439 true _ A11.out).mono ?_))); rintro e w' ⟨rfl, ⟨nd, rfl⟩⟩))
    go_roundg k1
    case measure => have := HK1.out; omega
    case rel => exact ⟨(wrap64 (x5_1 + 1)), m3_q, H', ⟨m28_q⟩, ⟨m18_q⟩⟩
   replace c12 := fM_q.mpr c12
   subst c12
   have H1 : (some false) = some r := by rw [if_neg (show ¬ (false = true) by decide)] at H; exact H
   clear H
   have H := H1
   clear H1
   obtain rfl := oI_q H
   have p176 : 0 ≤ (x5_1 : Int) := oD_q (by assumption)
   have q176 : x5_1 < (l1.length : Int) := oD_q (by assumption)
   obtain ⟨ad176, e176, hx176_0, hx176_1, hx176_2⟩ := at_T49 HR1.out x5_1 p176 q176
   cases e176
   replace hx176_0 := cel HB.out hx176_0
   replace hx176_1 := cel HB.out hx176_1
   replace hx176_2 := cel HB.out hx176_2
   replace p176 := eq_true p176
   replace q176 := eq_true q176
   go_wp2_with (first | ((with_reducible refine gD_q (N := 6) rfl ?_); (try (refine gate_guard (by rfl) ?_; dsimp only)); refine bE_q ?hg (N := 6) ?hd (cs := #[.int .i64 0, .int .i64 0, .int .i64 0]) (t := 49) ?hr ?_; (case hd => rfl); (case hg => rfl); (case hr => exact m6_q); intro gb177 hg w15 hbox hb; have BK177 := Ae_q (hbox); have GW177 := Ae_q ((by rw [hg]; exact (bZ_q (bel HB.out)) : w.heap.size ≤ gb177)); have GE177 := Ae_q ((by rw [hg]; exact (bZ_q (bel HB.out)) : w.heap.size ≤ gb177)); replace HB := Ae_q (bT_q (bel HB.out) hb); clear hb hbox hg; have hcz16_0 : cI w15 gb177 0 0 := cZ BK177 0 rfl; have hcz16_1 : cI w15 gb177 1 0 := cZ BK177 1 rfl; have hcz16_2 : cI w15 gb177 2 0 := cZ BK177 2 rfl; have hfz16_0 := bF_q BK177.out 0; have hfz16_1 := bF_q BK177.out 1; have hfz16_2 := bF_q BK177.out 2) | ((with_reducible refine gC_q (f := 59) rfl ?_); refine gL_q (some 19) rfl rfl Try.func59 m5_q rfl #[.int .i64 ((rd_T49 l1 x5_1).f0), .int .i64 1, .int .i64 99] rfl m0_q ?_; (with_reducible refine (spec_l6In.calls ((rd_T49 l1 x5_1).f0) 1 99 true _ A5.out).mono ?_); rintro e w' ⟨rfl, ⟨nd, rfl⟩⟩; refine ⟨_, rfl, ?_⟩) | ((first | (go_at_call 60; (with_reducible refine (spec_l42Find.calls k1 _ _ l0 ((rd_T49 l1 x5_1).f1) t179 _ ?side1 ?side2 A7.out).mono ?_); (case side1 => exact cB_q HR0.out m18_q); (case side2 => exact m32_q)) | (go_at_call 59; (with_reducible refine (spec_l6In.calls ((rd_T49 l1 x5_1).f2) 0 1439 false _ A11.out).mono ?_))); rintro e w' ⟨rfl, ⟨nd, rfl⟩⟩))
   go_ret
   exact ⟨m2_q, m18_q⟩

def laws_szPlateS.f (l0 : List (S77)) (a1 : Int) : Option (Int) := if (wrap64 (a1 - (l0.length : Int))) < 0 then (some (-1)) else (some (wrap64 (a1 - (l0.length : Int))))
set_option maxHeartbeats 8000000 in
set_option maxRecDepth 100000 in
theorem laws_szPlateS.calls (A0 : Option Addr) (c0 : Nat) (l0 : List (S77)) (a1 : Int) (r : Int) (w : World) (hr0 : Kd.C k77 w A0 l0.length l0) (hc0 : l0.length ≤ c0) (h : laws_szPlateS.f l0 a1 = some r) :
    Calls Try.prog 35 #[.slice A0 l0.length c0, .int .i64 a1] w fun e w' => e = .returned (.int .i64 r) ∧ Drawn0 w w' := by
 have HR0 := Ae_q hr0
 have HC0 := Ae_q hc0
 clear hr0 hc0
 have H : (if (wrap64 (a1 - (l0.length : Int))) < 0 then (some (-1)) else (some (wrap64 (a1 - (l0.length : Int))))) = some r := h
 clear h
 by_cases c3 : (wrap64 (a1 - (l0.length : Int))) < 0
 ·rw [if_pos c3] at H
  have c3b0 : decide ((wrap64 (a1 - (l0.length : Int))) < 0) = true := dT_q c3
  clear c3
  obtain rfl := oI_q H
  go_enter Try.func35, Try.ntmps35
  go_wp2
  go_ret
  exact ⟨m3_q, m8_q⟩
 rw [if_neg c3] at H
 have c3b0 : decide ((wrap64 (a1 - (l0.length : Int))) < 0) = false := dF_q c3
 clear c3
 obtain rfl := oI_q H
 go_enter Try.func35, Try.ntmps35
 go_wp2
 go_ret
 exact ⟨m3_q, m8_q⟩

def laws_toPlate.f (a0_0 : Int) (a0_1 : Int) (a0_2 : Int) : Option (Int × Int × Int) := some (a0_0, a0_1, a0_2)
set_option maxHeartbeats 8000000 in
set_option maxRecDepth 100000 in
theorem laws_toPlate.calls (a0_0 : Int) (a0_1 : Int) (a0_2 : Int) (r1 : Int) (r2 : Int) (r3 : Int) (w : World) (h : laws_toPlate.f a0_0 a0_1 a0_2 = some (r1, r2, r3)) :
    Calls Try.prog 61 #[.agg #[.int .i64 a0_0, .int .i64 a0_1, .int .i64 a0_2]] w fun e w' => e = .returned (.agg #[.int .i64 r1, .int .i64 r2, .int .i64 r3]) ∧ Below w.heap.size w w' := by
 have hu77 := Try.underlying77
 have hu49 := Try.underlying49
 have HB := Ae_q (bR_q w.heap.size w)
 have H : (some (a0_0, a0_1, a0_2)) = some (r1, r2, r3) := h
 clear h
 simp only [oE_q, pE_q] at H
 obtain ⟨rfl, rfl, rfl⟩ := H
 go_enter Try.func61, Try.ntmps61
 go_wp2_with (first | ((first | ((with_reducible refine gD_q (N := 1) rfl ?_); refine bE_q ?hg (N := 1) ?hd (cs := #[.int .i64 a0_0, .int .i64 a0_1, .int .i64 a0_2]) (t := 77) ?hr ?_; (case hd => rfl); (case hg => rfl); (case hr => exact m6_q); intro gb194 hg w' hbox hb; have BK194 := Ae_q (hbox); have GW194 := Ae_q ((by rw [hg]; exact (bZ_q (bel HB.out)) : w.heap.size ≤ gb194)); have GE194 := Ae_q ((by rw [hg]; exact (bZ_q (bel HB.out)) : w.heap.size ≤ gb194)); replace HB := Ae_q (bT_q (bel HB.out) hb)) | ((with_reducible refine gD_q (N := 2) rfl ?_); refine bE_q ?hg (N := 2) ?hd (cs := #[.int .i64 0, .int .i64 0, .int .i64 0]) (t := 49) ?hr ?_; (case hd => rfl); (case hg => rfl); (case hr => exact m6_q); intro gb195 hg w' hbox hb; have BK195 := Ae_q (hbox); have GW195 := Ae_q ((by rw [hg]; exact (bZ_q m38_q) : w.heap.size ≤ gb195)); have GE195 := Ae_q ((by rw [hg]; exact (bZ_q m38_q) : w.heap.size ≤ gb195)); replace HB := Ae_q (bT_q m38_q hb); have NB194_195 := Ae_q ((by rw [hg]; exact nL_q (blk_lt (g := gb194) (o := .cells #[.int .i64 a0_0, .int .i64 a0_1, .int .i64 a0_2] 77 (0, 0)) (bup BK194.out)) : gb194 ≠ gb195)); have NB195_194 := Ae_q ((by rw [hg]; exact nG_q (blk_lt (g := gb194) (o := .cells #[.int .i64 a0_0, .int .i64 a0_1, .int .i64 a0_2] 77 (0, 0)) (bup BK194.out)) : gb195 ≠ gb194)); replace BK194 := Ae_q (bB_q (g := gb194) (o := .cells #[.int .i64 a0_0, .int .i64 a0_1, .int .i64 a0_2] 77 (0, 0)) (bup BK194.out) hb))); clear hb hbox hg) | ((with_reducible refine gD_q (N := 3) rfl ?_); refine bE_q ?hg (N := 3) ?hd (cs := #[.int .i64 0, .int .i64 0, .int .i64 0]) (t := 49) ?hr ?_; (case hd => rfl); (case hg => rfl); (case hr => exact m6_q); intro gb196 hg w4 hbox hb; have BK196 := Ae_q (hbox); have GW196 := Ae_q ((by rw [hg]; exact (bZ_q m36_q) : w.heap.size ≤ gb196)); have GE196 := Ae_q ((by rw [hg]; exact (bZ_q m36_q) : w.heap.size ≤ gb196)); replace HB := Ae_q (bT_q m36_q hb); have NB194_196 := Ae_q ((by rw [hg]; exact nL_q (blk_lt (g := gb194) (o := .cells #[.int .i64 a0_0, .int .i64 a0_1, .int .i64 a0_2] 77 (0, 0)) (bup BK194.out)) : gb194 ≠ gb196)); have NB196_194 := Ae_q ((by rw [hg]; exact nG_q (blk_lt (g := gb194) (o := .cells #[.int .i64 a0_0, .int .i64 a0_1, .int .i64 a0_2] 77 (0, 0)) (bup BK194.out)) : gb196 ≠ gb194)); replace BK194 := Ae_q (bB_q (g := gb194) (o := .cells #[.int .i64 a0_0, .int .i64 a0_1, .int .i64 a0_2] 77 (0, 0)) (bup BK194.out) hb); have NB195_196 := Ae_q ((by rw [hg]; exact nL_q (blk_lt (g := gb195) (o := .cells #[.int .i64 0, .int .i64 0, .int .i64 0] 49 (0, 0)) (bup BK195.out)) : gb195 ≠ gb196)); have NB196_195 := Ae_q ((by rw [hg]; exact nG_q (blk_lt (g := gb195) (o := .cells #[.int .i64 0, .int .i64 0, .int .i64 0] 49 (0, 0)) (bup BK195.out)) : gb196 ≠ gb195)); replace BK195 := Ae_q (bB_q (g := gb195) (o := .cells #[.int .i64 0, .int .i64 0, .int .i64 0] 49 (0, 0)) (bup BK195.out) hb); clear hb hbox hg; have hnb5 := NB194_195.out; have hnc5 := NB195_194.out; have hnb6 := NB194_196.out; have hnc6 := NB196_194.out; have hcz7_0 : cI w4 gb194 0 a0_0 := cZ BK194 0 rfl; have hcz7_1 : cI w4 gb194 1 a0_1 := cZ BK194 1 rfl; have hcz7_2 : cI w4 gb194 2 a0_2 := cZ BK194 2 rfl; have hfz7_0 := bF_q BK194.out 0; have hfz7_1 := bF_q BK194.out 1; have hfz7_2 := bF_q BK194.out 2; have hnb8 := NB196_195.out; have hnc8 := NB195_196.out; have hcz9_0 : cI w4 gb196 0 0 := cZ BK196 0 rfl; have hcz9_1 : cI w4 gb196 1 0 := cZ BK196 1 rfl; have hcz9_2 : cI w4 gb196 2 0 := cZ BK196 2 rfl; have hfz9_0 := bF_q BK196.out 0; have hfz9_1 := bF_q BK196.out 1; have hfz9_2 := bF_q BK196.out 2; have hcz10_0 : cI w4 gb195 0 0 := cZ BK195 0 rfl; have hcz10_1 : cI w4 gb195 1 0 := cZ BK195 1 rfl; have hcz10_2 : cI w4 gb195 2 0 := cZ BK195 2 rfl; have hfz10_0 := bF_q BK195.out 0; have hfz10_1 := bF_q BK195.out 1; have hfz10_2 := bF_q BK195.out 2))
 refine bodyPost_ret (results_cell_row rfl _ _ gb195 49 #[.int .i64 a0_0, .int .i64 a0_1, .int .i64 a0_2] (0, 0) _ rfl (by (with_reducible repeat (first | refine bN_q ?_ _ | refine bW_q ?_ | refine bL_q ?_ _)); refine blk_put (cs := #[.int .i64 a0_0, .int .i64 a0_1, .int .i64 0]) ?_ 2 _ rfl; (with_reducible repeat (first | refine bN_q ?_ _ | refine bW_q ?_ | refine bL_q ?_ _)); refine blk_put (cs := #[.int .i64 a0_0, .int .i64 0, .int .i64 0]) ?_ 1 _ rfl; (with_reducible repeat (first | refine bN_q ?_ _ | refine bW_q ?_ | refine bL_q ?_ _)); refine blk_put (cs := #[.int .i64 0, .int .i64 0, .int .i64 0]) ?_ 0 _ rfl; (with_reducible repeat (first | refine bN_q ?_ _ | refine bW_q ?_ | refine bL_q ?_ _)); refine blk_far ?_ NB195_196.out _; (with_reducible repeat (first | refine bN_q ?_ _ | refine bW_q ?_ | refine bL_q ?_ _)); refine blk_far ?_ NB195_196.out _; (with_reducible repeat (first | refine bN_q ?_ _ | refine bW_q ?_ | refine bL_q ?_ _)); refine blk_far ?_ NB195_196.out _; (with_reducible repeat (first | refine bN_q ?_ _ | refine bW_q ?_ | refine bL_q ?_ _)); exact BK195.out) Try.underlying49 rfl m5_q) rfl ?_
 exact ⟨m2_q, by repeat (with_reducible first | exact HB.out | apply bA_q | apply pB_q | apply bD_q | refine bS_q ?_ GE194.out | refine bS_q ?_ GE195.out | refine bS_q ?_ GE196.out)⟩

def laws_toPlateS.l0 : Nat → List (S77) → List (S49) → Int → Option ((List (S49)))
 | 0, _, _, _ => none
 | k + 1, x0, x3, x4 => if x4 < (x0.length : Int) then (if 0 ≤ x4 then ((laws_toPlate.f ((rd_T77 x0 x4).f0) ((rd_T77 x0 x4).f1) ((rd_T77 x0 x4).f2)).bind fun bt201 => (if x4 < (x3.length : Int) then (laws_toPlateS.l0 k x0 (x3.set (x4 : Int).toNat (⟨bt201.1, bt201.2.1, bt201.2.2⟩ : S49)) (wrap64 (x4 + 1))) else (none))) else (none)) else (some x3)
def laws_toPlateS.f (k : Nat) (l0 : List (S77)) : Option ((List (S49))) := if 0 ≤ (l0.length : Int) then (if ((l0.length : Int) : Int).toNat ≤ 11728124029610 then (laws_toPlateS.l0 k l0 (List.replicate ((l0.length : Int) : Int).toNat z49) 0) else (none)) else (none)
set_option maxHeartbeats 8000000 in
set_option maxRecDepth 100000 in
theorem laws_toPlateS.calls (k : Nat) (A0 : Option Addr) (c0 : Nat) (l0 : List (S77)) (r : List (S49)) (w : World) (hr0 : Kd.C k77 w A0 l0.length l0) (hc0 : l0.length ≤ c0) (h : laws_toPlateS.f k l0 = some r) :
    Calls Try.prog 36 #[.slice A0 l0.length c0] w fun e w' => ∃ v0_ : Value, e = .returned (v0_) ∧ Kd.R k49 49 w' w.heap.size (fun _ => True) v0_ r ∧ Below w.heap.size w w' := by
 have hu77 := Try.underlying77
 have hu49 := Try.underlying49
 have HR0 := Ae_q hr0
 have HC0 := Ae_q hc0
 clear hr0 hc0
 have HB := Ae_q (bR_q w.heap.size w)
 have H : (if 0 ≤ (l0.length : Int) then (if ((l0.length : Int) : Int).toNat ≤ 11728124029610 then (laws_toPlateS.l0 k l0 (List.replicate ((l0.length : Int) : Int).toNat z49) 0) else (none)) else (none)) = some r := h
 clear h
 by_cases c2 : 0 ≤ (l0.length : Int)
 rotate_left
 ·rw [if_neg c2] at H
  exact absurd H (by simp)
 rw [if_pos c2] at H
 have c2b0 := eq_true c2
 have c2b1 : decide (0 ≤ (l0.length : Int)) = true := dT_q c2
 clear c2
 by_cases c3 : ((l0.length : Int) : Int).toNat ≤ 11728124029610
 rotate_left
 ·rw [if_neg c3] at H
  exact absurd H (by simp)
 rw [if_pos c3] at H
 have c3b0 := eq_true c3
 have c3b1 : decide (((l0.length : Int) : Int).toNat ≤ 11728124029610) = true := dT_q c3
 clear c3
 obtain ⟨y197, hy197⟩ : ∃ y_ : List (S49), y_ = (List.replicate ((l0.length : Int) : Int).toNat z49) := ⟨_, rfl⟩
 replace H : (laws_toPlateS.l0 k l0 y197 0) = some r := by first | (rw [hy197]; with_reducible exact H) | (have H2_ := (oS_q _ _).symm.trans H; rw [hy197]; with_reducible exact H2_) | (have H2_ := (oS_q _ _).symm.trans H; with_reducible exact H2_) | with_reducible exact H | (rw [hy197]; exact H) | exact H
 have Ny197 := Ae_q hy197
 clear hy197
 have H' := Ae_q H
 clear H
 go_enter Try.func36, Try.ntmps36
 go_wp2_with (first | ((with_reducible refine gD_q (N := 7) rfl ?_); refine Kd.R_make k49 _ 49 rfl (N := 7) rfl 44 _ _ rfl (l0.length : Int) rfl rfl Try.underlying44 (.agg #[(.int .i64 0), (.int .i64 0), (.int .i64 0)]) 24 info49 rfl (by decide) (by omega) z49 (ok := fun _ => True) (okp := fun _ => True) (k49_mkM _ _ _ z49 ) (fun _ hk => hk) trivial (oD_q (by assumption)) (nT_q (Nat.mul_le_mul_right _ (oD_q (by assumption) : (l0.length : Int).toNat ≤ 11728124029610)) (by omega)) (bR_q _ _) (nR_q _) ?_; intro v198 w4 ho5 hb hg_ hnew_; clear hg_ hnew_; (first | rw [← Ny197.out] at ho5 | (simp only [Int.reduceToNat] at ho5; rw [← Ny197.out] at ho5)); have HO199 := Ae_q (rL_q ho5 (bZ_q (bel HB.out))); replace HB := Ae_q (bT_q (bel HB.out) hb); clear hb ho5))
 go_loopg [4] k (fun kq v4 w' => ∃ (x3_1 : List (S49)) (x4_1 : Int), v4 = .int .i64 x4_1 ∧ Aside0 (laws_toPlateS.l0 kq l0 x3_1 x4_1 = some r) ∧ Aside0 (kq ≤ k) ∧ Aside0 (Kd.R k49 49 w' w.heap.size (fun _ => True) v198 x3_1) ∧ Aside0 (Below w.heap.size w w'))
 case atStart => exact ⟨(y197), (0), m3_q, H', ⟨nR_q _⟩, ⟨rup HO199.out⟩, ⟨bel HB.out⟩⟩
 case round =>
  clear H'
  try clear c2
  try clear c2b0
  try clear c2b1
  try clear p2
  try clear c3
  try clear c3b0
  try clear c3b1
  obtain ⟨x3_1, x4_1, rfl, HA, HK1, HO_3, HB⟩ := hrel
  cases gk with
  | zero => exact absurd HA.out (by simp [laws_toPlateS.l0])
  | succ k1 =>
   have H := HA.out
   clear HA
   simp only [laws_toPlateS.l0] at H
   by_cases c6 : x4_1 < (l0.length : Int)
   rotate_left
   ·rw [if_neg c6] at H
    have c6b0 : decide (x4_1 < (l0.length : Int)) = false := dF_q c6
    clear c6
    obtain rfl := oI_q H
    go_wp2
    go_ret
    exact ⟨_, m2_q, rup HO_3.out, bel HB.out⟩
   rw [if_pos c6] at H
   have c6b0 : decide (x4_1 < (l0.length : Int)) = true := dT_q c6
   clear c6
   by_cases c7 : 0 ≤ x4_1
   rotate_left
   ·rw [if_neg c7] at H
    exact absurd H (by simp)
   rw [if_pos c7] at H
   have c7b0 : decide (0 ≤ x4_1) = true := dT_q c7
   clear c7
   replace H := oB_q.mp H
   obtain ⟨⟨t201, t202, t203⟩, A80, H⟩ := H
   replace H : (if x4_1 < (x3_1.length : Int) then (laws_toPlateS.l0 k1 l0 (x3_1.set (x4_1 : Int).toNat (⟨t201, t202, t203⟩ : S49)) (wrap64 (x4_1 + 1))) else (none)) = some r := H
   have A8 := Ae_q A80
   clear A80
   by_cases c9 : x4_1 < (x3_1.length : Int)
   rotate_left
   ·rw [if_neg c9] at H
    exact absurd H (by simp)
   rw [if_pos c9] at H
   have c9b0 : decide (x4_1 < (x3_1.length : Int)) = true := dT_q c9
   clear c9
   obtain ⟨y204, hy204⟩ : ∃ y_ : List (S49), y_ = (x3_1.set (x4_1 : Int).toNat (⟨t201, t202, t203⟩ : S49)) := ⟨_, rfl⟩
   replace H : (laws_toPlateS.l0 k1 l0 y204 (wrap64 (x4_1 + 1))) = some r := by first | (rw [hy204]; with_reducible exact H) | (have H2_ := (oS_q _ _).symm.trans H; rw [hy204]; with_reducible exact H2_) | (have H2_ := (oS_q _ _).symm.trans H; with_reducible exact H2_) | with_reducible exact H | (rw [hy204]; exact H) | exact H
   have Ny204 := Ae_q hy204
   clear hy204
   have H' := Ae_q H
   clear H
   have p200 : 0 ≤ (x4_1 : Int) := oD_q (by assumption)
   have q200 : x4_1 < (l0.length : Int) := oD_q (by assumption)
   obtain ⟨ad200, e200, hx200_0, hx200_1, hx200_2⟩ := at_T77 HR0.out x4_1 p200 q200
   cases e200
   replace hx200_0 := cel HB.out hx200_0
   replace hx200_1 := cel HB.out hx200_1
   replace hx200_2 := cel HB.out hx200_2
   replace p200 := eq_true p200
   replace q200 := eq_true q200
   go_wp2_with (first | ((with_reducible refine gC_q (f := 61) rfl ?_); refine gL_q (some 20) rfl rfl Try.func61 m5_q rfl #[.agg #[.int .i64 ((rd_T77 l0 x4_1).f0), .int .i64 ((rd_T77 l0 x4_1).f1), .int .i64 ((rd_T77 l0 x4_1).f2)]] rfl m0_q ?_; (with_reducible refine (laws_toPlate.calls ((rd_T77 l0 x4_1).f0) ((rd_T77 l0 x4_1).f1) ((rd_T77 l0 x4_1).f2) t201 t202 t203 _ A8.out).mono ?_); rintro e w11 ⟨rfl, hb⟩; refine ⟨_, rfl, ?_⟩; replace HO_3 := Ae_q (rO_q (rup HO_3.out) hb); replace HB := Ae_q (bT_q (bel HB.out) hb); (try clear hb); (try clear hb2); (try clear hk); (try clear hi); have p10 : 0 ≤ (x4_1 : Int) := oD_q (by assumption); have q10 : (x4_1 : Int) < ((x3_1.length : Int) : Int) := oD_q (by assumption); obtain ⟨go10, co10, eo10, gb10, gl10, cl10, HG10⟩ := Kd.R_form HO_3.out (by omega); (first | cases eo10 | (injection eo10 with ea_ en_ ec_; (first | subst ea_ | (injection ea_ with ea_; subst ea_)); subst ec_; clear en_)); have GB10 := Ae_q gb10; have GG10 := Ae_q HG10; clear gb10 gl10 HG10; obtain ⟨ce10, hcl10, hM10, hcc10, hfr10⟩ := Kd.R_elem HO_3.out z49 (x4_1 : Int) p10 q10; obtain rfl := k49_openM hM10; have hx10_0 : w11.cell? ⟨go10, (x4_1 : Int).toNat * 3, none⟩ = some (.int .i64 ((rd_T49 x3_1 x4_1).f0)) := hcc10 0 _ rfl; have hx10_1 : w11.cell? ⟨go10, (x4_1 : Int).toNat * 3 + 1, none⟩ = some (.int .i64 ((rd_T49 x3_1 x4_1).f1)) := hcc10 1 _ rfl; have hx10_2 : w11.cell? ⟨go10, (x4_1 : Int).toNat * 3 + 2, none⟩ = some (.int .i64 ((rd_T49 x3_1 x4_1).f2)) := hcc10 2 _ rfl; have hf10_0 : w11.frozen? ⟨go10, (x4_1 : Int).toNat * 3, none⟩ = false := hfr10 0; have hf10_1 : w11.frozen? ⟨go10, (x4_1 : Int).toNat * 3 + 1, none⟩ = false := hfr10 1; have hf10_2 : w11.frozen? ⟨go10, (x4_1 : Int).toNat * 3 + 2, none⟩ = false := hfr10 2; clear hcl10 hcc10 hfr10 hM10; replace p10 := eq_true p10; replace q10 := eq_true q10; have HX12 := Ae_q (show Kd.R k49 49 w11 w.heap.size (fun _ => True) (.slice (some ⟨go10, 0, none⟩) x3_1.length co10) x3_1 from (rup HO_3.out)); obtain ⟨ce12, hcl12, hM12, hcc12, hfr12⟩ := Kd.R_elem HX12.out z49 (x4_1 : Int) (oD_q (by assumption)) (by have h_ : (x4_1 : Int) < ((x3_1.length : Int) : Int) := oD_q (by assumption); first | exact h_ | (have e_ := (rR_q HO_3.out).1; omega) | simpa using h_); obtain rfl := k49_openM hM12; have HP12 := Kd.R_seg HX12.out (x4_1 : Int) (oD_q (by assumption)) (by have h_ : (x4_1 : Int) < ((x3_1.length : Int) : Int) := oD_q (by assumption); first | exact h_ | (have e_ := (rR_q HO_3.out).1; omega) | simpa using h_) (seg := [.int .i64 t201, .int .i64 t202, .int .i64 t203]) (j := 0) hcl12 hcc12 (show 3 ≤ 3 from by decide) (x' := (⟨t201, t202, t203⟩ : S49)) (k49_mkM _ _ _ (⟨t201, t202, t203⟩ : S49) ) (fun _ hk => hk); have hx12_0 := hcc12 0 _ rfl; (try simp only [show (k49).sz = 3 from rfl, Nat.mul_one, Nat.add_zero] at hx12_0); have hf12_0 := hfr12 0; (try simp only [show (k49).sz = 3 from rfl, Nat.mul_one, Nat.add_zero] at hf12_0); have hx12_1 := hcc12 1 _ rfl; (try simp only [show (k49).sz = 3 from rfl, Nat.mul_one, Nat.add_zero] at hx12_1); have hf12_1 := hfr12 1; (try simp only [show (k49).sz = 3 from rfl, Nat.mul_one, Nat.add_zero] at hf12_1); have hx12_2 := hcc12 2 _ rfl; (try simp only [show (k49).sz = 3 from rfl, Nat.mul_one, Nat.add_zero] at hx12_2); have hf12_2 := hfr12 2; (try simp only [show (k49).sz = 3 from rfl, Nat.mul_one, Nat.add_zero] at hf12_2); clear hcl12 hcc12 hfr12 hM12) | ((with_reducible refine gate_store (t := 49) (p := 21) rfl ?_); refine store_event (t := 49) (p := 21) (v := ?vo_w13) (w1 := (((w11.setCell ⟨go10, (x4_1 : Int).toNat * 3, none⟩ (.int .i64 t201)).setCell ⟨go10, (x4_1 : Int).toNat * 3 + 1, none⟩ (.int .i64 t202)).setCell ⟨go10, (x4_1 : Int).toNat * 3 + 2, none⟩ (.int .i64 t203))) ?hg ?ho ?hn ?hr ?_; (case ho => rfl); (case hg => rfl); (case hn => rfl); (case hr => exact m6_q); intro w13 hw; have hg : w11.grownBy w13 (some go10) := (by rw [hw]; exact HP12.2); have hp_ : Kd.R k49 49 w13 w.heap.size (fun _ => True) (.slice (some ⟨go10, 0, none⟩) x3_1.length co10) y204 := (by rw [hw, Ny204.out]; exact HP12.1); clear HP12; replace HO_3 := Ae_q (hp_); replace HB := Ae_q ((by rw [hw]; exact bS_q (bS_q (bS_q (HB.out) GB10.out) GB10.out) GB10.out : Below w.heap.size w w13)); clear hg hw hp_))
   go_roundg k1
   case measure => have := HK1.out; omega
   case rel => exact ⟨(y204), (wrap64 (x4_1 + 1)), m3_q, H', ⟨m28_q⟩, ⟨rup HO_3.out⟩, ⟨bel HB.out⟩⟩

def laws_eqPlate.f (a0_0 : Int) (a0_1 : Int) (a0_2 : Int) (a1_0 : Int) (a1_1 : Int) (a1_2 : Int) : Option (Bool) := if a0_0 = a1_0 then (if a0_1 = a1_1 then (if a0_2 = a1_2 then (some true) else (some false)) else (some false)) else (some false)
set_option maxHeartbeats 8000000 in
set_option maxRecDepth 100000 in
theorem laws_eqPlate.calls (a0_0 : Int) (a0_1 : Int) (a0_2 : Int) (a1_0 : Int) (a1_1 : Int) (a1_2 : Int) (r : Bool) (w : World) (h : laws_eqPlate.f a0_0 a0_1 a0_2 a1_0 a1_1 a1_2 = some r) :
    Calls Try.prog 62 #[.agg #[.int .i64 a0_0, .int .i64 a0_1, .int .i64 a0_2], .agg #[.int .i64 a1_0, .int .i64 a1_1, .int .i64 a1_2]] w fun e w' => e = .returned (.bool r) ∧ Below w.heap.size w w' := by
 have hu49 := Try.underlying49
 have HB := Ae_q (bR_q w.heap.size w)
 have H : (if a0_0 = a1_0 then (if a0_1 = a1_1 then (if a0_2 = a1_2 then (some true) else (some false)) else (some false)) else (some false)) = some r := h
 clear h
 by_cases c3 : a0_0 = a1_0
 rotate_left
 ·rw [if_neg c3] at H
  have c3b0 : (a0_0 == a1_0) = false := fN_q.mpr c3
  have c3b1 : (a0_0 != a1_0) = true := nI_q.mpr c3
  obtain rfl := oI_q H
  go_enter Try.func62, Try.ntmps62
  go_wp2_with (first | ((with_reducible refine gD_q (N := 2) rfl ?_); refine bE_q ?hg (N := 2) ?hd (cs := #[.int .i64 a0_0, .int .i64 a0_1, .int .i64 a0_2]) (t := 49) ?hr ?_; (case hd => rfl); (case hg => rfl); (case hr => exact m6_q); intro gb205 hg w' hbox hb; have BK205 := Ae_q (hbox); have GW205 := Ae_q ((by rw [hg]; exact (bZ_q (bel HB.out)) : w.heap.size ≤ gb205)); have GE205 := Ae_q ((by rw [hg]; exact (bZ_q (bel HB.out)) : w.heap.size ≤ gb205)); replace HB := Ae_q (bT_q (bel HB.out) hb); clear hb hbox hg) | ((with_reducible refine gD_q (N := 3) rfl ?_); refine bE_q ?hg (N := 3) ?hd (cs := #[.int .i64 a1_0, .int .i64 a1_1, .int .i64 a1_2]) (t := 49) ?hr ?_; (case hd => rfl); (case hg => rfl); (case hr => exact m6_q); intro gb206 hg w22 hbox hb; have BK206 := Ae_q (hbox); have GW206 := Ae_q ((by rw [hg]; exact (bZ_q m13_q) : w.heap.size ≤ gb206)); have GE206 := Ae_q ((by rw [hg]; exact (bZ_q m13_q) : w.heap.size ≤ gb206)); replace HB := Ae_q (bT_q m13_q hb); have NB205_206 := Ae_q ((by rw [hg]; exact nL_q (blk_lt (g := gb205) (o := .cells #[.int .i64 a0_0, .int .i64 a0_1, .int .i64 a0_2] 49 (0, 0)) (bup BK205.out)) : gb205 ≠ gb206)); have NB206_205 := Ae_q ((by rw [hg]; exact nG_q (blk_lt (g := gb205) (o := .cells #[.int .i64 a0_0, .int .i64 a0_1, .int .i64 a0_2] 49 (0, 0)) (bup BK205.out)) : gb206 ≠ gb205)); replace BK205 := Ae_q (bB_q (g := gb205) (o := .cells #[.int .i64 a0_0, .int .i64 a0_1, .int .i64 a0_2] 49 (0, 0)) (bup BK205.out) hb); clear hb hbox hg; have hnb23 := NB205_206.out; have hnc23 := NB206_205.out; have hcz24_0 : cI w22 gb205 0 a0_0 := cZ BK205 0 rfl; have hcz24_1 : cI w22 gb205 1 a0_1 := cZ BK205 1 rfl; have hcz24_2 : cI w22 gb205 2 a0_2 := cZ BK205 2 rfl; have hfz24_0 := bF_q BK205.out 0; have hfz24_1 := bF_q BK205.out 1; have hfz24_2 := bF_q BK205.out 2; have hcz25_0 : cI w22 gb206 0 a1_0 := cZ BK206 0 rfl; have hcz25_1 : cI w22 gb206 1 a1_1 := cZ BK206 1 rfl; have hcz25_2 : cI w22 gb206 2 a1_2 := cZ BK206 2 rfl; have hfz25_0 := bF_q BK206.out 0; have hfz25_1 := bF_q BK206.out 1; have hfz25_2 := bF_q BK206.out 2))
  go_ret
  exact ⟨m2_q, m30_q⟩
 rw [if_pos c3] at H
 have c3b0 : (a0_0 == a1_0) = true := beq_iff_eq.mpr c3
 have c3b1 : (a0_0 != a1_0) = false := nE_q.mpr c3
 clear c3
 by_cases c4 : a0_1 = a1_1
 rotate_left
 ·rw [if_neg c4] at H
  have c4b0 : (a0_1 == a1_1) = false := fN_q.mpr c4
  have c4b1 : (a0_1 != a1_1) = true := nI_q.mpr c4
  obtain rfl := oI_q H
  go_enter Try.func62, Try.ntmps62
  go_wp2_with (first | ((with_reducible refine gD_q (N := 2) rfl ?_); refine bE_q ?hg (N := 2) ?hd (cs := #[.int .i64 a0_0, .int .i64 a0_1, .int .i64 a0_2]) (t := 49) ?hr ?_; (case hd => rfl); (case hg => rfl); (case hr => exact m6_q); intro gb205 hg w' hbox hb; have BK205 := Ae_q (hbox); have GW205 := Ae_q ((by rw [hg]; exact (bZ_q (bel HB.out)) : w.heap.size ≤ gb205)); have GE205 := Ae_q ((by rw [hg]; exact (bZ_q (bel HB.out)) : w.heap.size ≤ gb205)); replace HB := Ae_q (bT_q (bel HB.out) hb); clear hb hbox hg) | ((with_reducible refine gD_q (N := 3) rfl ?_); refine bE_q ?hg (N := 3) ?hd (cs := #[.int .i64 a1_0, .int .i64 a1_1, .int .i64 a1_2]) (t := 49) ?hr ?_; (case hd => rfl); (case hg => rfl); (case hr => exact m6_q); intro gb206 hg w17 hbox hb; have BK206 := Ae_q (hbox); have GW206 := Ae_q ((by rw [hg]; exact (bZ_q m13_q) : w.heap.size ≤ gb206)); have GE206 := Ae_q ((by rw [hg]; exact (bZ_q m13_q) : w.heap.size ≤ gb206)); replace HB := Ae_q (bT_q m13_q hb); have NB205_206 := Ae_q ((by rw [hg]; exact nL_q (blk_lt (g := gb205) (o := .cells #[.int .i64 a0_0, .int .i64 a0_1, .int .i64 a0_2] 49 (0, 0)) (bup BK205.out)) : gb205 ≠ gb206)); have NB206_205 := Ae_q ((by rw [hg]; exact nG_q (blk_lt (g := gb205) (o := .cells #[.int .i64 a0_0, .int .i64 a0_1, .int .i64 a0_2] 49 (0, 0)) (bup BK205.out)) : gb206 ≠ gb205)); replace BK205 := Ae_q (bB_q (g := gb205) (o := .cells #[.int .i64 a0_0, .int .i64 a0_1, .int .i64 a0_2] 49 (0, 0)) (bup BK205.out) hb); clear hb hbox hg; have hnb18 := NB205_206.out; have hnc18 := NB206_205.out; have hcz19_0 : cI w17 gb205 0 a0_0 := cZ BK205 0 rfl; have hcz19_1 : cI w17 gb205 1 a0_1 := cZ BK205 1 rfl; have hcz19_2 : cI w17 gb205 2 a0_2 := cZ BK205 2 rfl; have hfz19_0 := bF_q BK205.out 0; have hfz19_1 := bF_q BK205.out 1; have hfz19_2 := bF_q BK205.out 2; have hcz20_0 : cI w17 gb206 0 a1_0 := cZ BK206 0 rfl; have hcz20_1 : cI w17 gb206 1 a1_1 := cZ BK206 1 rfl; have hcz20_2 : cI w17 gb206 2 a1_2 := cZ BK206 2 rfl; have hfz20_0 := bF_q BK206.out 0; have hfz20_1 := bF_q BK206.out 1; have hfz20_2 := bF_q BK206.out 2))
  go_ret
  exact ⟨m2_q, m30_q⟩
 rw [if_pos c4] at H
 have c4b0 : (a0_1 == a1_1) = true := beq_iff_eq.mpr c4
 have c4b1 : (a0_1 != a1_1) = false := nE_q.mpr c4
 clear c4
 by_cases c5 : a0_2 = a1_2
 ·rw [if_pos c5] at H
  have c5b0 : (a0_2 == a1_2) = true := beq_iff_eq.mpr c5
  have c5b1 : (a0_2 != a1_2) = false := nE_q.mpr c5
  clear c5
  obtain rfl := oI_q H
  go_enter Try.func62, Try.ntmps62
  go_wp2_with (first | ((with_reducible refine gD_q (N := 2) rfl ?_); refine bE_q ?hg (N := 2) ?hd (cs := #[.int .i64 a0_0, .int .i64 a0_1, .int .i64 a0_2]) (t := 49) ?hr ?_; (case hd => rfl); (case hg => rfl); (case hr => exact m6_q); intro gb205 hg w' hbox hb; have BK205 := Ae_q (hbox); have GW205 := Ae_q ((by rw [hg]; exact (bZ_q (bel HB.out)) : w.heap.size ≤ gb205)); have GE205 := Ae_q ((by rw [hg]; exact (bZ_q (bel HB.out)) : w.heap.size ≤ gb205)); replace HB := Ae_q (bT_q (bel HB.out) hb); clear hb hbox hg) | ((with_reducible refine gD_q (N := 3) rfl ?_); refine bE_q ?hg (N := 3) ?hd (cs := #[.int .i64 a1_0, .int .i64 a1_1, .int .i64 a1_2]) (t := 49) ?hr ?_; (case hd => rfl); (case hg => rfl); (case hr => exact m6_q); intro gb206 hg w7 hbox hb; have BK206 := Ae_q (hbox); have GW206 := Ae_q ((by rw [hg]; exact (bZ_q m13_q) : w.heap.size ≤ gb206)); have GE206 := Ae_q ((by rw [hg]; exact (bZ_q m13_q) : w.heap.size ≤ gb206)); replace HB := Ae_q (bT_q m13_q hb); have NB205_206 := Ae_q ((by rw [hg]; exact nL_q (blk_lt (g := gb205) (o := .cells #[.int .i64 a0_0, .int .i64 a0_1, .int .i64 a0_2] 49 (0, 0)) (bup BK205.out)) : gb205 ≠ gb206)); have NB206_205 := Ae_q ((by rw [hg]; exact nG_q (blk_lt (g := gb205) (o := .cells #[.int .i64 a0_0, .int .i64 a0_1, .int .i64 a0_2] 49 (0, 0)) (bup BK205.out)) : gb206 ≠ gb205)); replace BK205 := Ae_q (bB_q (g := gb205) (o := .cells #[.int .i64 a0_0, .int .i64 a0_1, .int .i64 a0_2] 49 (0, 0)) (bup BK205.out) hb); clear hb hbox hg; have hnb8 := NB205_206.out; have hnc8 := NB206_205.out; have hcz9_0 : cI w7 gb205 0 a0_0 := cZ BK205 0 rfl; have hcz9_1 : cI w7 gb205 1 a0_1 := cZ BK205 1 rfl; have hcz9_2 : cI w7 gb205 2 a0_2 := cZ BK205 2 rfl; have hfz9_0 := bF_q BK205.out 0; have hfz9_1 := bF_q BK205.out 1; have hfz9_2 := bF_q BK205.out 2; have hcz10_0 : cI w7 gb206 0 a1_0 := cZ BK206 0 rfl; have hcz10_1 : cI w7 gb206 1 a1_1 := cZ BK206 1 rfl; have hcz10_2 : cI w7 gb206 2 a1_2 := cZ BK206 2 rfl; have hfz10_0 := bF_q BK206.out 0; have hfz10_1 := bF_q BK206.out 1; have hfz10_2 := bF_q BK206.out 2))
  go_ret
  exact ⟨m2_q, m30_q⟩
 rw [if_neg c5] at H
 have c5b0 : (a0_2 == a1_2) = false := fN_q.mpr c5
 have c5b1 : (a0_2 != a1_2) = true := nI_q.mpr c5
 obtain rfl := oI_q H
 go_enter Try.func62, Try.ntmps62
 go_wp2_with (first | ((with_reducible refine gD_q (N := 2) rfl ?_); refine bE_q ?hg (N := 2) ?hd (cs := #[.int .i64 a0_0, .int .i64 a0_1, .int .i64 a0_2]) (t := 49) ?hr ?_; (case hd => rfl); (case hg => rfl); (case hr => exact m6_q); intro gb205 hg w11 hbox hb; have BK205 := Ae_q (hbox); have GW205 := Ae_q ((by rw [hg]; exact (bZ_q (bel HB.out)) : w.heap.size ≤ gb205)); have GE205 := Ae_q ((by rw [hg]; exact (bZ_q (bel HB.out)) : w.heap.size ≤ gb205)); replace HB := Ae_q (bT_q (bel HB.out) hb); clear hb hbox hg) | ((with_reducible refine gD_q (N := 3) rfl ?_); refine bE_q ?hg (N := 3) ?hd (cs := #[.int .i64 a1_0, .int .i64 a1_1, .int .i64 a1_2]) (t := 49) ?hr ?_; (case hd => rfl); (case hg => rfl); (case hr => exact m6_q); intro gb206 hg w12 hbox hb; have BK206 := Ae_q (hbox); have GW206 := Ae_q ((by rw [hg]; exact (bZ_q m13_q) : w.heap.size ≤ gb206)); have GE206 := Ae_q ((by rw [hg]; exact (bZ_q m13_q) : w.heap.size ≤ gb206)); replace HB := Ae_q (bT_q m13_q hb); have NB205_206 := Ae_q ((by rw [hg]; exact nL_q (blk_lt (g := gb205) (o := .cells #[.int .i64 a0_0, .int .i64 a0_1, .int .i64 a0_2] 49 (0, 0)) (bup BK205.out)) : gb205 ≠ gb206)); have NB206_205 := Ae_q ((by rw [hg]; exact nG_q (blk_lt (g := gb205) (o := .cells #[.int .i64 a0_0, .int .i64 a0_1, .int .i64 a0_2] 49 (0, 0)) (bup BK205.out)) : gb206 ≠ gb205)); replace BK205 := Ae_q (bB_q (g := gb205) (o := .cells #[.int .i64 a0_0, .int .i64 a0_1, .int .i64 a0_2] 49 (0, 0)) (bup BK205.out) hb); clear hb hbox hg; have hnb13 := NB205_206.out; have hnc13 := NB206_205.out; have hcz14_0 : cI w12 gb205 0 a0_0 := cZ BK205 0 rfl; have hcz14_1 : cI w12 gb205 1 a0_1 := cZ BK205 1 rfl; have hcz14_2 : cI w12 gb205 2 a0_2 := cZ BK205 2 rfl; have hfz14_0 := bF_q BK205.out 0; have hfz14_1 := bF_q BK205.out 1; have hfz14_2 := bF_q BK205.out 2; have hcz15_0 : cI w12 gb206 0 a1_0 := cZ BK206 0 rfl; have hcz15_1 : cI w12 gb206 1 a1_1 := cZ BK206 1 rfl; have hcz15_2 : cI w12 gb206 2 a1_2 := cZ BK206 2 rfl; have hfz15_0 := bF_q BK206.out 0; have hfz15_1 := bF_q BK206.out 1; have hfz15_2 := bF_q BK206.out 2))
 go_ret
 exact ⟨m2_q, m30_q⟩

end Go.Proofs.Ytnckblolijkdaaa.PBt
