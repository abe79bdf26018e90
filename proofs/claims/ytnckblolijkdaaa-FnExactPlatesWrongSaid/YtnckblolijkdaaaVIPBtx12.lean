import Derived.Test.YtnckblolijkdaaaVIPBtx0
import Derived.Test.YtnckblolijkdaaaVIPBtx10
import Derived.Test.YtnckblolijkdaaaVIPBtx11
namespace Go.Proofs.Ytnckblolijkdaaa.PBt
open Go.RowKit Go.Proofs.YtnckblolijkdaaaW.PrintWords Go.Proofs.YtnckblolijkdaaaW.PrintLast Go.Proofs.YtnckblolijkdaaaW.PrintMore
attribute [local go_sem] max2_int min2_int max_two min_two max_three min_three max_four min_four
set_option linter.unusedVariables false
set_option linter.unusedSimpArgs false

def spec_l42Find.l0 : Nat → List (S39) → Int → Int → Option (Int)
 | 0, _, _, _ => none
 | k + 1, x0, x1, x5 => if x5 < (x0.length : Int) then (if 0 ≤ x5 then (if ((rd_T39 x0 x5).f0) = x1 then (some x5) else (spec_l42Find.l0 k x0 x1 (wrap64 (x5 + 1)))) else (none)) else (some (-1))
def spec_l42Find.f (k : Nat) (l0 : List (S39)) (a1 : Int) : Option (Int) := spec_l42Find.l0 k l0 a1 0
set_option maxHeartbeats 8000000 in
set_option maxRecDepth 100000 in
theorem spec_l42Find.calls (k : Nat) (A0 : Option Addr) (c0 : Nat) (l0 : List (S39)) (a1 : Int) (r : Int) (w : World) (hr0 : Kd.C k39 w A0 l0.length l0) (hc0 : l0.length ≤ c0) (h : spec_l42Find.f k l0 a1 = some r) :
    Calls Try.prog 60 #[.slice A0 l0.length c0, .int .i64 a1] w fun e w' => e = .returned (.int .i64 r) ∧ Drawn0 w w' := by
 have HR0 := Ae_q hr0
 have HC0 := Ae_q hc0
 clear hr0 hc0
 have H : (spec_l42Find.l0 k l0 a1 0) = some r := h
 clear h
 have H' := Ae_q H
 clear H
 go_enter Try.func60, Try.ntmps60
 go_wp2
 go_loopg [5] k (fun kq v5 w' => ∃ (x5_1 : Int), v5 = .int .i64 x5_1 ∧ Aside0 (spec_l42Find.l0 kq l0 a1 x5_1 = some r) ∧ Aside0 (kq ≤ k) ∧ Drawn0 w w')
 case atStart => exact ⟨(0), m3_q, H', ⟨nR_q _⟩, m17_q⟩
 case round =>
  clear H'
  try clear p2
  obtain ⟨x5_1, rfl, HA, HK1, ⟨m1, rfl⟩⟩ := hrel
  cases gk with
  | zero => exact absurd HA.out (by simp [spec_l42Find.l0])
  | succ k1 =>
   have H := HA.out
   clear HA
   simp only [spec_l42Find.l0] at H
   by_cases c3 : x5_1 < (l0.length : Int)
   rotate_left
   ·rw [if_neg c3] at H
    have c3b0 : decide (x5_1 < (l0.length : Int)) = false := dF_q c3
    clear c3
    obtain rfl := oI_q H
    go_wp2
    go_ret
    exact ⟨m3_q, m17_q⟩
   rw [if_pos c3] at H
   have c3b0 : decide (x5_1 < (l0.length : Int)) = true := dT_q c3
   clear c3
   by_cases c4 : 0 ≤ x5_1
   rotate_left
   ·rw [if_neg c4] at H
    exact absurd H (by simp)
   rw [if_pos c4] at H
   have c4b0 : decide (0 ≤ x5_1) = true := dT_q c4
   clear c4
   by_cases c5 : ((rd_T39 l0 x5_1).f0) = a1
   ·rw [if_pos c5] at H
    have c5b0 : (((rd_T39 l0 x5_1).f0) == a1) = true := beq_iff_eq.mpr c5
    have c5b1 : (((rd_T39 l0 x5_1).f0) != a1) = false := nE_q.mpr c5
    clear c5
    obtain rfl := oI_q H
    have p174 : 0 ≤ (x5_1 : Int) := oD_q (by assumption)
    have q174 : x5_1 < (l0.length : Int) := oD_q (by assumption)
    obtain ⟨ad174, A174_1, c174_1, e174, hx174_0, hx174_1, hx174_2, hx174_3, hl174_1, hi174_1⟩ := at_T39 HR0.out x5_1 p174 q174
    cases e174
    have HR174_1 := Ae_q hi174_1
    have HC174_1 := Ae_q hl174_1
    clear hi174_1 hl174_1
    replace p174 := eq_true p174
    replace q174 := eq_true q174
    go_wp2
    go_ret
    exact ⟨m3_q, m17_q⟩
   rw [if_neg c5] at H
   have c5b0 : (((rd_T39 l0 x5_1).f0) == a1) = false := fN_q.mpr c5
   have c5b1 : (((rd_T39 l0 x5_1).f0) != a1) = true := nI_q.mpr c5
   have H' := Ae_q H
   clear H
   have p174 : 0 ≤ (x5_1 : Int) := oD_q (by assumption)
   have q174 : x5_1 < (l0.length : Int) := oD_q (by assumption)
   obtain ⟨ad174, A174_1, c174_1, e174, hx174_0, hx174_1, hx174_2, hx174_3, hl174_1, hi174_1⟩ := at_T39 HR0.out x5_1 p174 q174
   cases e174
   have HR174_1 := Ae_q hi174_1
   have HC174_1 := Ae_q hl174_1
   clear hi174_1 hl174_1
   replace p174 := eq_true p174
   replace q174 := eq_true q174
   go_wp2
   go_roundg k1
   case measure => have := HK1.out; omega
   case rel => exact ⟨(wrap64 (x5_1 + 1)), m3_q, H', ⟨m41_q⟩, m17_q⟩

def spec_PlatesValid.l0 : Nat → List (S39) → List (S49) → Int → Option (Bool)
 | 0, _, _, _ => none
 | k + 1, x0, x1, x5 => if x5 < (x1.length : Int) then (if 0 ≤ x5 then ((spec_l6In.f ((rd_T49 x1 x5).f0) 1 99).bind fun t178 => (if t178 = true then ((spec_l42Find.f k x0 ((rd_T49 x1 x5).f1)).bind fun t179 => (if t179 < 0 then (some false) else ((spec_l6In.f ((rd_T49 x1 x5).f2) 0 1439).bind fun t180 => (if t180 = true then (spec_PlatesValid.l0 k x0 x1 (wrap64 (x5 + 1))) else (some false))))) else (some false))) else (none)) else ((spec_BatchesValid.f k x0).bind fun t175 => (if t175 = true then (some (decide ((x1.length : Int) ≤ 16))) else (some false)))
def spec_PlatesValid.f (k : Nat) (l0 : List (S39)) (l1 : List (S49)) : Option (Bool) := spec_PlatesValid.l0 k l0 l1 0
set_option maxHeartbeats 8000000 in
set_option maxRecDepth 100000 in
theorem spec_PlatesValid.calls (k : Nat) (A0 : Option Addr) (c0 : Nat) (l0 : List (S39)) (A1 : Option Addr) (c1 : Nat) (l1 : List (S49)) (r : Bool) (w : World) (hr0 : Kd.C k39 w A0 l0.length l0) (hc0 : l0.length ≤ c0) (hr1 : Kd.C k49 w A1 l1.length l1) (hc1 : l1.length ≤ c1) (h : spec_PlatesValid.f k l0 l1 = some r) :
    Calls Try.prog 31 #[.slice A0 l0.length c0, .slice A1 l1.length c1] w fun e w' => e = .returned (.bool r) ∧ Below w.heap.size w w' := by
 have hu49 := Try.underlying49
 have HR0 := Ae_q hr0
 have HC0 := Ae_q hc0
 clear hr0 hc0
 have HR1 := Ae_q hr1
 have HC1 := Ae_q hc1
 clear hr1 hc1
 have HB := Ae_q (bR_q w.heap.size w)
 have H : (spec_PlatesValid.l0 k l0 l1 0) = some r := h
 clear h
 have H' := Ae_q H
 clear H
 go_enter Try.func31, Try.ntmps31
 go_wp2
 go_loopg [5] k (fun kq v5 w' => ∃ (x5_1 : Int), v5 = .int .i64 x5_1 ∧ Aside0 (spec_PlatesValid.l0 kq l0 l1 x5_1 = some r) ∧ Aside0 (kq ≤ k) ∧ Aside0 (Below w.heap.size w w'))
 case atStart => exact ⟨(0), m3_q, H', ⟨nR_q _⟩, ⟨bel HB.out⟩⟩
 case round =>
  clear H'
  try clear c1
  try clear p2
  obtain ⟨x5_1, rfl, HA, HK1, HB⟩ := hrel
  cases gk with
  | zero => exact absurd HA.out (by simp [spec_PlatesValid.l0])
  | succ k1 =>
   have H := HA.out
   clear HA
   simp only [spec_PlatesValid.l0] at H
   by_cases c3 : x5_1 < (l1.length : Int)
   rotate_left
   ·rw [if_neg c3] at H
    have c3b0 : decide (x5_1 < (l1.length : Int)) = false := dF_q c3
    clear c3
    replace H := oB_q.mp H
    obtain ⟨t175, A190, H⟩ := H
    replace H : (if t175 = true then (some (decide ((l1.length : Int) ≤ 16))) else (some false)) = some r := H
    have A19 := Ae_q A190
    clear A190
    by_cases c20 : t175 = true
    ·subst c20
     have H1 : (some (decide ((l1.length : Int) ≤ 16))) = some r := by rw [if_pos rfl] at H; exact H
     clear H
     have H := H1
     clear H1
     obtain rfl := oI_q H
     go_wp2_with (first | ((with_reducible refine gC_q (f := 16) rfl ?_); refine gL_q (some 35) rfl rfl Try.func16 m7_q rfl #[.slice A0 l0.length c0] rfl m0_q ?_; (with_reducible refine (spec_BatchesValid.calls k1 _ _ l0 true _ ?side1 ?side2 A19.out).mono ?_); (case side1 => exact m39_q); (case side2 => exact m40_q); rintro e w' ⟨rfl, hb⟩; refine ⟨_, rfl, ?_⟩; replace HB := Ae_q (bT_q (bel HB.out) hb); (try clear hb); (try clear hb2); (try clear hk); (try clear hi)))
     go_ret
     exact ⟨m2_q, bel HB.out⟩
    replace c20 := fM_q.mpr c20
    subst c20
    have H1 : (some false) = some r := by rw [if_neg (show ¬ (false = true) by decide)] at H; exact H
    clear H
    have H := H1
    clear H1
    obtain rfl := oI_q H
    go_wp2_with (first | ((with_reducible refine gC_q (f := 16) rfl ?_); refine gL_q (some 35) rfl rfl Try.func16 m7_q rfl #[.slice A0 l0.length c0] rfl m0_q ?_; (with_reducible refine (spec_BatchesValid.calls k1 _ _ l0 false _ ?side1 ?side2 A19.out).mono ?_); (case side1 => exact m39_q); (case side2 => exact m40_q); rintro e w22 ⟨rfl, hb⟩; refine ⟨_, rfl, ?_⟩; replace HB := Ae_q (bT_q (bel HB.out) hb); (try clear hb); (try clear hb2); (try clear hk); (try clear hi)))
    go_ret
    exact ⟨m2_q, bel HB.out⟩
   rw [if_pos c3] at H
   have c3b0 : decide (x5_1 < (l1.length : Int)) = true := dT_q c3
   clear c3
   by_cases c4 : 0 ≤ x5_1
   rotate_left
   ·rw [if_neg c4] at H
    exact absurd H (by simp)
   rw [if_pos c4] at H
   have c4b0 : decide (0 ≤ x5_1) = true := dT_q c4
   clear c4
   replace H := oB_q.mp H
   obtain ⟨t178, A50, H⟩ := H
   replace H : (if t178 = true then ((spec_l42Find.f k1 l0 ((rd_T49 l1 x5_1).f1)).bind fun t179 => (if t179 < 0 then (some false) else ((spec_l6In.f ((rd_T49 l1 x5_1).f2) 0 1439).bind fun t180 => (if t180 = true then (spec_PlatesValid.l0 k1 l0 l1 (wrap64 (x5_1 + 1))) else (some false))))) else (some false)) = some r := H
   have A5 := Ae_q A50
   clear A50
   by_cases c6 : t178 = true
   rotate_left
   ·replace c6 := fM_q.mpr c6
    subst c6
    have H1 : (some false) = some r := by rw [if_neg (show ¬ (false = true) by decide)] at H; exact H
    clear H
    have H := H1
    clear H1
    obtain rfl := oI_q H
    have p176 : 0 ≤ (x5_1 : Int) := oD_q (by assumption)
    have q176 : x5_1 < (l1.length : Int) := oD_q (by assumption)
    obtain ⟨ad176, e176, hx176_0, hx176_1, hx176_2⟩ := at_T49 HR1.out x5_1 p176 q176
    cases e176
    replace hx176_0 := cel HB.out hx176_0
    replace hx176_1 := cel HB.out hx176_1
    replace hx176_2 := cel HB.out hx176_2
    replace p176 := eq_true p176
    replace q176 := eq_true q176
    go_wp2_with (first | ((with_reducible refine gD_q (N := 6) rfl ?_); (try (refine gate_guard (by rfl) ?_; dsimp only)); refine bE_q ?hg (N := 6) ?hd (cs := #[.int .i64 0, .int .i64 0, .int .i64 0]) (t := 49) ?hr ?_; (case hd => rfl); (case hg => rfl); (case hr => exact m6_q); intro gb177 hg w17 hbox hb; have BK177 := Ae_q (hbox); have GW177 := Ae_q ((by rw [hg]; exact (bZ_q (bel HB.out)) : w.heap.size ≤ gb177)); have GE177 := Ae_q ((by rw [hg]; exact (bZ_q (bel HB.out)) : w.heap.size ≤ gb177)); replace HB := Ae_q (bT_q (bel HB.out) hb); clear hb hbox hg; have hcz18_0 : cI w17 gb177 0 0 := cZ BK177 0 rfl; have hcz18_1 : cI w17 gb177 1 0 := cZ BK177 1 rfl; have hcz18_2 : cI w17 gb177 2 0 := cZ BK177 2 rfl; have hfz18_0 := bF_q BK177.out 0; have hfz18_1 := bF_q BK177.out 1; have hfz18_2 := bF_q BK177.out 2) | ((with_reducible refine gC_q (f := 59) rfl ?_); refine gL_q (some 19) rfl rfl Try.func59 m7_q rfl #[.int .i64 ((rd_T49 l1 x5_1).f0), .int .i64 1, .int .i64 99] rfl m0_q ?_; (with_reducible refine (spec_l6In.calls ((rd_T49 l1 x5_1).f0) 1 99 false _ A5.out).mono ?_); rintro e w' ⟨rfl, ⟨nd, rfl⟩⟩; refine ⟨_, rfl, ?_⟩))
    go_ret
    exact ⟨m2_q, m27_q⟩
   subst c6
   have H1 : ((spec_l42Find.f k1 l0 ((rd_T49 l1 x5_1).f1)).bind fun t179 => (if t179 < 0 then (some false) else ((spec_l6In.f ((rd_T49 l1 x5_1).f2) 0 1439).bind fun t180 => (if t180 = true then (spec_PlatesValid.l0 k1 l0 l1 (wrap64 (x5_1 + 1))) else (some false))))) = some r := by rw [if_pos rfl] at H; exact H
   clear H
   have H := H1
   clear H1
   replace H := oB_q.mp H
   obtain ⟨t179, A70, H⟩ := H
   replace H : (if t179 < 0 then (some false) else ((spec_l6In.f ((rd_T49 l1 x5_1).f2) 0 1439).bind fun t180 => (if t180 = true then (spec_PlatesValid.l0 k1 l0 l1 (wrap64 (x5_1 + 1))) else (some false)))) = some r := H
   have A7 := Ae_q A70
   clear A70
   by_cases c8 : t179 < 0
   ·rw [if_pos c8] at H
    have c8b0 : decide (t179 < 0) = true := dT_q c8
    clear c8
    obtain rfl := oI_q H
    have p176 : 0 ≤ (x5_1 : Int) := oD_q (by assumption)
    have q176 : x5_1 < (l1.length : Int) := oD_q (by assumption)
    obtain ⟨ad176, e176, hx176_0, hx176_1, hx176_2⟩ := at_T49 HR1.out x5_1 p176 q176
    cases e176
    replace hx176_0 := cel HB.out hx176_0
    replace hx176_1 := cel HB.out hx176_1
    replace hx176_2 := cel HB.out hx176_2
    replace p176 := eq_true p176
    replace q176 := eq_true q176
    go_wp2_with (first | ((with_reducible refine gD_q (N := 6) rfl ?_); (try (refine gate_guard (by rfl) ?_; dsimp only)); refine bE_q ?hg (N := 6) ?hd (cs := #[.int .i64 0, .int .i64 0, .int .i64 0]) (t := 49) ?hr ?_; (case hd => rfl); (case hg => rfl); (case hr => exact m6_q); intro gb177 hg w9 hbox hb; have BK177 := Ae_q (hbox); have GW177 := Ae_q ((by rw [hg]; exact (bZ_q (bel HB.out)) : w.heap.size ≤ gb177)); have GE177 := Ae_q ((by rw [hg]; exact (bZ_q (bel HB.out)) : w.heap.size ≤ gb177)); replace HB := Ae_q (bT_q (bel HB.out) hb); clear hb hbox hg; have hcz10_0 : cI w9 gb177 0 0 := cZ BK177 0 rfl; have hcz10_1 : cI w9 gb177 1 0 := cZ BK177 1 rfl; have hcz10_2 : cI w9 gb177 2 0 := cZ BK177 2 rfl; have hfz10_0 := bF_q BK177.out 0; have hfz10_1 := bF_q BK177.out 1; have hfz10_2 := bF_q BK177.out 2) | ((with_reducible refine gC_q (f := 59) rfl ?_); refine gL_q (some 19) rfl rfl Try.func59 m7_q rfl #[.int .i64 ((rd_T49 l1 x5_1).f0), .int .i64 1, .int .i64 99] rfl m0_q ?_; (with_reducible refine (spec_l6In.calls ((rd_T49 l1 x5_1).f0) 1 99 true _ A5.out).mono ?_); rintro e w' ⟨rfl, ⟨nd, rfl⟩⟩; refine ⟨_, rfl, ?_⟩) | (go_at_call 60; (with_reducible refine (spec_l42Find.calls k1 _ _ l0 ((rd_T49 l1 x5_1).f1) t179 _ ?side1 ?side2 A7.out).mono ?_); (case side1 => exact cB_q HR0.out m27_q); (case side2 => exact m40_q); rintro e w' ⟨rfl, ⟨nd, rfl⟩⟩))
    go_ret
    exact ⟨m2_q, m27_q⟩
   rw [if_neg c8] at H
   have c8b0 : decide (t179 < 0) = false := dF_q c8
   clear c8
   replace H := oB_q.mp H
   obtain ⟨t180, A110, H⟩ := H
   replace H : (if t180 = true then (spec_PlatesValid.l0 k1 l0 l1 (wrap64 (x5_1 + 1))) else (some false)) = some r := H
   have A11 := Ae_q A110
   clear A110
   by_cases c12 : t180 = true
   ·subst c12
    have H1 : (spec_PlatesValid.l0 k1 l0 l1 (wrap64 (x5_1 + 1))) = some r := by rw [if_pos rfl] at H; exact H
    clear H
    have H := H1
    clear H1
    have H' := Ae_q H
    clear H
    have p176 : 0 ≤ (x5_1 : Int) := oD_q (by assumption)
    have q176 : x5_1 < (l1.length : Int) := oD_q (by assumption)
    obtain ⟨ad176, e176, hx176_0, hx176_1, hx176_2⟩ := at_T49 HR1.out x5_1 p176 q176
    cases e176
    replace hx176_0 := cel HB.out hx176_0
    replace hx176_1 := cel HB.out hx176_1
    replace hx176_2 := cel HB.out hx176_2
    replace p176 := eq_true p176
    replace q176 := eq_true q176
    go_wp2_with (first | ((with_reducible refine gD_q (N := 6) rfl ?_); (try (refine gate_guard (by rfl) ?_; dsimp only)); refine bE_q ?hg (N := 6) ?hd (cs := #[.int .i64 0, .int .i64 0, .int .i64 0]) (t := 49) ?hr ?_; (case hd => rfl); (case hg => rfl); (case hr => exact m6_q); intro gb177 hg w13 hbox hb; have BK177 := Ae_q (hbox); have GW177 := Ae_q ((by rw [hg]; exact (bZ_q (bel HB.out)) : w.heap.size ≤ gb177)); have GE177 := Ae_q ((by rw [hg]; exact (bZ_q (bel HB.out)) : w.heap.size ≤ gb177)); replace HB := Ae_q (bT_q (bel HB.out) hb); clear hb hbox hg; have hcz14_0 : cI w13 gb177 0 0 := cZ BK177 0 rfl; have hcz14_1 : cI w13 gb177 1 0 := cZ BK177 1 rfl; have hcz14_2 : cI w13 gb177 2 0 := cZ BK177 2 rfl; have hfz14_0 := bF_q BK177.out 0; have hfz14_1 := bF_q BK177.out 1; have hfz14_2 := bF_q BK177.out 2) | ((with_reducible refine gC_q (f := 59) rfl ?_); refine gL_q (some 19) rfl rfl Try.func59 m7_q rfl #[.int .i64 ((rd_T49 l1 x5_1).f0), .int .i64 1, .int .i64 99] rfl m0_q ?_; (with_reducible refine (spec_l6In.calls ((rd_T49 l1 x5_1).f0) 1 99 true _ A5.out).mono ?_); rintro e w' ⟨rfl, ⟨nd, rfl⟩⟩; refine ⟨_, rfl, ?_⟩) | ((first | (go_at_call 60; (with_reducible refine (spec_l42Find.calls k1 _ _ l0 ((rd_T49 l1 x5_1).f1) t179 _ ?side1 ?side2 A7.out).mono ?_); (case side1 => exact cB_q HR0.out m27_q); (case side2 => exact m40_q)) | (go_at_call 59; (with_reducible refine (spec_l6In.calls ((rd_T49 l1 x5_1).f2) 0 1439 true _ A11.out).mono ?_))); rintro e w' ⟨rfl, ⟨nd, rfl⟩⟩))
    go_roundg k1
    case measure => have := HK1.out; omega
    case rel => exact ⟨(wrap64 (x5_1 + 1)), m3_q, H', ⟨m41_q⟩, ⟨m27_q⟩⟩
   replace c12 := fM_q.mpr c12
   subst c12
   have H1 : (some false) = some r := by rw [if_neg (show ¬ (false = true) by decide)] at H; exact H
   clear H
   have H := H1
   clear H1
   obtain rfl := oI_q H
   have p176 : 0 ≤ (x5_1 : Int) := oD_q (by assumption)
   have q176 : x5_1 < (l1.length : Int) := oD_q (by assumption)
   obtain ⟨ad176, e176, hx176_0, hx176_1, hx176_2⟩ := at_T49 HR1.out x5_1 p176 q176
   cases e176
   replace hx176_0 := cel HB.out hx176_0
   replace hx176_1 := cel HB.out hx176_1
   replace hx176_2 := cel HB.out hx176_2
   replace p176 := eq_true p176
   replace q176 := eq_true q176
   go_wp2_with (first | ((with_reducible refine gD_q (N := 6) rfl ?_); (try (refine gate_guard (by rfl) ?_; dsimp only)); refine bE_q ?hg (N := 6) ?hd (cs := #[.int .i64 0, .int .i64 0, .int .i64 0]) (t := 49) ?hr ?_; (case hd => rfl); (case hg => rfl); (case hr => exact m6_q); intro gb177 hg w15 hbox hb; have BK177 := Ae_q (hbox); have GW177 := Ae_q ((by rw [hg]; exact (bZ_q (bel HB.out)) : w.heap.size ≤ gb177)); have GE177 := Ae_q ((by rw [hg]; exact (bZ_q (bel HB.out)) : w.heap.size ≤ gb177)); replace HB := Ae_q (bT_q (bel HB.out) hb); clear hb hbox hg; have hcz16_0 : cI w15 gb177 0 0 := cZ BK177 0 rfl; have hcz16_1 : cI w15 gb177 1 0 := cZ BK177 1 rfl; have hcz16_2 : cI w15 gb177 2 0 := cZ BK177 2 rfl; have hfz16_0 := bF_q BK177.out 0; have hfz16_1 := bF_q BK177.out 1; have hfz16_2 := bF_q BK177.out 2) | ((with_reducible refine gC_q (f := 59) rfl ?_); refine gL_q (some 19) rfl rfl Try.func59 m7_q rfl #[.int .i64 ((rd_T49 l1 x5_1).f0), .int .i64 1, .int .i64 99] rfl m0_q ?_; (with_reducible refine (spec_l6In.calls ((rd_T49 l1 x5_1).f0) 1 99 true _ A5.out).mono ?_); rintro e w' ⟨rfl, ⟨nd, rfl⟩⟩; refine ⟨_, rfl, ?_⟩) | ((first | (go_at_call 60; (with_reducible refine (spec_l42Find.calls k1 _ _ l0 ((rd_T49 l1 x5_1).f1) t179 _ ?side1 ?side2 A7.out).mono ?_); (case side1 => exact cB_q HR0.out m27_q); (case side2 => exact m40_q)) | (go_at_call 59; (with_reducible refine (spec_l6In.calls ((rd_T49 l1 x5_1).f2) 0 1439 false _ A11.out).mono ?_))); rintro e w' ⟨rfl, ⟨nd, rfl⟩⟩))
   go_ret
   exact ⟨m2_q, m27_q⟩

mutual
def spec_PlatesWrong.l0 : Nat → List (S39) → List (S49) → List Int → Int → Option (List Int)
 | 0, _, _, _, _ => none
 | k + 1, x0, x1, x5, x6 => if x6 < (x1.length : Int) then ((spec_PlatesValid.f k x0 x1).bind fun t184 => (spec_PlatesWrong.j1 k x0 x1 x5 x6 t184)) else (spec_PlatesWrong.j1 k x0 x1 x5 x6 false)
def spec_PlatesWrong.j1 : Nat → List (S39) → List (S49) → List Int → Int → Bool → Option (List Int)
 | 0, _, _, _, _, _ => none
 | k + 1, x0, x1, x5, x6, x17 => if x17 = true then (if 0 ≤ x6 then (if x6 < (x1.length : Int) then ((spec_l42Find.f k x0 ((rd_T49 x1 x6).f1)).bind fun t186 => (if 0 ≤ t186 then (if t186 < (x0.length : Int) then ((spec_l6In.f ((rd_T49 x1 x6).f2) ((rd_T39 x0 t186).f2) ((rd_T39 x0 t186).f3)).bind fun t190 => (if t190 = true then (spec_PlatesWrong.l0 k x0 x1 x5 (wrap64 (x6 + 1))) else (if x5.length < 17592186044416 then (spec_PlatesWrong.l0 k x0 x1 (x5 ++ [x6]) (wrap64 (x6 + 1))) else (none)))) else (none)) else (none))) else (none)) else (none)) else (some x5)
end
def spec_PlatesWrong.f (k : Nat) (l0 : List (S39)) (l1 : List (S49)) : Option (List Int) := spec_PlatesWrong.l0 k l0 l1 (([] : List Int)) 0
set_option maxHeartbeats 8000000 in
set_option maxRecDepth 100000 in
theorem spec_PlatesWrong.calls (k : Nat) (A0 : Option Addr) (c0 : Nat) (l0 : List (S39)) (A1 : Option Addr) (c1 : Nat) (l1 : List (S49)) (r : List Int) (w : World) (hr0 : Kd.C k39 w A0 l0.length l0) (hc0 : l0.length ≤ c0) (hr1 : Kd.C k49 w A1 l1.length l1) (hc1 : l1.length ≤ c1) (h : spec_PlatesWrong.f k l0 l1 = some r) :
    Calls Try.prog 34 #[.slice A0 l0.length c0, .slice A1 l1.length c1] w fun e w' => ∃ v0_ : Value, e = .returned (v0_) ∧ Kd.R kI_q 3 w' w.heap.size (fun _ => True) v0_ r ∧ Below w.heap.size w w' := by
 have hu39 := Try.underlying39
 have HR0 := Ae_q hr0
 have HC0 := Ae_q hc0
 clear hr0 hc0
 have HR1 := Ae_q hr1
 have HC1 := Ae_q hc1
 clear hr1 hc1
 have HB := Ae_q (bR_q w.heap.size w)
 have H : (spec_PlatesWrong.l0 k l0 l1 (([] : List Int)) 0) = some r := h
 clear h
 obtain ⟨y181, hy181⟩ : ∃ y_ : List Int, y_ = (([] : List Int)) := ⟨_, rfl⟩
 replace H : (spec_PlatesWrong.l0 k l0 l1 y181 0) = some r := by first | (rw [hy181]; with_reducible exact H) | (have H2_ := (oS_q _ _).symm.trans H; rw [hy181]; with_reducible exact H2_) | (have H2_ := (oS_q _ _).symm.trans H; with_reducible exact H2_) | with_reducible exact H | (rw [hy181]; exact H) | exact H
 have Ny181 := Ae_q hy181
 clear hy181
 have H' := Ae_q H
 clear H
 go_enter Try.func34, Try.ntmps34
 go_wp2_with (first | ((with_reducible refine gD_q (N := 8) rfl ?_); refine Kd.R_lit kI_q _ 3 ?hg (N := 8) ?hd (xs := ([] : List Int)) (inner := []) (ok := fun _ => True) (okp := fun _ => True) ?hr ?hp (fun _ hk => hk) trivial (bR_q _ _) (nR_q _) (by simp) ?_; (case hd => rfl); (case hg => rfl); (case hr => exact m6_q); (case hp => exact (Reps.none _ _)); intro v182 w3 ho4 hb hg_ hnew_; clear hg_ hnew_; (first | rw [← Ny181.out] at ho4 | (simp only [Int.reduceToNat] at ho4; rw [← Ny181.out] at ho4)); have HO183 := Ae_q (rL_q ho4 (bZ_q (bel HB.out))); replace HB := Ae_q (bT_q (bel HB.out) hb); clear hb ho4))
 repeat (go_quiet (first | ((with_reducible refine gD_q (N := 8) rfl ?_); refine Kd.R_lit kI_q _ 3 ?hg (N := 8) ?hd (xs := ([] : List Int)) (inner := []) (ok := fun _ => True) (okp := fun _ => True) ?hr ?hp (fun _ hk => hk) trivial (bR_q _ _) (nR_q _) (by simp) ?_; (case hd => rfl); (case hg => rfl); (case hr => exact m6_q); (case hp => exact (Reps.none _ _)); intro v182 w3 ho4 hb hg_ hnew_; clear hg_ hnew_; (first | rw [← Ny181.out] at ho4 | (simp only [Int.reduceToNat] at ho4; rw [← Ny181.out] at ho4)); have HO183 := Ae_q (rL_q ho4 (bZ_q (bel HB.out))); replace HB := Ae_q (bT_q (bel HB.out) hb); clear hb ho4)); try go_wp2_with (first | ((with_reducible refine gD_q (N := 8) rfl ?_); refine Kd.R_lit kI_q _ 3 ?hg (N := 8) ?hd (xs := ([] : List Int)) (inner := []) (ok := fun _ => True) (okp := fun _ => True) ?hr ?hp (fun _ hk => hk) trivial (bR_q _ _) (nR_q _) (by simp) ?_; (case hd => rfl); (case hg => rfl); (case hr => exact m6_q); (case hp => exact (Reps.none _ _)); intro v182 w3 ho4 hb hg_ hnew_; clear hg_ hnew_; (first | rw [← Ny181.out] at ho4 | (simp only [Int.reduceToNat] at ho4; rw [← Ny181.out] at ho4)); have HO183 := Ae_q (rL_q ho4 (bZ_q (bel HB.out))); replace HB := Ae_q (bT_q (bel HB.out) hb); clear hb ho4)))
 go_loopg [5, 6] k (fun kq v5 v6 w' => ∃ (x5_1 : List Int) (x6_1 : Int), v6 = .int .i64 x6_1 ∧ Aside0 (spec_PlatesWrong.l0 kq l0 l1 x5_1 x6_1 = some r) ∧ Aside0 (kq ≤ k) ∧ Aside0 (Kd.R kI_q 3 w' w.heap.size (fun _ => True) v5 x5_1) ∧ Aside0 (Below w.heap.size w w'))
 case atStart => exact ⟨(y181), (0), m3_q, H', ⟨nR_q _⟩, ⟨rup HO183.out⟩, ⟨bel HB.out⟩⟩
 case round =>
  clear H'
  try clear c1
  try clear p2
  try clear c3
  obtain ⟨x5_1, x6_1, rfl, HA, HK1, HO_5, HB⟩ := hrel
  cases gk with
  | zero => exact absurd HA.out (by simp [spec_PlatesWrong.l0])
  | succ k1 =>
   have H := HA.out
   clear HA
   simp only [spec_PlatesWrong.l0] at H
   have HC5 := Ae_q H
   clear H
   go_upto_region 3 with (fail)
   repeat (go_quiet (fail); go_upto_region 3 with (fail))
   go_cut [17] (fun v17 wc => ∃ (kq : Nat) (x17_4 : Bool), v17 = .bool x17_4 ∧ Aside0 (spec_PlatesWrong.j1 kq l0 l1 x5_1 x6_1 x17_4 = some r) ∧ Aside0 (kq ≤ k1) ∧ Aside0 (Kd.R kI_q 3 wc w.heap.size (fun _ => True) u5 x5_1) ∧ Aside0 (Below w.heap.size w wc))
   case first =>
    have H := HC5.out
    clear HC5
    by_cases c6 : x6_1 < (l1.length : Int)
    rotate_left
    ·rw [if_neg c6] at H
     have c6b0 : decide (x6_1 < (l1.length : Int)) = false := dF_q c6
     clear c6
     (first | rw [c6b0] | (simp only [i64_w, i32_w]; rw [c6b0]) | skip)
     have H' := Ae_q H
     clear H
     go_wp2
     repeat (go_quiet (fail); try go_wp2)
     go_meet
     case rel => exact ⟨_, (false), m3_q, H', ⟨by have := HK1.out; first | omega | exact nR_q _⟩, ⟨rup HO_5.out⟩, ⟨bel HB.out⟩⟩
    rw [if_pos c6] at H
    have c6b0 : decide (x6_1 < (l1.length : Int)) = true := dT_q c6
    clear c6
    (first | rw [c6b0] | (simp only [i64_w, i32_w]; rw [c6b0]) | skip)
    replace H := oB_q.mp H
    obtain ⟨t184, A70, H⟩ := H
    replace H : (spec_PlatesWrong.j1 k1 l0 l1 x5_1 x6_1 t184) = some r := H
    have A7 := Ae_q A70
    clear A70
    have H' := Ae_q H
    clear H
    go_wp2_with (first | (go_at_call 31; (with_reducible refine (spec_PlatesValid.calls k1 _ _ l0 _ _ l1 t184 _ ?side1 ?side2 ?side3 ?side4 A7.out).mono ?_); (case side1 => exact m39_q); (case side2 => exact m40_q); (case side3 => exact m28_q); (case side4 => exact m47_q); rintro e w' ⟨rfl, hb⟩; replace HO_5 := Ae_q (rO_q (rup HO_5.out) hb); replace HB := Ae_q (bT_q (bel HB.out) hb); (try clear hb); (try clear hb2); (try clear hk); (try clear hi)))
    repeat (go_quiet (first | (go_at_call 31; (with_reducible refine (spec_PlatesValid.calls k1 _ _ l0 _ _ l1 t184 _ ?side1 ?side2 ?side3 ?side4 A7.out).mono ?_); (case side1 => exact m39_q); (case side2 => exact m40_q); (case side3 => exact m28_q); (case side4 => exact m47_q); rintro e w' ⟨rfl, hb⟩; replace HO_5 := Ae_q (rO_q (rup HO_5.out) hb); replace HB := Ae_q (bT_q (bel HB.out) hb); (try clear hb); (try clear hb2); (try clear hk); (try clear hi))); try go_wp2_with (first | (go_at_call 31; (with_reducible refine (spec_PlatesValid.calls k1 _ _ l0 _ _ l1 t184 _ ?side1 ?side2 ?side3 ?side4 A7.out).mono ?_); (case side1 => exact m39_q); (case side2 => exact m40_q); (case side3 => exact m28_q); (case side4 => exact m47_q); rintro e w' ⟨rfl, hb⟩; replace HO_5 := Ae_q (rO_q (rup HO_5.out) hb); replace HB := Ae_q (bT_q (bel HB.out) hb); (try clear hb); (try clear hb2); (try clear hk); (try clear hi))))
    go_meet
    case rel => exact ⟨_, (t184), m3_q, H', ⟨by have := HK1.out; first | omega | exact nR_q _⟩, ⟨rup HO_5.out⟩, ⟨bel HB.out⟩⟩
   case rest =>
    clear HC5
    try clear c1
    try clear p2
    try clear c3
    try clear c6
    try clear c6b0
    try clear p2
    obtain ⟨kq, x17_4, rfl, HA, HJ4, HO_5, HB⟩ := hcut
    cases kq with
    | zero => exact absurd HA.out (by simp [spec_PlatesWrong.j1])
    | succ kj4 =>
     have H := HA.out
     clear HA
     simp only [spec_PlatesWrong.j1] at H
     by_cases c9 : x17_4 = true
     rotate_left
     ·replace c9 := fM_q.mpr c9
      subst c9
      have H1 : (some x5_1) = some r := by rw [if_neg (show ¬ (false = true) by decide)] at H; exact H
      clear H
      have H := H1
      clear H1
      obtain rfl := oI_q H
      go_wp2
      repeat (go_quiet (fail); try go_wp2)
      go_ret
      exact ⟨_, m2_q, rup HO_5.out, bel HB.out⟩
     subst c9
     have H1 : (if 0 ≤ x6_1 then (if x6_1 < (l1.length : Int) then ((spec_l42Find.f kj4 l0 ((rd_T49 l1 x6_1).f1)).bind fun t186 => (if 0 ≤ t186 then (if t186 < (l0.length : Int) then ((spec_l6In.f ((rd_T49 l1 x6_1).f2) ((rd_T39 l0 t186).f2) ((rd_T39 l0 t186).f3)).bind fun t190 => (if t190 = true then (spec_PlatesWrong.l0 kj4 l0 l1 x5_1 (wrap64 (x6_1 + 1))) else (if x5_1.length < 17592186044416 then (spec_PlatesWrong.l0 kj4 l0 l1 (x5_1 ++ [x6_1]) (wrap64 (x6_1 + 1))) else (none)))) else (none)) else (none))) else (none)) else (none)) = some r := by rw [if_pos rfl] at H; exact H
     clear H
     have H := H1
     clear H1
     by_cases c10 : 0 ≤ x6_1
     rotate_left
     ·rw [if_neg c10] at H
      exact absurd H (by simp)
     rw [if_pos c10] at H
     have c10b0 : decide (0 ≤ x6_1) = true := dT_q c10
     clear c10
     by_cases c11 : x6_1 < (l1.length : Int)
     rotate_left
     ·rw [if_neg c11] at H
      exact absurd H (by simp)
     rw [if_pos c11] at H
     have c11b0 : decide (x6_1 < (l1.length : Int)) = true := dT_q c11
     clear c11
     replace H := oB_q.mp H
     obtain ⟨t186, A120, H⟩ := H
     replace H : (if 0 ≤ t186 then (if t186 < (l0.length : Int) then ((spec_l6In.f ((rd_T49 l1 x6_1).f2) ((rd_T39 l0 t186).f2) ((rd_T39 l0 t186).f3)).bind fun t190 => (if t190 = true then (spec_PlatesWrong.l0 kj4 l0 l1 x5_1 (wrap64 (x6_1 + 1))) else (if x5_1.length < 17592186044416 then (spec_PlatesWrong.l0 kj4 l0 l1 (x5_1 ++ [x6_1]) (wrap64 (x6_1 + 1))) else (none)))) else (none)) else (none)) = some r := H
     have A12 := Ae_q A120
     clear A120
     by_cases c13 : 0 ≤ t186
     rotate_left
     ·rw [if_neg c13] at H
      exact absurd H (by simp)
     rw [if_pos c13] at H
     have c13b0 : decide (0 ≤ t186) = true := dT_q c13
     clear c13
     by_cases c14 : t186 < (l0.length : Int)
     rotate_left
     ·rw [if_neg c14] at H
      exact absurd H (by simp)
     rw [if_pos c14] at H
     have c14b0 : decide (t186 < (l0.length : Int)) = true := dT_q c14
     clear c14
     replace H := oB_q.mp H
     obtain ⟨t190, A150, H⟩ := H
     replace H : (if t190 = true then (spec_PlatesWrong.l0 kj4 l0 l1 x5_1 (wrap64 (x6_1 + 1))) else (if x5_1.length < 17592186044416 then (spec_PlatesWrong.l0 kj4 l0 l1 (x5_1 ++ [x6_1]) (wrap64 (x6_1 + 1))) else (none))) = some r := H
     have A15 := Ae_q A150
     clear A150
     by_cases c16 : t190 = true
     ·subst c16
      have H1 : (spec_PlatesWrong.l0 kj4 l0 l1 x5_1 (wrap64 (x6_1 + 1))) = some r := by rw [if_pos rfl] at H; exact H
      clear H
      have H := H1
      clear H1
      have H' := Ae_q H
      clear H
      have p185 : 0 ≤ (x6_1 : Int) := oD_q (by assumption)
      have q185 : x6_1 < (l1.length : Int) := oD_q (by assumption)
      obtain ⟨ad185, e185, hx185_0, hx185_1, hx185_2⟩ := at_T49 HR1.out x6_1 p185 q185
      cases e185
      replace hx185_0 := cel HB.out hx185_0
      replace hx185_1 := cel HB.out hx185_1
      replace hx185_2 := cel HB.out hx185_2
      replace p185 := eq_true p185
      replace q185 := eq_true q185
      go_wp2_with (first | (go_at_call 60; (with_reducible refine (spec_l42Find.calls kj4 _ _ l0 ((rd_T49 l1 x6_1).f1) t186 _ ?side1 ?side2 A12.out).mono ?_); (case side1 => exact m39_q); (case side2 => exact m40_q); rintro e w' ⟨rfl, ⟨nd, rfl⟩⟩; (try first | exact ⟨rfl, _, wD_q _ _ _⟩ | exact ⟨rfl, _, Eq.trans (wD_q _ _ _) (congrArg (World.drewN _) (nA_q _ _ _))⟩); have p187 : 0 ≤ (t186 : Int) := oD_q (by assumption); have q187 : t186 < (l0.length : Int) := oD_q (by assumption); obtain ⟨ad187, A187_1, c187_1, e187, hx187_0, hx187_1, hx187_2, hx187_3, hl187_1, hi187_1⟩ := at_T39 HR0.out t186 p187 q187; cases e187; replace hx187_0 := cel HB.out hx187_0; replace hx187_1 := cel HB.out hx187_1; replace hx187_2 := cel HB.out hx187_2; replace hx187_3 := cel HB.out hx187_3; have HR187_1 := Ae_q hi187_1; have HC187_1 := Ae_q hl187_1; clear hi187_1 hl187_1; replace p187 := eq_true p187; replace q187 := eq_true q187) | ((with_reducible refine gD_q (N := 7) rfl ?_); refine bE_q ?hg (N := 7) ?hd (cs := #[.int .i64 0, .slice none 0 0, .int .i64 0, .int .i64 0]) (t := 39) ?hr ?_; (case hd => rfl); (case hg => rfl); (case hr => exact m6_q); intro gb188 hg w17 hbox hb; replace HO_5 := Ae_q (rO_q (rup HO_5.out) hb); have BK188 := Ae_q (hbox); have GW188 := Ae_q ((by rw [hg]; exact (bZ_q (bel HB.out)) : w.heap.size ≤ gb188)); have GE188 := Ae_q ((by rw [hg]; exact (bZ_q (bel HB.out)) : w.heap.size ≤ gb188)); replace HB := Ae_q (bT_q (bel HB.out) hb); clear hb hbox hg; have hcz18_0 : cI w17 gb188 0 0 := cZ BK188 0 rfl; have hcz18_1 : w17.cell? ⟨gb188, 1, none⟩ = some (.slice none 0 0) := (bC_q BK188.out 1).trans rfl; have hcz18_2 : cI w17 gb188 2 0 := cZ BK188 2 rfl; have hcz18_3 : cI w17 gb188 3 0 := cZ BK188 3 rfl; have hfz18_0 := bF_q BK188.out 0; have hfz18_1 := bF_q BK188.out 1; have hfz18_2 := bF_q BK188.out 2; have hfz18_3 := bF_q BK188.out 3; have p189 : 0 ≤ (x6_1 : Int) := oD_q (by assumption); have q189 : x6_1 < (l1.length : Int) := oD_q (by assumption); obtain ⟨ad189, e189, hx189_0, hx189_1, hx189_2⟩ := at_T49 HR1.out x6_1 p189 q189; obtain rfl : ad185 = ad189 := (by injection e189); have hn189_0 : ad185.block ≠ gb188 := nL_q (Nat.lt_of_lt_of_le m15_q GW188.out); have hn189_1 : ad185.block ≠ gb188 := nL_q (Nat.lt_of_lt_of_le m15_q GW188.out); have hn189_2 : ad185.block ≠ gb188 := nL_q (Nat.lt_of_lt_of_le m15_q GW188.out); have hn189_3 : ad185.block ≠ gb188 := nL_q (Nat.lt_of_lt_of_le m15_q GW188.out); replace hx189_0 := cel HB.out hx189_0; replace hx189_1 := cel HB.out hx189_1; replace hx189_2 := cel HB.out hx189_2; replace hx189_0 := (cell_far (p := ⟨gb188, 0, none⟩) m9_q (.int .i64 ((rd_T39 l0 t186).f0))).trans hx189_0; replace hx189_1 := (cell_far (p := ⟨gb188, 0, none⟩) m9_q (.int .i64 ((rd_T39 l0 t186).f0))).trans hx189_1; replace hx189_2 := (cell_far (p := ⟨gb188, 0, none⟩) m9_q (.int .i64 ((rd_T39 l0 t186).f0))).trans hx189_2; replace hx189_0 := (cell_far (p := ⟨gb188, 1, none⟩) m10_q (.slice A187_1 ((rd_T39 l0 t186).f1).length c187_1)).trans hx189_0; replace hx189_1 := (cell_far (p := ⟨gb188, 1, none⟩) m10_q (.slice A187_1 ((rd_T39 l0 t186).f1).length c187_1)).trans hx189_1; replace hx189_2 := (cell_far (p := ⟨gb188, 1, none⟩) m10_q (.slice A187_1 ((rd_T39 l0 t186).f1).length c187_1)).trans hx189_2; replace hx189_0 := (cell_far (p := ⟨gb188, 2, none⟩) m11_q (.int .i64 ((rd_T39 l0 t186).f2))).trans hx189_0; replace hx189_1 := (cell_far (p := ⟨gb188, 2, none⟩) m11_q (.int .i64 ((rd_T39 l0 t186).f2))).trans hx189_1; replace hx189_2 := (cell_far (p := ⟨gb188, 2, none⟩) m11_q (.int .i64 ((rd_T39 l0 t186).f2))).trans hx189_2; replace hx189_0 := (cell_far (p := ⟨gb188, 3, none⟩) m12_q (.int .i64 ((rd_T39 l0 t186).f3))).trans hx189_0; replace hx189_1 := (cell_far (p := ⟨gb188, 3, none⟩) m12_q (.int .i64 ((rd_T39 l0 t186).f3))).trans hx189_1; replace hx189_2 := (cell_far (p := ⟨gb188, 3, none⟩) m12_q (.int .i64 ((rd_T39 l0 t186).f3))).trans hx189_2; (try have hy189_0 := fun (n_ : Nat) => (show ((((((w17.drewN n_).setCell ⟨gb188, 0, none⟩ (.int .i64 ((rd_T39 l0 t186).f0))).setCell ⟨gb188, 1, none⟩ (.slice A187_1 ((rd_T39 l0 t186).f1).length c187_1)).setCell ⟨gb188, 2, none⟩ (.int .i64 ((rd_T39 l0 t186).f2))).setCell ⟨gb188, 3, none⟩ (.int .i64 ((rd_T39 l0 t186).f3)))).cell? _ = some _ from hx189_0)); (try have hy189_1 := fun (n_ : Nat) => (show ((((((w17.drewN n_).setCell ⟨gb188, 0, none⟩ (.int .i64 ((rd_T39 l0 t186).f0))).setCell ⟨gb188, 1, none⟩ (.slice A187_1 ((rd_T39 l0 t186).f1).length c187_1)).setCell ⟨gb188, 2, none⟩ (.int .i64 ((rd_T39 l0 t186).f2))).setCell ⟨gb188, 3, none⟩ (.int .i64 ((rd_T39 l0 t186).f3)))).cell? _ = some _ from hx189_1)); (try have hy189_2 := fun (n_ : Nat) => (show ((((((w17.drewN n_).setCell ⟨gb188, 0, none⟩ (.int .i64 ((rd_T39 l0 t186).f0))).setCell ⟨gb188, 1, none⟩ (.slice A187_1 ((rd_T39 l0 t186).f1).length c187_1)).setCell ⟨gb188, 2, none⟩ (.int .i64 ((rd_T39 l0 t186).f2))).setCell ⟨gb188, 3, none⟩ (.int .i64 ((rd_T39 l0 t186).f3)))).cell? _ = some _ from hx189_2)); clear hn189_0; clear hn189_1; clear hn189_2; clear hn189_3; replace p189 := eq_true p189; replace q189 := eq_true q189) | (go_at_call 59; (with_reducible refine (spec_l6In.calls ((rd_T49 l1 x6_1).f2) ((rd_T39 l0 t186).f2) ((rd_T39 l0 t186).f3) true _ A15.out).mono ?_); rintro e w' ⟨rfl, ⟨nd, rfl⟩⟩; (try first | exact ⟨rfl, _, wD_q _ _ _⟩ | exact ⟨rfl, _, Eq.trans (wD_q _ _ _) (congrArg (World.drewN _) (nA_q _ _ _))⟩)))
      repeat (go_quiet (first | (go_at_call 60; (with_reducible refine (spec_l42Find.calls kj4 _ _ l0 ((rd_T49 l1 x6_1).f1) t186 _ ?side1 ?side2 A12.out).mono ?_); (case side1 => exact m39_q); (case side2 => exact m40_q); rintro e w' ⟨rfl, ⟨nd, rfl⟩⟩; (try first | exact ⟨rfl, _, wD_q _ _ _⟩ | exact ⟨rfl, _, Eq.trans (wD_q _ _ _) (congrArg (World.drewN _) (nA_q _ _ _))⟩); have p187 : 0 ≤ (t186 : Int) := oD_q (by assumption); have q187 : t186 < (l0.length : Int) := oD_q (by assumption); obtain ⟨ad187, A187_1, c187_1, e187, hx187_0, hx187_1, hx187_2, hx187_3, hl187_1, hi187_1⟩ := at_T39 HR0.out t186 p187 q187; cases e187; replace hx187_0 := cel HB.out hx187_0; replace hx187_1 := cel HB.out hx187_1; replace hx187_2 := cel HB.out hx187_2; replace hx187_3 := cel HB.out hx187_3; have HR187_1 := Ae_q hi187_1; have HC187_1 := Ae_q hl187_1; clear hi187_1 hl187_1; replace p187 := eq_true p187; replace q187 := eq_true q187) | ((with_reducible refine gD_q (N := 7) rfl ?_); refine bE_q ?hg (N := 7) ?hd (cs := #[.int .i64 0, .slice none 0 0, .int .i64 0, .int .i64 0]) (t := 39) ?hr ?_; (case hd => rfl); (case hg => rfl); (case hr => exact m6_q); intro gb188 hg w17 hbox hb; replace HO_5 := Ae_q (rO_q (rup HO_5.out) hb); have BK188 := Ae_q (hbox); have GW188 := Ae_q ((by rw [hg]; exact (bZ_q (bel HB.out)) : w.heap.size ≤ gb188)); have GE188 := Ae_q ((by rw [hg]; exact (bZ_q (bel HB.out)) : w.heap.size ≤ gb188)); replace HB := Ae_q (bT_q (bel HB.out) hb); clear hb hbox hg; have hcz18_0 : cI w17 gb188 0 0 := cZ BK188 0 rfl; have hcz18_1 : w17.cell? ⟨gb188, 1, none⟩ = some (.slice none 0 0) := (bC_q BK188.out 1).trans rfl; have hcz18_2 : cI w17 gb188 2 0 := cZ BK188 2 rfl; have hcz18_3 : cI w17 gb188 3 0 := cZ BK188 3 rfl; have hfz18_0 := bF_q BK188.out 0; have hfz18_1 := bF_q BK188.out 1; have hfz18_2 := bF_q BK188.out 2; have hfz18_3 := bF_q BK188.out 3; have p189 : 0 ≤ (x6_1 : Int) := oD_q (by assumption); have q189 : x6_1 < (l1.length : Int) := oD_q (by assumption); obtain ⟨ad189, e189, hx189_0, hx189_1, hx189_2⟩ := at_T49 HR1.out x6_1 p189 q189; obtain rfl : ad185 = ad189 := (by injection e189); have hn189_0 : ad185.block ≠ gb188 := nL_q (Nat.lt_of_lt_of_le m15_q GW188.out); have hn189_1 : ad185.block ≠ gb188 := nL_q (Nat.lt_of_lt_of_le m15_q GW188.out); have hn189_2 : ad185.block ≠ gb188 := nL_q (Nat.lt_of_lt_of_le m15_q GW188.out); have hn189_3 : ad185.block ≠ gb188 := nL_q (Nat.lt_of_lt_of_le m15_q GW188.out); replace hx189_0 := cel HB.out hx189_0; replace hx189_1 := cel HB.out hx189_1; replace hx189_2 := cel HB.out hx189_2; replace hx189_0 := (cell_far (p := ⟨gb188, 0, none⟩) m9_q (.int .i64 ((rd_T39 l0 t186).f0))).trans hx189_0; replace hx189_1 := (cell_far (p := ⟨gb188, 0, none⟩) m9_q (.int .i64 ((rd_T39 l0 t186).f0))).trans hx189_1; replace hx189_2 := (cell_far (p := ⟨gb188, 0, none⟩) m9_q (.int .i64 ((rd_T39 l0 t186).f0))).trans hx189_2; replace hx189_0 := (cell_far (p := ⟨gb188, 1, none⟩) m10_q (.slice A187_1 ((rd_T39 l0 t186).f1).length c187_1)).trans hx189_0; replace hx189_1 := (cell_far (p := ⟨gb188, 1, none⟩) m10_q (.slice A187_1 ((rd_T39 l0 t186).f1).length c187_1)).trans hx189_1; replace hx189_2 := (cell_far (p := ⟨gb188, 1, none⟩) m10_q (.slice A187_1 ((rd_T39 l0 t186).f1).length c187_1)).trans hx189_2; replace hx189_0 := (cell_far (p := ⟨gb188, 2, none⟩) m11_q (.int .i64 ((rd_T39 l0 t186).f2))).trans hx189_0; replace hx189_1 := (cell_far (p := ⟨gb188, 2, none⟩) m11_q (.int .i64 ((rd_T39 l0 t186).f2))).trans hx189_1; replace hx189_2 := (cell_far (p := ⟨gb188, 2, none⟩) m11_q (.int .i64 ((rd_T39 l0 t186).f2))).trans hx189_2; replace hx189_0 := (cell_far (p := ⟨gb188, 3, none⟩) m12_q (.int .i64 ((rd_T39 l0 t186).f3))).trans hx189_0; replace hx189_1 := (cell_far (p := ⟨gb188, 3, none⟩) m12_q (.int .i64 ((rd_T39 l0 t186).f3))).trans hx189_1; replace hx189_2 := (cell_far (p := ⟨gb188, 3, none⟩) m12_q (.int .i64 ((rd_T39 l0 t186).f3))).trans hx189_2; (try have hy189_0 := fun (n_ : Nat) => (show ((((((w17.drewN n_).setCell ⟨gb188, 0, none⟩ (.int .i64 ((rd_T39 l0 t186).f0))).setCell ⟨gb188, 1, none⟩ (.slice A187_1 ((rd_T39 l0 t186).f1).length c187_1)).setCell ⟨gb188, 2, none⟩ (.int .i64 ((rd_T39 l0 t186).f2))).setCell ⟨gb188, 3, none⟩ (.int .i64 ((rd_T39 l0 t186).f3)))).cell? _ = some _ from hx189_0)); (try have hy189_1 := fun (n_ : Nat) => (show ((((((w17.drewN n_).setCell ⟨gb188, 0, none⟩ (.int .i64 ((rd_T39 l0 t186).f0))).setCell ⟨gb188, 1, none⟩ (.slice A187_1 ((rd_T39 l0 t186).f1).length c187_1)).setCell ⟨gb188, 2, none⟩ (.int .i64 ((rd_T39 l0 t186).f2))).setCell ⟨gb188, 3, none⟩ (.int .i64 ((rd_T39 l0 t186).f3)))).cell? _ = some _ from hx189_1)); (try have hy189_2 := fun (n_ : Nat) => (show ((((((w17.drewN n_).setCell ⟨gb188, 0, none⟩ (.int .i64 ((rd_T39 l0 t186).f0))).setCell ⟨gb188, 1, none⟩ (.slice A187_1 ((rd_T39 l0 t186).f1).length c187_1)).setCell ⟨gb188, 2, none⟩ (.int .i64 ((rd_T39 l0 t186).f2))).setCell ⟨gb188, 3, none⟩ (.int .i64 ((rd_T39 l0 t186).f3)))).cell? _ = some _ from hx189_2)); clear hn189_0; clear hn189_1; clear hn189_2; clear hn189_3; replace p189 := eq_true p189; replace q189 := eq_true q189) | (go_at_call 59; (with_reducible refine (spec_l6In.calls ((rd_T49 l1 x6_1).f2) ((rd_T39 l0 t186).f2) ((rd_T39 l0 t186).f3) true _ A15.out).mono ?_); rintro e w' ⟨rfl, ⟨nd, rfl⟩⟩; (try first | exact ⟨rfl, _, wD_q _ _ _⟩ | exact ⟨rfl, _, Eq.trans (wD_q _ _ _) (congrArg (World.drewN _) (nA_q _ _ _))⟩))); try go_wp2_with (first | (go_at_call 60; (with_reducible refine (spec_l42Find.calls kj4 _ _ l0 ((rd_T49 l1 x6_1).f1) t186 _ ?side1 ?side2 A12.out).mono ?_); (case side1 => exact m39_q); (case side2 => exact m40_q); rintro e w' ⟨rfl, ⟨nd, rfl⟩⟩; (try first | exact ⟨rfl, _, wD_q _ _ _⟩ | exact ⟨rfl, _, Eq.trans (wD_q _ _ _) (congrArg (World.drewN _) (nA_q _ _ _))⟩); have p187 : 0 ≤ (t186 : Int) := oD_q (by assumption); have q187 : t186 < (l0.length : Int) := oD_q (by assumption); obtain ⟨ad187, A187_1, c187_1, e187, hx187_0, hx187_1, hx187_2, hx187_3, hl187_1, hi187_1⟩ := at_T39 HR0.out t186 p187 q187; cases e187; replace hx187_0 := cel HB.out hx187_0; replace hx187_1 := cel HB.out hx187_1; replace hx187_2 := cel HB.out hx187_2; replace hx187_3 := cel HB.out hx187_3; have HR187_1 := Ae_q hi187_1; have HC187_1 := Ae_q hl187_1; clear hi187_1 hl187_1; replace p187 := eq_true p187; replace q187 := eq_true q187) | ((with_reducible refine gD_q (N := 7) rfl ?_); refine bE_q ?hg (N := 7) ?hd (cs := #[.int .i64 0, .slice none 0 0, .int .i64 0, .int .i64 0]) (t := 39) ?hr ?_; (case hd => rfl); (case hg => rfl); (case hr => exact m6_q); intro gb188 hg w17 hbox hb; replace HO_5 := Ae_q (rO_q (rup HO_5.out) hb); have BK188 := Ae_q (hbox); have GW188 := Ae_q ((by rw [hg]; exact (bZ_q (bel HB.out)) : w.heap.size ≤ gb188)); have GE188 := Ae_q ((by rw [hg]; exact (bZ_q (bel HB.out)) : w.heap.size ≤ gb188)); replace HB := Ae_q (bT_q (bel HB.out) hb); clear hb hbox hg; have hcz18_0 : cI w17 gb188 0 0 := cZ BK188 0 rfl; have hcz18_1 : w17.cell? ⟨gb188, 1, none⟩ = some (.slice none 0 0) := (bC_q BK188.out 1).trans rfl; have hcz18_2 : cI w17 gb188 2 0 := cZ BK188 2 rfl; have hcz18_3 : cI w17 gb188 3 0 := cZ BK188 3 rfl; have hfz18_0 := bF_q BK188.out 0; have hfz18_1 := bF_q BK188.out 1; have hfz18_2 := bF_q BK188.out 2; have hfz18_3 := bF_q BK188.out 3; have p189 : 0 ≤ (x6_1 : Int) := oD_q (by assumption); have q189 : x6_1 < (l1.length : Int) := oD_q (by assumption); obtain ⟨ad189, e189, hx189_0, hx189_1, hx189_2⟩ := at_T49 HR1.out x6_1 p189 q189; obtain rfl : ad185 = ad189 := (by injection e189); have hn189_0 : ad185.block ≠ gb188 := nL_q (Nat.lt_of_lt_of_le m15_q GW188.out); have hn189_1 : ad185.block ≠ gb188 := nL_q (Nat.lt_of_lt_of_le m15_q GW188.out); have hn189_2 : ad185.block ≠ gb188 := nL_q (Nat.lt_of_lt_of_le m15_q GW188.out); have hn189_3 : ad185.block ≠ gb188 := nL_q (Nat.lt_of_lt_of_le m15_q GW188.out); replace hx189_0 := cel HB.out hx189_0; replace hx189_1 := cel HB.out hx189_1; replace hx189_2 := cel HB.out hx189_2; replace hx189_0 := (cell_far (p := ⟨gb188, 0, none⟩) m9_q (.int .i64 ((rd_T39 l0 t186).f0))).trans hx189_0; replace hx189_1 := (cell_far (p := ⟨gb188, 0, none⟩) m9_q (.int .i64 ((rd_T39 l0 t186).f0))).trans hx189_1; replace hx189_2 := (cell_far (p := ⟨gb188, 0, none⟩) m9_q (.int .i64 ((rd_T39 l0 t186).f0))).trans hx189_2; replace hx189_0 := (cell_far (p := ⟨gb188, 1, none⟩) m10_q (.slice A187_1 ((rd_T39 l0 t186).f1).length c187_1)).trans hx189_0; replace hx189_1 := (cell_far (p := ⟨gb188, 1, none⟩) m10_q (.slice A187_1 ((rd_T39 l0 t186).f1).length c187_1)).trans hx189_1; replace hx189_2 := (cell_far (p := ⟨gb188, 1, none⟩) m10_q (.slice A187_1 ((rd_T39 l0 t186).f1).length c187_1)).trans hx189_2; replace hx189_0 := (cell_far (p := ⟨gb188, 2, none⟩) m11_q (.int .i64 ((rd_T39 l0 t186).f2))).trans hx189_0; replace hx189_1 := (cell_far (p := ⟨gb188, 2, none⟩) m11_q (.int .i64 ((rd_T39 l0 t186).f2))).trans hx189_1; replace hx189_2 := (cell_far (p := ⟨gb188, 2, none⟩) m11_q (.int .i64 ((rd_T39 l0 t186).f2))).trans hx189_2; replace hx189_0 := (cell_far (p := ⟨gb188, 3, none⟩) m12_q (.int .i64 ((rd_T39 l0 t186).f3))).trans hx189_0; replace hx189_1 := (cell_far (p := ⟨gb188, 3, none⟩) m12_q (.int .i64 ((rd_T39 l0 t186).f3))).trans hx189_1; replace hx189_2 := (cell_far (p := ⟨gb188, 3, none⟩) m12_q (.int .i64 ((rd_T39 l0 t186).f3))).trans hx189_2; (try have hy189_0 := fun (n_ : Nat) => (show ((((((w17.drewN n_).setCell ⟨gb188, 0, none⟩ (.int .i64 ((rd_T39 l0 t186).f0))).setCell ⟨gb188, 1, none⟩ (.slice A187_1 ((rd_T39 l0 t186).f1).length c187_1)).setCell ⟨gb188, 2, none⟩ (.int .i64 ((rd_T39 l0 t186).f2))).setCell ⟨gb188, 3, none⟩ (.int .i64 ((rd_T39 l0 t186).f3)))).cell? _ = some _ from hx189_0)); (try have hy189_1 := fun (n_ : Nat) => (show ((((((w17.drewN n_).setCell ⟨gb188, 0, none⟩ (.int .i64 ((rd_T39 l0 t186).f0))).setCell ⟨gb188, 1, none⟩ (.slice A187_1 ((rd_T39 l0 t186).f1).length c187_1)).setCell ⟨gb188, 2, none⟩ (.int .i64 ((rd_T39 l0 t186).f2))).setCell ⟨gb188, 3, none⟩ (.int .i64 ((rd_T39 l0 t186).f3)))).cell? _ = some _ from hx189_1)); (try have hy189_2 := fun (n_ : Nat) => (show ((((((w17.drewN n_).setCell ⟨gb188, 0, none⟩ (.int .i64 ((rd_T39 l0 t186).f0))).setCell ⟨gb188, 1, none⟩ (.slice A187_1 ((rd_T39 l0 t186).f1).length c187_1)).setCell ⟨gb188, 2, none⟩ (.int .i64 ((rd_T39 l0 t186).f2))).setCell ⟨gb188, 3, none⟩ (.int .i64 ((rd_T39 l0 t186).f3)))).cell? _ = some _ from hx189_2)); clear hn189_0; clear hn189_1; clear hn189_2; clear hn189_3; replace p189 := eq_true p189; replace q189 := eq_true q189) | (go_at_call 59; (with_reducible refine (spec_l6In.calls ((rd_T49 l1 x6_1).f2) ((rd_T39 l0 t186).f2) ((rd_T39 l0 t186).f3) true _ A15.out).mono ?_); rintro e w' ⟨rfl, ⟨nd, rfl⟩⟩; (try first | exact ⟨rfl, _, wD_q _ _ _⟩ | exact ⟨rfl, _, Eq.trans (wD_q _ _ _) (congrArg (World.drewN _) (nA_q _ _ _))⟩))))
      go_roundg kj4
      case measure => have := HK1.out; have := HJ4.out; omega
      case rel => exact ⟨(x5_1), (wrap64 (x6_1 + 1)), m3_q, H', ⟨by have := HK1.out; have := HJ4.out; omega⟩, ⟨by (with_reducible repeat (first | apply rA_q | apply rN_q | apply rD_q)); exact rM_q (Kd.R_far (p := ⟨gb188, 3, none⟩) (Kd.R_far (p := ⟨gb188, 2, none⟩) (Kd.R_far (p := ⟨gb188, 1, none⟩) (Kd.R_far (p := ⟨gb188, 0, none⟩) (Kd.R_types HO_5.out BK188.out (by decide)) (fun _ hk => hk.2) (.int .i64 ((rd_T39 l0 t186).f0))) (fun _ hk => hk.2) (.slice A187_1 ((rd_T39 l0 t186).f1).length c187_1)) (fun _ hk => hk.2) (.int .i64 ((rd_T39 l0 t186).f2))) (fun _ hk => hk.2) (.int .i64 ((rd_T39 l0 t186).f3))) (fun _ hk => trivial)⟩, ⟨m25_q⟩⟩
     replace c16 := fM_q.mpr c16
     subst c16
     have H1 : (if x5_1.length < 17592186044416 then (spec_PlatesWrong.l0 kj4 l0 l1 (x5_1 ++ [x6_1]) (wrap64 (x6_1 + 1))) else (none)) = some r := by rw [if_neg (show ¬ (false = true) by decide)] at H; exact H
     clear H
     have H := H1
     clear H1
     by_cases c19 : x5_1.length < 17592186044416
     rotate_left
     ·rw [if_neg c19] at H
      exact absurd H (by simp)
     rw [if_pos c19] at H
     have LMc19 := Ae_q c19
     clear c19
     obtain ⟨y191, hy191⟩ : ∃ y_ : List Int, y_ = (x5_1 ++ [x6_1]) := ⟨_, rfl⟩
     replace H : (spec_PlatesWrong.l0 kj4 l0 l1 y191 (wrap64 (x6_1 + 1))) = some r := by first | (rw [hy191]; with_reducible exact H) | (have H2_ := (oS_q _ _).symm.trans H; rw [hy191]; with_reducible exact H2_) | (have H2_ := (oS_q _ _).symm.trans H; with_reducible exact H2_) | with_reducible exact H | (rw [hy191]; exact H) | exact H
     have Ny191 := Ae_q hy191
     clear hy191
     have H' := Ae_q H
     clear H
     have p185 : 0 ≤ (x6_1 : Int) := oD_q (by assumption)
     have q185 : x6_1 < (l1.length : Int) := oD_q (by assumption)
     obtain ⟨ad185, e185, hx185_0, hx185_1, hx185_2⟩ := at_T49 HR1.out x6_1 p185 q185
     cases e185
     replace hx185_0 := cel HB.out hx185_0
     replace hx185_1 := cel HB.out hx185_1
     replace hx185_2 := cel HB.out hx185_2
     replace p185 := eq_true p185
     replace q185 := eq_true q185
     go_wp2_with (first | (go_at_call 60; (with_reducible refine (spec_l42Find.calls kj4 _ _ l0 ((rd_T49 l1 x6_1).f1) t186 _ ?side1 ?side2 A12.out).mono ?_); (case side1 => exact m39_q); (case side2 => exact m40_q); rintro e w' ⟨rfl, ⟨nd, rfl⟩⟩; (try first | exact ⟨rfl, _, wD_q _ _ _⟩ | exact ⟨rfl, _, Eq.trans (wD_q _ _ _) (congrArg (World.drewN _) (nA_q _ _ _))⟩); have p187 : 0 ≤ (t186 : Int) := oD_q (by assumption); have q187 : t186 < (l0.length : Int) := oD_q (by assumption); obtain ⟨ad187, A187_1, c187_1, e187, hx187_0, hx187_1, hx187_2, hx187_3, hl187_1, hi187_1⟩ := at_T39 HR0.out t186 p187 q187; cases e187; replace hx187_0 := cel HB.out hx187_0; replace hx187_1 := cel HB.out hx187_1; replace hx187_2 := cel HB.out hx187_2; replace hx187_3 := cel HB.out hx187_3; have HR187_1 := Ae_q hi187_1; have HC187_1 := Ae_q hl187_1; clear hi187_1 hl187_1; replace p187 := eq_true p187; replace q187 := eq_true q187) | ((with_reducible refine gD_q (N := 7) rfl ?_); refine bE_q ?hg (N := 7) ?hd (cs := #[.int .i64 0, .slice none 0 0, .int .i64 0, .int .i64 0]) (t := 39) ?hr ?_; (case hd => rfl); (case hg => rfl); (case hr => exact m6_q); intro gb188 hg w20 hbox hb; replace HO_5 := Ae_q (rO_q (rup HO_5.out) hb); have BK188 := Ae_q (hbox); have GW188 := Ae_q ((by rw [hg]; exact (bZ_q (bel HB.out)) : w.heap.size ≤ gb188)); have GE188 := Ae_q ((by rw [hg]; exact (bZ_q (bel HB.out)) : w.heap.size ≤ gb188)); replace HB := Ae_q (bT_q (bel HB.out) hb); clear hb hbox hg; have hcz21_0 : cI w20 gb188 0 0 := cZ BK188 0 rfl; have hcz21_1 : w20.cell? ⟨gb188, 1, none⟩ = some (.slice none 0 0) := (bC_q BK188.out 1).trans rfl; have hcz21_2 : cI w20 gb188 2 0 := cZ BK188 2 rfl; have hcz21_3 : cI w20 gb188 3 0 := cZ BK188 3 rfl; have hfz21_0 := bF_q BK188.out 0; have hfz21_1 := bF_q BK188.out 1; have hfz21_2 := bF_q BK188.out 2; have hfz21_3 := bF_q BK188.out 3; have p189 : 0 ≤ (x6_1 : Int) := oD_q (by assumption); have q189 : x6_1 < (l1.length : Int) := oD_q (by assumption); obtain ⟨ad189, e189, hx189_0, hx189_1, hx189_2⟩ := at_T49 HR1.out x6_1 p189 q189; obtain rfl : ad185 = ad189 := (by injection e189); have hn189_0 : ad185.block ≠ gb188 := nL_q (Nat.lt_of_lt_of_le m15_q GW188.out); have hn189_1 : ad185.block ≠ gb188 := nL_q (Nat.lt_of_lt_of_le m15_q GW188.out); have hn189_2 : ad185.block ≠ gb188 := nL_q (Nat.lt_of_lt_of_le m15_q GW188.out); have hn189_3 : ad185.block ≠ gb188 := nL_q (Nat.lt_of_lt_of_le m15_q GW188.out); replace hx189_0 := cel HB.out hx189_0; replace hx189_1 := cel HB.out hx189_1; replace hx189_2 := cel HB.out hx189_2; replace hx189_0 := (cell_far (p := ⟨gb188, 0, none⟩) m9_q (.int .i64 ((rd_T39 l0 t186).f0))).trans hx189_0; replace hx189_1 := (cell_far (p := ⟨gb188, 0, none⟩) m9_q (.int .i64 ((rd_T39 l0 t186).f0))).trans hx189_1; replace hx189_2 := (cell_far (p := ⟨gb188, 0, none⟩) m9_q (.int .i64 ((rd_T39 l0 t186).f0))).trans hx189_2; replace hx189_0 := (cell_far (p := ⟨gb188, 1, none⟩) m10_q (.slice A187_1 ((rd_T39 l0 t186).f1).length c187_1)).trans hx189_0; replace hx189_1 := (cell_far (p := ⟨gb188, 1, none⟩) m10_q (.slice A187_1 ((rd_T39 l0 t186).f1).length c187_1)).trans hx189_1; replace hx189_2 := (cell_far (p := ⟨gb188, 1, none⟩) m10_q (.slice A187_1 ((rd_T39 l0 t186).f1).length c187_1)).trans hx189_2; replace hx189_0 := (cell_far (p := ⟨gb188, 2, none⟩) m11_q (.int .i64 ((rd_T39 l0 t186).f2))).trans hx189_0; replace hx189_1 := (cell_far (p := ⟨gb188, 2, none⟩) m11_q (.int .i64 ((rd_T39 l0 t186).f2))).trans hx189_1; replace hx189_2 := (cell_far (p := ⟨gb188, 2, none⟩) m11_q (.int .i64 ((rd_T39 l0 t186).f2))).trans hx189_2; replace hx189_0 := (cell_far (p := ⟨gb188, 3, none⟩) m12_q (.int .i64 ((rd_T39 l0 t186).f3))).trans hx189_0; replace hx189_1 := (cell_far (p := ⟨gb188, 3, none⟩) m12_q (.int .i64 ((rd_T39 l0 t186).f3))).trans hx189_1; replace hx189_2 := (cell_far (p := ⟨gb188, 3, none⟩) m12_q (.int .i64 ((rd_T39 l0 t186).f3))).trans hx189_2; (try have hy189_0 := fun (n_ : Nat) => (show ((((((w20.drewN n_).setCell ⟨gb188, 0, none⟩ (.int .i64 ((rd_T39 l0 t186).f0))).setCell ⟨gb188, 1, none⟩ (.slice A187_1 ((rd_T39 l0 t186).f1).length c187_1)).setCell ⟨gb188, 2, none⟩ (.int .i64 ((rd_T39 l0 t186).f2))).setCell ⟨gb188, 3, none⟩ (.int .i64 ((rd_T39 l0 t186).f3)))).cell? _ = some _ from hx189_0)); (try have hy189_1 := fun (n_ : Nat) => (show ((((((w20.drewN n_).setCell ⟨gb188, 0, none⟩ (.int .i64 ((rd_T39 l0 t186).f0))).setCell ⟨gb188, 1, none⟩ (.slice A187_1 ((rd_T39 l0 t186).f1).length c187_1)).setCell ⟨gb188, 2, none⟩ (.int .i64 ((rd_T39 l0 t186).f2))).setCell ⟨gb188, 3, none⟩ (.int .i64 ((rd_T39 l0 t186).f3)))).cell? _ = some _ from hx189_1)); (try have hy189_2 := fun (n_ : Nat) => (show ((((((w20.drewN n_).setCell ⟨gb188, 0, none⟩ (.int .i64 ((rd_T39 l0 t186).f0))).setCell ⟨gb188, 1, none⟩ (.slice A187_1 ((rd_T39 l0 t186).f1).length c187_1)).setCell ⟨gb188, 2, none⟩ (.int .i64 ((rd_T39 l0 t186).f2))).setCell ⟨gb188, 3, none⟩ (.int .i64 ((rd_T39 l0 t186).f3)))).cell? _ = some _ from hx189_2)); clear hn189_0; clear hn189_1; clear hn189_2; clear hn189_3; replace p189 := eq_true p189; replace q189 := eq_true q189) | (go_at_call 59; (with_reducible refine (spec_l6In.calls ((rd_T49 l1 x6_1).f2) ((rd_T39 l0 t186).f2) ((rd_T39 l0 t186).f3) false _ A15.out).mono ?_); rintro e w' ⟨rfl, ⟨nd, rfl⟩⟩; (try first | exact ⟨rfl, _, wD_q _ _ _⟩ | exact ⟨rfl, _, Eq.trans (wD_q _ _ _) (congrArg (World.drewN _) (nA_q _ _ _))⟩)) | ((with_reducible refine gate_builtin (b := .append) (xs := #[.tmp 41, .tmp 43]) rfl ?_); at_builtin; refine Kd.R_append kI_q (w0 := w) w.heap.size rfl (.tmp 41) (.tmp 43) 34 3 (.int .i64 0) 8 rfl Try.underlying34 info3 rfl (by decide) (by omega) u5 x5_1 x6_1 [.int .i64 x6_1] (fun _ => True) (fun _ => False) rfl m6_q ?aP (fun _ hk => hk.elim) ?aF ?aO ?aB ?aS ?aL ?_; (case aP => exact rfl); (case aB => exact m25_q); (case aF => exact (fun _ _ => trivial)); (case aO => exact (by (with_reducible repeat (first | apply rA_q | apply rN_q | apply rD_q)); exact rM_q (Kd.R_far (p := ⟨gb188, 3, none⟩) (Kd.R_far (p := ⟨gb188, 2, none⟩) (Kd.R_far (p := ⟨gb188, 1, none⟩) (Kd.R_far (p := ⟨gb188, 0, none⟩) (Kd.R_types HO_5.out BK188.out (by decide)) (fun _ hk => hk.2) (.int .i64 ((rd_T39 l0 t186).f0))) (fun _ hk => hk.2) (.slice A187_1 ((rd_T39 l0 t186).f1).length c187_1)) (fun _ hk => hk.2) (.int .i64 ((rd_T39 l0 t186).f2))) (fun _ hk => hk.2) (.int .i64 ((rd_T39 l0 t186).f3))) (fun _ hk => trivial))); (case aS => exact (bZ_q m25_q)); (case aL => have := LMc19.out; omega); intro v192 w22 ho hb hg hat; rw [← Ny191.out] at ho; replace BK188 := Ae_q (bG_q (g := gb188) (o := .cells #[.int .i64 ((rd_T39 l0 t186).f0), .slice A187_1 ((rd_T39 l0 t186).f1).length c187_1, .int .i64 ((rd_T39 l0 t186).f2), .int .i64 ((rd_T39 l0 t186).f3)] 39 (0, 0)) m5_q hg (Kd.R_ne HO_5.out BK188.out (by decide))); replace HB := Ae_q (hb); have HO193 := Ae_q (ho); clear HO_5; clear ho hb hg hat))
     repeat (go_quiet (first | (go_at_call 60; (with_reducible refine (spec_l42Find.calls kj4 _ _ l0 ((rd_T49 l1 x6_1).f1) t186 _ ?side1 ?side2 A12.out).mono ?_); (case side1 => exact m39_q); (case side2 => exact m40_q); rintro e w' ⟨rfl, ⟨nd, rfl⟩⟩; (try first | exact ⟨rfl, _, wD_q _ _ _⟩ | exact ⟨rfl, _, Eq.trans (wD_q _ _ _) (congrArg (World.drewN _) (nA_q _ _ _))⟩); have p187 : 0 ≤ (t186 : Int) := oD_q (by assumption); have q187 : t186 < (l0.length : Int) := oD_q (by assumption); obtain ⟨ad187, A187_1, c187_1, e187, hx187_0, hx187_1, hx187_2, hx187_3, hl187_1, hi187_1⟩ := at_T39 HR0.out t186 p187 q187; cases e187; replace hx187_0 := cel HB.out hx187_0; replace hx187_1 := cel HB.out hx187_1; replace hx187_2 := cel HB.out hx187_2; replace hx187_3 := cel HB.out hx187_3; have HR187_1 := Ae_q hi187_1; have HC187_1 := Ae_q hl187_1; clear hi187_1 hl187_1; replace p187 := eq_true p187; replace q187 := eq_true q187) | ((with_reducible refine gD_q (N := 7) rfl ?_); refine bE_q ?hg (N := 7) ?hd (cs := #[.int .i64 0, .slice none 0 0, .int .i64 0, .int .i64 0]) (t := 39) ?hr ?_; (case hd => rfl); (case hg => rfl); (case hr => exact m6_q); intro gb188 hg w20 hbox hb; replace HO_5 := Ae_q (rO_q (rup HO_5.out) hb); have BK188 := Ae_q (hbox); have GW188 := Ae_q ((by rw [hg]; exact (bZ_q (bel HB.out)) : w.heap.size ≤ gb188)); have GE188 := Ae_q ((by rw [hg]; exact (bZ_q (bel HB.out)) : w.heap.size ≤ gb188)); replace HB := Ae_q (bT_q (bel HB.out) hb); clear hb hbox hg; have hcz21_0 : cI w20 gb188 0 0 := cZ BK188 0 rfl; have hcz21_1 : w20.cell? ⟨gb188, 1, none⟩ = some (.slice none 0 0) := (bC_q BK188.out 1).trans rfl; have hcz21_2 : cI w20 gb188 2 0 := cZ BK188 2 rfl; have hcz21_3 : cI w20 gb188 3 0 := cZ BK188 3 rfl; have hfz21_0 := bF_q BK188.out 0; have hfz21_1 := bF_q BK188.out 1; have hfz21_2 := bF_q BK188.out 2; have hfz21_3 := bF_q BK188.out 3; have p189 : 0 ≤ (x6_1 : Int) := oD_q (by assumption); have q189 : x6_1 < (l1.length : Int) := oD_q (by assumption); obtain ⟨ad189, e189, hx189_0, hx189_1, hx189_2⟩ := at_T49 HR1.out x6_1 p189 q189; obtain rfl : ad185 = ad189 := (by injection e189); have hn189_0 : ad185.block ≠ gb188 := nL_q (Nat.lt_of_lt_of_le m15_q GW188.out); have hn189_1 : ad185.block ≠ gb188 := nL_q (Nat.lt_of_lt_of_le m15_q GW188.out); have hn189_2 : ad185.block ≠ gb188 := nL_q (Nat.lt_of_lt_of_le m15_q GW188.out); have hn189_3 : ad185.block ≠ gb188 := nL_q (Nat.lt_of_lt_of_le m15_q GW188.out); replace hx189_0 := cel HB.out hx189_0; replace hx189_1 := cel HB.out hx189_1; replace hx189_2 := cel HB.out hx189_2; replace hx189_0 := (cell_far (p := ⟨gb188, 0, none⟩) m9_q (.int .i64 ((rd_T39 l0 t186).f0))).trans hx189_0; replace hx189_1 := (cell_far (p := ⟨gb188, 0, none⟩) m9_q (.int .i64 ((rd_T39 l0 t186).f0))).trans hx189_1; replace hx189_2 := (cell_far (p := ⟨gb188, 0, none⟩) m9_q (.int .i64 ((rd_T39 l0 t186).f0))).trans hx189_2; replace hx189_0 := (cell_far (p := ⟨gb188, 1, none⟩) m10_q (.slice A187_1 ((rd_T39 l0 t186).f1).length c187_1)).trans hx189_0; replace hx189_1 := (cell_far (p := ⟨gb188, 1, none⟩) m10_q (.slice A187_1 ((rd_T39 l0 t186).f1).length c187_1)).trans hx189_1; replace hx189_2 := (cell_far (p := ⟨gb188, 1, none⟩) m10_q (.slice A187_1 ((rd_T39 l0 t186).f1).length c187_1)).trans hx189_2; replace hx189_0 := (cell_far (p := ⟨gb188, 2, none⟩) m11_q (.int .i64 ((rd_T39 l0 t186).f2))).trans hx189_0; replace hx189_1 := (cell_far (p := ⟨gb188, 2, none⟩) m11_q (.int .i64 ((rd_T39 l0 t186).f2))).trans hx189_1; replace hx189_2 := (cell_far (p := ⟨gb188, 2, none⟩) m11_q (.int .i64 ((rd_T39 l0 t186).f2))).trans hx189_2; replace hx189_0 := (cell_far (p := ⟨gb188, 3, none⟩) m12_q (.int .i64 ((rd_T39 l0 t186).f3))).trans hx189_0; replace hx189_1 := (cell_far (p := ⟨gb188, 3, none⟩) m12_q (.int .i64 ((rd_T39 l0 t186).f3))).trans hx189_1; replace hx189_2 := (cell_far (p := ⟨gb188, 3, none⟩) m12_q (.int .i64 ((rd_T39 l0 t186).f3))).trans hx189_2; (try have hy189_0 := fun (n_ : Nat) => (show ((((((w20.drewN n_).setCell ⟨gb188, 0, none⟩ (.int .i64 ((rd_T39 l0 t186).f0))).setCell ⟨gb188, 1, none⟩ (.slice A187_1 ((rd_T39 l0 t186).f1).length c187_1)).setCell ⟨gb188, 2, none⟩ (.int .i64 ((rd_T39 l0 t186).f2))).setCell ⟨gb188, 3, none⟩ (.int .i64 ((rd_T39 l0 t186).f3)))).cell? _ = some _ from hx189_0)); (try have hy189_1 := fun (n_ : Nat) => (show ((((((w20.drewN n_).setCell ⟨gb188, 0, none⟩ (.int .i64 ((rd_T39 l0 t186).f0))).setCell ⟨gb188, 1, none⟩ (.slice A187_1 ((rd_T39 l0 t186).f1).length c187_1)).setCell ⟨gb188, 2, none⟩ (.int .i64 ((rd_T39 l0 t186).f2))).setCell ⟨gb188, 3, none⟩ (.int .i64 ((rd_T39 l0 t186).f3)))).cell? _ = some _ from hx189_1)); (try have hy189_2 := fun (n_ : Nat) => (show ((((((w20.drewN n_).setCell ⟨gb188, 0, none⟩ (.int .i64 ((rd_T39 l0 t186).f0))).setCell ⟨gb188, 1, none⟩ (.slice A187_1 ((rd_T39 l0 t186).f1).length c187_1)).setCell ⟨gb188, 2, none⟩ (.int .i64 ((rd_T39 l0 t186).f2))).setCell ⟨gb188, 3, none⟩ (.int .i64 ((rd_T39 l0 t186).f3)))).cell? _ = some _ from hx189_2)); clear hn189_0; clear hn189_1; clear hn189_2; clear hn189_3; replace p189 := eq_true p189; replace q189 := eq_true q189) | (go_at_call 59; (with_reducible refine (spec_l6In.calls ((rd_T49 l1 x6_1).f2) ((rd_T39 l0 t186).f2) ((rd_T39 l0 t186).f3) false _ A15.out).mono ?_); rintro e w' ⟨rfl, ⟨nd, rfl⟩⟩; (try first | exact ⟨rfl, _, wD_q _ _ _⟩ | exact ⟨rfl, _, Eq.trans (wD_q _ _ _) (congrArg (World.drewN _) (nA_q _ _ _))⟩)) | ((with_reducible refine gate_builtin (b := .append) (xs := #[.tmp 41, .tmp 43]) rfl ?_); at_builtin; refine Kd.R_append kI_q (w0 := w) w.heap.size rfl (.tmp 41) (.tmp 43) 34 3 (.int .i64 0) 8 rfl Try.underlying34 info3 rfl (by decide) (by omega) u5 x5_1 x6_1 [.int .i64 x6_1] (fun _ => True) (fun _ => False) rfl m6_q ?aP (fun _ hk => hk.elim) ?aF ?aO ?aB ?aS ?aL ?_; (case aP => exact rfl); (case aB => exact m25_q); (case aF => exact (fun _ _ => trivial)); (case aO => exact (by (with_reducible repeat (first | apply rA_q | apply rN_q | apply rD_q)); exact rM_q (Kd.R_far (p := ⟨gb188, 3, none⟩) (Kd.R_far (p := ⟨gb188, 2, none⟩) (Kd.R_far (p := ⟨gb188, 1, none⟩) (Kd.R_far (p := ⟨gb188, 0, none⟩) (Kd.R_types HO_5.out BK188.out (by decide)) (fun _ hk => hk.2) (.int .i64 ((rd_T39 l0 t186).f0))) (fun _ hk => hk.2) (.slice A187_1 ((rd_T39 l0 t186).f1).length c187_1)) (fun _ hk => hk.2) (.int .i64 ((rd_T39 l0 t186).f2))) (fun _ hk => hk.2) (.int .i64 ((rd_T39 l0 t186).f3))) (fun _ hk => trivial))); (case aS => exact (bZ_q m25_q)); (case aL => have := LMc19.out; omega); intro v192 w22 ho hb hg hat; rw [← Ny191.out] at ho; replace BK188 := Ae_q (bG_q (g := gb188) (o := .cells #[.int .i64 ((rd_T39 l0 t186).f0), .slice A187_1 ((rd_T39 l0 t186).f1).length c187_1, .int .i64 ((rd_T39 l0 t186).f2), .int .i64 ((rd_T39 l0 t186).f3)] 39 (0, 0)) m5_q hg (Kd.R_ne HO_5.out BK188.out (by decide))); replace HB := Ae_q (hb); have HO193 := Ae_q (ho); clear HO_5; clear ho hb hg hat)); try go_wp2_with (first | (go_at_call 60; (with_reducible refine (spec_l42Find.calls kj4 _ _ l0 ((rd_T49 l1 x6_1).f1) t186 _ ?side1 ?side2 A12.out).mono ?_); (case side1 => exact m39_q); (case side2 => exact m40_q); rintro e w' ⟨rfl, ⟨nd, rfl⟩⟩; (try first | exact ⟨rfl, _, wD_q _ _ _⟩ | exact ⟨rfl, _, Eq.trans (wD_q _ _ _) (congrArg (World.drewN _) (nA_q _ _ _))⟩); have p187 : 0 ≤ (t186 : Int) := oD_q (by assumption); have q187 : t186 < (l0.length : Int) := oD_q (by assumption); obtain ⟨ad187, A187_1, c187_1, e187, hx187_0, hx187_1, hx187_2, hx187_3, hl187_1, hi187_1⟩ := at_T39 HR0.out t186 p187 q187; cases e187; replace hx187_0 := cel HB.out hx187_0; replace hx187_1 := cel HB.out hx187_1; replace hx187_2 := cel HB.out hx187_2; replace hx187_3 := cel HB.out hx187_3; have HR187_1 := Ae_q hi187_1; have HC187_1 := Ae_q hl187_1; clear hi187_1 hl187_1; replace p187 := eq_true p187; replace q187 := eq_true q187) | ((with_reducible refine gD_q (N := 7) rfl ?_); refine bE_q ?hg (N := 7) ?hd (cs := #[.int .i64 0, .slice none 0 0, .int .i64 0, .int .i64 0]) (t := 39) ?hr ?_; (case hd => rfl); (case hg => rfl); (case hr => exact m6_q); intro gb188 hg w20 hbox hb; replace HO_5 := Ae_q (rO_q (rup HO_5.out) hb); have BK188 := Ae_q (hbox); have GW188 := Ae_q ((by rw [hg]; exact (bZ_q (bel HB.out)) : w.heap.size ≤ gb188)); have GE188 := Ae_q ((by rw [hg]; exact (bZ_q (bel HB.out)) : w.heap.size ≤ gb188)); replace HB := Ae_q (bT_q (bel HB.out) hb); clear hb hbox hg; have hcz21_0 : cI w20 gb188 0 0 := cZ BK188 0 rfl; have hcz21_1 : w20.cell? ⟨gb188, 1, none⟩ = some (.slice none 0 0) := (bC_q BK188.out 1).trans rfl; have hcz21_2 : cI w20 gb188 2 0 := cZ BK188 2 rfl; have hcz21_3 : cI w20 gb188 3 0 := cZ BK188 3 rfl; have hfz21_0 := bF_q BK188.out 0; have hfz21_1 := bF_q BK188.out 1; have hfz21_2 := bF_q BK188.out 2; have hfz21_3 := bF_q BK188.out 3; have p189 : 0 ≤ (x6_1 : Int) := oD_q (by assumption); have q189 : x6_1 < (l1.length : Int) := oD_q (by assumption); obtain ⟨ad189, e189, hx189_0, hx189_1, hx189_2⟩ := at_T49 HR1.out x6_1 p189 q189; obtain rfl : ad185 = ad189 := (by injection e189); have hn189_0 : ad185.block ≠ gb188 := nL_q (Nat.lt_of_lt_of_le m15_q GW188.out); have hn189_1 : ad185.block ≠ gb188 := nL_q (Nat.lt_of_lt_of_le m15_q GW188.out); have hn189_2 : ad185.block ≠ gb188 := nL_q (Nat.lt_of_lt_of_le m15_q GW188.out); have hn189_3 : ad185.block ≠ gb188 := nL_q (Nat.lt_of_lt_of_le m15_q GW188.out); replace hx189_0 := cel HB.out hx189_0; replace hx189_1 := cel HB.out hx189_1; replace hx189_2 := cel HB.out hx189_2; replace hx189_0 := (cell_far (p := ⟨gb188, 0, none⟩) m9_q (.int .i64 ((rd_T39 l0 t186).f0))).trans hx189_0; replace hx189_1 := (cell_far (p := ⟨gb188, 0, none⟩) m9_q (.int .i64 ((rd_T39 l0 t186).f0))).trans hx189_1; replace hx189_2 := (cell_far (p := ⟨gb188, 0, none⟩) m9_q (.int .i64 ((rd_T39 l0 t186).f0))).trans hx189_2; replace hx189_0 := (cell_far (p := ⟨gb188, 1, none⟩) m10_q (.slice A187_1 ((rd_T39 l0 t186).f1).length c187_1)).trans hx189_0; replace hx189_1 := (cell_far (p := ⟨gb188, 1, none⟩) m10_q (.slice A187_1 ((rd_T39 l0 t186).f1).length c187_1)).trans hx189_1; replace hx189_2 := (cell_far (p := ⟨gb188, 1, none⟩) m10_q (.slice A187_1 ((rd_T39 l0 t186).f1).length c187_1)).trans hx189_2; replace hx189_0 := (cell_far (p := ⟨gb188, 2, none⟩) m11_q (.int .i64 ((rd_T39 l0 t186).f2))).trans hx189_0; replace hx189_1 := (cell_far (p := ⟨gb188, 2, none⟩) m11_q (.int .i64 ((rd_T39 l0 t186).f2))).trans hx189_1; replace hx189_2 := (cell_far (p := ⟨gb188, 2, none⟩) m11_q (.int .i64 ((rd_T39 l0 t186).f2))).trans hx189_2; replace hx189_0 := (cell_far (p := ⟨gb188, 3, none⟩) m12_q (.int .i64 ((rd_T39 l0 t186).f3))).trans hx189_0; replace hx189_1 := (cell_far (p := ⟨gb188, 3, none⟩) m12_q (.int .i64 ((rd_T39 l0 t186).f3))).trans hx189_1; replace hx189_2 := (cell_far (p := ⟨gb188, 3, none⟩) m12_q (.int .i64 ((rd_T39 l0 t186).f3))).trans hx189_2; (try have hy189_0 := fun (n_ : Nat) => (show ((((((w20.drewN n_).setCell ⟨gb188, 0, none⟩ (.int .i64 ((rd_T39 l0 t186).f0))).setCell ⟨gb188, 1, none⟩ (.slice A187_1 ((rd_T39 l0 t186).f1).length c187_1)).setCell ⟨gb188, 2, none⟩ (.int .i64 ((rd_T39 l0 t186).f2))).setCell ⟨gb188, 3, none⟩ (.int .i64 ((rd_T39 l0 t186).f3)))).cell? _ = some _ from hx189_0)); (try have hy189_1 := fun (n_ : Nat) => (show ((((((w20.drewN n_).setCell ⟨gb188, 0, none⟩ (.int .i64 ((rd_T39 l0 t186).f0))).setCell ⟨gb188, 1, none⟩ (.slice A187_1 ((rd_T39 l0 t186).f1).length c187_1)).setCell ⟨gb188, 2, none⟩ (.int .i64 ((rd_T39 l0 t186).f2))).setCell ⟨gb188, 3, none⟩ (.int .i64 ((rd_T39 l0 t186).f3)))).cell? _ = some _ from hx189_1)); (try have hy189_2 := fun (n_ : Nat) => (show ((((((w20.drewN n_).setCell ⟨gb188, 0, none⟩ (.int .i64 ((rd_T39 l0 t186).f0))).setCell ⟨gb188, 1, none⟩ (.slice A187_1 ((rd_T39 l0 t186).f1).length c187_1)).setCell ⟨gb188, 2, none⟩ (.int .i64 ((rd_T39 l0 t186).f2))).setCell ⟨gb188, 3, none⟩ (.int .i64 ((rd_T39 l0 t186).f3)))).cell? _ = some _ from hx189_2)); clear hn189_0; clear hn189_1; clear hn189_2; clear hn189_3; replace p189 := eq_true p189; replace q189 := eq_true q189) | (go_at_call 59; (with_reducible refine (spec_l6In.calls ((rd_T49 l1 x6_1).f2) ((rd_T39 l0 t186).f2) ((rd_T39 l0 t186).f3) false _ A15.out).mono ?_); rintro e w' ⟨rfl, ⟨nd, rfl⟩⟩; (try first | exact ⟨rfl, _, wD_q _ _ _⟩ | exact ⟨rfl, _, Eq.trans (wD_q _ _ _) (congrArg (World.drewN _) (nA_q _ _ _))⟩)) | ((with_reducible refine gate_builtin (b := .append) (xs := #[.tmp 41, .tmp 43]) rfl ?_); at_builtin; refine Kd.R_append kI_q (w0 := w) w.heap.size rfl (.tmp 41) (.tmp 43) 34 3 (.int .i64 0) 8 rfl Try.underlying34 info3 rfl (by decide) (by omega) u5 x5_1 x6_1 [.int .i64 x6_1] (fun _ => True) (fun _ => False) rfl m6_q ?aP (fun _ hk => hk.elim) ?aF ?aO ?aB ?aS ?aL ?_; (case aP => exact rfl); (case aB => exact m25_q); (case aF => exact (fun _ _ => trivial)); (case aO => exact (by (with_reducible repeat (first | apply rA_q | apply rN_q | apply rD_q)); exact rM_q (Kd.R_far (p := ⟨gb188, 3, none⟩) (Kd.R_far (p := ⟨gb188, 2, none⟩) (Kd.R_far (p := ⟨gb188, 1, none⟩) (Kd.R_far (p := ⟨gb188, 0, none⟩) (Kd.R_types HO_5.out BK188.out (by decide)) (fun _ hk => hk.2) (.int .i64 ((rd_T39 l0 t186).f0))) (fun _ hk => hk.2) (.slice A187_1 ((rd_T39 l0 t186).f1).length c187_1)) (fun _ hk => hk.2) (.int .i64 ((rd_T39 l0 t186).f2))) (fun _ hk => hk.2) (.int .i64 ((rd_T39 l0 t186).f3))) (fun _ hk => trivial))); (case aS => exact (bZ_q m25_q)); (case aL => have := LMc19.out; omega); intro v192 w22 ho hb hg hat; rw [← Ny191.out] at ho; replace BK188 := Ae_q (bG_q (g := gb188) (o := .cells #[.int .i64 ((rd_T39 l0 t186).f0), .slice A187_1 ((rd_T39 l0 t186).f1).length c187_1, .int .i64 ((rd_T39 l0 t186).f2), .int .i64 ((rd_T39 l0 t186).f3)] 39 (0, 0)) m5_q hg (Kd.R_ne HO_5.out BK188.out (by decide))); replace HB := Ae_q (hb); have HO193 := Ae_q (ho); clear HO_5; clear ho hb hg hat)))
     go_roundg kj4
     case measure => have := HK1.out; have := HJ4.out; omega
     case rel => exact ⟨(y191), (wrap64 (x6_1 + 1)), m3_q, H', ⟨by have := HK1.out; have := HJ4.out; omega⟩, ⟨rup HO193.out⟩, ⟨m25_q⟩⟩

def laws_szPlateS.f (l0 : List (S77)) (a1 : Int) : Option (Int) := if (wrap64 (a1 - (l0.length : Int))) < 0 then (some (-1)) else (some (wrap64 (a1 - (l0.length : Int))))
set_option maxHeartbeats 8000000 in
set_option maxRecDepth 100000 in
theorem laws_szPlateS.calls (A0 : Option Addr) (c0 : Nat) (l0 : List (S77)) (a1 : Int) (r : Int) (w : World) (hr0 : Kd.C k77 w A0 l0.length l0) (hc0 : l0.length ≤ c0) (h : laws_szPlateS.f l0 a1 = some r) :
    Calls Try.prog 35 #[.slice A0 l0.length c0, .int .i64 a1] w fun e w' => e = .returned (.int .i64 r) ∧ Drawn0 w w' := by
 have HR0 := Ae_q hr0
 have HC0 := Ae_q hc0
 clear hr0 hc0
 have H : (if (wrap64 (a1 - (l0.length : Int))) < 0 then (some (-1)) else (some (wrap64 (a1 - (l0.length : Int))))) = some r := h
 clear h
 by_cases c3 : (wrap64 (a1 - (l0.length : Int))) < 0
 ·rw [if_pos c3] at H
  have c3b0 : decide ((wrap64 (a1 - (l0.length : Int))) < 0) = true := dT_q c3
  clear c3
  obtain rfl := oI_q H
  go_enter Try.func35, Try.ntmps35
  go_wp2
  go_ret
  exact ⟨m3_q, m17_q⟩
 rw [if_neg c3] at H
 have c3b0 : decide ((wrap64 (a1 - (l0.length : Int))) < 0) = false := dF_q c3
 clear c3
 obtain rfl := oI_q H
 go_enter Try.func35, Try.ntmps35
 go_wp2
 go_ret
 exact ⟨m3_q, m17_q⟩

def laws_toPlate.f (a0_0 : Int) (a0_1 : Int) (a0_2 : Int) : Option (Int × Int × Int) := some (a0_0, a0_1, a0_2)
set_option maxHeartbeats 8000000 in
set_option maxRecDepth 100000 in
theorem laws_toPlate.calls (a0_0 : Int) (a0_1 : Int) (a0_2 : Int) (r1 : Int) (r2 : Int) (r3 : Int) (w : World) (h : laws_toPlate.f a0_0 a0_1 a0_2 = some (r1, r2, r3)) :
    Calls Try.prog 61 #[.agg #[.int .i64 a0_0, .int .i64 a0_1, .int .i64 a0_2]] w fun e w' => e = .returned (.agg #[.int .i64 r1, .int .i64 r2, .int .i64 r3]) ∧ Below w.heap.size w w' := by
 have hu77 := Try.underlying77
 have hu49 := Try.underlying49
 have HB := Ae_q (bR_q w.heap.size w)
 have H : (some (a0_0, a0_1, a0_2)) = some (r1, r2, r3) := h
 clear h
 simp only [oE_q, pE_q] at H
 obtain ⟨rfl, rfl, rfl⟩ := H
 go_enter Try.func61, Try.ntmps61
 go_wp2_with (first | ((first | ((with_reducible refine gD_q (N := 1) rfl ?_); refine bE_q ?hg (N := 1) ?hd (cs := #[.int .i64 a0_0, .int .i64 a0_1, .int .i64 a0_2]) (t := 77) ?hr ?_; (case hd => rfl); (case hg => rfl); (case hr => exact m6_q); intro gb194 hg w' hbox hb; have BK194 := Ae_q (hbox); have GW194 := Ae_q ((by rw [hg]; exact (bZ_q (bel HB.out)) : w.heap.size ≤ gb194)); have GE194 := Ae_q ((by rw [hg]; exact (bZ_q (bel HB.out)) : w.heap.size ≤ gb194)); replace HB := Ae_q (bT_q (bel HB.out) hb)) | ((with_reducible refine gD_q (N := 2) rfl ?_); refine bE_q ?hg (N := 2) ?hd (cs := #[.int .i64 0, .int .i64 0, .int .i64 0]) (t := 49) ?hr ?_; (case hd => rfl); (case hg => rfl); (case hr => exact m6_q); intro gb195 hg w3 hbox hb; have BK195 := Ae_q (hbox); have GW195 := Ae_q ((by rw [hg]; exact (bZ_q m46_q) : w.heap.size ≤ gb195)); have GE195 := Ae_q ((by rw [hg]; exact (bZ_q m46_q) : w.heap.size ≤ gb195)); replace HB := Ae_q (bT_q m46_q hb); have NB194_195 := Ae_q ((by rw [hg]; exact nL_q (blk_lt (g := gb194) (o := .cells #[.int .i64 a0_0, .int .i64 a0_1, .int .i64 a0_2] 77 (0, 0)) (bup BK194.out)) : gb194 ≠ gb195)); have NB195_194 := Ae_q ((by rw [hg]; exact nG_q (blk_lt (g := gb194) (o := .cells #[.int .i64 a0_0, .int .i64 a0_1, .int .i64 a0_2] 77 (0, 0)) (bup BK194.out)) : gb195 ≠ gb194)); replace BK194 := Ae_q (bB_q (g := gb194) (o := .cells #[.int .i64 a0_0, .int .i64 a0_1, .int .i64 a0_2] 77 (0, 0)) (bup BK194.out) hb))); clear hb hbox hg) | ((with_reducible refine gD_q (N := 3) rfl ?_); refine bE_q ?hg (N := 3) ?hd (cs := #[.int .i64 0, .int .i64 0, .int .i64 0]) (t := 49) ?hr ?_; (case hd => rfl); (case hg => rfl); (case hr => exact m6_q); intro gb196 hg w4 hbox hb; have BK196 := Ae_q (hbox); have GW196 := Ae_q ((by rw [hg]; exact (bZ_q m44_q) : w.heap.size ≤ gb196)); have GE196 := Ae_q ((by rw [hg]; exact (bZ_q m44_q) : w.heap.size ≤ gb196)); replace HB := Ae_q (bT_q m44_q hb); have NB194_196 := Ae_q ((by rw [hg]; exact nL_q (blk_lt (g := gb194) (o := .cells #[.int .i64 a0_0, .int .i64 a0_1, .int .i64 a0_2] 77 (0, 0)) (bup BK194.out)) : gb194 ≠ gb196)); have NB196_194 := Ae_q ((by rw [hg]; exact nG_q (blk_lt (g := gb194) (o := .cells #[.int .i64 a0_0, .int .i64 a0_1, .int .i64 a0_2] 77 (0, 0)) (bup BK194.out)) : gb196 ≠ gb194)); replace BK194 := Ae_q (bB_q (g := gb194) (o := .cells #[.int .i64 a0_0, .int .i64 a0_1, .int .i64 a0_2] 77 (0, 0)) (bup BK194.out) hb); have NB195_196 := Ae_q ((by rw [hg]; exact nL_q (blk_lt (g := gb195) (o := .cells #[.int .i64 0, .int .i64 0, .int .i64 0] 49 (0, 0)) (bup BK195.out)) : gb195 ≠ gb196)); have NB196_195 := Ae_q ((by rw [hg]; exact nG_q (blk_lt (g := gb195) (o := .cells #[.int .i64 0, .int .i64 0, .int .i64 0] 49 (0, 0)) (bup BK195.out)) : gb196 ≠ gb195)); replace BK195 := Ae_q (bB_q (g := gb195) (o := .cells #[.int .i64 0, .int .i64 0, .int .i64 0] 49 (0, 0)) (bup BK195.out) hb); clear hb hbox hg; have hnb5 := NB194_195.out; have hnc5 := NB195_194.out; have hnb6 := NB194_196.out; have hnc6 := NB196_194.out; have hcz7_0 : cI w4 gb194 0 a0_0 := cZ BK194 0 rfl; have hcz7_1 : cI w4 gb194 1 a0_1 := cZ BK194 1 rfl; have hcz7_2 : cI w4 gb194 2 a0_2 := cZ BK194 2 rfl; have hfz7_0 := bF_q BK194.out 0; have hfz7_1 := bF_q BK194.out 1; have hfz7_2 := bF_q BK194.out 2; have hnb8 := NB196_195.out; have hnc8 := NB195_196.out; have hcz9_0 : cI w4 gb196 0 0 := cZ BK196 0 rfl; have hcz9_1 : cI w4 gb196 1 0 := cZ BK196 1 rfl; have hcz9_2 : cI w4 gb196 2 0 := cZ BK196 2 rfl; have hfz9_0 := bF_q BK196.out 0; have hfz9_1 := bF_q BK196.out 1; have hfz9_2 := bF_q BK196.out 2; have hcz10_0 : cI w4 gb195 0 0 := cZ BK195 0 rfl; have hcz10_1 : cI w4 gb195 1 0 := cZ BK195 1 rfl; have hcz10_2 : cI w4 gb195 2 0 := cZ BK195 2 rfl; have hfz10_0 := bF_q BK195.out 0; have hfz10_1 := bF_q BK195.out 1; have hfz10_2 := bF_q BK195.out 2))
 refine bodyPost_ret (results_cell_row rfl _ _ gb195 49 #[.int .i64 a0_0, .int .i64 a0_1, .int .i64 a0_2] (0, 0) _ rfl (by (with_reducible repeat (first | refine bN_q ?_ _ | refine bW_q ?_ | refine bL_q ?_ _)); refine blk_put (cs := #[.int .i64 a0_0, .int .i64 a0_1, .int .i64 0]) ?_ 2 _ rfl; (with_reducible repeat (first | refine bN_q ?_ _ | refine bW_q ?_ | refine bL_q ?_ _)); refine blk_put (cs := #[.int .i64 a0_0, .int .i64 0, .int .i64 0]) ?_ 1 _ rfl; (with_reducible repeat (first | refine bN_q ?_ _ | refine bW_q ?_ | refine bL_q ?_ _)); refine blk_put (cs := #[.int .i64 0, .int .i64 0, .int .i64 0]) ?_ 0 _ rfl; (with_reducible repeat (first | refine bN_q ?_ _ | refine bW_q ?_ | refine bL_q ?_ _)); refine blk_far ?_ NB195_196.out _; (with_reducible repeat (first | refine bN_q ?_ _ | refine bW_q ?_ | refine bL_q ?_ _)); refine blk_far ?_ NB195_196.out _; (with_reducible repeat (first | refine bN_q ?_ _ | refine bW_q ?_ | refine bL_q ?_ _)); refine blk_far ?_ NB195_196.out _; (with_reducible repeat (first | refine bN_q ?_ _ | refine bW_q ?_ | refine bL_q ?_ _)); exact BK195.out) Try.underlying49 rfl m7_q) rfl ?_
 exact ⟨m2_q, by repeat (with_reducible first | exact HB.out | apply bA_q | apply pB_q | apply bD_q | refine bS_q ?_ GE194.out | refine bS_q ?_ GE195.out | refine bS_q ?_ GE196.out)⟩

def laws_toPlateS.l0 : Nat → List (S77) → List (S49) → Int → Option ((List (S49)))
 | 0, _, _, _ => none
 | k + 1, x0, x3, x4 => if x4 < (x0.length : Int) then (if 0 ≤ x4 then ((laws_toPlate.f ((rd_T77 x0 x4).f0) ((rd_T77 x0 x4).f1) ((rd_T77 x0 x4).f2)).bind fun bt201 => (if x4 < (x3.length : Int) then (laws_toPlateS.l0 k x0 (x3.set (x4 : Int).toNat (⟨bt201.1, bt201.2.1, bt201.2.2⟩ : S49)) (wrap64 (x4 + 1))) else (none))) else (none)) else (some x3)
def laws_toPlateS.f (k : Nat) (l0 : List (S77)) : Option ((List (S49))) := if 0 ≤ (l0.length : Int) then (if ((l0.length : Int) : Int).toNat ≤ 11728124029610 then (laws_toPlateS.l0 k l0 (List.replicate ((l0.length : Int) : Int).toNat z49) 0) else (none)) else (none)
set_option maxHeartbeats 8000000 in
set_option maxRecDepth 100000 in
theorem laws_toPlateS.calls (k : Nat) (A0 : Option Addr) (c0 : Nat) (l0 : List (S77)) (r : List (S49)) (w : World) (hr0 : Kd.C k77 w A0 l0.length l0) (hc0 : l0.length ≤ c0) (h : laws_toPlateS.f k l0 = some r) :
    Calls Try.prog 36 #[.slice A0 l0.length c0] w fun e w' => ∃ v0_ : Value, e = .returned (v0_) ∧ Kd.R k49 49 w' w.heap.size (fun _ => True) v0_ r ∧ Below w.heap.size w w' := by
 have hu77 := Try.underlying77
 have hu49 := Try.underlying49
 have HR0 := Ae_q hr0
 have HC0 := Ae_q hc0
 clear hr0 hc0
 have HB := Ae_q (bR_q w.heap.size w)
 have H : (if 0 ≤ (l0.length : Int) then (if ((l0.length : Int) : Int).toNat ≤ 11728124029610 then (laws_toPlateS.l0 k l0 (List.replicate ((l0.length : Int) : Int).toNat z49) 0) else (none)) else (none)) = some r := h
 clear h
 by_cases c2 : 0 ≤ (l0.length : Int)
 rotate_left
 ·rw [if_neg c2] at H
  exact absurd H (by simp)
 rw [if_pos c2] at H
 have c2b0 := eq_true c2
 have c2b1 : decide (0 ≤ (l0.length : Int)) = true := dT_q c2
 clear c2
 by_cases c3 : ((l0.length : Int) : Int).toNat ≤ 11728124029610
 rotate_left
 ·rw [if_neg c3] at H
  exact absurd H (by simp)
 rw [if_pos c3] at H
 have c3b0 := eq_true c3
 have c3b1 : decide (((l0.length : Int) : Int).toNat ≤ 11728124029610) = true := dT_q c3
 clear c3
 obtain ⟨y197, hy197⟩ : ∃ y_ : List (S49), y_ = (List.replicate ((l0.length : Int) : Int).toNat z49) := ⟨_, rfl⟩
 replace H : (laws_toPlateS.l0 k l0 y197 0) = some r := by first | (rw [hy197]; with_reducible exact H) | (have H2_ := (oS_q _ _).symm.trans H; rw [hy197]; with_reducible exact H2_) | (have H2_ := (oS_q _ _).symm.trans H; with_reducible exact H2_) | with_reducible exact H | (rw [hy197]; exact H) | exact H
 have Ny197 := Ae_q hy197
 clear hy197
 have H' := Ae_q H
 clear H
 go_enter Try.func36, Try.ntmps36
 go_wp2_with (first | ((with_reducible refine gD_q (N := 7) rfl ?_); refine Kd.R_make k49 _ 49 rfl (N := 7) rfl 44 _ _ rfl (l0.length : Int) rfl rfl Try.underlying44 (.agg #[(.int .i64 0), (.int .i64 0), (.int .i64 0)]) 24 info49 rfl (by decide) (by omega) z49 (ok := fun _ => True) (okp := fun _ => True) (k49_mkM _ _ _ z49 ) (fun _ hk => hk) trivial (oD_q (by assumption)) (nT_q (Nat.mul_le_mul_right _ (oD_q (by assumption) : (l0.length : Int).toNat ≤ 11728124029610)) (by omega)) (bR_q _ _) (nR_q _) ?_; intro v198 w4 ho5 hb hg_ hnew_; clear hg_ hnew_; (first | rw [← Ny197.out] at ho5 | (simp only [Int.reduceToNat] at ho5; rw [← Ny197.out] at ho5)); have HO199 := Ae_q (rL_q ho5 (bZ_q (bel HB.out))); replace HB := Ae_q (bT_q (bel HB.out) hb); clear hb ho5))
 go_loopg [4] k (fun kq v4 w' => ∃ (x3_1 : List (S49)) (x4_1 : Int), v4 = .int .i64 x4_1 ∧ Aside0 (laws_toPlateS.l0 kq l0 x3_1 x4_1 = some r) ∧ Aside0 (kq ≤ k) ∧ Aside0 (Kd.R k49 49 w' w.heap.size (fun _ => True) v198 x3_1) ∧ Aside0 (Below w.heap.size w w'))
 case atStart => exact ⟨(y197), (0), m3_q, H', ⟨nR_q _⟩, ⟨rup HO199.out⟩, ⟨bel HB.out⟩⟩
 case round =>
  clear H'
  try clear c2
  try clear c2b0
  try clear c2b1
  try clear p2
  try clear c3
  try clear c3b0
  try clear c3b1
  obtain ⟨x3_1, x4_1, rfl, HA, HK1, HO_3, HB⟩ := hrel
  cases gk with
  | zero => exact absurd HA.out (by simp [laws_toPlateS.l0])
  | succ k1 =>
   have H := HA.out
   clear HA
   simp only [laws_toPlateS.l0] at H
   by_cases c6 : x4_1 < (l0.length : Int)
   rotate_left
   ·rw [if_neg c6] at H
    have c6b0 : decide (x4_1 < (l0.length : Int)) = false := dF_q c6
    clear c6
    obtain rfl := oI_q H
    go_wp2
    go_ret
    exact ⟨_, m2_q, rup HO_3.out, bel HB.out⟩
   rw [if_pos c6] at H
   have c6b0 : decide (x4_1 < (l0.length : Int)) = true := dT_q c6
   clear c6
   by_cases c7 : 0 ≤ x4_1
   rotate_left
   ·rw [if_neg c7] at H
    exact absurd H (by simp)
   rw [if_pos c7] at H
   have c7b0 : decide (0 ≤ x4_1) = true := dT_q c7
   clear c7
   replace H := oB_q.mp H
   obtain ⟨⟨t201, t202, t203⟩, A80, H⟩ := H
   replace H : (if x4_1 < (x3_1.length : Int) then (laws_toPlateS.l0 k1 l0 (x3_1.set (x4_1 : Int).toNat (⟨t201, t202, t203⟩ : S49)) (wrap64 (x4_1 + 1))) else (none)) = some r := H
   have A8 := Ae_q A80
   clear A80
   by_cases c9 : x4_1 < (x3_1.length : Int)
   rotate_left
   ·rw [if_neg c9] at H
    exact absurd H (by simp)
   rw [if_pos c9] at H
   have c9b0 : decide (x4_1 < (x3_1.length : Int)) = true := dT_q c9
   clear c9
   obtain ⟨y204, hy204⟩ : ∃ y_ : List (S49), y_ = (x3_1.set (x4_1 : Int).toNat (⟨t201, t202, t203⟩ : S49)) := ⟨_, rfl⟩
   replace H : (laws_toPlateS.l0 k1 l0 y204 (wrap64 (x4_1 + 1))) = some r := by first | (rw [hy204]; with_reducible exact H) | (have H2_ := (oS_q _ _).symm.trans H; rw [hy204]; with_reducible exact H2_) | (have H2_ := (oS_q _ _).symm.trans H; with_reducible exact H2_) | with_reducible exact H | (rw [hy204]; exact H) | exact H
   have Ny204 := Ae_q hy204
   clear hy204
   have H' := Ae_q H
   clear H
   have p200 : 0 ≤ (x4_1 : Int) := oD_q (by assumption)
   have q200 : x4_1 < (l0.length : Int) := oD_q (by assumption)
   obtain ⟨ad200, e200, hx200_0, hx200_1, hx200_2⟩ := at_T77 HR0.out x4_1 p200 q200
   cases e200
   replace hx200_0 := cel HB.out hx200_0
   replace hx200_1 := cel HB.out hx200_1
   replace hx200_2 := cel HB.out hx200_2
   replace p200 := eq_true p200
   replace q200 := eq_true q200
   go_wp2_with (first | ((with_reducible refine gC_q (f := 61) rfl ?_); refine gL_q (some 20) rfl rfl Try.func61 m7_q rfl #[.agg #[.int .i64 ((rd_T77 l0 x4_1).f0), .int .i64 ((rd_T77 l0 x4_1).f1), .int .i64 ((rd_T77 l0 x4_1).f2)]] rfl m0_q ?_; (with_reducible refine (laws_toPlate.calls ((rd_T77 l0 x4_1).f0) ((rd_T77 l0 x4_1).f1) ((rd_T77 l0 x4_1).f2) t201 t202 t203 _ A8.out).mono ?_); rintro e w11 ⟨rfl, hb⟩; refine ⟨_, rfl, ?_⟩; replace HO_3 := Ae_q (rO_q (rup HO_3.out) hb); replace HB := Ae_q (bT_q (bel HB.out) hb); (try clear hb); (try clear hb2); (try clear hk); (try clear hi); have p10 : 0 ≤ (x4_1 : Int) := oD_q (by assumption); have q10 : (x4_1 : Int) < ((x3_1.length : Int) : Int) := oD_q (by assumption); obtain ⟨go10, co10, eo10, gb10, gl10, cl10, HG10⟩ := Kd.R_form HO_3.out (by omega); (first | cases eo10 | (injection eo10 with ea_ en_ ec_; (first | subst ea_ | (injection ea_ with ea_; subst ea_)); subst ec_; clear en_)); have GB10 := Ae_q gb10; have GG10 := Ae_q HG10; clear gb10 gl10 HG10; obtain ⟨ce10, hcl10, hM10, hcc10, hfr10⟩ := Kd.R_elem HO_3.out z49 (x4_1 : Int) p10 q10; obtain rfl := k49_openM hM10; have hx10_0 : w11.cell? ⟨go10, (x4_1 : Int).toNat * 3, none⟩ = some (.int .i64 ((rd_T49 x3_1 x4_1).f0)) := hcc10 0 _ rfl; have hx10_1 : w11.cell? ⟨go10, (x4_1 : Int).toNat * 3 + 1, none⟩ = some (.int .i64 ((rd_T49 x3_1 x4_1).f1)) := hcc10 1 _ rfl; have hx10_2 : w11.cell? ⟨go10, (x4_1 : Int).toNat * 3 + 2, none⟩ = some (.int .i64 ((rd_T49 x3_1 x4_1).f2)) := hcc10 2 _ rfl; have hf10_0 : w11.frozen? ⟨go10, (x4_1 : Int).toNat * 3, none⟩ = false := hfr10 0; have hf10_1 : w11.frozen? ⟨go10, (x4_1 : Int).toNat * 3 + 1, none⟩ = false := hfr10 1; have hf10_2 : w11.frozen? ⟨go10, (x4_1 : Int).toNat * 3 + 2, none⟩ = false := hfr10 2; clear hcl10 hcc10 hfr10 hM10; replace p10 := eq_true p10; replace q10 := eq_true q10; have HX12 := Ae_q (show Kd.R k49 49 w11 w.heap.size (fun _ => True) (.slice (some ⟨go10, 0, none⟩) x3_1.length co10) x3_1 from (rup HO_3.out)); obtain ⟨ce12, hcl12, hM12, hcc12, hfr12⟩ := Kd.R_elem HX12.out z49 (x4_1 : Int) (oD_q (by assumption)) (by have h_ : (x4_1 : Int) < ((x3_1.length : Int) : Int) := oD_q (by assumption); first | exact h_ | (have e_ := (rR_q HO_3.out).1; omega) | simpa using h_); obtain rfl := k49_openM hM12; have HP12 := Kd.R_seg HX12.out (x4_1 : Int) (oD_q (by assumption)) (by have h_ : (x4_1 : Int) < ((x3_1.length : Int) : Int) := oD_q (by assumption); first | exact h_ | (have e_ := (rR_q HO_3.out).1; omega) | simpa using h_) (seg := [.int .i64 t201, .int .i64 t202, .int .i64 t203]) (j := 0) hcl12 hcc12 (show 3 ≤ 3 from by decide) (x' := (⟨t201, t202, t203⟩ : S49)) (k49_mkM _ _ _ (⟨t201, t202, t203⟩ : S49) ) (fun _ hk => hk); have hx12_0 := hcc12 0 _ rfl; (try simp only [show (k49).sz = 3 from rfl, Nat.mul_one, Nat.add_zero] at hx12_0); have hf12_0 := hfr12 0; (try simp only [show (k49).sz = 3 from rfl, Nat.mul_one, Nat.add_zero] at hf12_0); have hx12_1 := hcc12 1 _ rfl; (try simp only [show (k49).sz = 3 from rfl, Nat.mul_one, Nat.add_zero] at hx12_1); have hf12_1 := hfr12 1; (try simp only [show (k49).sz = 3 from rfl, Nat.mul_one, Nat.add_zero] at hf12_1); have hx12_2 := hcc12 2 _ rfl; (try simp only [show (k49).sz = 3 from rfl, Nat.mul_one, Nat.add_zero] at hx12_2); have hf12_2 := hfr12 2; (try simp only [show (k49).sz = 3 from rfl, Nat.mul_one, Nat.add_zero] at hf12_2); clear hcl12 hcc12 hfr12 hM12) | ((with_reducible refine gate_store (t := 49) (p := 21) rfl ?_); refine store_event (t := 49) (p := 21) (v := ?vo_w13) (w1 := (((w11.setCell ⟨go10, (x4_1 : Int).toNat * 3, none⟩ (.int .i64 t201)).setCell ⟨go10, (x4_1 : Int).toNat * 3 + 1, none⟩ (.int .i64 t202)).setCell ⟨go10, (x4_1 : Int).toNat * 3 + 2, none⟩ (.int .i64 t203))) ?hg ?ho ?hn ?hr ?_; (case ho => rfl); (case hg => rfl); (case hn => rfl); (case hr => exact m6_q); intro w13 hw; have hg : w11.grownBy w13 (some go10) := (by rw [hw]; exact HP12.2); have hp_ : Kd.R k49 49 w13 w.heap.size (fun _ => True) (.slice (some ⟨go10, 0, none⟩) x3_1.length co10) y204 := (by rw [hw, Ny204.out]; exact HP12.1); clear HP12; replace HO_3 := Ae_q (hp_); replace HB := Ae_q ((by rw [hw]; exact bS_q (bS_q (bS_q (HB.out) GB10.out) GB10.out) GB10.out : Below w.heap.size w w13)); clear hg hw hp_))
   go_roundg k1
   case measure => have := HK1.out; omega
   case rel => exact ⟨(y204), (wrap64 (x4_1 + 1)), m3_q, H', ⟨m41_q⟩, ⟨rup HO_3.out⟩, ⟨bel HB.out⟩⟩

def laws_eqPlate.f (a0_0 : Int) (a0_1 : Int) (a0_2 : Int) (a1_0 : Int) (a1_1 : Int) (a1_2 : Int) : Option (Bool) := if a0_0 = a1_0 then (if a0_1 = a1_1 then (if a0_2 = a1_2 then (some true) else (some false)) else (some false)) else (some false)
set_option maxHeartbeats 8000000 in
set_option maxRecDepth 100000 in
theorem laws_eqPlate.calls (a0_0 : Int) (a0_1 : Int) (a0_2 : Int) (a1_0 : Int) (a1_1 : Int) (a1_2 : Int) (r : Bool) (w : World) (h : laws_eqPlate.f a0_0 a0_1 a0_2 a1_0 a1_1 a1_2 = some r) :
    Calls Try.prog 62 #[.agg #[.int .i64 a0_0, .int .i64 a0_1, .int .i64 a0_2], .agg #[.int .i64 a1_0, .int .i64 a1_1, .int .i64 a1_2]] w fun e w' => e = .returned (.bool r) ∧ Below w.heap.size w w' := by
 have hu49 := Try.underlying49
 have HB := Ae_q (bR_q w.heap.size w)
 have H : (if a0_0 = a1_0 then (if a0_1 = a1_1 then (if a0_2 = a1_2 then (some true) else (some false)) else (some false)) else (some false)) = some r := h
 clear h
 by_cases c3 : a0_0 = a1_0
 rotate_left
 ·rw [if_neg c3] at H
  have c3b0 : (a0_0 == a1_0) = false := fN_q.mpr c3
  have c3b1 : (a0_0 != a1_0) = true := nI_q.mpr c3
  obtain rfl := oI_q H
  go_enter Try.func62, Try.ntmps62
  go_wp2_with (first | ((with_reducible refine gD_q (N := 2) rfl ?_); refine bE_q ?hg (N := 2) ?hd (cs := #[.int .i64 a0_0, .int .i64 a0_1, .int .i64 a0_2]) (t := 49) ?hr ?_; (case hd => rfl); (case hg => rfl); (case hr => exact m6_q); intro gb205 hg w' hbox hb; have BK205 := Ae_q (hbox); have GW205 := Ae_q ((by rw [hg]; exact (bZ_q (bel HB.out)) : w.heap.size ≤ gb205)); have GE205 := Ae_q ((by rw [hg]; exact (bZ_q (bel HB.out)) : w.heap.size ≤ gb205)); replace HB := Ae_q (bT_q (bel HB.out) hb); clear hb hbox hg) | ((with_reducible refine gD_q (N := 3) rfl ?_); refine bE_q ?hg (N := 3) ?hd (cs := #[.int .i64 a1_0, .int .i64 a1_1, .int .i64 a1_2]) (t := 49) ?hr ?_; (case hd => rfl); (case hg => rfl); (case hr => exact m6_q); intro gb206 hg w22 hbox hb; have BK206 := Ae_q (hbox); have GW206 := Ae_q ((by rw [hg]; exact (bZ_q m19_q) : w.heap.size ≤ gb206)); have GE206 := Ae_q ((by rw [hg]; exact (bZ_q m19_q) : w.heap.size ≤ gb206)); replace HB := Ae_q (bT_q m19_q hb); have NB205_206 := Ae_q ((by rw [hg]; exact nL_q (blk_lt (g := gb205) (o := .cells #[.int .i64 a0_0, .int .i64 a0_1, .int .i64 a0_2] 49 (0, 0)) (bup BK205.out)) : gb205 ≠ gb206)); have NB206_205 := Ae_q ((by rw [hg]; exact nG_q (blk_lt (g := gb205) (o := .cells #[.int .i64 a0_0, .int .i64 a0_1, .int .i64 a0_2] 49 (0, 0)) (bup BK205.out)) : gb206 ≠ gb205)); replace BK205 := Ae_q (bB_q (g := gb205) (o := .cells #[.int .i64 a0_0, .int .i64 a0_1, .int .i64 a0_2] 49 (0, 0)) (bup BK205.out) hb); clear hb hbox hg; have hnb23 := NB205_206.out; have hnc23 := NB206_205.out; have hcz24_0 : cI w22 gb205 0 a0_0 := cZ BK205 0 rfl; have hcz24_1 : cI w22 gb205 1 a0_1 := cZ BK205 1 rfl; have hcz24_2 : cI w22 gb205 2 a0_2 := cZ BK205 2 rfl; have hfz24_0 := bF_q BK205.out 0; have hfz24_1 := bF_q BK205.out 1; have hfz24_2 := bF_q BK205.out 2; have hcz25_0 : cI w22 gb206 0 a1_0 := cZ BK206 0 rfl; have hcz25_1 : cI w22 gb206 1 a1_1 := cZ BK206 1 rfl; have hcz25_2 : cI w22 gb206 2 a1_2 := cZ BK206 2 rfl; have hfz25_0 := bF_q BK206.out 0; have hfz25_1 := bF_q BK206.out 1; have hfz25_2 := bF_q BK206.out 2))
  go_ret
  exact ⟨m2_q, m37_q⟩
 rw [if_pos c3] at H
 have c3b0 : (a0_0 == a1_0) = true := beq_iff_eq.mpr c3
 have c3b1 : (a0_0 != a1_0) = false := nE_q.mpr c3
 clear c3
 by_cases c4 : a0_1 = a1_1
 rotate_left
 ·rw [if_neg c4] at H
  have c4b0 : (a0_1 == a1_1) = false := fN_q.mpr c4
  have c4b1 : (a0_1 != a1_1) = true := nI_q.mpr c4
  obtain rfl := oI_q H
  go_enter Try.func62, Try.ntmps62
  go_wp2_with (first | ((with_reducible refine gD_q (N := 2) rfl ?_); refine bE_q ?hg (N := 2) ?hd (cs := #[.int .i64 a0_0, .int .i64 a0_1, .int .i64 a0_2]) (t := 49) ?hr ?_; (case hd => rfl); (case hg => rfl); (case hr => exact m6_q); intro gb205 hg w' hbox hb; have BK205 := Ae_q (hbox); have GW205 := Ae_q ((by rw [hg]; exact (bZ_q (bel HB.out)) : w.heap.size ≤ gb205)); have GE205 := Ae_q ((by rw [hg]; exact (bZ_q (bel HB.out)) : w.heap.size ≤ gb205)); replace HB := Ae_q (bT_q (bel HB.out) hb); clear hb hbox hg) | ((with_reducible refine gD_q (N := 3) rfl ?_); refine bE_q ?hg (N := 3) ?hd (cs := #[.int .i64 a1_0, .int .i64 a1_1, .int .i64 a1_2]) (t := 49) ?hr ?_; (case hd => rfl); (case hg => rfl); (case hr => exact m6_q); intro gb206 hg w17 hbox hb; have BK206 := Ae_q (hbox); have GW206 := Ae_q ((by rw [hg]; exact (bZ_q m19_q) : w.heap.size ≤ gb206)); have GE206 := Ae_q ((by rw [hg]; exact (bZ_q m19_q) : w.heap.size ≤ gb206)); replace HB := Ae_q (bT_q m19_q hb); have NB205_206 := Ae_q ((by rw [hg]; exact nL_q (blk_lt (g := gb205) (o := .cells #[.int .i64 a0_0, .int .i64 a0_1, .int .i64 a0_2] 49 (0, 0)) (bup BK205.out)) : gb205 ≠ gb206)); have NB206_205 := Ae_q ((by rw [hg]; exact nG_q (blk_lt (g := gb205) (o := .cells #[.int .i64 a0_0, .int .i64 a0_1, .int .i64 a0_2] 49 (0, 0)) (bup BK205.out)) : gb206 ≠ gb205)); replace BK205 := Ae_q (bB_q (g := gb205) (o := .cells #[.int .i64 a0_0, .int .i64 a0_1, .int .i64 a0_2] 49 (0, 0)) (bup BK205.out) hb); clear hb hbox hg; have hnb18 := NB205_206.out; have hnc18 := NB206_205.out; have hcz19_0 : cI w17 gb205 0 a0_0 := cZ BK205 0 rfl; have hcz19_1 : cI w17 gb205 1 a0_1 := cZ BK205 1 rfl; have hcz19_2 : cI w17 gb205 2 a0_2 := cZ BK205 2 rfl; have hfz19_0 := bF_q BK205.out 0; have hfz19_1 := bF_q BK205.out 1; have hfz19_2 := bF_q BK205.out 2; have hcz20_0 : cI w17 gb206 0 a1_0 := cZ BK206 0 rfl; have hcz20_1 : cI w17 gb206 1 a1_1 := cZ BK206 1 rfl; have hcz20_2 : cI w17 gb206 2 a1_2 := cZ BK206 2 rfl; have hfz20_0 := bF_q BK206.out 0; have hfz20_1 := bF_q BK206.out 1; have hfz20_2 := bF_q BK206.out 2))
  go_ret
  exact ⟨m2_q, m37_q⟩
 rw [if_pos c4] at H
 have c4b0 : (a0_1 == a1_1) = true := beq_iff_eq.mpr c4
 have c4b1 : (a0_1 != a1_1) = false := nE_q.mpr c4
 clear c4
 by_cases c5 : a0_2 = a1_2
 ·rw [if_pos c5] at H
  have c5b0 : (a0_2 == a1_2) = true := beq_iff_eq.mpr c5
  have c5b1 : (a0_2 != a1_2) = false := nE_q.mpr c5
  clear c5
  obtain rfl := oI_q H
  go_enter Try.func62, Try.ntmps62
  go_wp2_with (first | ((with_reducible refine gD_q (N := 2) rfl ?_); refine bE_q ?hg (N := 2) ?hd (cs := #[.int .i64 a0_0, .int .i64 a0_1, .int .i64 a0_2]) (t := 49) ?hr ?_; (case hd => rfl); (case hg => rfl); (case hr => exact m6_q); intro gb205 hg w' hbox hb; have BK205 := Ae_q (hbox); have GW205 := Ae_q ((by rw [hg]; exact (bZ_q (bel HB.out)) : w.heap.size ≤ gb205)); have GE205 := Ae_q ((by rw [hg]; exact (bZ_q (bel HB.out)) : w.heap.size ≤ gb205)); replace HB := Ae_q (bT_q (bel HB.out) hb); clear hb hbox hg) | ((with_reducible refine gD_q (N := 3) rfl ?_); refine bE_q ?hg (N := 3) ?hd (cs := #[.int .i64 a1_0, .int .i64 a1_1, .int .i64 a1_2]) (t := 49) ?hr ?_; (case hd => rfl); (case hg => rfl); (case hr => exact m6_q); intro gb206 hg w7 hbox hb; have BK206 := Ae_q (hbox); have GW206 := Ae_q ((by rw [hg]; exact (bZ_q m19_q) : w.heap.size ≤ gb206)); have GE206 := Ae_q ((by rw [hg]; exact (bZ_q m19_q) : w.heap.size ≤ gb206)); replace HB := Ae_q (bT_q m19_q hb); have NB205_206 := Ae_q ((by rw [hg]; exact nL_q (blk_lt (g := gb205) (o := .cells #[.int .i64 a0_0, .int .i64 a0_1, .int .i64 a0_2] 49 (0, 0)) (bup BK205.out)) : gb205 ≠ gb206)); have NB206_205 := Ae_q ((by rw [hg]; exact nG_q (blk_lt (g := gb205) (o := .cells #[.int .i64 a0_0, .int .i64 a0_1, .int .i64 a0_2] 49 (0, 0)) (bup BK205.out)) : gb206 ≠ gb205)); replace BK205 := Ae_q (bB_q (g := gb205) (o := .cells #[.int .i64 a0_0, .int .i64 a0_1, .int .i64 a0_2] 49 (0, 0)) (bup BK205.out) hb); clear hb hbox hg; have hnb8 := NB205_206.out; have hnc8 := NB206_205.out; have hcz9_0 : cI w7 gb205 0 a0_0 := cZ BK205 0 rfl; have hcz9_1 : cI w7 gb205 1 a0_1 := cZ BK205 1 rfl; have hcz9_2 : cI w7 gb205 2 a0_2 := cZ BK205 2 rfl; have hfz9_0 := bF_q BK205.out 0; have hfz9_1 := bF_q BK205.out 1; have hfz9_2 := bF_q BK205.out 2; have hcz10_0 : cI w7 gb206 0 a1_0 := cZ BK206 0 rfl; have hcz10_1 : cI w7 gb206 1 a1_1 := cZ BK206 1 rfl; have hcz10_2 : cI w7 gb206 2 a1_2 := cZ BK206 2 rfl; have hfz10_0 := bF_q BK206.out 0; have hfz10_1 := bF_q BK206.out 1; have hfz10_2 := bF_q BK206.out 2))
  go_ret
  exact ⟨m2_q, m37_q⟩
 rw [if_neg c5] at H
 have c5b0 : (a0_2 == a1_2) = false := fN_q.mpr c5
 have c5b1 : (a0_2 != a1_2) = true := nI_q.mpr c5
 obtain rfl := oI_q H
 go_enter Try.func62, Try.ntmps62
 go_wp2_with (first | ((with_reducible refine gD_q (N := 2) rfl ?_); refine bE_q ?hg (N := 2) ?hd (cs := #[.int .i64 a0_0, .int .i64 a0_1, .int .i64 a0_2]) (t := 49) ?hr ?_; (case hd => rfl); (case hg => rfl); (case hr => exact m6_q); intro gb205 hg w11 hbox hb; have BK205 := Ae_q (hbox); have GW205 := Ae_q ((by rw [hg]; exact (bZ_q (bel HB.out)) : w.heap.size ≤ gb205)); have GE205 := Ae_q ((by rw [hg]; exact (bZ_q (bel HB.out)) : w.heap.size ≤ gb205)); replace HB := Ae_q (bT_q (bel HB.out) hb); clear hb hbox hg) | ((with_reducible refine gD_q (N := 3) rfl ?_); refine bE_q ?hg (N := 3) ?hd (cs := #[.int .i64 a1_0, .int .i64 a1_1, .int .i64 a1_2]) (t := 49) ?hr ?_; (case hd => rfl); (case hg => rfl); (case hr => exact m6_q); intro gb206 hg w12 hbox hb; have BK206 := Ae_q (hbox); have GW206 := Ae_q ((by rw [hg]; exact (bZ_q m19_q) : w.heap.size ≤ gb206)); have GE206 := Ae_q ((by rw [hg]; exact (bZ_q m19_q) : w.heap.size ≤ gb206)); replace HB := Ae_q (bT_q m19_q hb); have NB205_206 := Ae_q ((by rw [hg]; exact nL_q (blk_lt (g := gb205) (o := .cells #[.int .i64 a0_0, .int .i64 a0_1, .int .i64 a0_2] 49 (0, 0)) (bup BK205.out)) : gb205 ≠ gb206)); have NB206_205 := Ae_q ((by rw [hg]; exact nG_q (blk_lt (g := gb205) (o := .cells #[.int .i64 a0_0, .int .i64 a0_1, .int .i64 a0_2] 49 (0, 0)) (bup BK205.out)) : gb206 ≠ gb205)); replace BK205 := Ae_q (bB_q (g := gb205) (o := .cells #[.int .i64 a0_0, .int .i64 a0_1, .int .i64 a0_2] 49 (0, 0)) (bup BK205.out) hb); clear hb hbox hg; have hnb13 := NB205_206.out; have hnc13 := NB206_205.out; have hcz14_0 : cI w12 gb205 0 a0_0 := cZ BK205 0 rfl; have hcz14_1 : cI w12 gb205 1 a0_1 := cZ BK205 1 rfl; have hcz14_2 : cI w12 gb205 2 a0_2 := cZ BK205 2 rfl; have hfz14_0 := bF_q BK205.out 0; have hfz14_1 := bF_q BK205.out 1; have hfz14_2 := bF_q BK205.out 2; have hcz15_0 : cI w12 gb206 0 a1_0 := cZ BK206 0 rfl; have hcz15_1 : cI w12 gb206 1 a1_1 := cZ BK206 1 rfl; have hcz15_2 : cI w12 gb206 2 a1_2 := cZ BK206 2 rfl; have hfz15_0 := bF_q BK206.out 0; have hfz15_1 := bF_q BK206.out 1; have hfz15_2 := bF_q BK206.out 2))
 go_ret
 exact ⟨m2_q, m37_q⟩

end Go.Proofs.Ytnckblolijkdaaa.PBt
