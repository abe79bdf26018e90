import Derived.Test.YtnhenfmegpjigaaVKPEvx0
import Derived.Test.YtnhenfmegpjigaaVKPEvx3
namespace Go.Proofs.Ytnhenfmegpjigaa.PEv
open Go.RowKit Go.Proofs.YtnhenfmegpjigaaW.PrintWords Go.Proofs.YtnhenfmegpjigaaW.PrintLast Go.Proofs.YtnhenfmegpjigaaW.PrintMore
attribute [local go_sem] max2_int min2_int max_two min_two max_three min_three max_four min_four
set_option linter.unusedVariables false
set_option linter.unusedSimpArgs false

def impl_eventValid.j0 : Nat → Bool → Int → Int → Int → Int → Int → Int → Option (Bool)
 | 0, _, _, _, _, _, _, _ => none
 | k + 1, x12, x179000, x179001, x179002, x179003, x179004, x179005 => if x12 = true then (some false) else (if x179000 = 1 then (if x179003 = 0 then ((impl_isSet.f x179004).bind fun t181 => (if t181 = true then ((impl_isKind.f x179005).bind fun t182 => (some t182)) else (some false))) else (some false)) else (if x179000 = 2 then ((impl_within.f x179003 1 99).bind fun t183 => (if t183 = true then (if x179004 = 0 then (some (x179005 == 0)) else (some false)) else (some false))) else (if x179000 = 3 then (if x179003 = 0 then (if x179004 = 0 then (some (x179005 == 0)) else (some false)) else (some false)) else (some false))))
def impl_eventValid.f (k : Nat) (a0_0 : Int) (a0_1 : Int) (a0_2 : Int) (a0_3 : Int) (a0_4 : Int) (a0_5 : Int) : Option (Bool) := (impl_isMinute.f a0_1).bind fun t179 => (if t179 = true then ((impl_isId.f a0_2).bind fun t180 => (impl_eventValid.j0 k (!t180) a0_0 a0_1 a0_2 a0_3 a0_4 a0_5)) else (impl_eventValid.j0 k true a0_0 a0_1 a0_2 a0_3 a0_4 a0_5))
set_option maxHeartbeats 8000000 in
set_option maxRecDepth 100000 in
theorem impl_eventValid.calls (k : Nat) (a0_0 : Int) (a0_1 : Int) (a0_2 : Int) (a0_3 : Int) (a0_4 : Int) (a0_5 : Int) (r : Bool) (w : World) (h : impl_eventValid.f k a0_0 a0_1 a0_2 a0_3 a0_4 a0_5 = some r) :
    Calls Try.prog 44 #[.agg #[.int .i64 a0_0, .int .i64 a0_1, .int .i64 a0_2, .int .i64 a0_3, .int .i64 a0_4, .int .i64 a0_5]] w fun e w' => e = .returned (.bool r) ∧ Below w.heap.size w w' := by
 have hu27 := Try.underlying27
 have HB := Ae_q (bR_q w.heap.size w)
 have H : ((impl_isMinute.f a0_1).bind fun t179 => (if t179 = true then ((impl_isId.f a0_2).bind fun t180 => (impl_eventValid.j0 k (!t180) a0_0 a0_1 a0_2 a0_3 a0_4 a0_5)) else (impl_eventValid.j0 k true a0_0 a0_1 a0_2 a0_3 a0_4 a0_5))) = some r := h
 clear h
 have HC2 := Ae_q H
 clear H
 go_enter Try.func44, Try.ntmps44
 go_upto_region 1 with (first | ((with_reducible refine gD_q (N := 1) rfl ?_); refine bE_q ?hg (N := 1) ?hd (cs := #[.int .i64 a0_0, .int .i64 a0_1, .int .i64 a0_2, .int .i64 a0_3, .int .i64 a0_4, .int .i64 a0_5]) (t := 27) ?hr ?_; (case hd => rfl); (case hg => rfl); (case hr => first | (go_simp; done) | (go_simp; rfl)); intro gb178 hg w3 hbox hb; have n0_ := Ae_q (bT_q (bel HB.out) hb); have n1_ := Ae_q (hbox); have n2_ := Ae_q ((by rw [hg]; exact (bZ_q (bel HB.out)) : w.heap.size ≤ gb178)); have n3_ := Ae_q ((by rw [hg]; exact (bZ_q (bel HB.out)) : w.heap.size ≤ gb178)); clear HB; have HB := n0_; have BK178 := n1_; have GW178 := n2_; have GE178 := n3_; clear n0_ n1_ n2_ n3_; clear hb hbox hg))
 (try simp only [Act.put, sA_q, sZ_q, sS_q])
 go_cut [12] (fun v12 wc => ∃ (kq : Nat) (x12_1 : Bool), v12 = .bool x12_1 ∧ Aside0 (impl_eventValid.j0 kq x12_1 a0_0 a0_1 a0_2 a0_3 a0_4 a0_5 = some r) ∧ Aside0 (kq ≤ k) ∧ Aside0 (wc.heap[gb178]? = some (.cells #[.int .i64 a0_0, .int .i64 a0_1, .int .i64 a0_2, .int .i64 a0_3, .int .i64 a0_4, .int .i64 a0_5] 27 (0, 0))) ∧ Aside0 (Below w.heap.size w wc))
 case first =>
  have H := HC2.out
  clear HC2
  replace H := oB_q.mp H
  obtain ⟨t179, A40, H⟩ := H
  replace H : (if t179 = true then ((impl_isId.f a0_2).bind fun t180 => (impl_eventValid.j0 k (!t180) a0_0 a0_1 a0_2 a0_3 a0_4 a0_5)) else (impl_eventValid.j0 k true a0_0 a0_1 a0_2 a0_3 a0_4 a0_5)) = some r := H
  have A4 := Ae_q A40
  clear A40
  by_cases c5 : t179 = true
  rotate_left
  ·replace c5 := fM_q.mpr c5
   subst c5
   have H1 : (impl_eventValid.j0 k true a0_0 a0_1 a0_2 a0_3 a0_4 a0_5) = some r := by rw [if_neg (show ¬ (false = true) by decide)] at H; exact H
   clear H
   have H := H1
   clear H1
   have H' := Ae_q H
   clear H
   have hcz8_0 : cI w3 gb178 0 a0_0 := cZ BK178 0 rfl
   have hcz8_1 : cI w3 gb178 1 a0_1 := cZ BK178 1 rfl
   have hcz8_2 : cI w3 gb178 2 a0_2 := cZ BK178 2 rfl
   have hcz8_3 : cI w3 gb178 3 a0_3 := cZ BK178 3 rfl
   have hcz8_4 : cI w3 gb178 4 a0_4 := cZ BK178 4 rfl
   have hcz8_5 : cI w3 gb178 5 a0_5 := cZ BK178 5 rfl
   have hfz8_0 := bF_q BK178.out 0
   have hfz8_1 := bF_q BK178.out 1
   have hfz8_2 := bF_q BK178.out 2
   have hfz8_3 := bF_q BK178.out 3
   have hfz8_4 := bF_q BK178.out 4
   have hfz8_5 := bF_q BK178.out 5
   go_wp2_with (first | ((with_reducible refine gC_q (f := 50) rfl ?_); refine gL_q (some 5) rfl rfl Try.func50 (by kernel_rfl) rfl #[.int .i64 a0_1] rfl (by (try simp only [lM_q, lC_q, lN_q]); first | done | rfl | (simp only [lD_q, lT_q]; rfl)) ?_; (with_reducible refine (impl_isMinute.calls a0_1 false _ A4.out).mono ?_); rintro e w' ⟨rfl, ⟨nd, rfl⟩⟩; refine ⟨_, rfl, ?_⟩))
   go_meet
   case rel => exact ⟨_, (true), (by first | rfl | (simp; done) | (simp [*]; done)), H', ⟨by first | omega | exact nR_q _⟩, ⟨bup BK178.out⟩, ⟨by repeat (with_reducible first | exact HB.out | apply bA_q | apply pB_q | apply bD_q | refine bS_q ?_ GE178.out)⟩⟩
  subst c5
  have H1 : ((impl_isId.f a0_2).bind fun t180 => (impl_eventValid.j0 k (!t180) a0_0 a0_1 a0_2 a0_3 a0_4 a0_5)) = some r := by rw [if_pos rfl] at H; exact H
  clear H
  have H := H1
  clear H1
  replace H := oB_q.mp H
  obtain ⟨t180, A60, H⟩ := H
  replace H : (impl_eventValid.j0 k (!t180) a0_0 a0_1 a0_2 a0_3 a0_4 a0_5) = some r := H
  have A6 := Ae_q A60
  clear A60
  have H' := Ae_q H
  clear H
  have hcz7_0 : cI w3 gb178 0 a0_0 := cZ BK178 0 rfl
  have hcz7_1 : cI w3 gb178 1 a0_1 := cZ BK178 1 rfl
  have hcz7_2 : cI w3 gb178 2 a0_2 := cZ BK178 2 rfl
  have hcz7_3 : cI w3 gb178 3 a0_3 := cZ BK178 3 rfl
  have hcz7_4 : cI w3 gb178 4 a0_4 := cZ BK178 4 rfl
  have hcz7_5 : cI w3 gb178 5 a0_5 := cZ BK178 5 rfl
  have hfz7_0 := bF_q BK178.out 0
  have hfz7_1 := bF_q BK178.out 1
  have hfz7_2 := bF_q BK178.out 2
  have hfz7_3 := bF_q BK178.out 3
  have hfz7_4 := bF_q BK178.out 4
  have hfz7_5 := bF_q BK178.out 5
  go_wp2_with (first | ((with_reducible refine gC_q (f := 50) rfl ?_); refine gL_q (some 5) rfl rfl Try.func50 (by kernel_rfl) rfl #[.int .i64 a0_1] rfl (by (try simp only [lM_q, lC_q, lN_q]); first | done | rfl | (simp only [lD_q, lT_q]; rfl)) ?_; (with_reducible refine (impl_isMinute.calls a0_1 true _ A4.out).mono ?_); rintro e w' ⟨rfl, ⟨nd, rfl⟩⟩; refine ⟨_, rfl, ?_⟩) | (go_at_call 64; (with_reducible refine (impl_isId.calls a0_2 t180 _ A6.out).mono ?_); rintro e w' ⟨rfl, ⟨nd, rfl⟩⟩))
  go_meet
  case rel => exact ⟨_, (!t180), (by first | rfl | (simp; done) | (simp [*]; done)), H', ⟨by first | omega | exact nR_q _⟩, ⟨bup BK178.out⟩, ⟨by repeat (with_reducible first | exact HB.out | apply bA_q | apply pB_q | apply bD_q | refine bS_q ?_ GE178.out)⟩⟩
 case rest =>
  clear HC2
  try clear p2
  try clear c4
  try clear c5
  try clear hcz7_0
  try clear hcz7_1
  try clear hcz7_2
  try clear hcz7_3
  try clear hcz7_4
  try clear hcz7_5
  try clear hcz8_0
  try clear hcz8_1
  try clear hcz8_2
  try clear hcz8_3
  try clear hcz8_4
  try clear hcz8_5
  try clear hfz7_0
  try clear hfz7_1
  try clear hfz7_2
  try clear hfz7_3
  try clear hfz7_4
  try clear hfz7_5
  try clear hfz8_0
  try clear hfz8_1
  try clear hfz8_2
  try clear hfz8_3
  try clear hfz8_4
  try clear hfz8_5
  obtain ⟨kq, x12_1, rfl, HA, HJ1, BK178, HB⟩ := hcut
  cases kq with
  | zero => exact absurd HA.out (by simp [impl_eventValid.j0])
  | succ kj1 =>
   have H := HA.out
   clear HA
   simp only [impl_eventValid.j0] at H
   by_cases c9 : x12_1 = true
   ·subst c9
    have H1 : (some false) = some r := by rw [if_pos rfl] at H; exact H
    clear H
    have H := H1
    clear H1
    obtain rfl := oI_q H
    go_wp2
    go_ret
    exact ⟨by first | rfl | (simp [eN_q, eS_q] <;> rfl) | (simp [*, eN_q, eS_q] <;> rfl), by repeat (with_reducible first | exact HB.out | apply bA_q | apply pB_q | apply bD_q | refine bS_q ?_ GE178.out)⟩
   replace c9 := fM_q.mpr c9
   subst c9
   have H1 : (if a0_0 = 1 then (if a0_3 = 0 then ((impl_isSet.f a0_4).bind fun t181 => (if t181 = true then ((impl_isKind.f a0_5).bind fun t182 => (some t182)) else (some false))) else (some false)) else (if a0_0 = 2 then ((impl_within.f a0_3 1 99).bind fun t183 => (if t183 = true then (if a0_4 = 0 then (some (a0_5 == 0)) else (some false)) else (some false))) else (if a0_0 = 3 then (if a0_3 = 0 then (if a0_4 = 0 then (some (a0_5 == 0)) else (some false)) else (some false)) else (some false)))) = some r := by rw [if_neg (show ¬ (false = true) by decide)] at H; exact H
   clear H
   have H := H1
   clear H1
   by_cases c10 : a0_0 = 1
   ·rw [if_pos c10] at H
    have c10b0 : (a0_0 == 1) = true := beq_iff_eq.mpr c10
    have c10b1 : (a0_0 != 1) = false := nE_q.mpr c10
    clear c10
    by_cases c11 : a0_3 = 0
    rotate_left
    ·rw [if_neg c11] at H
     have c11b0 : (a0_3 == 0) = false := fN_q.mpr c11
     have c11b1 : (a0_3 != 0) = true := nI_q.mpr c11
     obtain rfl := oI_q H
     have hcz17_0 : cI wc gb178 0 a0_0 := cZ BK178 0 rfl
     have hcz17_1 : cI wc gb178 1 a0_1 := cZ BK178 1 rfl
     have hcz17_2 : cI wc gb178 2 a0_2 := cZ BK178 2 rfl
     have hcz17_3 : cI wc gb178 3 a0_3 := cZ BK178 3 rfl
     have hcz17_4 : cI wc gb178 4 a0_4 := cZ BK178 4 rfl
     have hcz17_5 : cI wc gb178 5 a0_5 := cZ BK178 5 rfl
     have hfz17_0 := bF_q BK178.out 0
     have hfz17_1 := bF_q BK178.out 1
     have hfz17_2 := bF_q BK178.out 2
     have hfz17_3 := bF_q BK178.out 3
     have hfz17_4 := bF_q BK178.out 4
     have hfz17_5 := bF_q BK178.out 5
     go_wp2
     go_ret
     exact ⟨by first | rfl | (simp [eN_q, eS_q] <;> rfl) | (simp [*, eN_q, eS_q] <;> rfl), by repeat (with_reducible first | exact HB.out | apply bA_q | apply pB_q | apply bD_q | refine bS_q ?_ GE178.out)⟩
    rw [if_pos c11] at H
    have c11b0 : (a0_3 == 0) = true := beq_iff_eq.mpr c11
    have c11b1 : (a0_3 != 0) = false := nE_q.mpr c11
    clear c11
    replace H := oB_q.mp H
    obtain ⟨t181, A120, H⟩ := H
    replace H : (if t181 = true then ((impl_isKind.f a0_5).bind fun t182 => (some t182)) else (some false)) = some r := H
    have A12 := Ae_q A120
    clear A120
    by_cases c13 : t181 = true
    rotate_left
    ·replace c13 := fM_q.mpr c13
     subst c13
     have H1 : (some false) = some r := by rw [if_neg (show ¬ (false = true) by decide)] at H; exact H
     clear H
     have H := H1
     clear H1
     obtain rfl := oI_q H
     have hcz16_0 : cI wc gb178 0 a0_0 := cZ BK178 0 rfl
     have hcz16_1 : cI wc gb178 1 a0_1 := cZ BK178 1 rfl
     have hcz16_2 : cI wc gb178 2 a0_2 := cZ BK178 2 rfl
     have hcz16_3 : cI wc gb178 3 a0_3 := cZ BK178 3 rfl
     have hcz16_4 : cI wc gb178 4 a0_4 := cZ BK178 4 rfl
     have hcz16_5 : cI wc gb178 5 a0_5 := cZ BK178 5 rfl
     have hfz16_0 := bF_q BK178.out 0
     have hfz16_1 := bF_q BK178.out 1
     have hfz16_2 := bF_q BK178.out 2
     have hfz16_3 := bF_q BK178.out 3
     have hfz16_4 := bF_q BK178.out 4
     have hfz16_5 := bF_q BK178.out 5
     go_wp2_with (first | (go_at_call 59; (with_reducible refine (impl_isSet.calls a0_4 false _ A12.out).mono ?_); rintro e w' ⟨rfl, ⟨nd, rfl⟩⟩))
     go_ret
     exact ⟨by first | rfl | (simp [eN_q, eS_q] <;> rfl) | (simp [*, eN_q, eS_q] <;> rfl), by repeat (with_reducible first | exact HB.out | apply bA_q | apply pB_q | apply bD_q | refine bS_q ?_ GE178.out)⟩
    subst c13
    have H1 : ((impl_isKind.f a0_5).bind fun t182 => (some t182)) = some r := by rw [if_pos rfl] at H; exact H
    clear H
    have H := H1
    clear H1
    replace H := oB_q.mp H
    obtain ⟨t182, A140, H⟩ := H
    replace H : (some t182) = some r := H
    have A14 := Ae_q A140
    clear A140
    obtain rfl := oI_q H
    have hcz15_0 : cI wc gb178 0 a0_0 := cZ BK178 0 rfl
    have hcz15_1 : cI wc gb178 1 a0_1 := cZ BK178 1 rfl
    have hcz15_2 : cI wc gb178 2 a0_2 := cZ BK178 2 rfl
    have hcz15_3 : cI wc gb178 3 a0_3 := cZ BK178 3 rfl
    have hcz15_4 : cI wc gb178 4 a0_4 := cZ BK178 4 rfl
    have hcz15_5 : cI wc gb178 5 a0_5 := cZ BK178 5 rfl
    have hfz15_0 := bF_q BK178.out 0
    have hfz15_1 := bF_q BK178.out 1
    have hfz15_2 := bF_q BK178.out 2
    have hfz15_3 := bF_q BK178.out 3
    have hfz15_4 := bF_q BK178.out 4
    have hfz15_5 := bF_q BK178.out 5
    go_wp2_with (first | (go_at_call 59; (with_reducible refine (impl_isSet.calls a0_4 true _ A12.out).mono ?_); rintro e w' ⟨rfl, ⟨nd, rfl⟩⟩) | (go_at_call 65; (with_reducible refine (impl_isKind.calls a0_5 t182 _ A14.out).mono ?_); rintro e w' ⟨rfl, ⟨nd, rfl⟩⟩))
    go_ret
    exact ⟨by first | rfl | (simp [eN_q, eS_q] <;> rfl) | (simp [*, eN_q, eS_q] <;> rfl), by repeat (with_reducible first | exact HB.out | apply bA_q | apply pB_q | apply bD_q | refine bS_q ?_ GE178.out)⟩
   rw [if_neg c10] at H
   have c10b0 : (a0_0 == 1) = false := fN_q.mpr c10
   have c10b1 : (a0_0 != 1) = true := nI_q.mpr c10
   by_cases c18 : a0_0 = 2
   rotate_left
   ·rw [if_neg c18] at H
    have c18b0 : (a0_0 == 2) = false := fN_q.mpr c18
    have c18b1 : (a0_0 != 2) = true := nI_q.mpr c18
    by_cases c25 : a0_0 = 3
    rotate_left
    ·rw [if_neg c25] at H
     have c25b0 : (a0_0 == 3) = false := fN_q.mpr c25
     have c25b1 : (a0_0 != 3) = true := nI_q.mpr c25
     obtain rfl := oI_q H
     have hcz31_0 : cI wc gb178 0 a0_0 := cZ BK178 0 rfl
     have hcz31_1 : cI wc gb178 1 a0_1 := cZ BK178 1 rfl
     have hcz31_2 : cI wc gb178 2 a0_2 := cZ BK178 2 rfl
     have hcz31_3 : cI wc gb178 3 a0_3 := cZ BK178 3 rfl
     have hcz31_4 : cI wc gb178 4 a0_4 := cZ BK178 4 rfl
     have hcz31_5 : cI wc gb178 5 a0_5 := cZ BK178 5 rfl
     have hfz31_0 := bF_q BK178.out 0
     have hfz31_1 := bF_q BK178.out 1
     have hfz31_2 := bF_q BK178.out 2
     have hfz31_3 := bF_q BK178.out 3
     have hfz31_4 := bF_q BK178.out 4
     have hfz31_5 := bF_q BK178.out 5
     go_wp2
     go_ret
     exact ⟨by first | rfl | (simp [eN_q, eS_q] <;> rfl) | (simp [*, eN_q, eS_q] <;> rfl), by repeat (with_reducible first | exact HB.out | apply bA_q | apply pB_q | apply bD_q | refine bS_q ?_ GE178.out)⟩
    rw [if_pos c25] at H
    have c25b0 : (a0_0 == 3) = true := beq_iff_eq.mpr c25
    have c25b1 : (a0_0 != 3) = false := nE_q.mpr c25
    clear c25
    by_cases c26 : a0_3 = 0
    rotate_left
    ·rw [if_neg c26] at H
     have c26b0 : (a0_3 == 0) = false := fN_q.mpr c26
     have c26b1 : (a0_3 != 0) = true := nI_q.mpr c26
     obtain rfl := oI_q H
     have hcz30_0 : cI wc gb178 0 a0_0 := cZ BK178 0 rfl
     have hcz30_1 : cI wc gb178 1 a0_1 := cZ BK178 1 rfl
     have hcz30_2 : cI wc gb178 2 a0_2 := cZ BK178 2 rfl
     have hcz30_3 : cI wc gb178 3 a0_3 := cZ BK178 3 rfl
     have hcz30_4 : cI wc gb178 4 a0_4 := cZ BK178 4 rfl
     have hcz30_5 : cI wc gb178 5 a0_5 := cZ BK178 5 rfl
     have hfz30_0 := bF_q BK178.out 0
     have hfz30_1 := bF_q BK178.out 1
     have hfz30_2 := bF_q BK178.out 2
     have hfz30_3 := bF_q BK178.out 3
     have hfz30_4 := bF_q BK178.out 4
     have hfz30_5 := bF_q BK178.out 5
     go_wp2
     go_ret
     exact ⟨by first | rfl | (simp [eN_q, eS_q] <;> rfl) | (simp [*, eN_q, eS_q] <;> rfl), by repeat (with_reducible first | exact HB.out | apply bA_q | apply pB_q | apply bD_q | refine bS_q ?_ GE178.out)⟩
    rw [if_pos c26] at H
    have c26b0 : (a0_3 == 0) = true := beq_iff_eq.mpr c26
    have c26b1 : (a0_3 != 0) = false := nE_q.mpr c26
    clear c26
    by_cases c27 : a0_4 = 0
    ·rw [if_pos c27] at H
     have c27b0 : (a0_4 == 0) = true := beq_iff_eq.mpr c27
     have c27b1 : (a0_4 != 0) = false := nE_q.mpr c27
     clear c27
     obtain rfl := oI_q H
     have hcz28_0 : cI wc gb178 0 a0_0 := cZ BK178 0 rfl
     have hcz28_1 : cI wc gb178 1 a0_1 := cZ BK178 1 rfl
     have hcz28_2 : cI wc gb178 2 a0_2 := cZ BK178 2 rfl
     have hcz28_3 : cI wc gb178 3 a0_3 := cZ BK178 3 rfl
     have hcz28_4 : cI wc gb178 4 a0_4 := cZ BK178 4 rfl
     have hcz28_5 : cI wc gb178 5 a0_5 := cZ BK178 5 rfl
     have hfz28_0 := bF_q BK178.out 0
     have hfz28_1 := bF_q BK178.out 1
     have hfz28_2 := bF_q BK178.out 2
     have hfz28_3 := bF_q BK178.out 3
     have hfz28_4 := bF_q BK178.out 4
     have hfz28_5 := bF_q BK178.out 5
     go_wp2
     go_ret
     exact ⟨by first | rfl | (simp [eN_q, eS_q] <;> rfl) | (simp [*, eN_q, eS_q] <;> rfl), by repeat (with_reducible first | exact HB.out | apply bA_q | apply pB_q | apply bD_q | refine bS_q ?_ GE178.out)⟩
    rw [if_neg c27] at H
    have c27b0 : (a0_4 == 0) = false := fN_q.mpr c27
    have c27b1 : (a0_4 != 0) = true := nI_q.mpr c27
    obtain rfl := oI_q H
    have hcz29_0 : cI wc gb178 0 a0_0 := cZ BK178 0 rfl
    have hcz29_1 : cI wc gb178 1 a0_1 := cZ BK178 1 rfl
    have hcz29_2 : cI wc gb178 2 a0_2 := cZ BK178 2 rfl
    have hcz29_3 : cI wc gb178 3 a0_3 := cZ BK178 3 rfl
    have hcz29_4 : cI wc gb178 4 a0_4 := cZ BK178 4 rfl
    have hcz29_5 : cI wc gb178 5 a0_5 := cZ BK178 5 rfl
    have hfz29_0 := bF_q BK178.out 0
    have hfz29_1 := bF_q BK178.out 1
    have hfz29_2 := bF_q BK178.out 2
    have hfz29_3 := bF_q BK178.out 3
    have hfz29_4 := bF_q BK178.out 4
    have hfz29_5 := bF_q BK178.out 5
    go_wp2
    go_ret
    exact ⟨by first | rfl | (simp [eN_q, eS_q] <;> rfl) | (simp [*, eN_q, eS_q] <;> rfl), by repeat (with_reducible first | exact HB.out | apply bA_q | apply pB_q | apply bD_q | refine bS_q ?_ GE178.out)⟩
   rw [if_pos c18] at H
   have c18b0 : (a0_0 == 2) = true := beq_iff_eq.mpr c18
   have c18b1 : (a0_0 != 2) = false := nE_q.mpr c18
   clear c18
   replace H := oB_q.mp H
   obtain ⟨t183, A190, H⟩ := H
   replace H : (if t183 = true then (if a0_4 = 0 then (some (a0_5 == 0)) else (some false)) else (some false)) = some r := H
   have A19 := Ae_q A190
   clear A190
   by_cases c20 : t183 = true
   rotate_left
   ·replace c20 := fM_q.mpr c20
    subst c20
    have H1 : (some false) = some r := by rw [if_neg (show ¬ (false = true) by decide)] at H; exact H
    clear H
    have H := H1
    clear H1
    obtain rfl := oI_q H
    have hcz24_0 : cI wc gb178 0 a0_0 := cZ BK178 0 rfl
    have hcz24_1 : cI wc gb178 1 a0_1 := cZ BK178 1 rfl
    have hcz24_2 : cI wc gb178 2 a0_2 := cZ BK178 2 rfl
    have hcz24_3 : cI wc gb178 3 a0_3 := cZ BK178 3 rfl
    have hcz24_4 : cI wc gb178 4 a0_4 := cZ BK178 4 rfl
    have hcz24_5 : cI wc gb178 5 a0_5 := cZ BK178 5 rfl
    have hfz24_0 := bF_q BK178.out 0
    have hfz24_1 := bF_q BK178.out 1
    have hfz24_2 := bF_q BK178.out 2
    have hfz24_3 := bF_q BK178.out 3
    have hfz24_4 := bF_q BK178.out 4
    have hfz24_5 := bF_q BK178.out 5
    go_wp2_with (first | ((with_reducible refine gC_q (f := 66) rfl ?_); refine gL_q (some 34) rfl rfl Try.func66 (by kernel_rfl) rfl #[.int .i64 a0_3, .int .i64 1, .int .i64 99] rfl (by (try simp only [lM_q, lC_q, lN_q]); first | done | rfl | (simp only [lD_q, lT_q]; rfl)) ?_; (with_reducible refine (impl_within.calls a0_3 1 99 false _ A19.out).mono ?_); rintro e w' ⟨rfl, ⟨nd, rfl⟩⟩; refine ⟨_, rfl, ?_⟩))
    go_ret
    exact ⟨by first | rfl | (simp [eN_q, eS_q] <;> rfl) | (simp [*, eN_q, eS_q] <;> rfl), by repeat (with_reducible first | exact HB.out | apply bA_q | apply pB_q | apply bD_q | refine bS_q ?_ GE178.out)⟩
   subst c20
   have H1 : (if a0_4 = 0 then (some (a0_5 == 0)) else (some false)) = some r := by rw [if_pos rfl] at H; exact H
   clear H
   have H := H1
   clear H1
   by_cases c21 : a0_4 = 0
   ·rw [if_pos c21] at H
    have c21b0 : (a0_4 == 0) = true := beq_iff_eq.mpr c21
    have c21b1 : (a0_4 != 0) = false := nE_q.mpr c21
    clear c21
    obtain rfl := oI_q H
    have hcz22_0 : cI wc gb178 0 a0_0 := cZ BK178 0 rfl
    have hcz22_1 : cI wc gb178 1 a0_1 := cZ BK178 1 rfl
    have hcz22_2 : cI wc gb178 2 a0_2 := cZ BK178 2 rfl
    have hcz22_3 : cI wc gb178 3 a0_3 := cZ BK178 3 rfl
    have hcz22_4 : cI wc gb178 4 a0_4 := cZ BK178 4 rfl
    have hcz22_5 : cI wc gb178 5 a0_5 := cZ BK178 5 rfl
    have hfz22_0 := bF_q BK178.out 0
    have hfz22_1 := bF_q BK178.out 1
    have hfz22_2 := bF_q BK178.out 2
    have hfz22_3 := bF_q BK178.out 3
    have hfz22_4 := bF_q BK178.out 4
    have hfz22_5 := bF_q BK178.out 5
    go_wp2_with (first | ((with_reducible refine gC_q (f := 66) rfl ?_); refine gL_q (some 34) rfl rfl Try.func66 (by kernel_rfl) rfl #[.int .i64 a0_3, .int .i64 1, .int .i64 99] rfl (by (try simp only [lM_q, lC_q, lN_q]); first | done | rfl | (simp only [lD_q, lT_q]; rfl)) ?_; (with_reducible refine (impl_within.calls a0_3 1 99 true _ A19.out).mono ?_); rintro e w' ⟨rfl, ⟨nd, rfl⟩⟩; refine ⟨_, rfl, ?_⟩))
    go_ret
    exact ⟨by first | rfl | (simp [eN_q, eS_q] <;> rfl) | (simp [*, eN_q, eS_q] <;> rfl), by repeat (with_reducible first | exact HB.out | apply bA_q | apply pB_q | apply bD_q | refine bS_q ?_ GE178.out)⟩
   rw [if_neg c21] at H
   have c21b0 : (a0_4 == 0) = false := fN_q.mpr c21
   have c21b1 : (a0_4 != 0) = true := nI_q.mpr c21
   obtain rfl := oI_q H
   have hcz23_0 : cI wc gb178 0 a0_0 := cZ BK178 0 rfl
   have hcz23_1 : cI wc gb178 1 a0_1 := cZ BK178 1 rfl
   have hcz23_2 : cI wc gb178 2 a0_2 := cZ BK178 2 rfl
   have hcz23_3 : cI wc gb178 3 a0_3 := cZ BK178 3 rfl
   have hcz23_4 : cI wc gb178 4 a0_4 := cZ BK178 4 rfl
   have hcz23_5 : cI wc gb178 5 a0_5 := cZ BK178 5 rfl
   have hfz23_0 := bF_q BK178.out 0
   have hfz23_1 := bF_q BK178.out 1
   have hfz23_2 := bF_q BK178.out 2
   have hfz23_3 := bF_q BK178.out 3
   have hfz23_4 := bF_q BK178.out 4
   have hfz23_5 := bF_q BK178.out 5
   go_wp2_with (first | ((with_reducible refine gC_q (f := 66) rfl ?_); refine gL_q (some 34) rfl rfl Try.func66 (by kernel_rfl) rfl #[.int .i64 a0_3, .int .i64 1, .int .i64 99] rfl (by (try simp only [lM_q, lC_q, lN_q]); first | done | rfl | (simp only [lD_q, lT_q]; rfl)) ?_; (with_reducible refine (impl_within.calls a0_3 1 99 true _ A19.out).mono ?_); rintro e w' ⟨rfl, ⟨nd, rfl⟩⟩; refine ⟨_, rfl, ?_⟩))
   go_ret
   exact ⟨by first | rfl | (simp [eN_q, eS_q] <;> rfl) | (simp [*, eN_q, eS_q] <;> rfl), by repeat (with_reducible first | exact HB.out | apply bA_q | apply pB_q | apply bD_q | refine bS_q ?_ GE178.out)⟩

end Go.Proofs.Ytnhenfmegpjigaa.PEv
