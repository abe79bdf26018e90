import Derived.Test.YtnhenfmegpjigaaVKPEvx0
import Derived.Test.YtnhenfmegpjigaaVKPEvx3
import Derived.Test.YtnhenfmegpjigaaVKPEvx5
import Derived.Test.YtnhenfmegpjigaaVKPEvx15
namespace Go.Proofs.Ytnhenfmegpjigaa.PEv
open Go.RowKit Go.Proofs.YtnhenfmegpjigaaW.PrintWords Go.Proofs.YtnhenfmegpjigaaW.PrintLast Go.Proofs.YtnhenfmegpjigaaW.PrintMore
attribute [local go_sem] max2_int min2_int max_two min_two max_three min_three max_four min_four
set_option linter.unusedVariables false
set_option linter.unusedSimpArgs false

mutual
def impl_WatchOpen.j0 : Nat → List (S27) → Int → List Int → Bool → Option (List Int)
 | 0, _, _, _, _ => none
 | k + 1, x0, x1, x5, x18 => if x18 = true then (some x5) else (impl_WatchOpen.l0 k x0 x1 x5 0)
def impl_WatchOpen.j2 : Nat → List (S27) → Int → List Int → Int → Option (List Int)
 | 0, _, _, _, _ => none
 | k + 1, x0, x1, x5, x6 => impl_WatchOpen.l1 k x0 x1 x5 x6 1
def impl_WatchOpen.l1 : Nat → List (S27) → Int → List Int → Int → Int → Option (List Int)
 | 0, _, _, _, _, _ => none
 | k + 1, x0, x1, x5, x6, x7 => if x7 ≤ 20 then (if 0 ≤ x6 then (if x6 ≤ (x0.length : Int) then ((impl_made.f (x0.take (x6 : Int).toNat) x7).bind fun bt376 => (if bt376.2.2.2.2.2.2 = true then (if (wrap64 (x1 - bt376.2.1)) ≤ 120 then (if x5.length < 17592186044416 then (impl_WatchOpen.l1 k x0 x1 (x5 ++ [x7]) x6 (wrap64 (x7 + 1))) else (none)) else (impl_WatchOpen.l1 k x0 x1 x5 x6 (wrap64 (x7 + 1)))) else (impl_WatchOpen.l1 k x0 x1 x5 x6 (wrap64 (x7 + 1))))) else (none)) else (none)) else (some x5)
def impl_WatchOpen.l0 : Nat → List (S27) → Int → List Int → Int → Option (List Int)
 | 0, _, _, _, _ => none
 | k + 1, x0, x1, x5, x6 => if x6 < (x0.length : Int) then (if 0 ≤ x6 then (if ((rd_T27 x0 x6).f1) ≤ x1 then (impl_WatchOpen.l0 k x0 x1 x5 (wrap64 (x6 + 1))) else (impl_WatchOpen.j2 k x0 x1 x5 x6)) else (none)) else (impl_WatchOpen.j2 k x0 x1 x5 x6)
end
def impl_WatchOpen.f (k : Nat) (l0 : List (S27)) (a1 : Int) : Option (List Int) := (some (([] : List Int) : List Int)).bind fun y366 => ((impl_EventsValid.f k l0).bind fun t369 => (if t369 = true then ((impl_isMinute.f a1).bind fun t370 => (impl_WatchOpen.j0 k l0 a1 y366 (!t370))) else (impl_WatchOpen.j0 k l0 a1 y366 true)))
set_option maxHeartbeats 8000000 in
set_option maxRecDepth 100000 in
theorem impl_WatchOpen.calls (k : Nat) (A0 : Option Addr) (c0 : Nat) (l0 : List (S27)) (a1 : Int) (r : List Int) (w : World) (hr0 : Kd.C k27 w A0 l0.length l0) (hc0 : l0.length ≤ c0) (h : impl_WatchOpen.f k l0 a1 = some r) :
    Calls Try.prog 30 #[.slice A0 l0.length c0, .int .i64 a1] w fun e w' => ∃ v0_ : Value, e = .returned (v0_) ∧ Kd.R kI_q 3 w' w.heap.size (fun _ => True) v0_ r ∧ Below w.heap.size w w' := by
 have hu27 := Try.underlying27
 have HR0 := Ae_q hr0
 have HC0 := Ae_q hc0
 clear hr0 hc0
 have HB := Ae_q (bR_q w.heap.size w)
 have H : ((some (([] : List Int) : List Int)).bind fun y366 => ((impl_EventsValid.f k l0).bind fun t369 => (if t369 = true then ((impl_isMinute.f a1).bind fun t370 => (impl_WatchOpen.j0 k l0 a1 y366 (!t370))) else (impl_WatchOpen.j0 k l0 a1 y366 true)))) = some r := h
 clear h
 obtain ⟨y366, hy366⟩ : ∃ y_ : List Int, y_ = (([] : List Int)) := ⟨_, rfl⟩
 replace H : ((impl_EventsValid.f k l0).bind fun t369 => (if t369 = true then ((impl_isMinute.f a1).bind fun t370 => (impl_WatchOpen.j0 k l0 a1 y366 (!t370))) else (impl_WatchOpen.j0 k l0 a1 y366 true))) = some r := by first | (rw [hy366]; with_reducible exact H) | (have H2_ := (oS_q _ _).symm.trans H; rw [hy366]; with_reducible exact H2_) | (have H2_ := (oS_q _ _).symm.trans H; with_reducible exact H2_) | with_reducible exact H | (rw [hy366]; exact H) | exact H
 have Ny366 := Ae_q hy366
 clear hy366
 have HC3 := Ae_q H
 clear H
 go_enter Try.func30, Try.ntmps30
 go_upto_region 2 with (first | ((with_reducible refine gD_q (N := 10) rfl ?_); refine Kd.R_lit kI_q _ 3 ?hg (N := 10) ?hd (xs := ([] : List Int)) (inner := []) (ok := fun _ => True) (okp := fun _ => True) ?hr ?hp (fun _ hk => hk) trivial (bR_q _ _) (nR_q _) (by simp) ?_; (case hd => rfl); (case hg => rfl); (case hr => first | (go_simp; done) | (go_simp; rfl)); (case hp => exact (Reps.none _ _)); intro v367 w4 ho5 hb hg_ hnew_; clear hg_ hnew_; (first | rw [← Ny366.out] at ho5 | (simp only [Int.reduceToNat] at ho5; rw [← Ny366.out] at ho5)); have n0_ := Ae_q (rL_q ho5 (bZ_q (bel HB.out))); have n1_ := Ae_q (bT_q (bel HB.out) hb); clear HB; have HO368 := n0_; have HB := n1_; clear n0_ n1_; clear hb ho5))
 (try simp only [Act.put, sA_q, sZ_q, sS_q])
 go_cut [18] (fun v18 wc => ∃ (kq : Nat) (x18_2 : Bool), v18 = .bool x18_2 ∧ Aside0 (impl_WatchOpen.j0 kq l0 a1 y366 x18_2 = some r) ∧ Aside0 (kq ≤ k) ∧ Aside0 (Kd.R kI_q 3 wc w.heap.size (fun _ => True) v367 y366) ∧ Aside0 (Below w.heap.size w wc))
 case first =>
  have H := HC3.out
  clear HC3
  replace H := oB_q.mp H
  obtain ⟨t369, A60, H⟩ := H
  replace H : (if t369 = true then ((impl_isMinute.f a1).bind fun t370 => (impl_WatchOpen.j0 k l0 a1 y366 (!t370))) else (impl_WatchOpen.j0 k l0 a1 y366 true)) = some r := H
  have A6 := Ae_q A60
  clear A60
  by_cases c7 : t369 = true
  rotate_left
  ·replace c7 := fM_q.mpr c7
   subst c7
   have H1 : (impl_WatchOpen.j0 k l0 a1 y366 true) = some r := by rw [if_neg (show ¬ (false = true) by decide)] at H; exact H
   clear H
   have H := H1
   clear H1
   have H' := Ae_q H
   clear H
   go_wp2_with (first | ((with_reducible refine gC_q (f := 16) rfl ?_); refine gL_q (some 12) rfl rfl Try.func16 (by kernel_rfl) rfl #[.slice A0 l0.length c0] rfl (by (try simp only [lM_q, lC_q, lN_q]); first | done | rfl | (simp only [lD_q, lT_q]; rfl)) ?_; (with_reducible refine (impl_EventsValid.calls k _ _ l0 false _ ?side1 ?side2 A6.out).mono ?_); (case side1 => exact cup (cB_q HR0.out HB.out)); (case side2 => exact HC0.out); rintro e w10 ⟨rfl, hb⟩; refine ⟨_, rfl, ?_⟩; have n0_ := Ae_q (rO_q (rup HO368.out) hb); have n1_ := Ae_q (bT_q (bel HB.out) hb); clear HO368; clear HB; have HO368 := n0_; have HB := n1_; clear n0_ n1_; (try clear hb); (try clear hb2); (try clear hk); (try clear hi)))
   go_meet
   case rel => exact ⟨_, (true), (by first | rfl | (simp; done) | (simp [*]; done)), H', ⟨by first | omega | exact nR_q _⟩, ⟨rup HO368.out⟩, ⟨bel HB.out⟩⟩
  subst c7
  have H1 : ((impl_isMinute.f a1).bind fun t370 => (impl_WatchOpen.j0 k l0 a1 y366 (!t370))) = some r := by rw [if_pos rfl] at H; exact H
  clear H
  have H := H1
  clear H1
  replace H := oB_q.mp H
  obtain ⟨t370, A80, H⟩ := H
  replace H : (impl_WatchOpen.j0 k l0 a1 y366 (!t370)) = some r := H
  have A8 := Ae_q A80
  clear A80
  have H' := Ae_q H
  clear H
  go_wp2_with (first | ((with_reducible refine gC_q (f := 16) rfl ?_); refine gL_q (some 12) rfl rfl Try.func16 (by kernel_rfl) rfl #[.slice A0 l0.length c0] rfl (by (try simp only [lM_q, lC_q, lN_q]); first | done | rfl | (simp only [lD_q, lT_q]; rfl)) ?_; (with_reducible refine (impl_EventsValid.calls k _ _ l0 true _ ?side1 ?side2 A6.out).mono ?_); (case side1 => exact cup (cB_q HR0.out HB.out)); (case side2 => exact HC0.out); rintro e w9 ⟨rfl, hb⟩; refine ⟨_, rfl, ?_⟩; have n0_ := Ae_q (rO_q (rup HO368.out) hb); have n1_ := Ae_q (bT_q (bel HB.out) hb); clear HO368; clear HB; have HO368 := n0_; have HB := n1_; clear n0_ n1_; (try clear hb); (try clear hb2); (try clear hk); (try clear hi)) | (go_at_call 50; (with_reducible refine (impl_isMinute.calls a1 t370 _ A8.out).mono ?_); rintro e w' ⟨rfl, ⟨nd, rfl⟩⟩))
  go_meet
  case rel => exact ⟨_, (!t370), (by first | rfl | (simp; done) | (simp [*]; done)), H', ⟨by first | omega | exact nR_q _⟩, ⟨rup HO368.out⟩, ⟨bel HB.out⟩⟩
 case rest =>
  clear HC3
  try clear c1
  try clear p2
  try clear c3
  try clear c7
  obtain ⟨kq, x18_2, rfl, HA, HJ2, HO_5, HB⟩ := hcut
  cases kq with
  | zero => exact absurd HA.out (by simp [impl_WatchOpen.j0])
  | succ kj2 =>
   have H := HA.out
   clear HA
   simp only [impl_WatchOpen.j0] at H
   by_cases c11 : x18_2 = true
   ·subst c11
    have H1 : (some y366) = some r := by rw [if_pos rfl] at H; exact H
    clear H
    have H := H1
    clear H1
    obtain rfl := oI_q H
    go_wp2
    go_ret
    exact ⟨_, by first | rfl | (simp [eN_q, eS_q] <;> rfl) | (simp [*, eN_q, eS_q] <;> rfl), rup HO_5.out, bel HB.out⟩
   replace c11 := fM_q.mpr c11
   subst c11
   have H1 : (impl_WatchOpen.l0 kj2 l0 a1 y366 0) = some r := by rw [if_neg (show ¬ (false = true) by decide)] at H; exact H
   clear H
   have H := H1
   clear H1
   have HC12 := Ae_q H
   clear H
   go_upto_block 0 with (fail)
   go_cut [6] (fun v6 wc => ∃ (kq : Nat) (x6_11 : Int), v6 = .int .i64 x6_11 ∧ Aside0 (impl_WatchOpen.j2 kq l0 a1 y366 x6_11 = some r) ∧ Aside0 (kq ≤ kj2) ∧ Aside0 (Kd.R kI_q 3 wc w.heap.size (fun _ => True) v367 y366) ∧ Aside0 (Below w.heap.size w wc))
   case first =>
    have H := HC12.out
    clear HC12
    have H' := Ae_q H
    clear H
    go_wp2
    go_loopg [6] kj2 (fun kq v6 w' => ∃ (x6_2 : Int), v6 = .int .i64 x6_2 ∧ Aside0 (impl_WatchOpen.l0 kq l0 a1 y366 x6_2 = some r) ∧ Aside0 (kq ≤ kj2) ∧ Aside0 (Kd.R kI_q 3 w' w.heap.size (fun _ => True) v367 y366) ∧ Aside0 (Below w.heap.size w w'))
    case atStart => exact ⟨(0), (by first | rfl | (simp; done) | (simp [*]; done)), H', ⟨nR_q _⟩, ⟨rup HO_5.out⟩, ⟨bel HB.out⟩⟩
    case round =>
     clear H'
     try clear c1
     try clear p2
     try clear c3
     try clear c7
     try clear c11
     try clear p2
     obtain ⟨x6_2, rfl, HA, HK2, HO_5, HB⟩ := hrel
     cases gk with
     | zero => exact absurd HA.out (by simp [impl_WatchOpen.l0])
     | succ k2 =>
      have H := HA.out
      clear HA
      simp only [impl_WatchOpen.l0] at H
      by_cases c13 : x6_2 < (l0.length : Int)
      rotate_left
      ·rw [if_neg c13] at H
       have c13b0 : decide (x6_2 < (l0.length : Int)) = false := dF_q c13
       clear c13
       (first | rw [c13b0] | (simp only [i64_w, i32_w]; rw [c13b0]) | skip)
       have H' := Ae_q H
       clear H
       go_wp2
       go_meet
       case rel => exact ⟨_, (x6_2), (by first | rfl | (simp; done) | (simp [*]; done)), H', ⟨by have := HJ2.out; have := HK2.out; first | omega | exact nR_q _⟩, ⟨rup HO_5.out⟩, ⟨bel HB.out⟩⟩
      rw [if_pos c13] at H
      have c13b0 : decide (x6_2 < (l0.length : Int)) = true := dT_q c13
      clear c13
      (first | rw [c13b0] | (simp only [i64_w, i32_w]; rw [c13b0]) | skip)
      by_cases c14 : 0 ≤ x6_2
      rotate_left
      ·rw [if_neg c14] at H
       exact absurd H (by simp)
      rw [if_pos c14] at H
      have c14b0 : decide (0 ≤ x6_2) = true := dT_q c14
      clear c14
      by_cases c15 : ((rd_T27 l0 x6_2).f1) ≤ a1
      ·rw [if_pos c15] at H
       have c15b0 : decide (((rd_T27 l0 x6_2).f1) ≤ a1) = true := dT_q c15
       clear c15
       have H' := Ae_q H
       clear H
       have p371 : 0 ≤ (x6_2 : Int) := oD_q (by assumption)
       have q371 : x6_2 < (l0.length : Int) := oD_q (by assumption)
       obtain ⟨ad371, e371, hx371_0, hx371_1, hx371_2, hx371_3, hx371_4, hx371_5⟩ := at_T27 HR0.out x6_2 p371 q371
       cases e371
       replace hx371_0 := cel HB.out hx371_0
       replace hx371_1 := cel HB.out hx371_1
       replace hx371_2 := cel HB.out hx371_2
       replace hx371_3 := cel HB.out hx371_3
       replace hx371_4 := cel HB.out hx371_4
       replace hx371_5 := cel HB.out hx371_5
       replace p371 := eq_true p371
       replace q371 := eq_true q371
       go_wp2
       go_roundg k2
       case measure => have := HJ2.out; have := HK2.out; omega
       case rel => exact ⟨(wrap64 (x6_2 + 1)), (by first | rfl | (simp; done) | (simp [*]; done)), H', ⟨by have := HJ2.out; have := HK2.out; omega⟩, ⟨rup HO_5.out⟩, ⟨bel HB.out⟩⟩
      rw [if_neg c15] at H
      have c15b0 : decide (((rd_T27 l0 x6_2).f1) ≤ a1) = false := dF_q c15
      clear c15
      have H' := Ae_q H
      clear H
      have p371 : 0 ≤ (x6_2 : Int) := oD_q (by assumption)
      have q371 : x6_2 < (l0.length : Int) := oD_q (by assumption)
      obtain ⟨ad371, e371, hx371_0, hx371_1, hx371_2, hx371_3, hx371_4, hx371_5⟩ := at_T27 HR0.out x6_2 p371 q371
      cases e371
      replace hx371_0 := cel HB.out hx371_0
      replace hx371_1 := cel HB.out hx371_1
      replace hx371_2 := cel HB.out hx371_2
      replace hx371_3 := cel HB.out hx371_3
      replace hx371_4 := cel HB.out hx371_4
      replace hx371_5 := cel HB.out hx371_5
      replace p371 := eq_true p371
      replace q371 := eq_true q371
      go_wp2
      go_meet
      case rel => exact ⟨_, (x6_2), (by first | rfl | (simp; done) | (simp [*]; done)), H', ⟨by have := HJ2.out; have := HK2.out; first | omega | exact nR_q _⟩, ⟨rup HO_5.out⟩, ⟨bel HB.out⟩⟩
   case rest =>
    clear HC12
    try clear c1
    try clear p2
    try clear c3
    try clear p3
    try clear q3
    try clear hx3
    try clear p6
    try clear c7
    try clear c11
    try clear c13
    try clear c13b0
    try clear c14
    try clear c14b0
    try clear c15
    try clear c15b0
    try clear hx371_0
    try clear hx371_1
    try clear hx371_2
    try clear hx371_3
    try clear hx371_4
    try clear hx371_5
    try clear p2
    try clear p371
    try clear q371
    obtain ⟨kq, x6_11, rfl, HA, HJ11, HO_5, HB⟩ := hcut
    cases kq with
    | zero => exact absurd HA.out (by simp [impl_WatchOpen.j2])
    | succ kj11 =>
     have H := HA.out
     clear HA
     simp only [impl_WatchOpen.j2] at H
     have H' := Ae_q H
     clear H
     go_wp2
     go_loopg [5, 7] kj11 (fun kq v5 v7 w' => ∃ (x5_3 : List Int) (x7_3 : Int), v7 = .int .i64 x7_3 ∧ Aside0 (impl_WatchOpen.l1 kq l0 a1 x5_3 x6_11 x7_3 = some r) ∧ Aside0 (kq ≤ kj11) ∧ Aside0 (Kd.R kI_q 3 w' w.heap.size (fun _ => True) v5 x5_3) ∧ Aside0 (Below w.heap.size w w'))
     case atStart => exact ⟨(y366), (1), (by first | rfl | (simp; done) | (simp [*]; done)), H', ⟨nR_q _⟩, ⟨rup HO_5.out⟩, ⟨bel HB.out⟩⟩
     case round =>
      clear H'
      try clear c1
      try clear p2
      try clear c3
      try clear p3
      try clear q3
      try clear hx3
      try clear p6
      try clear c7
      try clear c11
      try clear c13
      try clear c13b0
      try clear c14
      try clear c14b0
      try clear c15
      try clear c15b0
      try clear hx371_0
      try clear hx371_1
      try clear hx371_2
      try clear hx371_3
      try clear hx371_4
      try clear hx371_5
      try clear p2
      try clear p3
      try clear p371
      try clear p6
      try clear q3
      try clear q371
      obtain ⟨x5_3, x7_3, rfl, HA, HK3, HO_5, HB⟩ := hrel
      cases gk with
      | zero => exact absurd HA.out (by simp [impl_WatchOpen.l1])
      | succ k3 =>
       have H := HA.out
       clear HA
       simp only [impl_WatchOpen.l1] at H
       by_cases c16 : x7_3 ≤ 20
       rotate_left
       ·rw [if_neg c16] at H
        have c16b0 : decide (x7_3 ≤ 20) = false := dF_q c16
        clear c16
        obtain rfl := oI_q H
        go_wp2
        go_ret
        exact ⟨_, by first | rfl | (simp [eN_q, eS_q] <;> rfl) | (simp [*, eN_q, eS_q] <;> rfl), rup HO_5.out, bel HB.out⟩
       rw [if_pos c16] at H
       have c16b0 : decide (x7_3 ≤ 20) = true := dT_q c16
       clear c16
       by_cases c17 : 0 ≤ x6_11
       rotate_left
       ·rw [if_neg c17] at H
        exact absurd H (by simp)
       rw [if_pos c17] at H
       have c17b0 := eq_true c17
       have c17b1 : decide (0 ≤ x6_11) = true := dT_q c17
       clear c17
       by_cases c18 : x6_11 ≤ (l0.length : Int)
       rotate_left
       ·rw [if_neg c18] at H
        exact absurd H (by simp)
       rw [if_pos c18] at H
       have c18b0 := eq_true c18
       have c18b1 : decide (x6_11 ≤ (l0.length : Int)) = true := dT_q c18
       clear c18
       obtain ⟨y372, hy372⟩ : ∃ y_ : List (S27), y_ = (l0.take (x6_11 : Int).toNat) := ⟨_, rfl⟩
       replace H : ((impl_made.f y372 x7_3).bind fun bt376 => (if bt376.2.2.2.2.2.2 = true then (if (wrap64 (a1 - bt376.2.1)) ≤ 120 then (if x5_3.length < 17592186044416 then (impl_WatchOpen.l1 k3 l0 a1 (x5_3 ++ [x7_3]) x6_11 (wrap64 (x7_3 + 1))) else (none)) else (impl_WatchOpen.l1 k3 l0 a1 x5_3 x6_11 (wrap64 (x7_3 + 1)))) else (impl_WatchOpen.l1 k3 l0 a1 x5_3 x6_11 (wrap64 (x7_3 + 1))))) = some r := by first | (rw [hy372]; with_reducible exact H) | (have H2_ := (oS_q _ _).symm.trans H; rw [hy372]; with_reducible exact H2_) | (have H2_ := (oS_q _ _).symm.trans H; with_reducible exact H2_) | with_reducible exact H | (rw [hy372]; exact H) | exact H
       have Ny372 := Ae_q hy372
       clear hy372
       replace H := oB_q.mp H
       obtain ⟨⟨t376, t377, t378, t379, t380, t381, t382⟩, A190, H⟩ := H
       replace H : (if t382 = true then (if (wrap64 (a1 - t377)) ≤ 120 then (if x5_3.length < 17592186044416 then (impl_WatchOpen.l1 k3 l0 a1 (x5_3 ++ [x7_3]) x6_11 (wrap64 (x7_3 + 1))) else (none)) else (impl_WatchOpen.l1 k3 l0 a1 x5_3 x6_11 (wrap64 (x7_3 + 1)))) else (impl_WatchOpen.l1 k3 l0 a1 x5_3 x6_11 (wrap64 (x7_3 + 1)))) = some r := H
       have A19 := Ae_q A190
       clear A190
       by_cases c20 : t382 = true
       rotate_left
       ·replace c20 := fM_q.mpr c20
        subst c20
        have H1 : (impl_WatchOpen.l1 k3 l0 a1 x5_3 x6_11 (wrap64 (x7_3 + 1))) = some r := by rw [if_neg (show ¬ (false = true) by decide)] at H; exact H
        clear H
        have H := H1
        clear H1
        have H' := Ae_q H
        clear H
        have q32 : (x6_11 : Int) ≤ ((l0.length : Int) : Int) := oD_q (by assumption)
        obtain ⟨i032, hi032, _, hsz32, _⟩ := info_parts info27
        have hroom32 : l0.length ≤ c0 := HC0.out
        have hC32 : Kd.C k27 _ A0 l0.length l0 := HR0.out
        have hcut32 := cut_to (P := Try.prog) 23 27 .i64 Try.underlying23 hi032 A0 l0.length c0 x6_11 (oD_q (by assumption)) q32 hroom32
        have hr32 := Kd.C_take (m := (x6_11 : Int).toNat) hC32 (by omega)
        have hy32 : y372.length = (x6_11 : Int).toNat := (by rw [Ny372.out, lT_q]; omega)
        rw [← Ny372.out] at hr32
        rw [← hy32] at hcut32
        have HR375 := Ae_q hr32
        have HC375 := Ae_q (show y372.length ≤ c0 from by omega)
        clear hr32 hC32 hroom32 hi032 hsz32
        have KY32 := Ae_q hy32
        clear hy32
        replace q32 := eq_true q32
        go_wp2_with (first | ((with_reducible refine gC_q (f := 51) rfl ?_); refine gL_q (some 44) rfl rfl Try.func51 (by kernel_rfl) rfl #[.slice A0 y372.length c0, .int .i64 x7_3] rfl (by (try simp only [lM_q, lC_q, lN_q]); first | done | rfl | (simp only [lD_q, lT_q]; rfl)) ?_; (with_reducible refine (impl_made.calls _ _ y372 x7_3 t376 t377 t378 t379 t380 t381 false _ ?side1 ?side2 A19.out).mono ?_); (case side1 => exact cup (cB_q HR375.out HB.out)); (case side2 => exact HC375.out); rintro e w33 ⟨rfl, hb⟩; refine ⟨_, rfl, ?_⟩; have n0_ := Ae_q (rO_q (rup HO_5.out) hb); have n1_ := Ae_q (bT_q (bel HB.out) hb); clear HO_5; clear HB; have HO_5 := n0_; have HB := n1_; clear n0_ n1_; (try clear hb); (try clear hb2); (try clear hk); (try clear hi)) | ((with_reducible refine gD_q (N := 8) rfl ?_); refine bE_q ?hg (N := 8) ?hd (cs := #[.int .i64 0, .int .i64 0, .int .i64 0, .int .i64 0, .int .i64 0, .int .i64 0]) (t := 27) ?hr ?_; (case hd => rfl); (case hg => rfl); (case hr => first | (go_simp; done) | (go_simp; rfl)); intro gb383 hg w34 hbox hb; have n0_ := Ae_q (rO_q (rup HO_5.out) hb); have n1_ := Ae_q (bT_q (bel HB.out) hb); have n2_ := Ae_q (hbox); have n3_ := Ae_q ((by rw [hg]; exact (bZ_q (bel HB.out)) : w.heap.size ≤ gb383)); have n4_ := Ae_q ((by rw [hg]; exact (bZ_q (bel HB.out)) : w.heap.size ≤ gb383)); clear HO_5; clear HB; have HO_5 := n0_; have HB := n1_; have BK383 := n2_; have GW383 := n3_; have GE383 := n4_; clear n0_ n1_ n2_ n3_ n4_; clear hb hbox hg; have hcz35_0 : cI w34 gb383 0 0 := cZ BK383 0 rfl; have hcz35_1 : cI w34 gb383 1 0 := cZ BK383 1 rfl; have hcz35_2 : cI w34 gb383 2 0 := cZ BK383 2 rfl; have hcz35_3 : cI w34 gb383 3 0 := cZ BK383 3 rfl; have hcz35_4 : cI w34 gb383 4 0 := cZ BK383 4 rfl; have hcz35_5 : cI w34 gb383 5 0 := cZ BK383 5 rfl; have hfz35_0 := bF_q BK383.out 0; have hfz35_1 := bF_q BK383.out 1; have hfz35_2 := bF_q BK383.out 2; have hfz35_3 := bF_q BK383.out 3; have hfz35_4 := bF_q BK383.out 4; have hfz35_5 := bF_q BK383.out 5))
        go_roundg k3
        case measure => have := HJ2.out; have := HJ11.out; have := HK3.out; omega
        case rel => exact ⟨(x5_3), (wrap64 (x7_3 + 1)), (by first | rfl | (simp; done) | (simp [*]; done)), H', ⟨by have := HJ2.out; have := HJ11.out; have := HK3.out; omega⟩, ⟨by (with_reducible repeat (first | apply rA_q | apply rN_q | apply rD_q)); exact rM_q (Kd.R_far (p := ⟨gb383, 5, none⟩) (Kd.R_far (p := ⟨gb383, 4, none⟩) (Kd.R_far (p := ⟨gb383, 3, none⟩) (Kd.R_far (p := ⟨gb383, 2, none⟩) (Kd.R_far (p := ⟨gb383, 1, none⟩) (Kd.R_far (p := ⟨gb383, 0, none⟩) (Kd.R_types HO_5.out BK383.out (by decide)) (fun _ hk => hk.2) (.int .i64 t376)) (fun _ hk => hk.2) (.int .i64 t377)) (fun _ hk => hk.2) (.int .i64 t378)) (fun _ hk => hk.2) (.int .i64 t379)) (fun _ hk => hk.2) (.int .i64 t380)) (fun _ hk => hk.2) (.int .i64 t381)) (fun _ hk => trivial)⟩, ⟨by repeat (with_reducible first | exact HB.out | apply bA_q | apply pB_q | apply bD_q | refine bS_q ?_ GE383.out)⟩⟩
       subst c20
       have H1 : (if (wrap64 (a1 - t377)) ≤ 120 then (if x5_3.length < 17592186044416 then (impl_WatchOpen.l1 k3 l0 a1 (x5_3 ++ [x7_3]) x6_11 (wrap64 (x7_3 + 1))) else (none)) else (impl_WatchOpen.l1 k3 l0 a1 x5_3 x6_11 (wrap64 (x7_3 + 1)))) = some r := by rw [if_pos rfl] at H; exact H
       clear H
       have H := H1
       clear H1
       by_cases c21 : (wrap64 (a1 - t377)) ≤ 120
       rotate_left
       ·rw [if_neg c21] at H
        have c21b0 : decide ((wrap64 (a1 - t377)) ≤ 120) = false := dF_q c21
        clear c21
        have H' := Ae_q H
        clear H
        have q28 : (x6_11 : Int) ≤ ((l0.length : Int) : Int) := oD_q (by assumption)
        obtain ⟨i028, hi028, _, hsz28, _⟩ := info_parts info27
        have hroom28 : l0.length ≤ c0 := HC0.out
        have hC28 : Kd.C k27 _ A0 l0.length l0 := HR0.out
        have hcut28 := cut_to (P := Try.prog) 23 27 .i64 Try.underlying23 hi028 A0 l0.length c0 x6_11 (oD_q (by assumption)) q28 hroom28
        have hr28 := Kd.C_take (m := (x6_11 : Int).toNat) hC28 (by omega)
        have hy28 : y372.length = (x6_11 : Int).toNat := (by rw [Ny372.out, lT_q]; omega)
        rw [← Ny372.out] at hr28
        rw [← hy28] at hcut28
        have HR375 := Ae_q hr28
        have HC375 := Ae_q (show y372.length ≤ c0 from by omega)
        clear hr28 hC28 hroom28 hi028 hsz28
        have KY28 := Ae_q hy28
        clear hy28
        replace q28 := eq_true q28
        go_wp2_with (first | ((with_reducible refine gC_q (f := 51) rfl ?_); refine gL_q (some 44) rfl rfl Try.func51 (by kernel_rfl) rfl #[.slice A0 y372.length c0, .int .i64 x7_3] rfl (by (try simp only [lM_q, lC_q, lN_q]); first | done | rfl | (simp only [lD_q, lT_q]; rfl)) ?_; (with_reducible refine (impl_made.calls _ _ y372 x7_3 t376 t377 t378 t379 t380 t381 true _ ?side1 ?side2 A19.out).mono ?_); (case side1 => exact cup (cB_q HR375.out HB.out)); (case side2 => exact HC375.out); rintro e w29 ⟨rfl, hb⟩; refine ⟨_, rfl, ?_⟩; have n0_ := Ae_q (rO_q (rup HO_5.out) hb); have n1_ := Ae_q (bT_q (bel HB.out) hb); clear HO_5; clear HB; have HO_5 := n0_; have HB := n1_; clear n0_ n1_; (try clear hb); (try clear hb2); (try clear hk); (try clear hi)) | ((with_reducible refine gD_q (N := 8) rfl ?_); refine bE_q ?hg (N := 8) ?hd (cs := #[.int .i64 0, .int .i64 0, .int .i64 0, .int .i64 0, .int .i64 0, .int .i64 0]) (t := 27) ?hr ?_; (case hd => rfl); (case hg => rfl); (case hr => first | (go_simp; done) | (go_simp; rfl)); intro gb383 hg w30 hbox hb; have n0_ := Ae_q (rO_q (rup HO_5.out) hb); have n1_ := Ae_q (bT_q (bel HB.out) hb); have n2_ := Ae_q (hbox); have n3_ := Ae_q ((by rw [hg]; exact (bZ_q (bel HB.out)) : w.heap.size ≤ gb383)); have n4_ := Ae_q ((by rw [hg]; exact (bZ_q (bel HB.out)) : w.heap.size ≤ gb383)); clear HO_5; clear HB; have HO_5 := n0_; have HB := n1_; have BK383 := n2_; have GW383 := n3_; have GE383 := n4_; clear n0_ n1_ n2_ n3_ n4_; clear hb hbox hg; have hcz31_0 : cI w30 gb383 0 0 := cZ BK383 0 rfl; have hcz31_1 : cI w30 gb383 1 0 := cZ BK383 1 rfl; have hcz31_2 : cI w30 gb383 2 0 := cZ BK383 2 rfl; have hcz31_3 : cI w30 gb383 3 0 := cZ BK383 3 rfl; have hcz31_4 : cI w30 gb383 4 0 := cZ BK383 4 rfl; have hcz31_5 : cI w30 gb383 5 0 := cZ BK383 5 rfl; have hfz31_0 := bF_q BK383.out 0; have hfz31_1 := bF_q BK383.out 1; have hfz31_2 := bF_q BK383.out 2; have hfz31_3 := bF_q BK383.out 3; have hfz31_4 := bF_q BK383.out 4; have hfz31_5 := bF_q BK383.out 5))
        go_roundg k3
        case measure => have := HJ2.out; have := HJ11.out; have := HK3.out; omega
        case rel => exact ⟨(x5_3), (wrap64 (x7_3 + 1)), (by first | rfl | (simp; done) | (simp [*]; done)), H', ⟨by have := HJ2.out; have := HJ11.out; have := HK3.out; omega⟩, ⟨by (with_reducible repeat (first | apply rA_q | apply rN_q | apply rD_q)); exact rM_q (Kd.R_far (p := ⟨gb383, 5, none⟩) (Kd.R_far (p := ⟨gb383, 4, none⟩) (Kd.R_far (p := ⟨gb383, 3, none⟩) (Kd.R_far (p := ⟨gb383, 2, none⟩) (Kd.R_far (p := ⟨gb383, 1, none⟩) (Kd.R_far (p := ⟨gb383, 0, none⟩) (Kd.R_types HO_5.out BK383.out (by decide)) (fun _ hk => hk.2) (.int .i64 t376)) (fun _ hk => hk.2) (.int .i64 t377)) (fun _ hk => hk.2) (.int .i64 t378)) (fun _ hk => hk.2) (.int .i64 t379)) (fun _ hk => hk.2) (.int .i64 t380)) (fun _ hk => hk.2) (.int .i64 t381)) (fun _ hk => trivial)⟩, ⟨by repeat (with_reducible first | exact HB.out | apply bA_q | apply pB_q | apply bD_q | refine bS_q ?_ GE383.out)⟩⟩
       rw [if_pos c21] at H
       have c21b0 : decide ((wrap64 (a1 - t377)) ≤ 120) = true := dT_q c21
       clear c21
       by_cases c22 : x5_3.length < 17592186044416
       rotate_left
       ·rw [if_neg c22] at H
        exact absurd H (by simp)
       rw [if_pos c22] at H
       have LMc22 := Ae_q c22
       clear c22
       obtain ⟨y384, hy384⟩ : ∃ y_ : List Int, y_ = (x5_3 ++ [x7_3]) := ⟨_, rfl⟩
       replace H : (impl_WatchOpen.l1 k3 l0 a1 y384 x6_11 (wrap64 (x7_3 + 1))) = some r := by first | (rw [hy384]; with_reducible exact H) | (have H2_ := (oS_q _ _).symm.trans H; rw [hy384]; with_reducible exact H2_) | (have H2_ := (oS_q _ _).symm.trans H; with_reducible exact H2_) | with_reducible exact H | (rw [hy384]; exact H) | exact H
       have Ny384 := Ae_q hy384
       clear hy384
       have H' := Ae_q H
       clear H
       have q23 : (x6_11 : Int) ≤ ((l0.length : Int) : Int) := oD_q (by assumption)
       obtain ⟨i023, hi023, _, hsz23, _⟩ := info_parts info27
       have hroom23 : l0.length ≤ c0 := HC0.out
       have hC23 : Kd.C k27 _ A0 l0.length l0 := HR0.out
       have hcut23 := cut_to (P := Try.prog) 23 27 .i64 Try.underlying23 hi023 A0 l0.length c0 x6_11 (oD_q (by assumption)) q23 hroom23
       have hr23 := Kd.C_take (m := (x6_11 : Int).toNat) hC23 (by omega)
       have hy23 : y372.length = (x6_11 : Int).toNat := (by rw [Ny372.out, lT_q]; omega)
       rw [← Ny372.out] at hr23
       rw [← hy23] at hcut23
       have HR375 := Ae_q hr23
       have HC375 := Ae_q (show y372.length ≤ c0 from by omega)
       clear hr23 hC23 hroom23 hi023 hsz23
       have KY23 := Ae_q hy23
       clear hy23
       replace q23 := eq_true q23
       go_wp2_with (first | ((with_reducible refine gC_q (f := 51) rfl ?_); refine gL_q (some 44) rfl rfl Try.func51 (by kernel_rfl) rfl #[.slice A0 y372.length c0, .int .i64 x7_3] rfl (by (try simp only [lM_q, lC_q, lN_q]); first | done | rfl | (simp only [lD_q, lT_q]; rfl)) ?_; (with_reducible refine (impl_made.calls _ _ y372 x7_3 t376 t377 t378 t379 t380 t381 true _ ?side1 ?side2 A19.out).mono ?_); (case side1 => exact cup (cB_q HR375.out HB.out)); (case side2 => exact HC375.out); rintro e w24 ⟨rfl, hb⟩; refine ⟨_, rfl, ?_⟩; have n0_ := Ae_q (rO_q (rup HO_5.out) hb); have n1_ := Ae_q (bT_q (bel HB.out) hb); clear HO_5; clear HB; have HO_5 := n0_; have HB := n1_; clear n0_ n1_; (try clear hb); (try clear hb2); (try clear hk); (try clear hi)) | ((with_reducible refine gD_q (N := 8) rfl ?_); refine bE_q ?hg (N := 8) ?hd (cs := #[.int .i64 0, .int .i64 0, .int .i64 0, .int .i64 0, .int .i64 0, .int .i64 0]) (t := 27) ?hr ?_; (case hd => rfl); (case hg => rfl); (case hr => first | (go_simp; done) | (go_simp; rfl)); intro gb383 hg w25 hbox hb; have n0_ := Ae_q (rO_q (rup HO_5.out) hb); have n1_ := Ae_q (bT_q (bel HB.out) hb); have n2_ := Ae_q (hbox); have n3_ := Ae_q ((by rw [hg]; exact (bZ_q (bel HB.out)) : w.heap.size ≤ gb383)); have n4_ := Ae_q ((by rw [hg]; exact (bZ_q (bel HB.out)) : w.heap.size ≤ gb383)); clear HO_5; clear HB; have HO_5 := n0_; have HB := n1_; have BK383 := n2_; have GW383 := n3_; have GE383 := n4_; clear n0_ n1_ n2_ n3_ n4_; clear hb hbox hg; have hcz26_0 : cI w25 gb383 0 0 := cZ BK383 0 rfl; have hcz26_1 : cI w25 gb383 1 0 := cZ BK383 1 rfl; have hcz26_2 : cI w25 gb383 2 0 := cZ BK383 2 rfl; have hcz26_3 : cI w25 gb383 3 0 := cZ BK383 3 rfl; have hcz26_4 : cI w25 gb383 4 0 := cZ BK383 4 rfl; have hcz26_5 : cI w25 gb383 5 0 := cZ BK383 5 rfl; have hfz26_0 := bF_q BK383.out 0; have hfz26_1 := bF_q BK383.out 1; have hfz26_2 := bF_q BK383.out 2; have hfz26_3 := bF_q BK383.out 3; have hfz26_4 := bF_q BK383.out 4; have hfz26_5 := bF_q BK383.out 5) | ((with_reducible refine gate_builtin (b := .append) (xs := #[.tmp 55, .tmp 57]) rfl ?_); at_builtin; refine Kd.R_append kI_q (w0 := w) w.heap.size rfl (.tmp 55) (.tmp 57) 36 3 (.int .i64 0) 8 rfl Try.underlying36 info3 rfl (by decide) (by omega) u5 x5_3 x7_3 [.int .i64 x7_3] (fun _ => True) (fun _ => False) rfl (by first | (go_simp; done) | (go_simp; rfl)) ?aP (fun _ hk => hk.elim) ?aF ?aO ?aB ?aS ?aL ?_; (case aP => exact rfl); (case aB => exact (by repeat (with_reducible first | exact HB.out | apply bA_q | apply pB_q | apply bD_q | refine bS_q ?_ GE383.out))); (case aF => exact (fun _ _ => trivial)); (case aO => exact (by (with_reducible repeat (first | apply rA_q | apply rN_q | apply rD_q)); exact rM_q (Kd.R_far (p := ⟨gb383, 5, none⟩) (Kd.R_far (p := ⟨gb383, 4, none⟩) (Kd.R_far (p := ⟨gb383, 3, none⟩) (Kd.R_far (p := ⟨gb383, 2, none⟩) (Kd.R_far (p := ⟨gb383, 1, none⟩) (Kd.R_far (p := ⟨gb383, 0, none⟩) (Kd.R_types HO_5.out BK383.out (by decide)) (fun _ hk => hk.2) (.int .i64 t376)) (fun _ hk => hk.2) (.int .i64 t377)) (fun _ hk => hk.2) (.int .i64 t378)) (fun _ hk => hk.2) (.int .i64 t379)) (fun _ hk => hk.2) (.int .i64 t380)) (fun _ hk => hk.2) (.int .i64 t381)) (fun _ hk => trivial))); (case aS => exact (bZ_q (by repeat (with_reducible first | exact HB.out | apply bA_q | apply pB_q | apply bD_q | refine bS_q ?_ GE383.out)))); (case aL => have := LMc22.out; omega); intro v385 w27 ho hb hg hat; rw [← Ny384.out] at ho; have n0_ := Ae_q (bG_q (g := gb383) (o := .cells #[.int .i64 t376, .int .i64 t377, .int .i64 t378, .int .i64 t379, .int .i64 t380, .int .i64 t381] 27 (0, 0)) (by (with_reducible repeat (first | refine bN_q ?_ _ | refine bW_q ?_ | refine bL_q ?_ _)); refine blk_put (cs := #[.int .i64 t376, .int .i64 t377, .int .i64 t378, .int .i64 t379, .int .i64 t380, .int .i64 0]) ?_ 5 _ rfl; (with_reducible repeat (first | refine bN_q ?_ _ | refine bW_q ?_ | refine bL_q ?_ _)); refine blk_put (cs := #[.int .i64 t376, .int .i64 t377, .int .i64 t378, .int .i64 t379, .int .i64 0, .int .i64 0]) ?_ 4 _ rfl; (with_reducible repeat (first | refine bN_q ?_ _ | refine bW_q ?_ | refine bL_q ?_ _)); refine blk_put (cs := #[.int .i64 t376, .int .i64 t377, .int .i64 t378, .int .i64 0, .int .i64 0, .int .i64 0]) ?_ 3 _ rfl; (with_reducible repeat (first | refine bN_q ?_ _ | refine bW_q ?_ | refine bL_q ?_ _)); refine blk_put (cs := #[.int .i64 t376, .int .i64 t377, .int .i64 0, .int .i64 0, .int .i64 0, .int .i64 0]) ?_ 2 _ rfl; (with_reducible repeat (first | refine bN_q ?_ _ | refine bW_q ?_ | refine bL_q ?_ _)); refine blk_put (cs := #[.int .i64 t376, .int .i64 0, .int .i64 0, .int .i64 0, .int .i64 0, .int .i64 0]) ?_ 1 _ rfl; (with_reducible repeat (first | refine bN_q ?_ _ | refine bW_q ?_ | refine bL_q ?_ _)); refine blk_put (cs := #[.int .i64 0, .int .i64 0, .int .i64 0, .int .i64 0, .int .i64 0, .int .i64 0]) ?_ 0 _ rfl; (with_reducible repeat (first | refine bN_q ?_ _ | refine bW_q ?_ | refine bL_q ?_ _)); exact BK383.out) hg (Kd.R_ne HO_5.out BK383.out (by decide))); have n1_ := Ae_q (hb); have n2_ := Ae_q (ho); clear BK383; clear HB; clear HO_5; have BK383 := n0_; have HB := n1_; have HO386 := n2_; clear n0_ n1_ n2_; clear ho hb hg hat))
       go_roundg k3
       case measure => have := HJ2.out; have := HJ11.out; have := HK3.out; omega
       case rel => exact ⟨(y384), (wrap64 (x7_3 + 1)), (by first | rfl | (simp; done) | (simp [*]; done)), H', ⟨by have := HJ2.out; have := HJ11.out; have := HK3.out; omega⟩, ⟨rup HO386.out⟩, ⟨by repeat (with_reducible first | exact HB.out | apply bA_q | apply pB_q | apply bD_q | refine bS_q ?_ GE383.out)⟩⟩

def spec_l43Made.l0 : Nat → List (S27) → Int → Int → Int → Int → Option (Int)
 | 0, _, _, _, _, _ => none
 | k + 1, x0, x1, x2, x7, x8 => if x8 < x1 then (if 0 ≤ x8 then (if x8 < (x0.length : Int) then (if ((rd_T27 x0 x8).f2) = x2 then (if ((rd_T27 x0 x8).f0) = 1 then (spec_l43Made.l0 k x0 x1 x2 x8 (wrap64 (x8 + 1))) else (if ((rd_T27 x0 x8).f0) = 3 then (spec_l43Made.l0 k x0 x1 x2 (-1) (wrap64 (x8 + 1))) else (spec_l43Made.l0 k x0 x1 x2 x7 (wrap64 (x8 + 1))))) else (spec_l43Made.l0 k x0 x1 x2 x7 (wrap64 (x8 + 1)))) else (none)) else (none)) else (some x7)
def spec_l43Made.f (k : Nat) (l0 : List (S27)) (a1 : Int) (a2 : Int) : Option (Int) := spec_l43Made.l0 k l0 a1 a2 (-1) 0
set_option maxHeartbeats 8000000 in
set_option maxRecDepth 100000 in
theorem spec_l43Made.calls (k : Nat) (A0 : Option Addr) (c0 : Nat) (l0 : List (S27)) (a1 : Int) (a2 : Int) (r : Int) (w : World) (hr0 : Kd.C k27 w A0 l0.length l0) (hc0 : l0.length ≤ c0) (h : spec_l43Made.f k l0 a1 a2 = some r) :
    Calls Try.prog 52 #[.slice A0 l0.length c0, .int .i64 a1, .int .i64 a2] w fun e w' => e = .returned (.int .i64 r) ∧ Drawn0 w w' := by
 have HR0 := Ae_q hr0
 have HC0 := Ae_q hc0
 clear hr0 hc0
 have H : (spec_l43Made.l0 k l0 a1 a2 (-1) 0) = some r := h
 clear h
 have H' := Ae_q H
 clear H
 go_enter Try.func52, Try.ntmps52
 go_wp2
 go_loopg [7, 8] k (fun kq v7 v8 w' => ∃ (x7_1 : Int) (x8_1 : Int), v7 = .int .i64 x7_1 ∧ v8 = .int .i64 x8_1 ∧ Aside0 (spec_l43Made.l0 kq l0 a1 a2 x7_1 x8_1 = some r) ∧ Aside0 (kq ≤ k) ∧ Drawn0 w w')
 case atStart => exact ⟨((-1)), (0), (by first | rfl | (simp; done) | (simp [*]; done)), (by first | rfl | (simp; done) | (simp [*]; done)), H', ⟨nR_q _⟩, by repeat (first | exact Drawn0.refl _ | apply Drawn0.step)⟩
 case round =>
  clear H'
  try clear p2
  obtain ⟨x7_1, x8_1, rfl, rfl, HA, HK1, ⟨m1, rfl⟩⟩ := hrel
  cases gk with
  | zero => exact absurd HA.out (by simp [spec_l43Made.l0])
  | succ k1 =>
   have H := HA.out
   clear HA
   simp only [spec_l43Made.l0] at H
   by_cases c4 : x8_1 < a1
   rotate_left
   ·rw [if_neg c4] at H
    have c4b0 : decide (x8_1 < a1) = false := dF_q c4
    clear c4
    obtain rfl := oI_q H
    go_wp2
    go_ret
    exact ⟨by first | rfl | (simp; done) | (simp [*]; done), by repeat (first | exact Drawn0.refl _ | apply Drawn0.step)⟩
   rw [if_pos c4] at H
   have c4b0 : decide (x8_1 < a1) = true := dT_q c4
   clear c4
   by_cases c5 : 0 ≤ x8_1
   rotate_left
   ·rw [if_neg c5] at H
    exact absurd H (by simp)
   rw [if_pos c5] at H
   have c5b0 : decide (0 ≤ x8_1) = true := dT_q c5
   clear c5
   by_cases c6 : x8_1 < (l0.length : Int)
   rotate_left
   ·rw [if_neg c6] at H
    exact absurd H (by simp)
   rw [if_pos c6] at H
   have c6b0 : decide (x8_1 < (l0.length : Int)) = true := dT_q c6
   clear c6
   by_cases c7 : ((rd_T27 l0 x8_1).f2) = a2
   rotate_left
   ·rw [if_neg c7] at H
    have c7b0 : (((rd_T27 l0 x8_1).f2) == a2) = false := fN_q.mpr c7
    have c7b1 : (((rd_T27 l0 x8_1).f2) != a2) = true := nI_q.mpr c7
    have H' := Ae_q H
    clear H
    have p387 : 0 ≤ (x8_1 : Int) := oD_q (by assumption)
    have q387 : x8_1 < (l0.length : Int) := oD_q (by assumption)
    obtain ⟨ad387, e387, hx387_0, hx387_1, hx387_2, hx387_3, hx387_4, hx387_5⟩ := at_T27 HR0.out x8_1 p387 q387
    cases e387
    replace p387 := eq_true p387
    replace q387 := eq_true q387
    go_wp2
    go_roundg k1
    case measure => have := HK1.out; omega
    case rel => exact ⟨(x7_1), (wrap64 (x8_1 + 1)), (by first | rfl | (simp; done) | (simp [*]; done)), (by first | rfl | (simp; done) | (simp [*]; done)), H', ⟨by have := HK1.out; omega⟩, by repeat (first | exact Drawn0.refl _ | apply Drawn0.step)⟩
   rw [if_pos c7] at H
   have c7b0 : (((rd_T27 l0 x8_1).f2) == a2) = true := beq_iff_eq.mpr c7
   have c7b1 : (((rd_T27 l0 x8_1).f2) != a2) = false := nE_q.mpr c7
   clear c7
   by_cases c8 : ((rd_T27 l0 x8_1).f0) = 1
   ·rw [if_pos c8] at H
    have c8b0 : (((rd_T27 l0 x8_1).f0) == 1) = true := beq_iff_eq.mpr c8
    have c8b1 : (((rd_T27 l0 x8_1).f0) != 1) = false := nE_q.mpr c8
    clear c8
    have H' := Ae_q H
    clear H
    have p387 : 0 ≤ (x8_1 : Int) := oD_q (by assumption)
    have q387 : x8_1 < (l0.length : Int) := oD_q (by assumption)
    obtain ⟨ad387, e387, hx387_0, hx387_1, hx387_2, hx387_3, hx387_4, hx387_5⟩ := at_T27 HR0.out x8_1 p387 q387
    cases e387
    replace p387 := eq_true p387
    replace q387 := eq_true q387
    have p388 : 0 ≤ (x8_1 : Int) := oD_q (by assumption)
    have q388 : x8_1 < (l0.length : Int) := oD_q (by assumption)
    obtain ⟨ad388, e388, hx388_0, hx388_1, hx388_2, hx388_3, hx388_4, hx388_5⟩ := at_T27 HR0.out x8_1 p388 q388
    obtain rfl : ad387 = ad388 := (by injection e388)
    replace p388 := eq_true p388
    replace q388 := eq_true q388
    go_wp2
    go_roundg k1
    case measure => have := HK1.out; omega
    case rel => exact ⟨(x8_1), (wrap64 (x8_1 + 1)), (by first | rfl | (simp; done) | (simp [*]; done)), (by first | rfl | (simp; done) | (simp [*]; done)), H', ⟨by have := HK1.out; omega⟩, by repeat (first | exact Drawn0.refl _ | apply Drawn0.step)⟩
   rw [if_neg c8] at H
   have c8b0 : (((rd_T27 l0 x8_1).f0) == 1) = false := fN_q.mpr c8
   have c8b1 : (((rd_T27 l0 x8_1).f0) != 1) = true := nI_q.mpr c8
   by_cases c9 : ((rd_T27 l0 x8_1).f0) = 3
   ·rw [if_pos c9] at H
    have c9b0 : (((rd_T27 l0 x8_1).f0) == 3) = true := beq_iff_eq.mpr c9
    have c9b1 : (((rd_T27 l0 x8_1).f0) != 3) = false := nE_q.mpr c9
    clear c9
    have H' := Ae_q H
    clear H
    have p387 : 0 ≤ (x8_1 : Int) := oD_q (by assumption)
    have q387 : x8_1 < (l0.length : Int) := oD_q (by assumption)
    obtain ⟨ad387, e387, hx387_0, hx387_1, hx387_2, hx387_3, hx387_4, hx387_5⟩ := at_T27 HR0.out x8_1 p387 q387
    cases e387
    replace p387 := eq_true p387
    replace q387 := eq_true q387
    have p388 : 0 ≤ (x8_1 : Int) := oD_q (by assumption)
    have q388 : x8_1 < (l0.length : Int) := oD_q (by assumption)
    obtain ⟨ad388, e388, hx388_0, hx388_1, hx388_2, hx388_3, hx388_4, hx388_5⟩ := at_T27 HR0.out x8_1 p388 q388
    obtain rfl : ad387 = ad388 := (by injection e388)
    replace p388 := eq_true p388
    replace q388 := eq_true q388
    go_wp2
    go_roundg k1
    case measure => have := HK1.out; omega
    case rel => exact ⟨((-1)), (wrap64 (x8_1 + 1)), (by first | rfl | (simp; done) | (simp [*]; done)), (by first | rfl | (simp; done) | (simp [*]; done)), H', ⟨by have := HK1.out; omega⟩, by repeat (first | exact Drawn0.refl _ | apply Drawn0.step)⟩
   rw [if_neg c9] at H
   have c9b0 : (((rd_T27 l0 x8_1).f0) == 3) = false := fN_q.mpr c9
   have c9b1 : (((rd_T27 l0 x8_1).f0) != 3) = true := nI_q.mpr c9
   have H' := Ae_q H
   clear H
   have p387 : 0 ≤ (x8_1 : Int) := oD_q (by assumption)
   have q387 : x8_1 < (l0.length : Int) := oD_q (by assumption)
   obtain ⟨ad387, e387, hx387_0, hx387_1, hx387_2, hx387_3, hx387_4, hx387_5⟩ := at_T27 HR0.out x8_1 p387 q387
   cases e387
   replace p387 := eq_true p387
   replace q387 := eq_true q387
   have p388 : 0 ≤ (x8_1 : Int) := oD_q (by assumption)
   have q388 : x8_1 < (l0.length : Int) := oD_q (by assumption)
   obtain ⟨ad388, e388, hx388_0, hx388_1, hx388_2, hx388_3, hx388_4, hx388_5⟩ := at_T27 HR0.out x8_1 p388 q388
   obtain rfl : ad387 = ad388 := (by injection e388)
   replace p388 := eq_true p388
   replace q388 := eq_true q388
   go_wp2
   go_roundg k1
   case measure => have := HK1.out; omega
   case rel => exact ⟨(x7_1), (wrap64 (x8_1 + 1)), (by first | rfl | (simp; done) | (simp [*]; done)), (by first | rfl | (simp; done) | (simp [*]; done)), H', ⟨by have := HK1.out; omega⟩, by repeat (first | exact Drawn0.refl _ | apply Drawn0.step)⟩

end Go.Proofs.Ytnhenfmegpjigaa.PEv
