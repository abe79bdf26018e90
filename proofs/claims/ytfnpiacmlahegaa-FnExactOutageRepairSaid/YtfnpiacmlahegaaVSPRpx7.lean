import Derived.Test.YtfnpiacmlahegaaVSPRpx0
import Derived.Deep.LoopGhost
import Derived.Deep.Draws
import Derived.Lib.Walk
import Derived.WalkKit
import Derived.IntWalk
import Derived.Shelf.Abstract
namespace Go.Proofs.Ytfnpiacmlahegaa.PRp
open Go.RowKit Go.Proofs.YtfnpiacmlahegaaW.PrintWords Go.Proofs.YtfnpiacmlahegaaW.PrintLast Go.Proofs.YtfnpiacmlahegaaW.PrintMore
attribute [local go_sem] max2_int min2_int max_two min_two max_three min_three max_four min_four
set_option linter.unusedVariables false
set_option linter.unusedSimpArgs false

-- HAND rounds=0 making=1 own=0:0
-- HANDIMPORT Derived.Deep.LoopGhost
-- HANDIMPORT Derived.Deep.Draws
-- HANDIMPORT Derived.Lib.Walk
-- HANDIMPORT Derived.WalkKit
-- HANDIMPORT Derived.IntWalk
-- HANDIMPORT Derived.Shelf.Abstract
def IntRow (w : World) (g n : Nat) : Prop := ∃ cur : Array Value, w.heap[g]? = some (.cells cur 3 (0, 0)) ∧ ∀ i, i < n → ∃ z, cur[i]? = some (.int .i64 z)
theorem IntRow.set {w : World} {g n : Nat} (h : IntRow w g n) (g' i : Nat) (z : Int) : IntRow (w.setCell ⟨g', i, none⟩ (.int .i64 z)) g n := by
 obtain ⟨cur, h1, h2⟩ := h
 by_cases e : g = g'
 rotate_left
 ·exact ⟨cur, blk_far (p := ⟨g', i, none⟩) h1 e _, h2⟩
 subst e
 refine ⟨_, blk_set h1 i _, fun j hj => ?_⟩
 obtain ⟨y, hy⟩ := h2 j hj
 have hlt : j < cur.size := (Array.getElem?_eq_some_iff.1 hy).1
 by_cases e2 : i = j
 ·subst e2; exact ⟨z, by rw [Array.getElem?_setIfInBounds_self_of_lt hlt]⟩
 exact ⟨y, by rw [Array.getElem?_setIfInBounds_ne e2]; exact hy⟩
structure Mk (w0 : World) (P : Nat → Prop) (w w' : World) : Prop where
 below : Below w0.heap.size w0 w'
 kept : Kept w w' P
 ints : ∀ g n, IntRow w g n → IntRow w' g n
 other : ∀ (g : Nat) (cs : Array Value) (t : TypeId), t ≠ 3 → w.heap[g]? = some (Obj.cells cs t (0, 0)) → w'.heap[g]? = some (Obj.cells cs t (0, 0))
theorem Mk.refl {w0 w : World} {P : Nat → Prop} (h : Below w0.heap.size w0 w) : Mk w0 P w w := ⟨h, Kept.refl _ _, fun _ _ h => h, fun _ _ _ _ h => h⟩
theorem Mk.set {w0 w w' : World} {P : Nat → Prop} (h : Mk w0 P w w') {g n : Nat} (hg : w0.heap.size ≤ g) (hP : P g) (hr : IntRow w' g n) (i : Nat) (z : Int) : Mk w0 P w (w'.setCell ⟨g, i, none⟩ (.int .i64 z)) :=
 ⟨bS_q h.below hg, h.kept.setCell (p := ⟨g, i, none⟩) (.inl hP) _, fun g' n' hr' => (h.ints g' n' hr').set g i z, fun g' cs t ht hc => blk_far (p := ⟨g, i, none⟩) (h.other g' cs t ht hc) (by
  obtain ⟨cur, h1, _⟩ := hr
  exact blk_ne (h.other g' cs t ht hc) h1 ht) _⟩
def InnerOk (w0 w : World) (P : Nat → Prop) (n : Nat) (v : Value) : Prop := ∃ A c, v = .slice A n c ∧ n ≤ 9223372036854775807 ∧ (0 < n → ∃ g, A = some ⟨g, 0, none⟩ ∧ w0.heap.size ≤ g ∧ P g ∧ IntRow w g n)
def markN : Nat → Int → Int
 | 0, k => k
 | n + 1, k => wrap64 (markN n k + 1)
set_option maxHeartbeats 2000000 in
theorem mkInt_weak (w0 w : World) (P : Nat → Prop) (n : Nat) (v : Value) (k : Int) (hB : Below w0.heap.size w0 w) (hv : InnerOk w0 w P n v) :
    Calls Try.prog 19 #[v, .int .i64 k] w fun e w' => e = .returned (.int .i64 (markN n k)) ∧ Mk w0 P w w' := by
 obtain ⟨A, c, rfl, hn, hrow⟩ := hv
 have HR := Ae_q hrow
 have HB := Ae_q hB
 have hbig : (n : Int) ≤ 9223372036854775807 := by omega
 clear hrow hB
 go_enter Try.func19, Try.ntmps19
 go_wp2
 go_loopg [1, 5] n (fun gg v1 v5 wr => ∃ i : Nat, i ≤ n ∧ n - i ≤ gg ∧ v5 = .int .i64 i ∧ v1 = .int .i64 (markN i k) ∧ Aside0 (Mk w0 P w wr))
 case atStart => exact ⟨0, Nat.zero_le _, by omega, rfl, rfl, ⟨Mk.refl HB.out⟩⟩
 case round =>
  obtain ⟨i, hi, hg, rfl, rfl, HM⟩ := hrel
  by_cases hlt : i < n
  rotate_left
  ·have hltz : ¬ (i : Int) < (n : Int) := by omega
   have hk : i = n := by omega
   have HK := Ae_q hk
   clear hk
   go_wp2
   go_ret
   refine ⟨?_, HM.out⟩
   have e := HK.out
   subst e
   rfl
  have hltz : (i : Int) < (n : Int) := by omega
  obtain ⟨g, eA, hg0, hPg, hrw⟩ := HR.out (by omega)
  subst eA
  have HI := Ae_q (HM.out.ints g n hrw)
  obtain ⟨cur, hc1, hc2⟩ := HI.out
  obtain ⟨z, hz⟩ := hc2 i hlt
  have hcell : wr.cell? ⟨g, i, none⟩ = some (.int .i64 z) := (bC_q hc1 i).trans hz
  have hfr := bF_q hc1 i
  have HS := Ae_q (HM.out.set (n := n) hg0 hPg HI.out i (markN i k))
  have HG := Ae_q (And.intro hg0 hPg)
  clear hc1 hc2 hz hrw hg0 hPg
  obtain ⟨q, hq⟩ : ∃ q, markN i k = q := ⟨_, rfl⟩
  have HQ := Ae_q hq
  rw [hq] at HS ⊢
  clear hq
  go_wp2
  go_roundg (n - (i + 1))
  case measure => omega
  case rel => exact ⟨i + 1, by omega, by omega, by go_num, by rw [markN, HQ.out], HS⟩
def StepCells (cur : Array Value) (j : Nat) (v : Value) : Prop := (∃ a, cur[j * 4]? = some (.int .i64 a)) ∧ (∃ a, cur[j * 4 + 1]? = some (.int .i64 a)) ∧ (∃ a, cur[j * 4 + 2]? = some (.int .i64 a)) ∧ cur[j * 4 + 3]? = some v
def StepRow (w : World) (g n : Nat) (f : Nat → Value) : Prop := ∃ cur : Array Value, w.heap[g]? = some (.cells cur 63 (0, 0)) ∧ ∀ j, j < n → StepCells cur j (f j)
theorem set_int {cur : Array Value} {i j : Nat} {z : Int} (h : ∃ a, cur[j]? = some (Value.int .i64 a)) : ∃ a, (cur.setIfInBounds i (.int .i64 z))[j]? = some (Value.int .i64 a) := by
 obtain ⟨y, hy⟩ := h
 have hlt : j < cur.size := (Array.getElem?_eq_some_iff.1 hy).1
 by_cases e2 : i = j
 ·subst e2; exact ⟨z, by rw [Array.getElem?_setIfInBounds_self_of_lt hlt]⟩
 exact ⟨y, by rw [Array.getElem?_setIfInBounds_ne e2]; exact hy⟩
theorem StepRow.set {w : World} {g n : Nat} {f : Nat → Value} (h : StepRow w g n f) (i o : Nat) (ho : o < 3) (z : Int) : StepRow (w.setCell ⟨g, i * 4 + o, none⟩ (.int .i64 z)) g n f := by
 obtain ⟨cur, h1, h2⟩ := h
 refine ⟨_, blk_set h1 _ _, fun j hj => ?_⟩
 obtain ⟨c0, c1, c2, c3⟩ := h2 j hj
 exact ⟨set_int c0, set_int c1, set_int c2, by rw [Array.getElem?_setIfInBounds_ne (by omega)]; exact c3⟩
theorem StepRow.mk_ {w w' w0 : World} {P : Nat → Prop} {g n : Nat} {f : Nat → Value} (h : StepRow w g n f) (hm : Mk w0 P w w') : StepRow w' g n f := by
 obtain ⟨cur, h1, h2⟩ := h
 exact ⟨cur, hm.other g cur 63 (by decide) h1, h2⟩
theorem InnerOk.set63 {w0 w : World} {P : Nat → Prop} {n : Nat} {v : Value} (h : InnerOk w0 w P n v) (g i : Nat) (z : Int) : InnerOk w0 (w.setCell ⟨g, i, none⟩ (.int .i64 z)) P n v := by
 obtain ⟨A, c, e, hn, hr⟩ := h
 exact ⟨A, c, e, hn, fun h0 => by obtain ⟨g', e', a, b, d⟩ := hr h0; exact ⟨g', e', a, b, d.set g i z⟩⟩
theorem InnerOk.mk_ {w0 w w' : World} {P : Nat → Prop} {n : Nat} {v : Value} (h : InnerOk w0 w P n v) (hm : Mk w0 P w w') : InnerOk w0 w' P n v := by
 obtain ⟨A, c, e, hn, hr⟩ := h
 exact ⟨A, c, e, hn, fun h0 => by obtain ⟨g', e', a, b, d⟩ := hr h0; exact ⟨g', e', a, b, hm.ints _ _ d⟩⟩
theorem own_steps {w0 w : World} {P : Nat → Prop} {v : Value} {l : List S63} (h : Kd.R k63 63 w w0.heap.size P v l) (hp : 0 < l.length) :
    ∃ g cap f, v = .slice (some ⟨g, 0, none⟩) l.length cap ∧ w0.heap.size ≤ g ∧ P g ∧ StepRow w g l.length f ∧ ∀ j, j < l.length → InnerOk w0 w P (rd_T63 l (j : Int)).f3.length (f j) := by
 obtain ⟨h0, inner, ⟨hlen, ho⟩, hrl, hrr⟩ := h
 rcases ho with ⟨rfl, hz⟩ | ⟨g, cap, cur, rfl, hb, hh, hnc, hcm, hsz, htk, _⟩
 ·omega
 have key : ∀ j, j < l.length → ∃ v3, StepCells cur j v3 ∧ InnerOk w0 w P (rd_T63 l (j : Int)).f3.length v3 := by
  intro j hj
  have hx : l[j]? = some (rd_T63 l (j : Int)) := by unfold rd_T63; simp [List.getD_eq_getElem?_getD, hj]
  generalize rd_T63 l (j : Int) = x at hx ⊢
  obtain ⟨v3, hcs, hi⟩ := k63_openM (hrr j x hx)
  have hat : ∀ o u, ([Value.int .i64 x.f0, .int .i64 x.f1, .int .i64 x.f2, v3] : List Value)[o]? = some u → cur[j * 4 + o]? = some u := by
   intro o u hu
   have ho4 : o < 4 := by have := (List.getElem?_eq_some_iff.1 hu).1; simpa using this
   have e4 : k63.sz = 4 := rfl
   rw [e4] at hcs
   rw [← hcs, List.getElem?_take, if_pos ho4, List.getElem?_drop, List.getElem?_take, if_pos (by omega)] at hu
   rw [← Array.getElem?_toList]; exact hu
  refine ⟨v3, ⟨⟨_, hat 0 _ rfl⟩, ⟨_, hat 1 _ rfl⟩, ⟨_, hat 2 _ rfl⟩, hat 3 _ rfl⟩, ?_⟩
  obtain ⟨A, c, e, _, hC⟩ := Kd.R_reads hi
  refine ⟨A, c, e, by have := hC.2.1; omega, fun hp3 => ?_⟩
  obtain ⟨g', cap', e', hb', hlt', cells', hc'⟩ := Kd.R_form hi hp3
  rw [e] at e'
  injection e' with e1 _ _
  refine ⟨g', e1, hb', (hi.1 g' (by rw [e, e1]; rfl)).1, cells', hc', fun i hi3 => ?_⟩
  obtain ⟨ad, ea, hcell⟩ := aI_q hC (i : Int) (by omega) (by omega)
  rw [e1] at ea
  injection ea with ea
  subst ea
  refine ⟨rd x.f3 (i : Int), ?_⟩
  rw [← bC_q hc' i]
  have := hcell
  rw [add_plain] at this
  simpa using this
 refine ⟨g, cap, fun j => if hj : j < l.length then (key j hj).choose else .slice none 0 0, rfl, hb, h0 g rfl, ⟨cur, hh, fun j hj => ?_⟩, fun j hj => ?_⟩
 ·simp only [dif_pos hj]; exact (key j hj).choose_spec.1
 simp only [dif_pos hj]; exact (key j hj).choose_spec.2
def markStepF : List S63 → Int → Int
 | [], k => k
 | s :: r, k => markStepF r (markN s.f3.length (wrap64 (wrap64 (wrap64 (k + 1) + 1) + 1)))
theorem markStepF_snoc (s : S63) : ∀ (l : List S63) (k : Int), markStepF (l ++ [s]) k = markN s.f3.length (wrap64 (wrap64 (wrap64 (markStepF l k + 1) + 1) + 1))
 | [], k => rfl
 | x :: r, k => by rw [List.cons_append, markStepF, markStepF_snoc s r, markStepF]
def laws_markStepS.f (l0 : List S63) (a1 : Int) : Option Int := some (markStepF l0 a1)
set_option maxHeartbeats 4000000 in
theorem laws_markStepS.calls (P0_ : Nat → Prop) (u9000_ : Value) (l0 : List S63) (a1 : Int) (r : Int) (w0 w : World) (hB : Below w0.heap.size w0 w) (ho0 : Kd.R k63 63 w w0.heap.size P0_ u9000_ l0) (h : laws_markStepS.f l0 a1 = some r) :
    Calls Try.prog 18 #[u9000_, .int .i64 a1] w fun e w' => e = .returned (.int .i64 r) ∧ Below w0.heap.size w0 w' ∧ Kept w w' (fun k_ => P0_ k_) := by
 obtain rfl := oI_q h
 clear h
 obtain ⟨A, c, eu, _, hC⟩ := Kd.R_reads ho0
 have hbig : (l0.length : Int) ≤ 9223372036854775807 := by have := hC.2.1; omega
 have HX := Ae_q (own_steps ho0)
 subst eu
 clear hC ho0
 have HB := Ae_q hB
 clear hB
 go_enter Try.func18, Try.ntmps18
 go_wp2
 go_loopg [1, 5] l0.length (fun gg v1 v5 wr => ∃ i : Nat, i ≤ l0.length ∧ l0.length - i ≤ gg ∧ v5 = .int .i64 i ∧ v1 = .int .i64 (markStepF (l0.take i) a1) ∧ Aside0 (Below w0.heap.size w0 wr ∧ Kept w wr P0_ ∧ ∀ g cap f, Value.slice A l0.length c = .slice (some ⟨g, 0, none⟩) l0.length cap → StepRow w g l0.length f → (∀ j, j < l0.length → InnerOk w0 w P0_ (rd_T63 l0 (j : Int)).f3.length (f j)) → StepRow wr g l0.length f ∧ ∀ j, j < l0.length → InnerOk w0 wr P0_ (rd_T63 l0 (j : Int)).f3.length (f j)))
 case atStart => exact ⟨0, Nat.zero_le _, by omega, rfl, rfl, ⟨HB.out, Kept.refl _ _, fun _ _ _ _ a b => ⟨a, b⟩⟩⟩
 case round =>
  obtain ⟨i, hi, hg, rfl, rfl, HM⟩ := hrel
  by_cases hlt : i < l0.length
  rotate_left
  ·have hltz : ¬ (i : Int) < (l0.length : Int) := by omega
   have hk : i = l0.length := by omega
   have HK := Ae_q hk
   clear hk
   go_wp2
   go_ret
   refine ⟨?_, HM.out.1, HM.out.2.1⟩
   have e := HK.out
   subst e
   rw [List.take_length]
   rfl
  have hltz : (i : Int) < (l0.length : Int) := by omega
  obtain ⟨g, cap, f, ev, hg0, hPg, hS, hI⟩ := HX.out (by omega)
  obtain ⟨hBr, hKr, hall⟩ := HM.out
  obtain ⟨hSr, hIr⟩ := hall g cap f ev hS hI
  have HS0 := Ae_q (And.intro hS hI)
  injection ev with eA _ ec
  subst eA
  clear hS hI hall
  have s1 := hSr.set i 0 (by omega) (markStepF (l0.take i) a1)
  have s2 := s1.set i 1 (by omega) (wrap64 (markStepF (l0.take i) a1 + 1))
  have s3 := s2.set i 2 (by omega) (wrap64 (wrap64 (markStepF (l0.take i) a1 + 1) + 1))
  have i3 := fun j hj => (((hIr j hj).set63 g (i * 4 + 0) (markStepF (l0.take i) a1)).set63 g (i * 4 + 1) (wrap64 (markStepF (l0.take i) a1 + 1))).set63 g (i * 4 + 2) (wrap64 (wrap64 (markStepF (l0.take i) a1 + 1) + 1))
  have b3 := bS_q (j := i * 4 + 2) (v := .int .i64 (wrap64 (wrap64 (markStepF (l0.take i) a1 + 1) + 1))) (bS_q (j := i * 4 + 1) (v := .int .i64 (wrap64 (markStepF (l0.take i) a1 + 1))) (bS_q (j := i * 4 + 0) (v := .int .i64 (markStepF (l0.take i) a1)) hBr hg0) hg0) hg0
  have k3 := ((hKr.setCell (p := ⟨g, i * 4 + 0, none⟩) (.inl hPg) (.int .i64 (markStepF (l0.take i) a1))).setCell (p := ⟨g, i * 4 + 1, none⟩) (.inl hPg) (.int .i64 (wrap64 (markStepF (l0.take i) a1 + 1)))).setCell (p := ⟨g, i * 4 + 2, none⟩) (.inl hPg) (.int .i64 (wrap64 (wrap64 (markStepF (l0.take i) a1 + 1) + 1)))
  have hcon := mkInt_weak w0 _ P0_ _ (f i) (wrap64 (wrap64 (wrap64 (markStepF (l0.take i) a1 + 1) + 1) + 1)) b3 (i3 i hlt)
  obtain ⟨cur, hh, hcs⟩ := hSr
  obtain ⟨⟨x0, c0⟩, ⟨x1, c1⟩, ⟨x2, c2⟩, c3⟩ := hcs i hlt
  have q0 : wr.cell? ⟨g, i * 4, none⟩ = some (.int .i64 x0) := (bC_q hh _).trans c0
  have q1 : wr.cell? ⟨g, i * 4 + 1, none⟩ = some (.int .i64 x1) := (bC_q hh _).trans c1
  have q2 : wr.cell? ⟨g, i * 4 + 2, none⟩ = some (.int .i64 x2) := (bC_q hh _).trans c2
  have q3 : wr.cell? ⟨g, i * 4 + 3, none⟩ = some (f i) := (bC_q hh _).trans c3
  have f0 := bF_q hh (i * 4)
  have f1 := bF_q hh (i * 4 + 1)
  have f2 := bF_q hh (i * 4 + 2)
  have hone : (f i).oneCell' = true := by obtain ⟨A', c', e', _⟩ := hIr i hlt; rw [e']; rfl
  have hsl : ∃ A' c', f i = .slice A' (rd_T63 l0 (i : Int)).f3.length c' := by obtain ⟨A', c', e', _⟩ := hIr i hlt; exact ⟨A', c', e'⟩
  clear hh hcs c0 c1 c2 c3
  have HE := Ae_q (And.intro s3 (And.intro i3 k3))
  have HG := Ae_q (And.intro hg0 hPg)
  clear s1 s2 s3 i3 b3 k3 hIr hBr hKr hg0 hPg
  have HT := Ae_q (show markStepF (l0.take (i + 1)) a1 = markN (rd_T63 l0 (i : Int)).f3.length (wrap64 (wrap64 (wrap64 (markStepF (l0.take i) a1 + 1) + 1) + 1)) by
   have e : l0.take (i + 1) = l0.take i ++ [rd_T63 l0 (i : Int)] := by
    rw [List.take_succ_eq_append_getElem hlt]
    unfold rd_T63; simp [List.getD_eq_getElem?_getD, hlt]
   rw [e, markStepF_snoc])
  generalize hq : markStepF (l0.take i) a1 = q at *
  generalize hn3 : (rd_T63 l0 (i : Int)).f3.length = n3 at *
  obtain ⟨A', c', e'⟩ := hsl
  have q4 : (((wr.setCell ⟨g, i * 4 + 0, none⟩ (.int .i64 q)).setCell ⟨g, i * 4 + 1, none⟩ (.int .i64 (wrap64 (q + 1)))).setCell ⟨g, i * 4 + 2, none⟩ (.int .i64 (wrap64 (wrap64 (q + 1) + 1)))).cell? ⟨g, i * 4 + 3, none⟩ = some (.slice A' n3 c') := by
   obtain ⟨cur', hh', hcs'⟩ := HE.out.1
   rw [← e']
   exact (bC_q hh' _).trans (hcs' i hlt).2.2.2
  rw [e'] at q3 hcon
  simp only [Nat.add_zero] at q4 hcon HE
  have HCN := Ae_q hcon
  have HF := Ae_q e'
  have HS3 := Ae_q hn3
  have HQ3 := Ae_q hq
  clear hcon e' hone hn3 hq ec
  go_wp2_with (go_at_call 19; refine HCN.out.mono ?_; rintro e w' ⟨rfl, hm⟩; have HMk := Ae_q hm; clear hm)
  go_roundg (l0.length - (i + 1))
  case measure => omega
  case rel =>
   refine ⟨i + 1, by omega, by omega, by go_num, by rw [HT.out], ⟨HMk.out.below, (HE.out.2.2.then_ HMk.out.kept (fun k hk => .inl hk)), fun g' cap' f' ev' hS' hI' => ?_⟩⟩
   obtain ⟨hSr', hIr'⟩ := HM.out.2.2 g' cap' f' ev' hS' hI'
   have eg : g = g' := by injection ev' with e1; injection e1 with e1; injection e1
   subst eg
   have t1 := ((hSr'.set i 0 (by omega) q).set i 1 (by omega) (wrap64 (q + 1))).set i 2 (by omega) (wrap64 (wrap64 (q + 1) + 1))
   simp only [Nat.add_zero] at t1
   refine ⟨t1.mk_ HMk.out, fun j hj => ?_⟩
   have t2 := (((hIr' j hj).set63 g (i * 4 + 0) q).set63 g (i * 4 + 1) (wrap64 (q + 1))).set63 g (i * 4 + 2) (wrap64 (wrap64 (q + 1) + 1))
   simp only [Nat.add_zero] at t2
   exact t2.mk_ HMk.out
theorem mk_keep {α : Type} {d : Kd α} {e : Nat} {W W2 : World} {base : Nat} {ok P : Nat → Prop} {v : Value} {xs : List α} (hE : d.E = []) (h : d.R e W base ok v xs) (hk : Kept W W2 P) (hne : ∀ k, v.ownBlock = some k → ¬ P k) : d.R e W2 base ok v xs :=
 rM_q (Kd.R_kept (Kd.R_tight hE h) hk (fun k e => hne k e.symm)) (fun k e => h.1 k e.symm)
theorem mk_ty {α : Type} {d : Kd α} {E : List Nat} {e k : Nat} {W : World} {base : Nat} {ok : Nat → Prop} {v : Value} {xs : List α} (h : d.R e W base ok v xs) (ek : v.ownBlock = some k)
    (hp : ∃ q, q ∈ E ∧ ∃ cells, W.heap[k]? = some (.cells cells q (0, 0))) (hd : e ∉ E) : False := by
 obtain ⟨c1, h1⟩ := Kd.R_typed h k ek
 obtain ⟨q, hq, c2, h2⟩ := hp
 rw [h1] at h2
 injection h2 with h2
 injection h2 with _ h3 _
 subst h3
 exact hd hq
theorem mk_blk {W W2 : World} {P : Nat → Prop} {g : Nat} {o : Obj} (h : W.heap[g]? = some o) (hk : Kept W W2 P) (hn : ¬ P g) : W2.heap[g]? = some o := (hk.2 g (blk_lt h) hn).trans h
theorem mk_tyb {W : World} {g : Nat} {cs : Array Value} {t : TypeId} {E : List Nat} (h : W.heap[g]? = some (.cells cs t (0, 0))) (hp : ∃ q, q ∈ E ∧ ∃ cells, W.heap[g]? = some (.cells cells q (0, 0))) (hd : t ∉ E) : False := by
 obtain ⟨q, hq, c2, h2⟩ := hp
 rw [h] at h2
 injection h2 with h2
 injection h2 with _ h3 _
 subst h3
 exact hd hq

end Go.Proofs.Ytfnpiacmlahegaa.PRp
