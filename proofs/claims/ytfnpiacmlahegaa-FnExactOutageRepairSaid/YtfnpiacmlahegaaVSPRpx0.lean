import Derived.Test.YtfnpiacmlahegaaProg
import Derived.Below
import Derived.Deep.Draws
import Derived.Deep.AppendLies
import Derived.Maps.AppendAt
import Derived.OwnWalk
import Derived.Laws.BytesArg
import Derived.Laws.MakeOwn
import Derived.Laws.OwnMore
import Derived.Deep.OwnRows
import Derived.Tactics
import Derived.Lib.ConvBytes
import Derived.Laws.Slices
import Derived.WalkKit
import Derived.KernelRfl
import Derived.RowKit3
import Derived.Deep.LoopGhost
import Derived.Deep.QuietTactic
import Derived.BigQuiet
import Derived.WideLaws
import Derived.Deep.DeepCutAuto
import Derived.Deep.CutBlock
import Derived.Deep.RegionHeld3
import Derived.Laws.Rows
import Derived.Lib.AppendStr
import Derived.ArgAppend
import Derived.Laws.IdiomCopy
import Derived.OrdersHeld
import Derived.Laws.BitsLemmas
import Derived.RowKit
import Derived.Test.YtfnpiacmlahegaaVSWWords
import Derived.Test.YtfnpiacmlahegaaVSWLast
import Derived.Test.YtfnpiacmlahegaaVSWTab
import Derived.Test.YtfnpiacmlahegaaVSWFour
import Derived.Test.YtfnpiacmlahegaaVSWQPut
import Derived.Test.YtfnpiacmlahegaaVSWApart
import Derived.Test.YtfnpiacmlahegaaVSWArr
import Derived.Test.YtfnpiacmlahegaaVSWZeros
import Derived.Test.YtfnpiacmlahegaaVSWFoot
import Derived.Test.YtfnpiacmlahegaaVSWKept
import Derived.Test.YtfnpiacmlahegaaVSWShare
import Derived.Test.YtfnpiacmlahegaaVSWN
import Derived.Test.YtfnpiacmlahegaaVSWFootNe
import Derived.Test.YtfnpiacmlahegaaVSWAt
import Derived.Test.YtfnpiacmlahegaaVSWEqStruct
import Derived.Test.YtfnpiacmlahegaaVSWRepsOne
import Derived.Test.YtfnpiacmlahegaaVSWInv
import Derived.Test.YtfnpiacmlahegaaVSWInvWords
import Derived.Test.YtfnpiacmlahegaaVSWGuard
import Derived.Test.YtfnpiacmlahegaaVSWNEv
import Derived.Test.YtfnpiacmlahegaaVSWMore
namespace Go.Proofs.Ytfnpiacmlahegaa.PRp
open Go.RowKit Go.Proofs.YtfnpiacmlahegaaW.PrintWords Go.Proofs.YtfnpiacmlahegaaW.PrintLast Go.Proofs.YtfnpiacmlahegaaW.PrintMore
attribute [local go_sem] max2_int min2_int max_two min_two max_three min_three max_four min_four
set_option linter.unusedVariables false
set_option linter.unusedSimpArgs false



def errW : Option Int → Value
 | none => .nilIface
 | some c => .iface 0 (.int .i64 c)
theorem errW_none : errW none = .nilIface := rfl
theorem errW_some (c : Int) : errW (some c) = .iface 0 (.int .i64 c) := rfl

theorem info3 : (Try.prog.info? 3).map (fun i => (i.zero, i.size, i.bytes)) = some (some (.int .i64 0), 1, 8) := by kernel_rfl
theorem info63 : (Try.prog.info? 63).map (fun i => (i.zero, i.size, i.bytes)) = some (some (.agg #[(.int .i64 0), (.int .i64 0), (.int .i64 0), (.slice none 0 0)]), 4, 48) := by kernel_rfl
structure S59 where
 f0 : Int
 f1 : Int
 f2 : Int
 f3 : (List Int)
def z59 : S59 := ⟨(0 : Int), (0 : Int), (0 : Int), ([] : List Int)⟩
def k59 : Kd S59 := Kd.iso (Kd.pair (Kd.int .i64) (Kd.pair (Kd.int .i64) (Kd.pair (Kd.int .i64) (Kd.slice 3 (Kd.int .i64))))) (fun x : S59 => (x.f0, x.f1, x.f2, x.f3))
theorem k59_open {w : World} {x : S59} {cs : List Value} (h : k59.K w x cs) : ∃ A3 c3, cs = [.int .i64 x.f0, .int .i64 x.f1, .int .i64 x.f2, .slice A3 x.f3.length c3] ∧ x.f3.length ≤ c3 ∧ (Kd.int .i64).C w A3 x.f3.length x.f3 := by
 obtain ⟨_, _, rfl, rfl, ⟨_, _, rfl, rfl, ⟨_, _, rfl, rfl, ⟨A3, c3, rfl, l3, g3⟩⟩⟩⟩ := h
 exact ⟨A3, c3, rfl, l3, g3⟩
def rd_T59 (xs : List S59) (i : Int) : S59 := xs.getD i.toNat z59
theorem at_T59 {w : World} {A : Option Addr} {n : Nat} {xs : List S59} (h : Kd.C k59 w A n xs) (i : Int) (h0 : 0 ≤ i) (h1 : i < n) : ∃ ad A3 c3, A = some ad ∧ w.cell? (ad.add (i.toNat * 4)) = some (.int .i64 (rd_T59 xs i).f0) ∧ w.cell? ⟨(ad.add (i.toNat * 4)).block, (ad.add (i.toNat * 4)).off + 1, none⟩ = some (.int .i64 (rd_T59 xs i).f1) ∧ w.cell? ⟨(ad.add (i.toNat * 4)).block, (ad.add (i.toNat * 4)).off + 2, none⟩ = some (.int .i64 (rd_T59 xs i).f2) ∧ w.cell? ⟨(ad.add (i.toNat * 4)).block, (ad.add (i.toNat * 4)).off + 3, none⟩ = some (.slice A3 (rd_T59 xs i).f3.length c3) ∧ (rd_T59 xs i).f3.length ≤ c3 ∧ (Kd.int .i64).C w A3 (rd_T59 xs i).f3.length (rd_T59 xs i).f3 := by
 obtain ⟨ad, c, e, _, hK, hc0⟩ := Kd.C_get h z59 i h0 h1
 have hc : ∀ j u, c[j]? = some u → w.cell? (ad.add (i.toNat * 4 + j)) = some u := hc0
 obtain ⟨A3, c3, rfl, l3, g3⟩ := k59_open hK
 exact ⟨ad, A3, c3, e, hc 0 _ rfl, by rw [← add_field _ _ 1 (by omega)]; exact hc 1 _ rfl, by rw [← add_field _ _ 2 (by omega)]; exact hc 2 _ rfl, by rw [← add_field _ _ 3 (by omega)]; exact hc 3 _ rfl, l3, g3⟩

structure S63 where
 f0 : Int
 f1 : Int
 f2 : Int
 f3 : (List Int)
def z63 : S63 := ⟨(0 : Int), (0 : Int), (0 : Int), ([] : List Int)⟩
def k63 : Kd S63 := Kd.iso (Kd.pair (Kd.int .i64) (Kd.pair (Kd.int .i64) (Kd.pair (Kd.int .i64) (Kd.slice 3 (Kd.int .i64))))) (fun x : S63 => (x.f0, x.f1, x.f2, x.f3))
theorem k63_open {w : World} {x : S63} {cs : List Value} (h : k63.K w x cs) : ∃ A3 c3, cs = [.int .i64 x.f0, .int .i64 x.f1, .int .i64 x.f2, .slice A3 x.f3.length c3] ∧ x.f3.length ≤ c3 ∧ (Kd.int .i64).C w A3 x.f3.length x.f3 := by
 obtain ⟨_, _, rfl, rfl, ⟨_, _, rfl, rfl, ⟨_, _, rfl, rfl, ⟨A3, c3, rfl, l3, g3⟩⟩⟩⟩ := h
 exact ⟨A3, c3, rfl, l3, g3⟩
theorem k63_openM {w : World} {base : Nat} {ok : Nat → Prop} {x : S63} {cs : List Value} (h : k63.M w base ok x cs) : ∃ v3, cs = [.int .i64 x.f0, .int .i64 x.f1, .int .i64 x.f2, v3] ∧ (Kd.int .i64).R 3 w base ok v3 x.f3 := by
 obtain ⟨_, _, rfl, rfl, ⟨_, _, rfl, rfl, ⟨_, _, rfl, rfl, ⟨v3, rfl, g3⟩⟩⟩⟩ := h
 exact ⟨v3, rfl, g3⟩
theorem k63_mkM (w : World) (base : Nat) (ok : Nat → Prop) (x : S63) {v3 : Value} (g3 : (Kd.int .i64).R 3 w base ok v3 x.f3) : k63.M w base ok x [.int .i64 x.f0, .int .i64 x.f1, .int .i64 x.f2, v3] := ⟨[.int .i64 x.f0], [.int .i64 x.f1, .int .i64 x.f2, v3], rfl, rfl, ⟨[.int .i64 x.f1], [.int .i64 x.f2, v3], rfl, rfl, ⟨[.int .i64 x.f2], [v3], rfl, rfl, ⟨v3, rfl, g3⟩⟩⟩⟩
def rd_T63 (xs : List S63) (i : Int) : S63 := xs.getD i.toNat z63
theorem at_T63 {w : World} {A : Option Addr} {n : Nat} {xs : List S63} (h : Kd.C k63 w A n xs) (i : Int) (h0 : 0 ≤ i) (h1 : i < n) : ∃ ad A3 c3, A = some ad ∧ w.cell? (ad.add (i.toNat * 4)) = some (.int .i64 (rd_T63 xs i).f0) ∧ w.cell? ⟨(ad.add (i.toNat * 4)).block, (ad.add (i.toNat * 4)).off + 1, none⟩ = some (.int .i64 (rd_T63 xs i).f1) ∧ w.cell? ⟨(ad.add (i.toNat * 4)).block, (ad.add (i.toNat * 4)).off + 2, none⟩ = some (.int .i64 (rd_T63 xs i).f2) ∧ w.cell? ⟨(ad.add (i.toNat * 4)).block, (ad.add (i.toNat * 4)).off + 3, none⟩ = some (.slice A3 (rd_T63 xs i).f3.length c3) ∧ (rd_T63 xs i).f3.length ≤ c3 ∧ (Kd.int .i64).C w A3 (rd_T63 xs i).f3.length (rd_T63 xs i).f3 := by
 obtain ⟨ad, c, e, _, hK, hc0⟩ := Kd.C_get h z63 i h0 h1
 have hc : ∀ j u, c[j]? = some u → w.cell? (ad.add (i.toNat * 4 + j)) = some u := hc0
 obtain ⟨A3, c3, rfl, l3, g3⟩ := k63_open hK
 exact ⟨ad, A3, c3, e, hc 0 _ rfl, by rw [← add_field _ _ 1 (by omega)]; exact hc 1 _ rfl, by rw [← add_field _ _ 2 (by omega)]; exact hc 2 _ rfl, by rw [← add_field _ _ 3 (by omega)]; exact hc 3 _ rfl, l3, g3⟩

structure S25 where
 f0 : Int
 f1 : Int
 f2 : Int
def k25 : Kd S25 := Kd.iso (Kd.pair (Kd.int .i64) (Kd.pair (Kd.int .i64) (Kd.int .i64))) (fun x : S25 => (x.f0, x.f1, x.f2))
theorem k25_open {w : World} {x : S25} {cs : List Value} (h : k25.K w x cs) : cs = [.int .i64 x.f0, .int .i64 x.f1, .int .i64 x.f2] := by
 obtain ⟨_, _, rfl, rfl, ⟨_, _, rfl, rfl, rfl⟩⟩ := h
 exact rfl
structure S39 where
 f0 : Int
 f1 : (List Int)
def k39 : Kd S39 := Kd.iso (Kd.pair (Kd.int .i64) (Kd.slice 3 (Kd.int .i64))) (fun x : S39 => (x.f0, x.f1))
theorem k39_open {w : World} {x : S39} {cs : List Value} (h : k39.K w x cs) : ∃ A1 c1, cs = [.int .i64 x.f0, .slice A1 x.f1.length c1] ∧ x.f1.length ≤ c1 ∧ (Kd.int .i64).C w A1 x.f1.length x.f1 := by
 obtain ⟨_, _, rfl, rfl, ⟨A1, c1, rfl, l1, g1⟩⟩ := h
 exact ⟨A1, c1, rfl, l1, g1⟩
class Up (W W' : World) : Prop where
 h : Below W.heap.size W W'
instance (W : World) : Up W W := ⟨Below.refl _ _⟩
instance (W W' : World) (o : Obj) [u : Up W W'] : Up W (W'.alloc o) := ⟨below_alloc u.h o⟩
instance (W W' : World) [u : Up W W'] : Up W W'.drew := ⟨below_drew1 u.h⟩
instance (W W' : World) (n : Nat) [u : Up W W'] : Up W (W'.drewN n) := ⟨pw_below_drewN u.h n⟩
theorem bel {w W W' : World} (h : Below w.heap.size w W) [u : Up W W'] : Below w.heap.size w W' := h.trans (u.h.mono h.size)
theorem rup {α : Type} {d : Kd α} {e base : Nat} {ok : Nat → Prop} {v : Value} {xs : List α} {W W' : World} (h : d.R e W base ok v xs) [u : Up W W'] : d.R e W' base ok v xs := Kd.R_below h u.h
theorem cup {α : Type} {d : Kd α} {A : Option Addr} {n : Nat} {xs : List α} {W W' : World} (h : d.C W A n xs) [u : Up W W'] : d.C W' A n xs := Kd.C_below h u.h
theorem bup {W W' : World} {g : Nat} {o : Obj} (h : W.heap[g]? = some o) [u : Up W W'] : W'.heap[g]? = some o := (u.h.block g (blk_lt h)).trans h
theorem cel {w W : World} {a : Addr} {v : Value} (h : Below w.heap.size w W) (hc : w.cell? a = some v) : W.cell? a = some v := (h.cell (World.block_lt_of_cell? w _ hc)).trans hc

abbrev Ae_q := @Aside0.mk
abbrev sA_q := @List.setIfInBounds_toArray
abbrev sZ_q := @List.set_cons_zero
abbrev sS_q := @List.set_cons_succ
abbrev pB_q := @pw_below_drewN
abbrev bS_q := @below_set
abbrev oD_q := @of_decide_eq_true
abbrev bD_q := @below_drew1
abbrev bA_q := @below_alloc
abbrev bC_q := @blk_cell
abbrev oB_q := @Option.bind_eq_some_iff
abbrev lT_q := @List.length_take
abbrev lD_q := @List.length_drop
abbrev lM_q := @List.map_toArray
abbrev lC_q := @List.map_cons
abbrev lN_q := @List.map_nil
abbrev bF_q := @blk_frozen
abbrev dT_q := @decide_eq_true
abbrev wD_q := @World.drewN_drewN
abbrev oS_q := @Option.bind_some
abbrev bT_q := @below_step
abbrev bZ_q := @below_size
abbrev bN_q := @blk_drewN
abbrev bL_q := @blk_alloc
abbrev bW_q := @blk_drew
abbrev eS_q := @errW_some
abbrev eN_q := @errW_none
abbrev cN_q := @Kd.C_drewN
abbrev cA_q := @Kd.C_alloc
abbrev cD_q := @Kd.C_drew
abbrev rN_q := @Kd.R_drewN
abbrev rA_q := @Kd.R_alloc
abbrev rD_q := @Kd.R_drew
abbrev rM_q := @Kd.R_mono
abbrev bB_q := @blk_below
abbrev gC_q := @gate_callee
abbrev gD_q := @gate_dst
abbrev bE_q := @box_event
abbrev gL_q := @goesL_
abbrev oI_q := @Option.some.inj
abbrev rR_q := @Kd.R_reads'
abbrev aI_q := @Kd.at_int
abbrev tN_q := @Kd.S_drewN
abbrev tA_q := @Kd.S_alloc
abbrev tD_q := @Kd.S_drew
abbrev rE_q := @Kd.R_elder'
abbrev rL_q := @Kd.R_lower
abbrev rB_q := @Kd.R_base
abbrev rT_q := @Kd.R_lt
abbrev rW_q := @Kd.R_new'
abbrev rF_q := @Kd.R_after
abbrev fM_q := @Bool.eq_false_iff
abbrev fN_q := @beq_eq_false_iff_ne
abbrev cB_q := @Kd.C_below
abbrev nR_q := @Nat.le_refl
abbrev bR_q := @Below.refl
abbrev dF_q := @decide_eq_false
abbrev oE_q := @Option.some.injEq
abbrev nE_q := @bne_eq_false_iff_eq
abbrev nA_q := @Nat.add_assoc
abbrev rP_q := @Kd.R_append_rows_step
abbrev rS_q := @Kd.R_slice
abbrev nL_q := @Nat.ne_of_lt
abbrev nG_q := @Nat.ne_of_gt
abbrev rO_q := @Kd.R_below
abbrev nI_q := @bne_iff_ne
abbrev rI_q := @Kd.R_lit_step
abbrev nT_q := @Nat.le_trans
abbrev bG_q := @blk_grown
abbrev pE_q := @Prod.mk.injEq
abbrev kI_q := Kd.int .i64
abbrev cI (w : World) (g j : Nat) (x : Int) : Prop := w.cell? ⟨g, j, none⟩ = some (.int .i64 x)
theorem cZ {w : World} {g : Nat} {t : TypeId} {cs : Array Value} (h : Aside0 (w.heap[g]? = some (.cells cs t (0, 0)))) (j : Nat) {v : Value} (e : cs[j]? = some v) : w.cell? ⟨g, j, none⟩ = some v := (blk_cell h.out j).trans e
theorem pS_q : (∀ (a : Act) (N : Nat) (v : Value), Act.put a (some N) v = { a with tmps := a.tmps.setIfInBounds N v }) ∧ (∀ (l : List Value) (i : Nat) (v : Value), l.toArray.setIfInBounds i v = (l.set i v).toArray) ∧ (∀ (x : Value) (l : List Value) (v : Value), (x :: l).set 0 v = v :: l) ∧ (∀ (x : Value) (l : List Value) (n : Nat) (v : Value), (x :: l).set (n + 1) v = x :: l.set n v) ∧ (∀ n : Int, IntKind.i64.wrap n = Go.RowKit.wrap64 n) ∧ (∀ n : Int, IntKind.i32.wrap n = Go.RowKit.wrap32 n) :=
  ⟨fun _ _ _ => rfl, fun l i v => List.setIfInBounds_toArray l i v, fun _ _ _ => rfl, fun _ _ _ _ => rfl, i64_w, i32_w⟩

section
variable {P : Program} {md : Region.Mode} {ops : Array Oper} {Q : Exit → Act → World → Prop} {S : World → Prop} {ds : List Nat} {T : Bool × List (List Nat × List Nat)}
theorem pI {oi : Oper} {v : Value} {fuel : Nat} {l : Array Bool} {a : Act} {w : World} (hT : Aside0 (rtab md ops = T)) (i N : Nat) (hi : ops[i]? = some oi) (hN : oi.dst = some N) (hc : anyT T l.toList (l.toList.set i true) i = true)
    (hQ : ∀ c a w, Q (.panic c) (a.put oi.dst v) w → Q (.panic c) a w) (hw : Region.wanted oi (yielded ops a.tmps) = true) (hy : ∀ w, (execOp a.eval oi).run P w = .ok (.value v) w) {a' : Act} (ha : a.put (some N) v = a')
    (h : wpAnyLast P md ops Q S ds fuel (l.setIfInBounds i true) a' w) : wpAnyLast P md ops Q S ds (fuel + 1) l a w := pure_ (l.setIfInBounds i true) hi hN (any_of hT.out (by rw [Array.toList_setIfInBounds]; exact hc)) hQ (.inl ⟨hw, hy⟩) ha h
theorem pU {oi : Oper} {fuel : Nat} {l : Array Bool} {a : Act} {w : World} (hT : Aside0 (rtab md ops = T)) (i N : Nat) (hi : ops[i]? = some oi) (hN : oi.dst = some N) (hc : anyT T l.toList (l.toList.set i true) i = true)
    (hQ : ∀ c a w, Q (.panic c) (a.put oi.dst undef) w → Q (.panic c) a w) (hw : Region.wanted oi (yielded ops a.tmps) = false) {a' : Act} (ha : a.put (some N) undef = a')
    (h : wpAnyLast P md ops Q S ds fuel (l.setIfInBounds i true) a' w) : wpAnyLast P md ops Q S ds (fuel + 1) l a w := pure_ (l.setIfInBounds i true) hi hN (any_of hT.out (by rw [Array.toList_setIfInBounds]; exact hc)) hQ (.inr ⟨hw, rfl⟩) ha h
end

section
variable {P : Program} {md : Region.Mode} {ops : Array Oper} {Q : Exit → Act → World → Prop} {S : World → Prop} {ds : List Nat} {T : Bool × List (List Nat × List Nat)}
theorem pJ {oi : Oper} {v : Value} {fuel : Nat} {l : Array Bool} {a : Act} {w : World} (hT : Aside0 (rtab md ops = T)) (i N : Nat) (hi : ops[i]? = some oi) (hN : oi.dst = some N) {a' : Act}
    (h : wpAnyLast P md ops Q S ds fuel (l.setIfInBounds i true) a' w) (hc : anyT T l.toList (l.toList.set i true) i = true := by kernel_rfl) (hQ : ∀ c a w, Q (.panic c) (a.put oi.dst v) w → Q (.panic c) a w := by exact fun _ _ _ h => h)
    (hw : Region.wanted oi (yielded ops a.tmps) = true := by rfl) (hy : ∀ w, (execOp a.eval oi).run P w = .ok (.value v) w := by (intro w'; go_simp; with_reducible rfl)) (ha : a.put (some N) v = a' := by (simp only [pS_q]; rfl)) : wpAnyLast P md ops Q S ds (fuel + 1) l a w := pI hT i N hi hN hc hQ hw hy ha h
theorem pV {oi : Oper} {fuel : Nat} {l : Array Bool} {a : Act} {w : World} (hT : Aside0 (rtab md ops = T)) (i N : Nat) (hi : ops[i]? = some oi) (hN : oi.dst = some N) {a' : Act}
    (h : wpAnyLast P md ops Q S ds fuel (l.setIfInBounds i true) a' w) (hc : anyT T l.toList (l.toList.set i true) i = true := by kernel_rfl) (hQ : ∀ c a w, Q (.panic c) (a.put oi.dst undef) w → Q (.panic c) a w := by exact fun _ _ _ h => h)
    (hw : Region.wanted oi (yielded ops a.tmps) = false := by rfl) (ha : a.put (some N) undef = a' := by (simp only [pS_q]; rfl)) : wpAnyLast P md ops Q S ds (fuel + 1) l a w := pU hT i N hi hN hc hQ hw ha h
theorem nJ_q {fuel : Nat} {l : Array Bool} {a a' : Act} {w : World} (h : wpAnyLast P md ops Q S ds fuel l a' w) (e : a = a' := by (show Act.put _ (some _) _ = _; simp only [pS_q]; rfl)) : wpAnyLast P md ops Q S ds fuel l a w := norm_ e h
end

theorem m0_q {P : Prop} (h : P := by (repeat (with_reducible first | exact HB.out | apply bA_q | apply pB_q | apply bD_q | refine bS_q ?_ GE464.out | refine bS_q ?_ GE465.out))) : P := h
theorem m1_q {P : Prop} (h : P := by ((try simp only [lM_q, lC_q, lN_q]); first | done | rfl | (simp only [lD_q, lT_q]; rfl))) : P := h
theorem m2_q {P : Prop} (h : P := by (repeat (with_reducible first | exact HB.out | apply bA_q | apply pB_q | apply bD_q | refine bS_q ?_ GE497.out | refine bS_q ?_ GE498.out | refine bS_q ?_ GE525.out))) : P := h
theorem m3_q {P : Prop} (h : P := by (repeat (with_reducible first | exact HB.out | apply bA_q | apply pB_q | apply bD_q | refine bS_q ?_ GE352.out))) : P := h
theorem m4_q {P : Prop} (h : P := by (first | rfl | (simp [eN_q, eS_q] <;> rfl) | (simp [*, eN_q, eS_q] <;> rfl))) : P := h
theorem m5_q {P : Prop} (h : P := by (first | rfl | (simp; done) | (simp [*]; done))) : P := h
theorem m6_q {P : Prop} (h : P := by (first | (go_simp; done) | (go_simp; rfl))) : P := h
theorem m7_q {P : Prop} (h : P := by kernel_rfl) : P := h
theorem m8_q {P : Prop} (h : P := by (repeat (with_reducible first | exact HB.out | apply bA_q | apply pB_q | apply bD_q | refine bS_q ?_ GE497.out | refine bS_q ?_ GE498.out))) : P := h
theorem m9_q {P : Prop} (h : P := by ((with_reducible repeat (first | refine bN_q ?_ _ | refine bW_q ?_ | refine bL_q ?_ _)); refine blk_put (cs := #[.int .i64 ((rd_T63 l0 x3_1).f0), .int .i64 ((rd_T63 l0 x3_1).f1), .int .i64 ((rd_T63 l0 x3_1).f2), .slice none 0 0]) ?_ 3 _ rfl; (with_reducible repeat (first | refine bN_q ?_ _ | refine bW_q ?_ | refine bL_q ?_ _)); refine blk_put (cs := #[.int .i64 ((rd_T63 l0 x3_1).f0), .int .i64 ((rd_T63 l0 x3_1).f1), .int .i64 0, .slice none 0 0]) ?_ 2 _ rfl; (with_reducible repeat (first | refine bN_q ?_ _ | refine bW_q ?_ | refine bL_q ?_ _)); refine blk_put (cs := #[.int .i64 ((rd_T63 l0 x3_1).f0), .int .i64 0, .int .i64 0, .slice none 0 0]) ?_ 1 _ rfl; (with_reducible repeat (first | refine bN_q ?_ _ | refine bW_q ?_ | refine bL_q ?_ _)); refine blk_put (cs := #[.int .i64 0, .int .i64 0, .int .i64 0, .slice none 0 0]) ?_ 0 _ rfl; (with_reducible repeat (first | refine bN_q ?_ _ | refine bW_q ?_ | refine bL_q ?_ _)); exact BK106.out)) : P := h
theorem m10_q {P : Prop} (h : P := by ((with_reducible repeat (first | refine bN_q ?_ _ | refine bW_q ?_ | refine bL_q ?_ _)); refine blk_put (cs := #[.int .i64 ((rd_T63 l0 x9_1).f0), .int .i64 ((rd_T63 l0 x9_1).f1), .int .i64 ((rd_T63 l0 x9_1).f2), .slice none 0 0]) ?_ 3 _ rfl; (with_reducible repeat (first | refine bN_q ?_ _ | refine bW_q ?_ | refine bL_q ?_ _)); refine blk_put (cs := #[.int .i64 ((rd_T63 l0 x9_1).f0), .int .i64 ((rd_T63 l0 x9_1).f1), .int .i64 0, .slice none 0 0]) ?_ 2 _ rfl; (with_reducible repeat (first | refine bN_q ?_ _ | refine bW_q ?_ | refine bL_q ?_ _)); refine blk_put (cs := #[.int .i64 ((rd_T63 l0 x9_1).f0), .int .i64 0, .int .i64 0, .slice none 0 0]) ?_ 1 _ rfl; (with_reducible repeat (first | refine bN_q ?_ _ | refine bW_q ?_ | refine bL_q ?_ _)); refine blk_put (cs := #[.int .i64 0, .int .i64 0, .int .i64 0, .slice none 0 0]) ?_ 0 _ rfl; (with_reducible repeat (first | refine bN_q ?_ _ | refine bW_q ?_ | refine bL_q ?_ _)); exact BK161.out)) : P := h
theorem m11_q {P : Prop} (h : P := by (repeat (with_reducible first | exact HB.out | apply bA_q | apply pB_q | apply bD_q | refine bS_q ?_ GE338.out | refine bS_q ?_ GE340.out))) : P := h
theorem m12_q {P : Prop} (h : P := by (repeat (with_reducible first | exact HB.out | apply bA_q | apply pB_q | apply bD_q | refine bS_q ?_ GE443.out | refine bS_q ?_ GE444.out))) : P := h
theorem m13_q {P : Prop} (h : P := by ((with_reducible repeat (first | apply tA_q | apply tN_q | apply tD_q)); exact HO_12.out)) : P := h
theorem m14_q {P : Prop} (h : P := by (repeat (with_reducible first | exact HB.out | apply bA_q | apply pB_q | apply bD_q | refine bS_q ?_ GE282.out))) : P := h
theorem m15_q {P : Prop} (h : P := by ((with_reducible repeat (first | refine bN_q ?_ _ | refine bW_q ?_ | refine bL_q ?_ _)); refine blk_put (cs := #[.int .i64 ((rd_T63 l0 x15_1).f0), .int .i64 ((rd_T63 l0 x15_1).f1), .int .i64 ((rd_T63 l0 x15_1).f2), .slice none 0 0]) ?_ 3 _ rfl; (with_reducible repeat (first | refine bN_q ?_ _ | refine bW_q ?_ | refine bL_q ?_ _)); refine blk_put (cs := #[.int .i64 ((rd_T63 l0 x15_1).f0), .int .i64 ((rd_T63 l0 x15_1).f1), .int .i64 0, .slice none 0 0]) ?_ 2 _ rfl; (with_reducible repeat (first | refine bN_q ?_ _ | refine bW_q ?_ | refine bL_q ?_ _)); refine blk_put (cs := #[.int .i64 ((rd_T63 l0 x15_1).f0), .int .i64 0, .int .i64 0, .slice none 0 0]) ?_ 1 _ rfl; (with_reducible repeat (first | refine bN_q ?_ _ | refine bW_q ?_ | refine bL_q ?_ _)); refine blk_put (cs := #[.int .i64 0, .int .i64 0, .int .i64 0, .slice none 0 0]) ?_ 0 _ rfl; (with_reducible repeat (first | refine bN_q ?_ _ | refine bW_q ?_ | refine bL_q ?_ _)); exact BK333.out)) : P := h
theorem m16_q {P : Prop} (h : P := by ((with_reducible repeat (first | refine bN_q ?_ _ | refine bW_q ?_ | refine bL_q ?_ _)); refine blk_put (cs := #[.int .i64 ((rd_T63 l0 x27_2).f0), .int .i64 ((rd_T63 l0 x27_2).f1), .int .i64 ((rd_T63 l0 x27_2).f2), .slice none 0 0]) ?_ 3 _ rfl; (with_reducible repeat (first | refine bN_q ?_ _ | refine bW_q ?_ | refine bL_q ?_ _)); refine blk_put (cs := #[.int .i64 ((rd_T63 l0 x27_2).f0), .int .i64 ((rd_T63 l0 x27_2).f1), .int .i64 0, .slice none 0 0]) ?_ 2 _ rfl; (with_reducible repeat (first | refine bN_q ?_ _ | refine bW_q ?_ | refine bL_q ?_ _)); refine blk_put (cs := #[.int .i64 ((rd_T63 l0 x27_2).f0), .int .i64 0, .int .i64 0, .slice none 0 0]) ?_ 1 _ rfl; (with_reducible repeat (first | refine bN_q ?_ _ | refine bW_q ?_ | refine bL_q ?_ _)); refine blk_put (cs := #[.int .i64 0, .int .i64 0, .int .i64 0, .slice none 0 0]) ?_ 0 _ rfl; (with_reducible repeat (first | refine bN_q ?_ _ | refine bW_q ?_ | refine bL_q ?_ _)); exact BK451.out)) : P := h
theorem m17_q {P : Prop} (h : P := by (repeat (with_reducible first | exact HB.out | apply bA_q | apply pB_q | apply bD_q | refine bS_q ?_ GE192.out))) : P := h
theorem m18_q {P : Prop} (h : P := by (repeat (with_reducible first | exact HB.out | apply bA_q | apply pB_q | apply bD_q | refine bS_q ?_ GE457.out))) : P := h
theorem m19_q {P : Prop} (h : P := by ((with_reducible repeat (first | apply rA_q | apply rN_q | apply rD_q)); exact rM_q HO480.out (fun _ hk => ⟨hk.2, hk.1⟩))) : P := h
theorem m20_q {P : Prop} (h : P := by exact cup (cB_q HR0.out HB.out)) : P := h
theorem m21_q {P : Prop} (h : P := by (repeat (with_reducible first | exact HB.out | apply bA_q | apply pB_q | apply bD_q | refine bS_q ?_ GE497.out))) : P := h
theorem m22_q {P : Prop} (h : P := by (repeat (with_reducible first | exact HB.out | apply bA_q | apply pB_q | apply bD_q | refine bS_q ?_ GE443.out | refine bS_q ?_ GE444.out | refine bS_q ?_ GE451.out))) : P := h
theorem m23_q {P : Prop} (h : P := by (repeat (with_reducible first | exact HB.out | apply bA_q | apply pB_q | apply bD_q | refine bS_q ?_ GE338.out))) : P := h
theorem m24_q {P : Prop} (h : P := by ((with_reducible repeat (first | refine bN_q ?_ _ | refine bW_q ?_ | refine bL_q ?_ _)); refine blk_far ?_ NB443_451.out _; (with_reducible repeat (first | refine bN_q ?_ _ | refine bW_q ?_ | refine bL_q ?_ _)); refine blk_far ?_ NB443_451.out _; (with_reducible repeat (first | refine bN_q ?_ _ | refine bW_q ?_ | refine bL_q ?_ _)); refine blk_far ?_ NB443_451.out _; (with_reducible repeat (first | refine bN_q ?_ _ | refine bW_q ?_ | refine bL_q ?_ _)); refine blk_far ?_ NB443_451.out _; (with_reducible repeat (first | refine bN_q ?_ _ | refine bW_q ?_ | refine bL_q ?_ _)); exact BK443.out)) : P := h
theorem m25_q {P : Prop} (h : P := by ((with_reducible repeat (first | refine bN_q ?_ _ | refine bW_q ?_ | refine bL_q ?_ _)); refine blk_far ?_ NB444_451.out _; (with_reducible repeat (first | refine bN_q ?_ _ | refine bW_q ?_ | refine bL_q ?_ _)); refine blk_far ?_ NB444_451.out _; (with_reducible repeat (first | refine bN_q ?_ _ | refine bW_q ?_ | refine bL_q ?_ _)); refine blk_far ?_ NB444_451.out _; (with_reducible repeat (first | refine bN_q ?_ _ | refine bW_q ?_ | refine bL_q ?_ _)); refine blk_far ?_ NB444_451.out _; (with_reducible repeat (first | refine bN_q ?_ _ | refine bW_q ?_ | refine bL_q ?_ _)); exact BK444.out)) : P := h
theorem m26_q {P : Prop} (h : P := by (repeat (with_reducible first | exact HB.out | apply bA_q | apply pB_q | apply bD_q | refine bS_q ?_ GE106.out))) : P := h
theorem m27_q {P : Prop} (h : P := by (repeat (with_reducible first | exact HB.out | apply bA_q | apply pB_q | apply bD_q | refine bS_q ?_ GE161.out))) : P := h
theorem m28_q {P : Prop} (h : P := by exact cup (cB_q HR2.out HB.out)) : P := h
theorem m29_q {P : Prop} (h : P := by ((with_reducible repeat (first | apply rA_q | apply rN_q | apply rD_q)); exact rM_q HO483.out (fun _ hk => ⟨hk.2, hk.1⟩))) : P := h
theorem m30_q {P : Prop} (h : P := by ((with_reducible repeat (first | apply rA_q | apply rN_q | apply rD_q)); exact rM_q HO_10.out (fun _ hk => ⟨hk.2, hk.1⟩))) : P := h
theorem m31_q {P : Prop} (h : P := by ((with_reducible repeat (first | apply tA_q | apply tN_q | apply tD_q)); exact HO539.out)) : P := h
theorem m32_q {P : Prop} (h : P := by exact cup (cB_q HR1_1.out HB.out)) : P := h
theorem m33_q {P : Prop} (h : P := by (repeat (with_reducible first | exact HB.out | apply bA_q | apply pB_q | apply bD_q | refine bS_q ?_ GE175.out))) : P := h
theorem m34_q {P : Prop} (h : P := by (repeat (with_reducible first | exact HB.out | apply bA_q | apply pB_q | apply bD_q | refine bS_q ?_ GE378.out))) : P := h
theorem m35_q {P : Prop} (h : P := by (repeat (with_reducible first | exact HB.out | apply bA_q | apply pB_q | apply bD_q | refine bS_q ?_ GE121.out))) : P := h
theorem m36_q {P : Prop} (h : P := by exact fun W x_ b_ hW_ hx_ => impl_mayO.calls a3_0 a3_1 a3_2 _ _ _ _ A450_3 c450_3 gb444 gb451 x_ b_ W (bB_q (g := gb444) (o := .cells #[.int .i64 a3_0, .int .i64 a3_1, .int .i64 a3_2] 31 (0, 0)) (bup BK444.out) hW_) (bB_q (g := gb451) (o := .cells #[.int .i64 ((rd_T63 l0 x27_2).f0), .int .i64 ((rd_T63 l0 x27_2).f1), .int .i64 ((rd_T63 l0 x27_2).f2), .slice A450_3 ((rd_T63 l0 x27_2).f3).length c450_3] 63 (0, 0)) (bup BK451.out) hW_) (cB_q (cup (cB_q HR450_3.out HB.out)) hW_) HC450_3.out hx_) : P := h
theorem m37_q {P : Prop} (h : P := by (repeat (first | exact Drawn0.refl _ | apply Drawn0.step))) : P := h
theorem m38_q {P : Prop} (h : P := by exact (fun k_ hk => ⟨Kd.fresh' (rT_q (rup HO_10.out)) k_ hk, Kd.fresh' (rT_q (rup HO483.out)) k_ hk⟩)) : P := h
theorem m39_q {P : Prop} (h : P := by ((with_reducible repeat (first | apply rA_q | apply rN_q | apply rD_q)); exact rM_q HO360.out (fun _ hk => hk.2))) : P := h
theorem m40_q {P : Prop} (h : P := by ((with_reducible repeat (first | apply rA_q | apply rN_q | apply rD_q)); exact rM_q HO363.out (fun _ hk => hk.2))) : P := h
theorem m41_q {P : Prop} (h : P := by (repeat (with_reducible first | exact HB.out | apply bA_q | apply pB_q | apply bD_q | refine bS_q ?_ GE439.out))) : P := h
theorem m42_q {P : Prop} (h : P := by exact (Reps.one (show Kd.M kI_q _ _ _ x12_3 [.int .i64 x12_3] from rfl) (Reps.none _ _))) : P := h
theorem m43_q {P : Prop} (h : P := by ((with_reducible repeat (first | apply tA_q | apply tN_q | apply tD_q)); exact HO503.out)) : P := h
theorem m44_q {P : Prop} (h : P := by ((try simp only [hl526001_78]); (with_reducible repeat (first | apply rA_q | apply rN_q | apply rD_q)); exact rM_q HO_526001.out (fun _ hk => by first | exact hk.1.1.1.2 | exact hk.2 | exact hk.1.2 | exact hk.1.1.2 | exact hk.1.1.1.2 | exact hk.1.1.1.1.2 | exact hk.1.1.1.1.1.2 | exact hk.1 | exact hk.1.1 | exact hk.1.1.1 | exact hk.1.1.1.1 | exact hk.1.1.1.1.1 | exact hk.2.1 | exact hk.2.2))) : P := h
theorem m45_q {P : Prop} (h : P := by ((try simp only [hl526001_78]); (with_reducible repeat (first | apply rA_q | apply rN_q | apply rD_q)); exact rM_q HO_15.out (fun _ hk => by first | exact hk.1.1.1.2 | exact hk.2 | exact hk.1.2 | exact hk.1.1.2 | exact hk.1.1.1.2 | exact hk.1.1.1.1.2 | exact hk.1.1.1.1.1.2 | exact hk.1 | exact hk.1.1 | exact hk.1.1.1 | exact hk.1.1.1.1 | exact hk.1.1.1.1.1 | exact hk.2.1 | exact hk.2.2))) : P := h
theorem m46_q {P : Prop} (h : P := by (repeat (with_reducible first | exact HB.out | apply bA_q | apply pB_q | apply bD_q | refine bS_q ?_ GE333.out))) : P := h
theorem m47_q {P : Prop} (h : P := by simp only [putAll, Act.put, sA_q, sZ_q, sS_q]) : P := h
theorem m48_q {P : Prop} (h : P := by ((with_reducible repeat (first | apply rA_q | apply rN_q | apply rD_q)); exact rM_q HO_10.out (fun _ hk => ⟨hk.1.2, hk.2⟩))) : P := h
theorem m49_q {P : Prop} (h : P := by ((with_reducible repeat (first | apply rA_q | apply rN_q | apply rD_q)); exact rM_q HO477.out (fun _ hk => ⟨hk.1.2, hk.2⟩))) : P := h
theorem m50_q {P : Prop} (h : P := by ((with_reducible repeat (first | apply rA_q | apply rN_q | apply rD_q)); exact rM_q HO483.out (fun _ hk => ⟨hk.1.2, hk.2⟩))) : P := h
theorem m51_q {P : Prop} (h : P := by exact (Reps.one (show Kd.M kI_q _ _ _ x12_1 [.int .i64 x12_1] from rfl) (Reps.none _ _))) : P := h
theorem m52_q {P : Prop} (h : P := by (repeat (with_reducible first | exact HB.out | apply bA_q | apply pB_q | apply bD_q | refine bS_q ?_ GE192.out | refine bS_q ?_ GE193.out))) : P := h
theorem m53_q {P : Prop} (h : P := by (repeat (with_reducible first | exact HB.out | apply bA_q | apply pB_q | apply bD_q | refine bS_q ?_ GE140.out | refine bS_q ?_ GE141.out | refine bS_q ?_ GE142.out))) : P := h
theorem m54_q {P : Prop} (h : P := by (repeat (with_reducible first | exact HB.out | apply bA_q | apply pB_q | apply bD_q | refine bS_q ?_ GE323.out | refine bS_q ?_ GE324.out | refine bS_q ?_ GE325.out))) : P := h
theorem m55_q {P : Prop} (h : P := by (repeat (first | exact (Kd.S_reads' HO_12.out).2.2 | (with_reducible refine cA_q ?_ _) | (with_reducible refine cN_q ?_ _) | (with_reducible refine cD_q ?_)))) : P := h
theorem m56_q {P : Prop} (h : P := by (repeat (first | exact (Kd.S_reads' HO539.out).2.2 | (with_reducible refine cA_q ?_ _) | (with_reducible refine cN_q ?_ _) | (with_reducible refine cD_q ?_)))) : P := h
theorem m57_q {P : Prop} (h : P := by exact HC0.out) : P := h
theorem m58_q {P : Prop} (h : P := by (repeat (with_reducible first | exact HB.out | apply bA_q | apply pB_q | apply bD_q | refine bS_q ?_ GE257.out))) : P := h
theorem m59_q {P : Prop} (h : P := by (repeat (with_reducible first | exact HK.out | apply Kept.alloc | apply Kept.drewN | apply Kept.drew))) : P := h
theorem m60_q {P : Prop} (h : P := by ((try simp only [lM_q, lC_q, lN_q]); first | done | (rw [show t556.length = t532.length from (rR_q HO_15.out).1.symm] <;> rfl) | rfl | (simp only [lD_q, lT_q]; rfl))) : P := h
theorem m61_q {P : Prop} (h : P := by ((with_reducible repeat (first | apply rA_q | apply rN_q | apply rD_q)); exact rM_q HO363.out (fun _ hk => ⟨trivial, hk⟩))) : P := h
theorem m62_q {P : Prop} (h : P := by exact cup (rR_q HO_10.out).2.2) : P := h
theorem m63_q {P : Prop} (h : P := by exact HC2.out) : P := h
theorem m64_q {P : Prop} (h : P := by exact HC1_1.out) : P := h
theorem m65_q {P : Prop} (h : P := by (first | rfl | (simp [eN_q, eS_q] <;> rfl) | (simp only [← hji4]; first | rfl | (simp [eN_q, eS_q] <;> rfl)) | (simp [*, eN_q, eS_q] <;> rfl))) : P := h
theorem m66_q {P : Prop} (h : P := by (repeat (with_reducible first | exact HB.out | apply bA_q | apply pB_q | apply bD_q | refine bS_q ?_ GE140.out | refine bS_q ?_ GE141.out))) : P := h
theorem m67_q {P : Prop} (h : P := by (repeat (with_reducible first | exact HB.out | apply bA_q | apply pB_q | apply bD_q | refine bS_q ?_ GE157.out | refine bS_q ?_ GE158.out))) : P := h
theorem m68_q {P : Prop} (h : P := by (repeat (with_reducible first | exact HB.out | apply bA_q | apply pB_q | apply bD_q | refine bS_q ?_ GE175.out | refine bS_q ?_ GE176.out))) : P := h
theorem m69_q {P : Prop} (h : P := by (repeat (with_reducible first | exact HB.out | apply bA_q | apply pB_q | apply bD_q | refine bS_q ?_ GE323.out | refine bS_q ?_ GE324.out))) : P := h
theorem m70_q {P : Prop} (h : P := by (repeat (with_reducible first | exact HB.out | apply bA_q | apply pB_q | apply bD_q | refine bS_q ?_ GE378.out | refine bS_q ?_ GE379.out))) : P := h
theorem m71_q {P : Prop} (h : P := by (repeat (with_reducible first | exact HB.out | apply bA_q | apply pB_q | apply bD_q | refine bS_q ?_ GE121.out | refine bS_q ?_ GE122.out))) : P := h
theorem m72_q {P : Prop} (h : P := by ((with_reducible repeat (first | apply rA_q | apply rN_q | apply rD_q)); exact rM_q HO_526001.out (fun _ hk => ⟨hk.1, hk.2.2.1⟩))) : P := h
theorem m73_q {P : Prop} (h : P := by ((with_reducible repeat (first | apply rA_q | apply rN_q | apply rD_q)); exact rM_q HO_10.out (fun _ hk => ⟨hk.2.1, hk.2.2.1⟩))) : P := h
theorem m74_q {P : Prop} (h : P := by (have := HK1.out; omega)) : P := h
theorem m75_q {P : Prop} (h : P := by ((with_reducible repeat (first | apply rA_q | apply rN_q | apply rD_q)); exact rM_q HO_15.out (fun _ hk => ⟨hk.1, hk.2.2.1⟩))) : P := h
theorem m76_q {P : Prop} (h : P := by ((with_reducible repeat (first | apply rA_q | apply rN_q | apply rD_q)); exact rM_q HO483.out (fun _ hk => ⟨hk.2, hk.1.2⟩))) : P := h
theorem m77_q {P : Prop} (h : P := by ((with_reducible repeat (first | apply rA_q | apply rN_q | apply rD_q)); exact rM_q HO_10.out (fun _ hk => ⟨hk.2, hk.1.2⟩))) : P := h
theorem m78_q {P : Prop} (h : P := by (have := HK1.out; first | omega | exact nR_q _)) : P := h
theorem m79_q {P : Prop} (h : P := by ((with_reducible repeat (first | apply tA_q | apply tN_q | apply tD_q)); exact HO520.out)) : P := h
theorem m80_q {P : Prop} (h : P := by ((with_reducible repeat (first | apply tA_q | apply tN_q | apply tD_q)); exact HO560.out)) : P := h
theorem m81_q {P : Prop} (h : P := by ((with_reducible repeat (first | apply rA_q | apply rN_q | apply rD_q)); exact rM_q HO477.out (fun _ hk => hk.2))) : P := h
theorem m82_q {P : Prop} (h : P := by (repeat (with_reducible first | exact HB.out | apply bA_q | apply pB_q | apply bD_q | refine bS_q ?_ GE140.out))) : P := h
theorem m83_q {P : Prop} (h : P := by (repeat (with_reducible first | exact HB.out | apply bA_q | apply pB_q | apply bD_q | refine bS_q ?_ GE157.out))) : P := h
theorem m84_q {P : Prop} (h : P := by (repeat (with_reducible first | exact HB.out | apply bA_q | apply pB_q | apply bD_q | refine bS_q ?_ GE171.out))) : P := h
theorem m85_q {P : Prop} (h : P := by (repeat (with_reducible first | exact HB.out | apply bA_q | apply pB_q | apply bD_q | refine bS_q ?_ GE323.out))) : P := h
theorem m86_q {P : Prop} (h : P := by (repeat (with_reducible first | exact HB.out | apply bA_q | apply pB_q | apply bD_q | refine bS_q ?_ GE443.out))) : P := h
theorem m87_q {P : Prop} (h : P := by (repeat (with_reducible first | exact HB.out | apply bA_q | apply pB_q | apply bD_q | refine bS_q ?_ GE117.out))) : P := h
theorem m88_q {P : Prop} (h : P := by (repeat (with_reducible first | exact HB.out | apply bA_q | apply pB_q | apply bD_q | refine bS_q ?_ GE464.out))) : P := h
theorem m89_q {P : Prop} (h : P := by ((with_reducible repeat (first | apply tA_q | apply tN_q | apply tD_q)); exact Kd.S_mono HO520.out (fun _ hk => ⟨hk.1.1.1.2, ⟨hk.1.2, ⟨hk.2, hk.1.1.2⟩⟩⟩))) : P := h
theorem m90_q {P : Prop} (h : P := by (repeat (with_reducible first | exact HK.out | apply Kept.alloc | apply Kept.drewN | apply Kept.drew | refine Kept.setCell ?_ (.inr GW381.out) _))) : P := h
theorem m91_q {P : Prop} (h : P := by (first | rfl | (simp [eN_q, eS_q] <;> rfl) | (simp only [← hji10]; first | rfl | (simp [eN_q, eS_q] <;> rfl)) | (simp [*, eN_q, eS_q] <;> rfl))) : P := h
theorem m92_q {P : Prop} (h : P := by (first | exact Kd.R_nil _ _ _ _ _ | exact Kd.N_nil _ _ _ _ _ | exact Kd.V_nil _ _ _ _ _ | exact Kd.Q_nil _ _ _ _ _ | exact Kd.S_nil _ _ _ _ _)) : P := h
theorem m93_q {P : Prop} (h : P := by (rw [show t556.length = t532.length from (rR_q HO_15.out).1.symm]; exact (rR_q HO_15.out).2.1)) : P := h
theorem m94_q {P : Prop} (h : P := by ((try simp only [hl526001_78]); (with_reducible repeat (first | refine bN_q ?_ _ | refine bW_q ?_ | refine bL_q ?_ _)); exact BK497.out)) : P := h
theorem m95_q {P : Prop} (h : P := by ((try simp only [hl526001_78]); (with_reducible repeat (first | refine bN_q ?_ _ | refine bW_q ?_ | refine bL_q ?_ _)); exact BK498.out)) : P := h
theorem m96_q {P : Prop} (h : P := by ((try simp only [hl526001_78]); (with_reducible repeat (first | refine bN_q ?_ _ | refine bW_q ?_ | refine bL_q ?_ _)); exact BK525.out)) : P := h
theorem m97_q {P : Prop} (h : P := by ((with_reducible repeat (first | apply rA_q | apply rN_q | apply rD_q)); exact rM_q HO516.out (fun _ hk => ⟨hk.1.2, ⟨hk.2, hk.1.1.2⟩⟩))) : P := h
theorem m98_q {P : Prop} (h : P := by ((with_reducible repeat (first | apply rA_q | apply rN_q | apply rD_q)); exact rM_q HO528.out (fun _ hk => ⟨hk.1.1.2, ⟨hk.2, hk.1.2⟩⟩))) : P := h
theorem m99_q {P : Prop} (h : P := by ((with_reducible repeat (first | apply rA_q | apply rN_q | apply rD_q)); exact rM_q HO534.out (fun _ hk => ⟨hk.1.1.2, ⟨hk.2, hk.1.2⟩⟩))) : P := h
theorem m100_q {P : Prop} (h : P := by ((with_reducible repeat (first | apply rA_q | apply rN_q | apply rD_q)); exact rM_q HO524.out (fun _ hk => ⟨hk.1.1.2, ⟨hk.1.2, hk.2⟩⟩))) : P := h
theorem m101_q {P : Prop} (h : P := by ((with_reducible repeat (first | apply tA_q | apply tN_q | apply tD_q)); exact HO_3.out)) : P := h
theorem m102_q {P : Prop} (h : P := by with_reducible repeat (first | exact HB.out | apply bA_q | apply pB_q | apply bD_q)) : P := h
theorem m103_q {P : Prop} (h : P := by (have := LMc36.out; omega)) : P := h
theorem m104_q {P : Prop} (h : P := by exact cup (rR_q HO_15.out).2.2) : P := h
theorem m105_q {P : Prop} (h : P := by exact (fun k_ hk => Kd.fresh' (rT_q (rup HO363.out)) k_ hk)) : P := h
theorem m106_q {P : Prop} (h : P := by (first | omega | exact nR_q _)) : P := h
theorem m107_q {P : Prop} (h : P := by (repeat (with_reducible first | exact HB.out | apply bA_q | apply pB_q | apply bD_q | refine bS_q ?_ GE101.out))) : P := h
theorem m108_q {P : Prop} (h : P := by (repeat (with_reducible first | exact HB.out | apply bA_q | apply pB_q | apply bD_q | refine bS_q ?_ GE255.out))) : P := h
theorem m109_q {P : Prop} (h : P := by (repeat (with_reducible first | exact HB.out | apply bA_q | apply pB_q | apply bD_q | refine bS_q ?_ GE269.out))) : P := h
theorem m110_q {P : Prop} (h : P := by (repeat (with_reducible first | exact HB.out | apply bA_q | apply pB_q | apply bD_q | refine bS_q ?_ GE381.out))) : P := h
theorem m111_q {P : Prop} (h : P := by exact (Reps.none _ _)) : P := h
theorem m112_q {P : Prop} (h : P := by exact (rR_q HO_10.out).2.1) : P := h
theorem m113_q {P : Prop} (h : P := by exact (fun k_ hk => Kd.fresh' (rT_q (rup HO_10.out)) k_ hk)) : P := h
theorem m114_q {P : Prop} (h : P := by (have := HK1.out; have := HJ3.out; have := HK3.out; omega)) : P := h
theorem m115_q {P : Prop} (h : P := by (have := HK1.out; have := HJ4.out; have := HK3.out; omega)) : P := h
theorem m116_q {P : Prop} (h : P := by (have := HJ4.out; have := HK2.out; have := HK3.out; omega)) : P := h
theorem m117_q {P : Prop} (h : P := by exact cup (cB_q HR473_3.out HB.out)) : P := h
theorem m118_q {P : Prop} (h : P := by (have := HJ30.out; first | omega | exact nR_q _)) : P := h
theorem m119_q {P : Prop} (h : P := by exact cup (cB_q HR0_3.out HB.out)) : P := h
theorem m120_q {P : Prop} (h : P := by exact cup (cB_q HR0_1.out HB.out)) : P := h
theorem m121_q {P : Prop} (h : P := by exact cup (cB_q HR357.out HB.out)) : P := h
theorem m122_q {P : Prop} (h : P := by exact (Kd.S_reads' HO_12.out).2.1) : P := h
theorem m123_q {P : Prop} (h : P := by exact (Kd.S_reads' HO539.out).2.1) : P := h
theorem m124_q {P : Prop} (h : P := by exact (rR_q HO_15.out).2.1) : P := h
theorem m125_q {P : Prop} (h : P := by (have := HK1.out; have := HJ10.out; omega)) : P := h
theorem m126_q {P : Prop} (h : P := by exact cup (rR_q HO363.out).2.2) : P := h
theorem m127_q {P : Prop} (h : P := by exact cup (rR_q HO366.out).2.2) : P := h
theorem m128_q {P : Prop} (h : P := by exact (bZ_q m0_q)) : P := h
end Go.Proofs.Ytfnpiacmlahegaa.PRp
