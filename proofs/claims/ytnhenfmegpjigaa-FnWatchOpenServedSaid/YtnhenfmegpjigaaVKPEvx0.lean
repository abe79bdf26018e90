import Derived.Test.YtnhenfmegpjigaaProg
import Derived.Below
import Derived.Deep.Draws
import Derived.Deep.AppendLies
import Derived.Maps.AppendAt
import Derived.OwnWalk
import Derived.Laws.BytesArg
import Derived.Laws.MakeOwn
import Derived.Laws.OwnMore
import Derived.Deep.OwnRows
import Derived.Tactics
import Derived.Lib.ConvBytes
import Derived.Laws.Slices
import Derived.WalkKit
import Derived.KernelRfl
import Derived.RowKit3
import Derived.Deep.LoopGhost
import Derived.Deep.QuietTactic
import Derived.BigQuiet
import Derived.WideLaws
import Derived.Deep.DeepCutAuto
import Derived.Deep.CutBlock
import Derived.Deep.RegionHeld3
import Derived.Laws.Rows
import Derived.Lib.AppendStr
import Derived.ArgAppend
import Derived.Laws.IdiomCopy
import Derived.OrdersHeld
import Derived.Laws.BitsLemmas
import Derived.RowKit
import Derived.Test.YtnhenfmegpjigaaVKWWords
import Derived.Test.YtnhenfmegpjigaaVKWLast
import Derived.Test.YtnhenfmegpjigaaVKWTab
import Derived.Test.YtnhenfmegpjigaaVKWFour
import Derived.Test.YtnhenfmegpjigaaVKWQPut
import Derived.Test.YtnhenfmegpjigaaVKWApart
import Derived.Test.YtnhenfmegpjigaaVKWArr
import Derived.Test.YtnhenfmegpjigaaVKWZeros
import Derived.Test.YtnhenfmegpjigaaVKWFoot
import Derived.Test.YtnhenfmegpjigaaVKWKept
import Derived.Test.YtnhenfmegpjigaaVKWShare
import Derived.Test.YtnhenfmegpjigaaVKWN
import Derived.Test.YtnhenfmegpjigaaVKWFootNe
import Derived.Test.YtnhenfmegpjigaaVKWAt
import Derived.Test.YtnhenfmegpjigaaVKWEqStruct
import Derived.Test.YtnhenfmegpjigaaVKWRepsOne
import Derived.Test.YtnhenfmegpjigaaVKWInv
import Derived.Test.YtnhenfmegpjigaaVKWInvWords
import Derived.Test.YtnhenfmegpjigaaVKWGuard
import Derived.Test.YtnhenfmegpjigaaVKWNEv
import Derived.Test.YtnhenfmegpjigaaVKWMore
namespace Go.Proofs.Ytnhenfmegpjigaa.PEv
open Go.RowKit Go.Proofs.YtnhenfmegpjigaaW.PrintWords Go.Proofs.YtnhenfmegpjigaaW.PrintLast Go.Proofs.YtnhenfmegpjigaaW.PrintMore
attribute [local go_sem] max2_int min2_int max_two min_two max_three min_three max_four min_four
set_option linter.unusedVariables false
set_option linter.unusedSimpArgs false



def errW : Option Int → Value
 | none => .nilIface
 | some c => .iface 0 (.int .i64 c)
theorem errW_none : errW none = .nilIface := rfl
theorem errW_some (c : Int) : errW (some c) = .iface 0 (.int .i64 c) := rfl

theorem info3 : (Try.prog.info? 3).map (fun i => (i.zero, i.size, i.bytes)) = some (some (.int .i64 0), 1, 8) := by kernel_rfl
theorem info5 : (Try.prog.info? 5).map (fun i => (i.zero, i.size, i.bytes)) = some (some (.int .u8 0), 1, 1) := by kernel_rfl
theorem info27 : (Try.prog.info? 27).map (fun i => (i.zero, i.size, i.bytes)) = some (some (.agg #[(.int .i64 0), (.int .i64 0), (.int .i64 0), (.int .i64 0), (.int .i64 0), (.int .i64 0)]), 6, 48) := by kernel_rfl
theorem info50 : (Try.prog.info? 50).map (fun i => (i.zero, i.size, i.bytes)) = some (some (.agg #[(.int .i64 0), (.int .i64 0), (.int .i64 0)]), 3, 24) := by kernel_rfl
-- the values' own types
structure S27 where
 f0 : Int
 f1 : Int
 f2 : Int
 f3 : Int
 f4 : Int
 f5 : Int
def z27 : S27 := ⟨(0 : Int), (0 : Int), (0 : Int), (0 : Int), (0 : Int), (0 : Int)⟩
def k27 : Kd S27 := Kd.iso (Kd.pair (Kd.int .i64) (Kd.pair (Kd.int .i64) (Kd.pair (Kd.int .i64) (Kd.pair (Kd.int .i64) (Kd.pair (Kd.int .i64) (Kd.int .i64)))))) (fun x : S27 => (x.f0, x.f1, x.f2, x.f3, x.f4, x.f5))
theorem k27_open {w : World} {x : S27} {cs : List Value} (h : k27.K w x cs) : cs = [.int .i64 x.f0, .int .i64 x.f1, .int .i64 x.f2, .int .i64 x.f3, .int .i64 x.f4, .int .i64 x.f5] := by
 obtain ⟨_, _, rfl, rfl, ⟨_, _, rfl, rfl, ⟨_, _, rfl, rfl, ⟨_, _, rfl, rfl, ⟨_, _, rfl, rfl, rfl⟩⟩⟩⟩⟩ := h
 exact rfl
theorem k27_openM {w : World} {base : Nat} {ok : Nat → Prop} {x : S27} {cs : List Value} (h : k27.M w base ok x cs) : cs = [.int .i64 x.f0, .int .i64 x.f1, .int .i64 x.f2, .int .i64 x.f3, .int .i64 x.f4, .int .i64 x.f5] := by
 obtain ⟨_, _, rfl, rfl, ⟨_, _, rfl, rfl, ⟨_, _, rfl, rfl, ⟨_, _, rfl, rfl, ⟨_, _, rfl, rfl, rfl⟩⟩⟩⟩⟩ := h
 exact rfl
theorem k27_mkM (w : World) (base : Nat) (ok : Nat → Prop) (x : S27)  : k27.M w base ok x [.int .i64 x.f0, .int .i64 x.f1, .int .i64 x.f2, .int .i64 x.f3, .int .i64 x.f4, .int .i64 x.f5] := ⟨[.int .i64 x.f0], [.int .i64 x.f1, .int .i64 x.f2, .int .i64 x.f3, .int .i64 x.f4, .int .i64 x.f5], rfl, rfl, ⟨[.int .i64 x.f1], [.int .i64 x.f2, .int .i64 x.f3, .int .i64 x.f4, .int .i64 x.f5], rfl, rfl, ⟨[.int .i64 x.f2], [.int .i64 x.f3, .int .i64 x.f4, .int .i64 x.f5], rfl, rfl, ⟨[.int .i64 x.f3], [.int .i64 x.f4, .int .i64 x.f5], rfl, rfl, ⟨[.int .i64 x.f4], [.int .i64 x.f5], rfl, rfl, rfl⟩⟩⟩⟩⟩
def rd_T27 (xs : List S27) (i : Int) : S27 := xs.getD i.toNat z27
theorem at_T27 {w : World} {A : Option Addr} {n : Nat} {xs : List S27} (h : Kd.C k27 w A n xs) (i : Int) (h0 : 0 ≤ i) (h1 : i < n) : ∃ ad , A = some ad ∧ w.cell? (ad.add (i.toNat * 6)) = some (.int .i64 (rd_T27 xs i).f0) ∧ w.cell? ⟨(ad.add (i.toNat * 6)).block, (ad.add (i.toNat * 6)).off + 1, none⟩ = some (.int .i64 (rd_T27 xs i).f1) ∧ w.cell? ⟨(ad.add (i.toNat * 6)).block, (ad.add (i.toNat * 6)).off + 2, none⟩ = some (.int .i64 (rd_T27 xs i).f2) ∧ w.cell? ⟨(ad.add (i.toNat * 6)).block, (ad.add (i.toNat * 6)).off + 3, none⟩ = some (.int .i64 (rd_T27 xs i).f3) ∧ w.cell? ⟨(ad.add (i.toNat * 6)).block, (ad.add (i.toNat * 6)).off + 4, none⟩ = some (.int .i64 (rd_T27 xs i).f4) ∧ w.cell? ⟨(ad.add (i.toNat * 6)).block, (ad.add (i.toNat * 6)).off + 5, none⟩ = some (.int .i64 (rd_T27 xs i).f5) := by
 obtain ⟨ad, c, e, _, hK, hc0⟩ := Kd.C_get h z27 i h0 h1
 have hc : ∀ j u, c[j]? = some u → w.cell? (ad.add (i.toNat * 6 + j)) = some u := hc0
 obtain rfl := k27_open hK
 exact ⟨ad, e, hc 0 _ rfl, by rw [← add_field _ _ 1 (by omega)]; exact hc 1 _ rfl, by rw [← add_field _ _ 2 (by omega)]; exact hc 2 _ rfl, by rw [← add_field _ _ 3 (by omega)]; exact hc 3 _ rfl, by rw [← add_field _ _ 4 (by omega)]; exact hc 4 _ rfl, by rw [← add_field _ _ 5 (by omega)]; exact hc 5 _ rfl⟩

structure S65 where
 f0 : Int
 f1 : Int
 f2 : Int
 f3 : Int
 f4 : Int
 f5 : Int
structure S50 where
 f0 : Int
 f1 : Int
 f2 : Int
def z50 : S50 := ⟨(0 : Int), (0 : Int), (0 : Int)⟩
def k50 : Kd S50 := Kd.iso (Kd.pair (Kd.int .i64) (Kd.pair (Kd.int .i64) (Kd.int .i64))) (fun x : S50 => (x.f0, x.f1, x.f2))
theorem k50_open {w : World} {x : S50} {cs : List Value} (h : k50.K w x cs) : cs = [.int .i64 x.f0, .int .i64 x.f1, .int .i64 x.f2] := by
 obtain ⟨_, _, rfl, rfl, ⟨_, _, rfl, rfl, rfl⟩⟩ := h
 exact rfl
theorem k50_mkM (w : World) (base : Nat) (ok : Nat → Prop) (x : S50)  : k50.M w base ok x [.int .i64 x.f0, .int .i64 x.f1, .int .i64 x.f2] := ⟨[.int .i64 x.f0], [.int .i64 x.f1, .int .i64 x.f2], rfl, rfl, ⟨[.int .i64 x.f1], [.int .i64 x.f2], rfl, rfl, rfl⟩⟩
def rd_T50 (xs : List S50) (i : Int) : S50 := xs.getD i.toNat z50
theorem at_T50 {w : World} {A : Option Addr} {n : Nat} {xs : List S50} (h : Kd.C k50 w A n xs) (i : Int) (h0 : 0 ≤ i) (h1 : i < n) : ∃ ad , A = some ad ∧ w.cell? (ad.add (i.toNat * 3)) = some (.int .i64 (rd_T50 xs i).f0) ∧ w.cell? ⟨(ad.add (i.toNat * 3)).block, (ad.add (i.toNat * 3)).off + 1, none⟩ = some (.int .i64 (rd_T50 xs i).f1) ∧ w.cell? ⟨(ad.add (i.toNat * 3)).block, (ad.add (i.toNat * 3)).off + 2, none⟩ = some (.int .i64 (rd_T50 xs i).f2) := by
 obtain ⟨ad, c, e, _, hK, hc0⟩ := Kd.C_get h z50 i h0 h1
 have hc : ∀ j u, c[j]? = some u → w.cell? (ad.add (i.toNat * 3 + j)) = some u := hc0
 obtain rfl := k50_open hK
 exact ⟨ad, e, hc 0 _ rfl, by rw [← add_field _ _ 1 (by omega)]; exact hc 1 _ rfl, by rw [← add_field _ _ 2 (by omega)]; exact hc 2 _ rfl⟩

structure S77 where
 f0 : Int
 f1 : Int
 f2 : Int
class Up (W W' : World) : Prop where
 h : Below W.heap.size W W'
instance (W : World) : Up W W := ⟨Below.refl _ _⟩
instance (W W' : World) (o : Obj) [u : Up W W'] : Up W (W'.alloc o) := ⟨below_alloc u.h o⟩
instance (W W' : World) [u : Up W W'] : Up W W'.drew := ⟨below_drew1 u.h⟩
instance (W W' : World) (n : Nat) [u : Up W W'] : Up W (W'.drewN n) := ⟨pw_below_drewN u.h n⟩
theorem bel {w W W' : World} (h : Below w.heap.size w W) [u : Up W W'] : Below w.heap.size w W' := h.trans (u.h.mono h.size)
theorem rup {α : Type} {d : Kd α} {e base : Nat} {ok : Nat → Prop} {v : Value} {xs : List α} {W W' : World} (h : d.R e W base ok v xs) [u : Up W W'] : d.R e W' base ok v xs := Kd.R_below h u.h
theorem cup {α : Type} {d : Kd α} {A : Option Addr} {n : Nat} {xs : List α} {W W' : World} (h : d.C W A n xs) [u : Up W W'] : d.C W' A n xs := Kd.C_below h u.h
theorem bup {W W' : World} {g : Nat} {o : Obj} (h : W.heap[g]? = some o) [u : Up W W'] : W'.heap[g]? = some o := (u.h.block g (blk_lt h)).trans h
theorem cel {w W : World} {a : Addr} {v : Value} (h : Below w.heap.size w W) (hc : w.cell? a = some v) : W.cell? a = some v := (h.cell (World.block_lt_of_cell? w _ hc)).trans hc

abbrev Ae_q := @Aside0.mk
abbrev sA_q := @List.setIfInBounds_toArray
abbrev sZ_q := @List.set_cons_zero
abbrev sS_q := @List.set_cons_succ
abbrev pB_q := @pw_below_drewN
abbrev bS_q := @below_set
abbrev oD_q := @of_decide_eq_true
abbrev bD_q := @below_drew1
abbrev bA_q := @below_alloc
abbrev wL_q := @World.block_lt_of_cell?
abbrev bC_q := @blk_cell
abbrev kS_q := @KeepBut.set_
abbrev oB_q := @Option.bind_eq_some_iff
abbrev lT_q := @List.length_take
abbrev lD_q := @List.length_drop
abbrev lM_q := @List.map_toArray
abbrev lC_q := @List.map_cons
abbrev lN_q := @List.map_nil
abbrev bF_q := @blk_frozen
abbrev dT_q := @decide_eq_true
abbrev kN_q := @keep_drewN
abbrev kA_q := @keep_alloc
abbrev kD_q := @keep_drew
abbrev wD_q := @World.drewN_drewN
abbrev oS_q := @Option.bind_some
abbrev bT_q := @below_step
abbrev kT_q := @KeepBut.trans
abbrev bZ_q := @below_size
abbrev bN_q := @blk_drewN
abbrev bL_q := @blk_alloc
abbrev bW_q := @blk_drew
abbrev kF_q := @keep_far
abbrev eS_q := @errW_some
abbrev eN_q := @errW_none
abbrev cN_q := @Kd.C_drewN
abbrev cA_q := @Kd.C_alloc
abbrev cD_q := @Kd.C_drew
abbrev rN_q := @Kd.R_drewN
abbrev rA_q := @Kd.R_alloc
abbrev rD_q := @Kd.R_drew
abbrev rM_q := @Kd.R_mono
abbrev bB_q := @blk_below
abbrev gC_q := @gate_callee
abbrev gD_q := @gate_dst
abbrev bE_q := @box_event
abbrev gL_q := @goesL_
abbrev oI_q := @Option.some.inj
abbrev kB_q := @KeepBut.blk
abbrev rR_q := @Kd.R_reads'
abbrev aI_q := @Kd.at_int
abbrev rE_q := @Kd.R_elder'
abbrev rL_q := @Kd.R_lower
abbrev rB_q := @Kd.R_base
abbrev rT_q := @Kd.R_lt
abbrev rW_q := @Kd.R_new'
abbrev kO_q := @KeepBut.of_below
abbrev fM_q := @Bool.eq_false_iff
abbrev fN_q := @beq_eq_false_iff_ne
abbrev cB_q := @Kd.C_below
abbrev nR_q := @Nat.le_refl
abbrev bR_q := @Below.refl
abbrev dF_q := @decide_eq_false
abbrev oE_q := @Option.some.injEq
abbrev nE_q := @bne_eq_false_iff_eq
abbrev nA_q := @Nat.add_assoc
abbrev rS_q := @Kd.R_slice
abbrev nL_q := @Nat.ne_of_lt
abbrev nG_q := @Nat.ne_of_gt
abbrev rO_q := @Kd.R_below
abbrev nI_q := @bne_iff_ne
abbrev rI_q := @Kd.R_lit_step
abbrev nT_q := @Nat.le_trans
abbrev rK_q := @Kd.R_keep
abbrev bG_q := @blk_grown
abbrev pE_q := @Prod.mk.injEq
abbrev kI_q := Kd.int .i64
abbrev cI (w : World) (g j : Nat) (x : Int) : Prop := w.cell? ⟨g, j, none⟩ = some (.int .i64 x)
theorem cZ {w : World} {g : Nat} {t : TypeId} {cs : Array Value} (h : Aside0 (w.heap[g]? = some (.cells cs t (0, 0)))) (j : Nat) {v : Value} (e : cs[j]? = some v) : w.cell? ⟨g, j, none⟩ = some v := (blk_cell h.out j).trans e
theorem pS_q : (∀ (a : Act) (N : Nat) (v : Value), Act.put a (some N) v = { a with tmps := a.tmps.setIfInBounds N v }) ∧ (∀ (l : List Value) (i : Nat) (v : Value), l.toArray.setIfInBounds i v = (l.set i v).toArray) ∧ (∀ (x : Value) (l : List Value) (v : Value), (x :: l).set 0 v = v :: l) ∧ (∀ (x : Value) (l : List Value) (n : Nat) (v : Value), (x :: l).set (n + 1) v = x :: l.set n v) ∧ (∀ n : Int, IntKind.i64.wrap n = Go.RowKit.wrap64 n) ∧ (∀ n : Int, IntKind.i32.wrap n = Go.RowKit.wrap32 n) :=
  ⟨fun _ _ _ => rfl, fun l i v => List.setIfInBounds_toArray l i v, fun _ _ _ => rfl, fun _ _ _ _ => rfl, i64_w, i32_w⟩

section
variable {P : Program} {md : Region.Mode} {ops : Array Oper} {Q : Exit → Act → World → Prop} {S : World → Prop} {ds : List Nat} {T : Bool × List (List Nat × List Nat)}
theorem pI {oi : Oper} {v : Value} {fuel : Nat} {l : Array Bool} {a : Act} {w : World} (hT : Aside0 (rtab md ops = T)) (i N : Nat) (hi : ops[i]? = some oi) (hN : oi.dst = some N) (hc : anyT T l.toList (l.toList.set i true) i = true)
    (hQ : ∀ c a w, Q (.panic c) (a.put oi.dst v) w → Q (.panic c) a w) (hw : Region.wanted oi (yielded ops a.tmps) = true) (hy : ∀ w, (execOp a.eval oi).run P w = .ok (.value v) w) {a' : Act} (ha : a.put (some N) v = a')
    (h : wpAnyLast P md ops Q S ds fuel (l.setIfInBounds i true) a' w) : wpAnyLast P md ops Q S ds (fuel + 1) l a w := pure_ (l.setIfInBounds i true) hi hN (any_of hT.out (by rw [Array.toList_setIfInBounds]; exact hc)) hQ (.inl ⟨hw, hy⟩) ha h
theorem pU {oi : Oper} {fuel : Nat} {l : Array Bool} {a : Act} {w : World} (hT : Aside0 (rtab md ops = T)) (i N : Nat) (hi : ops[i]? = some oi) (hN : oi.dst = some N) (hc : anyT T l.toList (l.toList.set i true) i = true)
    (hQ : ∀ c a w, Q (.panic c) (a.put oi.dst undef) w → Q (.panic c) a w) (hw : Region.wanted oi (yielded ops a.tmps) = false) {a' : Act} (ha : a.put (some N) undef = a')
    (h : wpAnyLast P md ops Q S ds fuel (l.setIfInBounds i true) a' w) : wpAnyLast P md ops Q S ds (fuel + 1) l a w := pure_ (l.setIfInBounds i true) hi hN (any_of hT.out (by rw [Array.toList_setIfInBounds]; exact hc)) hQ (.inr ⟨hw, rfl⟩) ha h
end

end Go.Proofs.Ytnhenfmegpjigaa.PEv
