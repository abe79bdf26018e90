import Derived.Test.YtoaigcdoblnmhaaProg
import Derived.Below
import Derived.Deep.Draws
import Derived.Deep.AppendLies
import Derived.Maps.AppendAt
import Derived.OwnWalk
import Derived.Laws.BytesArg
import Derived.Laws.MakeOwn
import Derived.Laws.OwnMore
import Derived.Deep.OwnRows
import Derived.Tactics
import Derived.Lib.ConvBytes
import Derived.Laws.Slices
import Derived.WalkKit
import Derived.KernelRfl
import Derived.RowKit3
import Derived.Deep.LoopGhost
import Derived.Deep.QuietTactic
import Derived.BigQuiet
import Derived.WideLaws
import Derived.Deep.DeepCutAuto
import Derived.Deep.CutBlock
import Derived.Deep.RegionHeld3
import Derived.Laws.Rows
import Derived.Lib.AppendStr
import Derived.ArgAppend
import Derived.Laws.IdiomCopy
import Derived.OrdersHeld
import Derived.Laws.BitsLemmas
import Derived.RowKit
import Derived.Test.YtoaigcdoblnmhaaVeWWords
import Derived.Test.YtoaigcdoblnmhaaVeWLast
import Derived.Test.YtoaigcdoblnmhaaVeWTab
import Derived.Test.YtoaigcdoblnmhaaVeWFour
import Derived.Test.YtoaigcdoblnmhaaVeWQPut
import Derived.Test.YtoaigcdoblnmhaaVeWApart
import Derived.Test.YtoaigcdoblnmhaaVeWArr
import Derived.Test.YtoaigcdoblnmhaaVeWZeros
import Derived.Test.YtoaigcdoblnmhaaVeWFoot
import Derived.Test.YtoaigcdoblnmhaaVeWKept
import Derived.Test.YtoaigcdoblnmhaaVeWShare
import Derived.Test.YtoaigcdoblnmhaaVeWN
import Derived.Test.YtoaigcdoblnmhaaVeWFootNe
import Derived.Test.YtoaigcdoblnmhaaVeWAt
import Derived.Test.YtoaigcdoblnmhaaVeWEqStruct
import Derived.Test.YtoaigcdoblnmhaaVeWRepsOne
import Derived.Test.YtoaigcdoblnmhaaVeWInv
import Derived.Test.YtoaigcdoblnmhaaVeWInvWords
import Derived.Test.YtoaigcdoblnmhaaVeWGuard
import Derived.Test.YtoaigcdoblnmhaaVeWNEv
import Derived.Test.YtoaigcdoblnmhaaVeWMore
namespace Go.Proofs.Ytoaigcdoblnmhaa.PPn
open Go.RowKit Go.Proofs.YtoaigcdoblnmhaaW.PrintWords Go.Proofs.YtoaigcdoblnmhaaW.PrintLast Go.Proofs.YtoaigcdoblnmhaaW.PrintMore
attribute [local go_sem] max2_int min2_int max_two min_two max_three min_three max_four min_four
set_option linter.unusedVariables false
set_option linter.unusedSimpArgs false



def errW : Option Int → Value
 | none => .nilIface
 | some c => .iface 0 (.int .i64 c)
theorem errW_none : errW none = .nilIface := rfl
theorem errW_some (c : Int) : errW (some c) = .iface 0 (.int .i64 c) := rfl

theorem info3 : (Try.prog.info? 3).map (fun i => (i.zero, i.size, i.bytes)) = some (some (.int .i64 0), 1, 8) := by kernel_rfl
theorem info5 : (Try.prog.info? 5).map (fun i => (i.zero, i.size, i.bytes)) = some (some (.int .u8 0), 1, 1) := by kernel_rfl
theorem info31 : (Try.prog.info? 31).map (fun i => (i.zero, i.size, i.bytes)) = some (some (.agg #[(.int .i64 0), (.int .i64 0), (.int .i64 0), (.slice none 0 0)]), 4, 48) := by kernel_rfl
structure S31 where
 f0 : Int
 f1 : Int
 f2 : Int
 f3 : (List Int)
def z31 : S31 := ⟨(0 : Int), (0 : Int), (0 : Int), ([] : List Int)⟩
def k31 : Kd S31 := Kd.iso (Kd.pair (Kd.int .i64) (Kd.pair (Kd.int .i64) (Kd.pair (Kd.int .i64) (Kd.slice 3 (Kd.int .i64))))) (fun x : S31 => (x.f0, x.f1, x.f2, x.f3))
theorem k31_open {w : World} {x : S31} {cs : List Value} (h : k31.K w x cs) : ∃ A3 c3, cs = [.int .i64 x.f0, .int .i64 x.f1, .int .i64 x.f2, .slice A3 x.f3.length c3] ∧ x.f3.length ≤ c3 ∧ (Kd.int .i64).C w A3 x.f3.length x.f3 := by
 obtain ⟨_, _, rfl, rfl, ⟨_, _, rfl, rfl, ⟨_, _, rfl, rfl, ⟨A3, c3, rfl, l3, g3⟩⟩⟩⟩ := h
 exact ⟨A3, c3, rfl, l3, g3⟩
theorem k31_openM {w : World} {base : Nat} {ok : Nat → Prop} {x : S31} {cs : List Value} (h : k31.M w base ok x cs) : ∃ v3, cs = [.int .i64 x.f0, .int .i64 x.f1, .int .i64 x.f2, v3] ∧ (Kd.int .i64).R 3 w base ok v3 x.f3 := by
 obtain ⟨_, _, rfl, rfl, ⟨_, _, rfl, rfl, ⟨_, _, rfl, rfl, ⟨v3, rfl, g3⟩⟩⟩⟩ := h
 exact ⟨v3, rfl, g3⟩
theorem k31_mkM (w : World) (base : Nat) (ok : Nat → Prop) (x : S31) {v3 : Value} (g3 : (Kd.int .i64).R 3 w base ok v3 x.f3) : k31.M w base ok x [.int .i64 x.f0, .int .i64 x.f1, .int .i64 x.f2, v3] := ⟨[.int .i64 x.f0], [.int .i64 x.f1, .int .i64 x.f2, v3], rfl, rfl, ⟨[.int .i64 x.f1], [.int .i64 x.f2, v3], rfl, rfl, ⟨[.int .i64 x.f2], [v3], rfl, rfl, ⟨v3, rfl, g3⟩⟩⟩⟩
def rd_T31 (xs : List S31) (i : Int) : S31 := xs.getD i.toNat z31
theorem at_T31 {w : World} {A : Option Addr} {n : Nat} {xs : List S31} (h : Kd.C k31 w A n xs) (i : Int) (h0 : 0 ≤ i) (h1 : i < n) : ∃ ad A3 c3, A = some ad ∧ w.cell? (ad.add (i.toNat * 4)) = some (.int .i64 (rd_T31 xs i).f0) ∧ w.cell? ⟨(ad.add (i.toNat * 4)).block, (ad.add (i.toNat * 4)).off + 1, none⟩ = some (.int .i64 (rd_T31 xs i).f1) ∧ w.cell? ⟨(ad.add (i.toNat * 4)).block, (ad.add (i.toNat * 4)).off + 2, none⟩ = some (.int .i64 (rd_T31 xs i).f2) ∧ w.cell? ⟨(ad.add (i.toNat * 4)).block, (ad.add (i.toNat * 4)).off + 3, none⟩ = some (.slice A3 (rd_T31 xs i).f3.length c3) ∧ (rd_T31 xs i).f3.length ≤ c3 ∧ (Kd.int .i64).C w A3 (rd_T31 xs i).f3.length (rd_T31 xs i).f3 := by
 obtain ⟨ad, c, e, _, hK, hc0⟩ := Kd.C_get h z31 i h0 h1
 have hc : ∀ j u, c[j]? = some u → w.cell? (ad.add (i.toNat * 4 + j)) = some u := hc0
 obtain ⟨A3, c3, rfl, l3, g3⟩ := k31_open hK
 exact ⟨ad, A3, c3, e, hc 0 _ rfl, by rw [← add_field _ _ 1 (by omega)]; exact hc 1 _ rfl, by rw [← add_field _ _ 2 (by omega)]; exact hc 2 _ rfl, by rw [← add_field _ _ 3 (by omega)]; exact hc 3 _ rfl, l3, g3⟩

structure S63 where
 f0 : Int
 f1 : Int
 f2 : Int
 f3 : (List Int)
structure S36 where
 f0 : Int
 f1 : (List Int)
class Up (W W' : World) : Prop where
 h : Below W.heap.size W W'
instance (W : World) : Up W W := ⟨Below.refl _ _⟩
instance (W W' : World) (o : Obj) [u : Up W W'] : Up W (W'.alloc o) := ⟨below_alloc u.h o⟩
instance (W W' : World) [u : Up W W'] : Up W W'.drew := ⟨below_drew1 u.h⟩
instance (W W' : World) (n : Nat) [u : Up W W'] : Up W (W'.drewN n) := ⟨pw_below_drewN u.h n⟩
theorem bel {w W W' : World} (h : Below w.heap.size w W) [u : Up W W'] : Below w.heap.size w W' := h.trans (u.h.mono h.size)
theorem rup {α : Type} {d : Kd α} {e base : Nat} {ok : Nat → Prop} {v : Value} {xs : List α} {W W' : World} (h : d.R e W base ok v xs) [u : Up W W'] : d.R e W' base ok v xs := Kd.R_below h u.h
theorem bup {W W' : World} {g : Nat} {o : Obj} (h : W.heap[g]? = some o) [u : Up W W'] : W'.heap[g]? = some o := (u.h.block g (blk_lt h)).trans h
theorem cel {w W : World} {a : Addr} {v : Value} (h : Below w.heap.size w W) (hc : w.cell? a = some v) : W.cell? a = some v := (h.cell (World.block_lt_of_cell? w _ hc)).trans hc

abbrev Ae_q := @Aside0.mk
abbrev sA_q := @List.setIfInBounds_toArray
abbrev sZ_q := @List.set_cons_zero
abbrev sS_q := @List.set_cons_succ
abbrev pB_q := @pw_below_drewN
abbrev bS_q := @below_set
abbrev oD_q := @of_decide_eq_true
abbrev bD_q := @below_drew1
abbrev bA_q := @below_alloc
abbrev wL_q := @World.block_lt_of_cell?
abbrev bC_q := @blk_cell
abbrev kS_q := @KeepBut.set_
abbrev oB_q := @Option.bind_eq_some_iff
abbrev lT_q := @List.length_take
abbrev lD_q := @List.length_drop
abbrev lM_q := @List.map_toArray
abbrev lC_q := @List.map_cons
abbrev lN_q := @List.map_nil
abbrev bF_q := @blk_frozen
abbrev dT_q := @decide_eq_true
abbrev kN_q := @keep_drewN
abbrev kA_q := @keep_alloc
abbrev kD_q := @keep_drew
abbrev wD_q := @World.drewN_drewN
abbrev oS_q := @Option.bind_some
abbrev bT_q := @below_step
abbrev kT_q := @KeepBut.trans
abbrev bZ_q := @below_size
abbrev bN_q := @blk_drewN
abbrev bL_q := @blk_alloc
abbrev bW_q := @blk_drew
abbrev kF_q := @keep_far
abbrev eS_q := @errW_some
abbrev eN_q := @errW_none
abbrev cN_q := @Kd.C_drewN
abbrev cA_q := @Kd.C_alloc
abbrev cD_q := @Kd.C_drew
abbrev rN_q := @Kd.R_drewN
abbrev rA_q := @Kd.R_alloc
abbrev rD_q := @Kd.R_drew
abbrev rM_q := @Kd.R_mono
abbrev bB_q := @blk_below
abbrev gC_q := @gate_callee
abbrev gD_q := @gate_dst
abbrev bE_q := @box_event
abbrev gL_q := @goesL_
abbrev oI_q := @Option.some.inj
abbrev kB_q := @KeepBut.blk
abbrev rR_q := @Kd.R_reads'
abbrev aI_q := @Kd.at_int
abbrev tN_q := @Kd.S_drewN
abbrev tA_q := @Kd.S_alloc
abbrev tD_q := @Kd.S_drew
abbrev rE_q := @Kd.R_elder'
abbrev rL_q := @Kd.R_lower
abbrev rB_q := @Kd.R_base
abbrev rT_q := @Kd.R_lt
abbrev rW_q := @Kd.R_new'
abbrev rF_q := @Kd.R_after
abbrev kO_q := @KeepBut.of_below
abbrev fM_q := @Bool.eq_false_iff
abbrev fN_q := @beq_eq_false_iff_ne
abbrev lO_q := @LeO.none
abbrev lB_q := @LeO.bind
abbrev lI_q := @LeO.ite
abbrev lR_q := @LeO.refl
abbrev cB_q := @Kd.C_below
abbrev nR_q := @Nat.le_refl
abbrev bR_q := @Below.refl
abbrev dF_q := @decide_eq_false
abbrev oE_q := @Option.some.injEq
abbrev nE_q := @bne_eq_false_iff_eq
abbrev nA_q := @Nat.add_assoc
abbrev rP_q := @Kd.R_append_rows_step
abbrev rS_q := @Kd.R_slice
abbrev nL_q := @Nat.ne_of_lt
abbrev nG_q := @Nat.ne_of_gt
abbrev rO_q := @Kd.R_below
abbrev nI_q := @bne_iff_ne
abbrev rI_q := @Kd.R_lit_step
abbrev nT_q := @Nat.le_trans
abbrev rK_q := @Kd.R_keep
abbrev bG_q := @blk_grown
abbrev pE_q := @Prod.mk.injEq
abbrev kI_q := Kd.int .i64
end Go.Proofs.Ytoaigcdoblnmhaa.PPn
