/-
  No cell of these rows narrows 'for every input' (looked for: loops, veiled, ifaces, maps, wideKeys, modest, calm, conditions, laid).
  DERIVED. THE GIVEN ROWS OF THIS SEAT. 6 by the template 'for every input the law returns true; each argument reads behind the call as it read before'; 0 by the template 'total and deterministic' (their statements: YtoaigcdoblnmhaaTotals.lean).
  GIVEN WITH THE SEED: the statements are not yours to turn. If you find one false, say at which input.
  Laid BY PROGRAM, IN A SANDBOX (cutbox-rows.mjs): the forced cells as the released guide's own fill.sh prints them over the translation 7ec0b85a15a40034… (all of the seat's roots in one cut). By AI agents, Wed Nov 11 2026. No macro, syntax, notation, axiom, sorry.
-/
import Derived.Test.YtoaigcdoblnmhaaChecked
import GoSem.Claim
import GoSem.ClaimJoined
import GoSem.ClaimMapViews
import Derived.JoinedTies
import Derived.KernelRfl
namespace Go.Proofs.Ytoaigcdoblnmhaa
/- THE CELL 'sum', in the pinned program and in every row, IS THE sha256 OF THE DUMP (.gsa) THAT YtoaigcdoblnmhaaProg.lean LOADS. Nothing in Lean hashes anything: it is a label: what it is worth is what the hold of that sum in a sandbox is worth. -/
noncomputable def Try.pinned : Pinned := { name := "ytoaigcdoblnmhaa", sum := "7ec0b85a15a400340d634d47aa1802c3381a3d132d9c36b8f6f131ee9c0ca7a2", checked := Try.checked }
namespace Rows
def none {H : Type} : Left H := { results := [], args := [] }

/-- 'laws.FnPlanUse': WHATEVER THE INPUT: true; the input reads as it did. -/
def fnPlanUseSpec : ChangeSpec := { name := "fnPlanUse", fn := fun _ => fun
  | [d] => { results := [.lit (.bool true)], args := [d] }
  | _ => none }
def fnPlanUseRow : OpenClaim := { program := "ytoaigcdoblnmhaa", sum := "7ec0b85a15a400340d634d47aa1802c3381a3d132d9c36b8f6f131ee9c0ca7a2", func := "loop.example/messkitchen/laws.FnPlanUse", spec := "fnPlanUse", unfollowed := true, recurses := true, apart := false }
def FnPlanUseSaid : Prop := fnPlanUseRow.holds Try.pinned (OpenSpec.ofChange fnPlanUseSpec)

/-- ITS FALSE NEIGHBOUR: 'it returns false'. Refute it at one input. -/
def fnPlanUseWrong : ChangeSpec := { name := "fnPlanUse", fn := fun _ => fun
  | [d] => { results := [.lit (.bool false)], args := [d] }
  | _ => none }
def FnPlanUseWrongFalsely : Prop := fnPlanUseRow.holds Try.pinned (OpenSpec.ofChange fnPlanUseWrong)

/-- 'laws.FnExactPlanValid': WHATEVER THE INPUT: true; the input reads as it did. -/
def fnExactPlanValidSpec : ChangeSpec := { name := "fnExactPlanValid", fn := fun _ => fun
  | [d1, d2, d3] => { results := [.lit (.bool true)], args := [d1, d2, d3] }
  | _ => none }
def fnExactPlanValidRow : OpenClaim := { program := "ytoaigcdoblnmhaa", sum := "7ec0b85a15a400340d634d47aa1802c3381a3d132d9c36b8f6f131ee9c0ca7a2", func := "loop.example/messkitchen/laws.FnExactPlanValid", spec := "fnExactPlanValid", unfollowed := true, recurses := true, apart := false }
def FnExactPlanValidSaid : Prop := fnExactPlanValidRow.holds Try.pinned (OpenSpec.ofChange fnExactPlanValidSpec)

/-- ITS FALSE NEIGHBOUR: 'it returns false'. Refute it at one input. -/
def fnExactPlanValidWrong : ChangeSpec := { name := "fnExactPlanValid", fn := fun _ => fun
  | [d1, d2, d3] => { results := [.lit (.bool false)], args := [d1, d2, d3] }
  | _ => none }
def FnExactPlanValidWrongFalsely : Prop := fnExactPlanValidRow.holds Try.pinned (OpenSpec.ofChange fnExactPlanValidWrong)

/-- 'laws.FnPlan': WHATEVER THE INPUT: true; the input reads as it did. -/
def fnPlanSpec : ChangeSpec := { name := "fnPlan", fn := fun _ => fun
  | [d] => { results := [.lit (.bool true)], args := [d] }
  | _ => none }
def fnPlanRow : OpenClaim := { program := "ytoaigcdoblnmhaa", sum := "7ec0b85a15a400340d634d47aa1802c3381a3d132d9c36b8f6f131ee9c0ca7a2", func := "loop.example/messkitchen/laws.FnPlan", spec := "fnPlan", unfollowed := true, recurses := true, apart := false }
def FnPlanSaid : Prop := fnPlanRow.holds Try.pinned (OpenSpec.ofChange fnPlanSpec)

/-- ITS FALSE NEIGHBOUR: 'it returns false'. Refute it at one input. -/
def fnPlanWrong : ChangeSpec := { name := "fnPlan", fn := fun _ => fun
  | [d] => { results := [.lit (.bool false)], args := [d] }
  | _ => none }
def FnPlanWrongFalsely : Prop := fnPlanRow.holds Try.pinned (OpenSpec.ofChange fnPlanWrong)

/-- 'laws.FnPlanOnly': WHATEVER THE INPUT: true; the input reads as it did. -/
def fnPlanOnlySpec : ChangeSpec := { name := "fnPlanOnly", fn := fun _ => fun
  | [d] => { results := [.lit (.bool true)], args := [d] }
  | _ => none }
def fnPlanOnlyRow : OpenClaim := { program := "ytoaigcdoblnmhaa", sum := "7ec0b85a15a400340d634d47aa1802c3381a3d132d9c36b8f6f131ee9c0ca7a2", func := "loop.example/messkitchen/laws.FnPlanOnly", spec := "fnPlanOnly", unfollowed := true, recurses := true, apart := false }
def FnPlanOnlySaid : Prop := fnPlanOnlyRow.holds Try.pinned (OpenSpec.ofChange fnPlanOnlySpec)

/-- ITS FALSE NEIGHBOUR: 'it returns false'. Refute it at one input. -/
def fnPlanOnlyWrong : ChangeSpec := { name := "fnPlanOnly", fn := fun _ => fun
  | [d] => { results := [.lit (.bool false)], args := [d] }
  | _ => none }
def FnPlanOnlyWrongFalsely : Prop := fnPlanOnlyRow.holds Try.pinned (OpenSpec.ofChange fnPlanOnlyWrong)

/-- 'laws.FnPlanRoom': WHATEVER THE INPUT: true; the input reads as it did. -/
def fnPlanRoomSpec : ChangeSpec := { name := "fnPlanRoom", fn := fun _ => fun
  | [d] => { results := [.lit (.bool true)], args := [d] }
  | _ => none }
def fnPlanRoomRow : OpenClaim := { program := "ytoaigcdoblnmhaa", sum := "7ec0b85a15a400340d634d47aa1802c3381a3d132d9c36b8f6f131ee9c0ca7a2", func := "loop.example/messkitchen/laws.FnPlanRoom", spec := "fnPlanRoom", unfollowed := true, recurses := true, apart := false }
def FnPlanRoomSaid : Prop := fnPlanRoomRow.holds Try.pinned (OpenSpec.ofChange fnPlanRoomSpec)

/-- ITS FALSE NEIGHBOUR: 'it returns false'. Refute it at one input. -/
def fnPlanRoomWrong : ChangeSpec := { name := "fnPlanRoom", fn := fun _ => fun
  | [d] => { results := [.lit (.bool false)], args := [d] }
  | _ => none }
def FnPlanRoomWrongFalsely : Prop := fnPlanRoomRow.holds Try.pinned (OpenSpec.ofChange fnPlanRoomWrong)

/-- 'laws.FnHits': WHATEVER THE INPUT: true; the input reads as it did. -/
def fnHitsSpec : ChangeSpec := { name := "fnHits", fn := fun _ => fun
  | [d] => { results := [.lit (.bool true)], args := [d] }
  | _ => none }
def fnHitsRow : OpenClaim := { program := "ytoaigcdoblnmhaa", sum := "7ec0b85a15a400340d634d47aa1802c3381a3d132d9c36b8f6f131ee9c0ca7a2", func := "loop.example/messkitchen/laws.FnHits", spec := "fnHits", unfollowed := true, recurses := true, apart := false }
def FnHitsSaid : Prop := fnHitsRow.holds Try.pinned (OpenSpec.ofChange fnHitsSpec)

/-- ITS FALSE NEIGHBOUR: 'it returns false'. Refute it at one input. -/
def fnHitsWrong : ChangeSpec := { name := "fnHits", fn := fun _ => fun
  | [d] => { results := [.lit (.bool false)], args := [d] }
  | _ => none }
def FnHitsWrongFalsely : Prop := fnHitsRow.holds Try.pinned (OpenSpec.ofChange fnHitsWrong)

/- THE SECOND FORM. 'bulk': how many values and letters a reading holds, each counted each time it is reached (what is shared counts as often as it is met; a slice's spare places count too). A statement '..UptoSaid' is the law's where the arguments, and the package variables that the reading takes, are together of bulk at most 1048576: NARROWER than '..Said'. Prove '..Said' where nothing that the law and all that it calls make is longer than what came in: it says more and counts as full. Else prove '..UptoSaid'. A law counts once. -/
mutual
def uptoBulk {H : Type} : DataW H → Nat
  | .lit (.string bytes) => bytes.length + 1
  | .lit _ => 1
  | .nil => 1
  | .ptr d => uptoBulk d + 1
  | .slice elems spare => uptoBulkAll elems + uptoBulkAll spare + 1
  | .agg parts => uptoBulkAll parts + 1
  | .iface _ d => uptoBulk d + 1
  | .map entries => uptoBulkEntries entries + 1
  | .held _ => 1
def uptoBulkAll {H : Type} : List (DataW H) → Nat
  | [] => 0
  | d :: r => uptoBulk d + uptoBulkAll r
def uptoBulkEntries {H : Type} : List (Lit × DataW H) → Nat
  | [] => 0
  | x :: r => uptoBulkEntry x + uptoBulkEntries r
def uptoBulkEntry {H : Type} : Lit × DataW H → Nat
  | (.string bytes, d) => bytes.length + uptoBulk d + 1
  | (_, d) => uptoBulk d + 1
 end
def uptoSmall : (H : Type) → List (DataW H) → Bool := fun _ ds => decide (uptoBulkAll ds ≤ 1048576)
def OpenSpec.upto (s : _root_.Go.ChangeSpec) : _root_.Go.OpenSpec := { _root_.Go.OpenSpec.ofChange s with cond := some uptoSmall }

/-- 'laws.FnPlanUse', WHERE WHAT IT READS IS OF BULK AT MOST 1048576: true; the input reads as it did. -/
def fnPlanUseUptoRow : OpenClaim := { program := "ytoaigcdoblnmhaa", sum := "7ec0b85a15a400340d634d47aa1802c3381a3d132d9c36b8f6f131ee9c0ca7a2", func := "loop.example/messkitchen/laws.FnPlanUse", spec := "fnPlanUse", unfollowed := true, recurses := true, apart := false, narrowed := true }
def FnPlanUseUptoSaid : Prop := fnPlanUseUptoRow.holds Try.pinned (OpenSpec.upto fnPlanUseSpec)

/-- 'laws.FnExactPlanValid', WHERE WHAT IT READS IS OF BULK AT MOST 1048576: true; the input reads as it did. -/
def fnExactPlanValidUptoRow : OpenClaim := { program := "ytoaigcdoblnmhaa", sum := "7ec0b85a15a400340d634d47aa1802c3381a3d132d9c36b8f6f131ee9c0ca7a2", func := "loop.example/messkitchen/laws.FnExactPlanValid", spec := "fnExactPlanValid", unfollowed := true, recurses := true, apart := false, narrowed := true }
def FnExactPlanValidUptoSaid : Prop := fnExactPlanValidUptoRow.holds Try.pinned (OpenSpec.upto fnExactPlanValidSpec)

/-- 'laws.FnPlan', WHERE WHAT IT READS IS OF BULK AT MOST 1048576: true; the input reads as it did. -/
def fnPlanUptoRow : OpenClaim := { program := "ytoaigcdoblnmhaa", sum := "7ec0b85a15a400340d634d47aa1802c3381a3d132d9c36b8f6f131ee9c0ca7a2", func := "loop.example/messkitchen/laws.FnPlan", spec := "fnPlan", unfollowed := true, recurses := true, apart := false, narrowed := true }
def FnPlanUptoSaid : Prop := fnPlanUptoRow.holds Try.pinned (OpenSpec.upto fnPlanSpec)

/-- 'laws.FnPlanOnly', WHERE WHAT IT READS IS OF BULK AT MOST 1048576: true; the input reads as it did. -/
def fnPlanOnlyUptoRow : OpenClaim := { program := "ytoaigcdoblnmhaa", sum := "7ec0b85a15a400340d634d47aa1802c3381a3d132d9c36b8f6f131ee9c0ca7a2", func := "loop.example/messkitchen/laws.FnPlanOnly", spec := "fnPlanOnly", unfollowed := true, recurses := true, apart := false, narrowed := true }
def FnPlanOnlyUptoSaid : Prop := fnPlanOnlyUptoRow.holds Try.pinned (OpenSpec.upto fnPlanOnlySpec)

/-- 'laws.FnPlanRoom', WHERE WHAT IT READS IS OF BULK AT MOST 1048576: true; the input reads as it did. -/
def fnPlanRoomUptoRow : OpenClaim := { program := "ytoaigcdoblnmhaa", sum := "7ec0b85a15a400340d634d47aa1802c3381a3d132d9c36b8f6f131ee9c0ca7a2", func := "loop.example/messkitchen/laws.FnPlanRoom", spec := "fnPlanRoom", unfollowed := true, recurses := true, apart := false, narrowed := true }
def FnPlanRoomUptoSaid : Prop := fnPlanRoomUptoRow.holds Try.pinned (OpenSpec.upto fnPlanRoomSpec)

/-- 'laws.FnHits', WHERE WHAT IT READS IS OF BULK AT MOST 1048576: true; the input reads as it did. -/
def fnHitsUptoRow : OpenClaim := { program := "ytoaigcdoblnmhaa", sum := "7ec0b85a15a400340d634d47aa1802c3381a3d132d9c36b8f6f131ee9c0ca7a2", func := "loop.example/messkitchen/laws.FnHits", spec := "fnHits", unfollowed := true, recurses := true, apart := false, narrowed := true }
def FnHitsUptoSaid : Prop := fnHitsUptoRow.holds Try.pinned (OpenSpec.upto fnHitsSpec)

end Rows
end Go.Proofs.Ytoaigcdoblnmhaa
