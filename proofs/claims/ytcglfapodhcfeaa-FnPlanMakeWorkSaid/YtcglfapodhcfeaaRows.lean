/-
  No cell of these rows narrows 'for every input' (looked for: loops, veiled, ifaces, maps, wideKeys, modest, calm, conditions, laid).
  DERIVED. THE GIVEN ROWS OF THIS SEAT. 4 by the template 'for every input the law returns true; each argument reads behind the call as it read before'; 0 by the template 'total and deterministic' (their statements: YtcglfapodhcfeaaTotals.lean).
  GIVEN WITH THE SEED: the statements are not yours to turn. If you find one false, say at which input.
  Laid BY PROGRAM, IN A SANDBOX (cutbox-rows.mjs): the forced cells as the released guide's own fill.sh prints them over the translation fd64bd79b1d8a173… (all of the seat's roots in one cut). By AI agents, Wed Nov 11 2026. No macro, syntax, notation, axiom, sorry.
-/
import Derived.Test.YtcglfapodhcfeaaChecked
import GoSem.Claim
import GoSem.ClaimJoined
import GoSem.ClaimMapViews
import Derived.JoinedTies
import Derived.KernelRfl
namespace Go.Proofs.Ytcglfapodhcfeaa
/- THE CELL 'sum', in the pinned program and in every row, IS THE sha256 OF THE DUMP (.gsa) THAT YtcglfapodhcfeaaProg.lean LOADS. Nothing in Lean hashes anything: it is a label: what it is worth is what the hold of that sum in a sandbox is worth. -/
noncomputable def Try.pinned : Pinned := { name := "ytcglfapodhcfeaa", sum := "fd64bd79b1d8a173543215e5d6a8529cad39e01beafa4eea0dce26141c138895", checked := Try.checked }
namespace Rows
def none {H : Type} : Left H := { results := [], args := [] }

/-- 'laws.FnPlanMake': WHATEVER THE INPUT: true; the input reads as it did. -/
def fnPlanMakeSpec : ChangeSpec := { name := "fnPlanMake", fn := fun _ => fun
  | [d] => { results := [.lit (.bool true)], args := [d] }
  | _ => none }
def fnPlanMakeRow : OpenClaim := { program := "ytcglfapodhcfeaa", sum := "fd64bd79b1d8a173543215e5d6a8529cad39e01beafa4eea0dce26141c138895", func := "loop.example/messkitchen/laws.FnPlanMake", spec := "fnPlanMake", unfollowed := true, recurses := true, apart := false }
def FnPlanMakeSaid : Prop := fnPlanMakeRow.holds Try.pinned (OpenSpec.ofChange fnPlanMakeSpec)

/-- ITS FALSE NEIGHBOUR: 'it returns false'. Refute it at one input. -/
def fnPlanMakeWrong : ChangeSpec := { name := "fnPlanMake", fn := fun _ => fun
  | [d] => { results := [.lit (.bool false)], args := [d] }
  | _ => none }
def FnPlanMakeWrongFalsely : Prop := fnPlanMakeRow.holds Try.pinned (OpenSpec.ofChange fnPlanMakeWrong)

/-- 'laws.FnPlanMakeAlone': WHATEVER THE INPUT: true; the input reads as it did. -/
def fnPlanMakeAloneSpec : ChangeSpec := { name := "fnPlanMakeAlone", fn := fun _ => fun
  | [d] => { results := [.lit (.bool true)], args := [d] }
  | _ => none }
def fnPlanMakeAloneRow : OpenClaim := { program := "ytcglfapodhcfeaa", sum := "fd64bd79b1d8a173543215e5d6a8529cad39e01beafa4eea0dce26141c138895", func := "loop.example/messkitchen/laws.FnPlanMakeAlone", spec := "fnPlanMakeAlone", unfollowed := true, recurses := true, apart := false }
def FnPlanMakeAloneSaid : Prop := fnPlanMakeAloneRow.holds Try.pinned (OpenSpec.ofChange fnPlanMakeAloneSpec)

/-- ITS FALSE NEIGHBOUR: 'it returns false'. Refute it at one input. -/
def fnPlanMakeAloneWrong : ChangeSpec := { name := "fnPlanMakeAlone", fn := fun _ => fun
  | [d] => { results := [.lit (.bool false)], args := [d] }
  | _ => none }
def FnPlanMakeAloneWrongFalsely : Prop := fnPlanMakeAloneRow.holds Try.pinned (OpenSpec.ofChange fnPlanMakeAloneWrong)

/-- 'laws.FnPlanMakeEarly': WHATEVER THE INPUT: true; the input reads as it did. -/
def fnPlanMakeEarlySpec : ChangeSpec := { name := "fnPlanMakeEarly", fn := fun _ => fun
  | [d1, d2] => { results := [.lit (.bool true)], args := [d1, d2] }
  | _ => none }
def fnPlanMakeEarlyRow : OpenClaim := { program := "ytcglfapodhcfeaa", sum := "fd64bd79b1d8a173543215e5d6a8529cad39e01beafa4eea0dce26141c138895", func := "loop.example/messkitchen/laws.FnPlanMakeEarly", spec := "fnPlanMakeEarly", unfollowed := true, recurses := true, apart := false }
def FnPlanMakeEarlySaid : Prop := fnPlanMakeEarlyRow.holds Try.pinned (OpenSpec.ofChange fnPlanMakeEarlySpec)

/-- ITS FALSE NEIGHBOUR: 'it returns false'. Refute it at one input. -/
def fnPlanMakeEarlyWrong : ChangeSpec := { name := "fnPlanMakeEarly", fn := fun _ => fun
  | [d1, d2] => { results := [.lit (.bool false)], args := [d1, d2] }
  | _ => none }
def FnPlanMakeEarlyWrongFalsely : Prop := fnPlanMakeEarlyRow.holds Try.pinned (OpenSpec.ofChange fnPlanMakeEarlyWrong)

/-- 'laws.FnPlanMakeWork': WHATEVER THE INPUT: true; the input reads as it did. -/
def fnPlanMakeWorkSpec : ChangeSpec := { name := "fnPlanMakeWork", fn := fun _ => fun
  | [d] => { results := [.lit (.bool true)], args := [d] }
  | _ => none }
def fnPlanMakeWorkRow : OpenClaim := { program := "ytcglfapodhcfeaa", sum := "fd64bd79b1d8a173543215e5d6a8529cad39e01beafa4eea0dce26141c138895", func := "loop.example/messkitchen/laws.FnPlanMakeWork", spec := "fnPlanMakeWork", unfollowed := true, recurses := true, apart := false }
def FnPlanMakeWorkSaid : Prop := fnPlanMakeWorkRow.holds Try.pinned (OpenSpec.ofChange fnPlanMakeWorkSpec)

/-- ITS FALSE NEIGHBOUR: 'it returns false'. Refute it at one input. -/
def fnPlanMakeWorkWrong : ChangeSpec := { name := "fnPlanMakeWork", fn := fun _ => fun
  | [d] => { results := [.lit (.bool false)], args := [d] }
  | _ => none }
def FnPlanMakeWorkWrongFalsely : Prop := fnPlanMakeWorkRow.holds Try.pinned (OpenSpec.ofChange fnPlanMakeWorkWrong)

/- THE SECOND FORM. 'bulk': how many values and letters a reading holds, each counted each time it is reached (what is shared counts as often as it is met; a slice's spare places count too). A statement '..UptoSaid' is the law's where the arguments, and the package variables that the reading takes, are together of bulk at most 1048576: NARROWER than '..Said'. Prove '..Said' where nothing that the law and all that it calls make is longer than what came in: it says more and counts as full. Else prove '..UptoSaid'. A law counts once. -/
mutual
def uptoBulk {H : Type} : DataW H → Nat
  | .lit (.string bytes) => bytes.length + 1
  | .lit _ => 1
  | .nil => 1
  | .ptr d => uptoBulk d + 1
  | .slice elems spare => uptoBulkAll elems + uptoBulkAll spare + 1
  | .agg parts => uptoBulkAll parts + 1
  | .iface _ d => uptoBulk d + 1
  | .map entries => uptoBulkEntries entries + 1
  | .held _ => 1
def uptoBulkAll {H : Type} : List (DataW H) → Nat
  | [] => 0
  | d :: r => uptoBulk d + uptoBulkAll r
def uptoBulkEntries {H : Type} : List (Lit × DataW H) → Nat
  | [] => 0
  | x :: r => uptoBulkEntry x + uptoBulkEntries r
def uptoBulkEntry {H : Type} : Lit × DataW H → Nat
  | (.string bytes, d) => bytes.length + uptoBulk d + 1
  | (_, d) => uptoBulk d + 1
 end
def uptoSmall : (H : Type) → List (DataW H) → Bool := fun _ ds => decide (uptoBulkAll ds ≤ 1048576)
def OpenSpec.upto (s : _root_.Go.ChangeSpec) : _root_.Go.OpenSpec := { _root_.Go.OpenSpec.ofChange s with cond := some uptoSmall }

/-- 'laws.FnPlanMake', WHERE WHAT IT READS IS OF BULK AT MOST 1048576: true; the input reads as it did. -/
def fnPlanMakeUptoRow : OpenClaim := { program := "ytcglfapodhcfeaa", sum := "fd64bd79b1d8a173543215e5d6a8529cad39e01beafa4eea0dce26141c138895", func := "loop.example/messkitchen/laws.FnPlanMake", spec := "fnPlanMake", unfollowed := true, recurses := true, apart := false, narrowed := true }
def FnPlanMakeUptoSaid : Prop := fnPlanMakeUptoRow.holds Try.pinned (OpenSpec.upto fnPlanMakeSpec)

/-- 'laws.FnPlanMakeAlone', WHERE WHAT IT READS IS OF BULK AT MOST 1048576: true; the input reads as it did. -/
def fnPlanMakeAloneUptoRow : OpenClaim := { program := "ytcglfapodhcfeaa", sum := "fd64bd79b1d8a173543215e5d6a8529cad39e01beafa4eea0dce26141c138895", func := "loop.example/messkitchen/laws.FnPlanMakeAlone", spec := "fnPlanMakeAlone", unfollowed := true, recurses := true, apart := false, narrowed := true }
def FnPlanMakeAloneUptoSaid : Prop := fnPlanMakeAloneUptoRow.holds Try.pinned (OpenSpec.upto fnPlanMakeAloneSpec)

/-- 'laws.FnPlanMakeEarly', WHERE WHAT IT READS IS OF BULK AT MOST 1048576: true; the input reads as it did. -/
def fnPlanMakeEarlyUptoRow : OpenClaim := { program := "ytcglfapodhcfeaa", sum := "fd64bd79b1d8a173543215e5d6a8529cad39e01beafa4eea0dce26141c138895", func := "loop.example/messkitchen/laws.FnPlanMakeEarly", spec := "fnPlanMakeEarly", unfollowed := true, recurses := true, apart := false, narrowed := true }
def FnPlanMakeEarlyUptoSaid : Prop := fnPlanMakeEarlyUptoRow.holds Try.pinned (OpenSpec.upto fnPlanMakeEarlySpec)

/-- 'laws.FnPlanMakeWork', WHERE WHAT IT READS IS OF BULK AT MOST 1048576: true; the input reads as it did. -/
def fnPlanMakeWorkUptoRow : OpenClaim := { program := "ytcglfapodhcfeaa", sum := "fd64bd79b1d8a173543215e5d6a8529cad39e01beafa4eea0dce26141c138895", func := "loop.example/messkitchen/laws.FnPlanMakeWork", spec := "fnPlanMakeWork", unfollowed := true, recurses := true, apart := false, narrowed := true }
def FnPlanMakeWorkUptoSaid : Prop := fnPlanMakeWorkUptoRow.holds Try.pinned (OpenSpec.upto fnPlanMakeWorkSpec)

end Rows
end Go.Proofs.Ytcglfapodhcfeaa
