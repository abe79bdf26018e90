/-
  No cell of these rows narrows 'for every input' (looked for: loops, veiled, ifaces, maps, wideKeys, modest, calm, conditions, laid).
  DERIVED. THE GIVEN ROWS OF THIS SEAT. 7 by the template 'for every input the law returns true; each argument reads behind the call as it read before'; 0 by the template 'total and deterministic' (their statements: YtfnpiacmlahegaaTotals.lean).
  GIVEN WITH THE SEED: the statements are not yours to turn. If you find one false, say at which input.
  Laid BY PROGRAM, IN A SANDBOX (cutbox-rows.mjs): the forced cells as the released guide's own fill.sh prints them over the translation 958c2c75cdb002c2… (all of the seat's roots in one cut). By AI agents, Wed Nov 11 2026. No macro, syntax, notation, axiom, sorry.
-/
import Derived.Test.YtfnpiacmlahegaaChecked
import GoSem.Claim
import GoSem.ClaimJoined
import GoSem.ClaimMapViews
import Derived.JoinedTies
import Derived.KernelRfl
namespace Go.Proofs.Ytfnpiacmlahegaa
/- THE CELL 'sum', in the pinned program and in every row, IS THE sha256 OF THE DUMP (.gsa) THAT YtfnpiacmlahegaaProg.lean LOADS. Nothing in Lean hashes anything: it is a label: what it is worth is what the hold of that sum in a sandbox is worth. -/
noncomputable def Try.pinned : Pinned := { name := "ytfnpiacmlahegaa", sum := "958c2c75cdb002c27d148b37bc29cded63fc41a20861893555fb101ac5f2d49c", checked := Try.checked }
namespace Rows
def none {H : Type} : Left H := { results := [], args := [] }

/-- 'laws.FnExactOutageHits': WHATEVER THE INPUT: true; the input reads as it did. -/
def fnExactOutageHitsSpec : ChangeSpec := { name := "fnExactOutageHits", fn := fun _ => fun
  | [d1, d2, d3] => { results := [.lit (.bool true)], args := [d1, d2, d3] }
  | _ => none }
def fnExactOutageHitsRow : OpenClaim := { program := "ytfnpiacmlahegaa", sum := "958c2c75cdb002c27d148b37bc29cded63fc41a20861893555fb101ac5f2d49c", func := "loop.example/messkitchen/laws.FnExactOutageHits", spec := "fnExactOutageHits", unfollowed := true, recurses := true, apart := false }
def FnExactOutageHitsSaid : Prop := fnExactOutageHitsRow.holds Try.pinned (OpenSpec.ofChange fnExactOutageHitsSpec)

/-- ITS FALSE NEIGHBOUR: 'it returns false'. Refute it at one input. -/
def fnExactOutageHitsWrong : ChangeSpec := { name := "fnExactOutageHits", fn := fun _ => fun
  | [d1, d2, d3] => { results := [.lit (.bool false)], args := [d1, d2, d3] }
  | _ => none }
def FnExactOutageHitsWrongFalsely : Prop := fnExactOutageHitsRow.holds Try.pinned (OpenSpec.ofChange fnExactOutageHitsWrong)

/-- 'laws.FnExactPlanMake': WHATEVER THE INPUT: true; the input reads as it did. -/
def fnExactPlanMakeSpec : ChangeSpec := { name := "fnExactPlanMake", fn := fun _ => fun
  | [d1, d2] => { results := [.lit (.bool true)], args := [d1, d2] }
  | _ => none }
def fnExactPlanMakeRow : OpenClaim := { program := "ytfnpiacmlahegaa", sum := "958c2c75cdb002c27d148b37bc29cded63fc41a20861893555fb101ac5f2d49c", func := "loop.example/messkitchen/laws.FnExactPlanMake", spec := "fnExactPlanMake", unfollowed := true, recurses := true, apart := false }
def FnExactPlanMakeSaid : Prop := fnExactPlanMakeRow.holds Try.pinned (OpenSpec.ofChange fnExactPlanMakeSpec)

/-- ITS FALSE NEIGHBOUR: 'it returns false'. Refute it at one input. -/
def fnExactPlanMakeWrong : ChangeSpec := { name := "fnExactPlanMake", fn := fun _ => fun
  | [d1, d2] => { results := [.lit (.bool false)], args := [d1, d2] }
  | _ => none }
def FnExactPlanMakeWrongFalsely : Prop := fnExactPlanMakeRow.holds Try.pinned (OpenSpec.ofChange fnExactPlanMakeWrong)

/-- 'laws.FnRepairBefore': WHATEVER THE INPUT: true; the input reads as it did. -/
def fnRepairBeforeSpec : ChangeSpec := { name := "fnRepairBefore", fn := fun _ => fun
  | [d] => { results := [.lit (.bool true)], args := [d] }
  | _ => none }
def fnRepairBeforeRow : OpenClaim := { program := "ytfnpiacmlahegaa", sum := "958c2c75cdb002c27d148b37bc29cded63fc41a20861893555fb101ac5f2d49c", func := "loop.example/messkitchen/laws.FnRepairBefore", spec := "fnRepairBefore", unfollowed := true, recurses := true, apart := false }
def FnRepairBeforeSaid : Prop := fnRepairBeforeRow.holds Try.pinned (OpenSpec.ofChange fnRepairBeforeSpec)

/-- ITS FALSE NEIGHBOUR: 'it returns false'. Refute it at one input. -/
def fnRepairBeforeWrong : ChangeSpec := { name := "fnRepairBefore", fn := fun _ => fun
  | [d] => { results := [.lit (.bool false)], args := [d] }
  | _ => none }
def FnRepairBeforeWrongFalsely : Prop := fnRepairBeforeRow.holds Try.pinned (OpenSpec.ofChange fnRepairBeforeWrong)

/-- 'laws.FnRepairEarly': WHATEVER THE INPUT: true; the input reads as it did. -/
def fnRepairEarlySpec : ChangeSpec := { name := "fnRepairEarly", fn := fun _ => fun
  | [d1, d2] => { results := [.lit (.bool true)], args := [d1, d2] }
  | _ => none }
def fnRepairEarlyRow : OpenClaim := { program := "ytfnpiacmlahegaa", sum := "958c2c75cdb002c27d148b37bc29cded63fc41a20861893555fb101ac5f2d49c", func := "loop.example/messkitchen/laws.FnRepairEarly", spec := "fnRepairEarly", unfollowed := true, recurses := true, apart := false }
def FnRepairEarlySaid : Prop := fnRepairEarlyRow.holds Try.pinned (OpenSpec.ofChange fnRepairEarlySpec)

/-- ITS FALSE NEIGHBOUR: 'it returns false'. Refute it at one input. -/
def fnRepairEarlyWrong : ChangeSpec := { name := "fnRepairEarly", fn := fun _ => fun
  | [d1, d2] => { results := [.lit (.bool false)], args := [d1, d2] }
  | _ => none }
def FnRepairEarlyWrongFalsely : Prop := fnRepairEarlyRow.holds Try.pinned (OpenSpec.ofChange fnRepairEarlyWrong)

/-- 'laws.FnRepairNone': WHATEVER THE INPUT: true; the input reads as it did. -/
def fnRepairNoneSpec : ChangeSpec := { name := "fnRepairNone", fn := fun _ => fun
  | [d] => { results := [.lit (.bool true)], args := [d] }
  | _ => none }
def fnRepairNoneRow : OpenClaim := { program := "ytfnpiacmlahegaa", sum := "958c2c75cdb002c27d148b37bc29cded63fc41a20861893555fb101ac5f2d49c", func := "loop.example/messkitchen/laws.FnRepairNone", spec := "fnRepairNone", unfollowed := true, recurses := true, apart := false }
def FnRepairNoneSaid : Prop := fnRepairNoneRow.holds Try.pinned (OpenSpec.ofChange fnRepairNoneSpec)

/-- ITS FALSE NEIGHBOUR: 'it returns false'. Refute it at one input. -/
def fnRepairNoneWrong : ChangeSpec := { name := "fnRepairNone", fn := fun _ => fun
  | [d] => { results := [.lit (.bool false)], args := [d] }
  | _ => none }
def FnRepairNoneWrongFalsely : Prop := fnRepairNoneRow.holds Try.pinned (OpenSpec.ofChange fnRepairNoneWrong)

/-- 'laws.FnExactOutageRepair': WHATEVER THE INPUT: true; the input reads as it did. -/
def fnExactOutageRepairSpec : ChangeSpec := { name := "fnExactOutageRepair", fn := fun _ => fun
  | [d1, d2, d3, d4] => { results := [.lit (.bool true)], args := [d1, d2, d3, d4] }
  | _ => none }
def fnExactOutageRepairRow : OpenClaim := { program := "ytfnpiacmlahegaa", sum := "958c2c75cdb002c27d148b37bc29cded63fc41a20861893555fb101ac5f2d49c", func := "loop.example/messkitchen/laws.FnExactOutageRepair", spec := "fnExactOutageRepair", unfollowed := true, recurses := true, apart := false }
def FnExactOutageRepairSaid : Prop := fnExactOutageRepairRow.holds Try.pinned (OpenSpec.ofChange fnExactOutageRepairSpec)

/-- ITS FALSE NEIGHBOUR: 'it returns false'. Refute it at one input. -/
def fnExactOutageRepairWrong : ChangeSpec := { name := "fnExactOutageRepair", fn := fun _ => fun
  | [d1, d2, d3, d4] => { results := [.lit (.bool false)], args := [d1, d2, d3, d4] }
  | _ => none }
def FnExactOutageRepairWrongFalsely : Prop := fnExactOutageRepairRow.holds Try.pinned (OpenSpec.ofChange fnExactOutageRepairWrong)

/-- 'laws.FnRepair': WHATEVER THE INPUT: true; the input reads as it did. -/
def fnRepairSpec : ChangeSpec := { name := "fnRepair", fn := fun _ => fun
  | [d] => { results := [.lit (.bool true)], args := [d] }
  | _ => none }
def fnRepairRow : OpenClaim := { program := "ytfnpiacmlahegaa", sum := "958c2c75cdb002c27d148b37bc29cded63fc41a20861893555fb101ac5f2d49c", func := "loop.example/messkitchen/laws.FnRepair", spec := "fnRepair", unfollowed := true, recurses := true, apart := false }
def FnRepairSaid : Prop := fnRepairRow.holds Try.pinned (OpenSpec.ofChange fnRepairSpec)

/-- ITS FALSE NEIGHBOUR: 'it returns false'. Refute it at one input. -/
def fnRepairWrong : ChangeSpec := { name := "fnRepair", fn := fun _ => fun
  | [d] => { results := [.lit (.bool false)], args := [d] }
  | _ => none }
def FnRepairWrongFalsely : Prop := fnRepairRow.holds Try.pinned (OpenSpec.ofChange fnRepairWrong)

/- THE SECOND FORM. 'bulk': how many values and letters a reading holds, each counted each time it is reached (what is shared counts as often as it is met; a slice's spare places count too). A statement '..UptoSaid' is the law's where the arguments, and the package variables that the reading takes, are together of bulk at most 1048576: NARROWER than '..Said'. Prove '..Said' where nothing that the law and all that it calls make is longer than what came in: it says more and counts as full. Else prove '..UptoSaid'. A law counts once. -/
mutual
def uptoBulk {H : Type} : DataW H → Nat
  | .lit (.string bytes) => bytes.length + 1
  | .lit _ => 1
  | .nil => 1
  | .ptr d => uptoBulk d + 1
  | .slice elems spare => uptoBulkAll elems + uptoBulkAll spare + 1
  | .agg parts => uptoBulkAll parts + 1
  | .iface _ d => uptoBulk d + 1
  | .map entries => uptoBulkEntries entries + 1
  | .held _ => 1
def uptoBulkAll {H : Type} : List (DataW H) → Nat
  | [] => 0
  | d :: r => uptoBulk d + uptoBulkAll r
def uptoBulkEntries {H : Type} : List (Lit × DataW H) → Nat
  | [] => 0
  | x :: r => uptoBulkEntry x + uptoBulkEntries r
def uptoBulkEntry {H : Type} : Lit × DataW H → Nat
  | (.string bytes, d) => bytes.length + uptoBulk d + 1
  | (_, d) => uptoBulk d + 1
 end
def uptoSmall : (H : Type) → List (DataW H) → Bool := fun _ ds => decide (uptoBulkAll ds ≤ 1048576)
def OpenSpec.upto (s : _root_.Go.ChangeSpec) : _root_.Go.OpenSpec := { _root_.Go.OpenSpec.ofChange s with cond := some uptoSmall }

/-- 'laws.FnExactOutageHits', WHERE WHAT IT READS IS OF BULK AT MOST 1048576: true; the input reads as it did. -/
def fnExactOutageHitsUptoRow : OpenClaim := { program := "ytfnpiacmlahegaa", sum := "958c2c75cdb002c27d148b37bc29cded63fc41a20861893555fb101ac5f2d49c", func := "loop.example/messkitchen/laws.FnExactOutageHits", spec := "fnExactOutageHits", unfollowed := true, recurses := true, apart := false, narrowed := true }
def FnExactOutageHitsUptoSaid : Prop := fnExactOutageHitsUptoRow.holds Try.pinned (OpenSpec.upto fnExactOutageHitsSpec)

/-- 'laws.FnExactPlanMake', WHERE WHAT IT READS IS OF BULK AT MOST 1048576: true; the input reads as it did. -/
def fnExactPlanMakeUptoRow : OpenClaim := { program := "ytfnpiacmlahegaa", sum := "958c2c75cdb002c27d148b37bc29cded63fc41a20861893555fb101ac5f2d49c", func := "loop.example/messkitchen/laws.FnExactPlanMake", spec := "fnExactPlanMake", unfollowed := true, recurses := true, apart := false, narrowed := true }
def FnExactPlanMakeUptoSaid : Prop := fnExactPlanMakeUptoRow.holds Try.pinned (OpenSpec.upto fnExactPlanMakeSpec)

/-- 'laws.FnRepairBefore', WHERE WHAT IT READS IS OF BULK AT MOST 1048576: true; the input reads as it did. -/
def fnRepairBeforeUptoRow : OpenClaim := { program := "ytfnpiacmlahegaa", sum := "958c2c75cdb002c27d148b37bc29cded63fc41a20861893555fb101ac5f2d49c", func := "loop.example/messkitchen/laws.FnRepairBefore", spec := "fnRepairBefore", unfollowed := true, recurses := true, apart := false, narrowed := true }
def FnRepairBeforeUptoSaid : Prop := fnRepairBeforeUptoRow.holds Try.pinned (OpenSpec.upto fnRepairBeforeSpec)

/-- 'laws.FnRepairEarly', WHERE WHAT IT READS IS OF BULK AT MOST 1048576: true; the input reads as it did. -/
def fnRepairEarlyUptoRow : OpenClaim := { program := "ytfnpiacmlahegaa", sum := "958c2c75cdb002c27d148b37bc29cded63fc41a20861893555fb101ac5f2d49c", func := "loop.example/messkitchen/laws.FnRepairEarly", spec := "fnRepairEarly", unfollowed := true, recurses := true, apart := false, narrowed := true }
def FnRepairEarlyUptoSaid : Prop := fnRepairEarlyUptoRow.holds Try.pinned (OpenSpec.upto fnRepairEarlySpec)

/-- 'laws.FnRepairNone', WHERE WHAT IT READS IS OF BULK AT MOST 1048576: true; the input reads as it did. -/
def fnRepairNoneUptoRow : OpenClaim := { program := "ytfnpiacmlahegaa", sum := "958c2c75cdb002c27d148b37bc29cded63fc41a20861893555fb101ac5f2d49c", func := "loop.example/messkitchen/laws.FnRepairNone", spec := "fnRepairNone", unfollowed := true, recurses := true, apart := false, narrowed := true }
def FnRepairNoneUptoSaid : Prop := fnRepairNoneUptoRow.holds Try.pinned (OpenSpec.upto fnRepairNoneSpec)

/-- 'laws.FnExactOutageRepair', WHERE WHAT IT READS IS OF BULK AT MOST 1048576: true; the input reads as it did. -/
def fnExactOutageRepairUptoRow : OpenClaim := { program := "ytfnpiacmlahegaa", sum := "958c2c75cdb002c27d148b37bc29cded63fc41a20861893555fb101ac5f2d49c", func := "loop.example/messkitchen/laws.FnExactOutageRepair", spec := "fnExactOutageRepair", unfollowed := true, recurses := true, apart := false, narrowed := true }
def FnExactOutageRepairUptoSaid : Prop := fnExactOutageRepairUptoRow.holds Try.pinned (OpenSpec.upto fnExactOutageRepairSpec)

/-- 'laws.FnRepair', WHERE WHAT IT READS IS OF BULK AT MOST 1048576: true; the input reads as it did. -/
def fnRepairUptoRow : OpenClaim := { program := "ytfnpiacmlahegaa", sum := "958c2c75cdb002c27d148b37bc29cded63fc41a20861893555fb101ac5f2d49c", func := "loop.example/messkitchen/laws.FnRepair", spec := "fnRepair", unfollowed := true, recurses := true, apart := false, narrowed := true }
def FnRepairUptoSaid : Prop := fnRepairUptoRow.holds Try.pinned (OpenSpec.upto fnRepairSpec)

end Rows
end Go.Proofs.Ytfnpiacmlahegaa
