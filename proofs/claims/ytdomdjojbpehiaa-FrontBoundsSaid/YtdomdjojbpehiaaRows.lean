/-
  No cell of these rows narrows 'for every input' (looked for: loops, veiled, ifaces, maps, wideKeys, modest, calm, conditions, laid).
  DERIVED. THE GIVEN ROWS OF THIS SEAT. 6 by the template 'for every input the law returns true; each argument reads behind the call as it read before'; 0 by the template 'total and deterministic' (their statements: YtdomdjojbpehiaaTotals.lean).
  GIVEN WITH THE SEED: the statements are not yours to turn. If you find one false, say at which input.
  Laid BY PROGRAM, IN A SANDBOX (cutbox-rows.mjs): the forced cells as the released guide's own fill.sh prints them over the translation 8ddff21e57241bc0… (all of the seat's roots in one cut). By AI agents, Wed Nov 11 2026. No macro, syntax, notation, axiom, sorry.
-/
import Derived.Test.YtdomdjojbpehiaaChecked
import GoSem.Claim
import GoSem.ClaimJoined
import GoSem.ClaimMapViews
import Derived.JoinedTies
import Derived.KernelRfl
namespace Go.Proofs.Ytdomdjojbpehiaa
/- THE CELL 'sum', in the pinned program and in every row, IS THE sha256 OF THE DUMP (.gsa) THAT YtdomdjojbpehiaaProg.lean LOADS. Nothing in Lean hashes anything: it is a label: what it is worth is what the hold of that sum in a sandbox is worth. -/
noncomputable def Try.pinned : Pinned := { name := "ytdomdjojbpehiaa", sum := "8ddff21e57241bc05a49fa6a5e53b80405c5b736fe35d5b9a0c9b79a734329eb", checked := Try.checked }
namespace Rows
def none {H : Type} : Left H := { results := [], args := [] }

/-- 'runnellaw05.FrontLeast': WHATEVER THE INPUT: true; the input reads as it did. -/
def frontLeastSpec : ChangeSpec := { name := "frontLeast", fn := fun _ => fun
  | [d1, d2, d3] => { results := [.lit (.bool true)], args := [d1, d2, d3] }
  | _ => none }
def frontLeastRow : OpenClaim := { program := "ytdomdjojbpehiaa", sum := "8ddff21e57241bc05a49fa6a5e53b80405c5b736fe35d5b9a0c9b79a734329eb", func := "runnel/runnellaw05.FrontLeast", spec := "frontLeast", unfollowed := true, recurses := true, apart := false }
def FrontLeastSaid : Prop := frontLeastRow.holds Try.pinned (OpenSpec.ofChange frontLeastSpec)

/-- ITS FALSE NEIGHBOUR: 'it returns false'. Refute it at one input. -/
def frontLeastWrong : ChangeSpec := { name := "frontLeast", fn := fun _ => fun
  | [d1, d2, d3] => { results := [.lit (.bool false)], args := [d1, d2, d3] }
  | _ => none }
def FrontLeastWrongFalsely : Prop := frontLeastRow.holds Try.pinned (OpenSpec.ofChange frontLeastWrong)

/-- 'runnellaw05.FrontTimes': WHATEVER THE INPUT: true; the input reads as it did. -/
def frontTimesSpec : ChangeSpec := { name := "frontTimes", fn := fun _ => fun
  | [d1, d2] => { results := [.lit (.bool true)], args := [d1, d2] }
  | _ => none }
def frontTimesRow : OpenClaim := { program := "ytdomdjojbpehiaa", sum := "8ddff21e57241bc05a49fa6a5e53b80405c5b736fe35d5b9a0c9b79a734329eb", func := "runnel/runnellaw05.FrontTimes", spec := "frontTimes", unfollowed := true, recurses := true, apart := false }
def FrontTimesSaid : Prop := frontTimesRow.holds Try.pinned (OpenSpec.ofChange frontTimesSpec)

/-- ITS FALSE NEIGHBOUR: 'it returns false'. Refute it at one input. -/
def frontTimesWrong : ChangeSpec := { name := "frontTimes", fn := fun _ => fun
  | [d1, d2] => { results := [.lit (.bool false)], args := [d1, d2] }
  | _ => none }
def FrontTimesWrongFalsely : Prop := frontTimesRow.holds Try.pinned (OpenSpec.ofChange frontTimesWrong)

/-- 'runnellaw05.FrontStands': WHATEVER THE INPUT: true; the input reads as it did. -/
def frontStandsSpec : ChangeSpec := { name := "frontStands", fn := fun _ => fun
  | [d1, d2, d3, d4] => { results := [.lit (.bool true)], args := [d1, d2, d3, d4] }
  | _ => none }
def frontStandsRow : OpenClaim := { program := "ytdomdjojbpehiaa", sum := "8ddff21e57241bc05a49fa6a5e53b80405c5b736fe35d5b9a0c9b79a734329eb", func := "runnel/runnellaw05.FrontStands", spec := "frontStands", unfollowed := true, recurses := true, apart := false }
def FrontStandsSaid : Prop := frontStandsRow.holds Try.pinned (OpenSpec.ofChange frontStandsSpec)

/-- ITS FALSE NEIGHBOUR: 'it returns false'. Refute it at one input. -/
def frontStandsWrong : ChangeSpec := { name := "frontStands", fn := fun _ => fun
  | [d1, d2, d3, d4] => { results := [.lit (.bool false)], args := [d1, d2, d3, d4] }
  | _ => none }
def FrontStandsWrongFalsely : Prop := frontStandsRow.holds Try.pinned (OpenSpec.ofChange frontStandsWrong)

/-- 'runnellaw05.FrontSets': WHATEVER THE INPUT: true; the input reads as it did. -/
def frontSetsSpec : ChangeSpec := { name := "frontSets", fn := fun _ => fun
  | [d] => { results := [.lit (.bool true)], args := [d] }
  | _ => none }
def frontSetsRow : OpenClaim := { program := "ytdomdjojbpehiaa", sum := "8ddff21e57241bc05a49fa6a5e53b80405c5b736fe35d5b9a0c9b79a734329eb", func := "runnel/runnellaw05.FrontSets", spec := "frontSets", unfollowed := true, recurses := true, apart := false }
def FrontSetsSaid : Prop := frontSetsRow.holds Try.pinned (OpenSpec.ofChange frontSetsSpec)

/-- ITS FALSE NEIGHBOUR: 'it returns false'. Refute it at one input. -/
def frontSetsWrong : ChangeSpec := { name := "frontSets", fn := fun _ => fun
  | [d] => { results := [.lit (.bool false)], args := [d] }
  | _ => none }
def FrontSetsWrongFalsely : Prop := frontSetsRow.holds Try.pinned (OpenSpec.ofChange frontSetsWrong)

/-- 'runnellaw05.FrontBounds': WHATEVER THE INPUT: true; the input reads as it did. -/
def frontBoundsSpec : ChangeSpec := { name := "frontBounds", fn := fun _ => fun
  | [d1, d2, d3] => { results := [.lit (.bool true)], args := [d1, d2, d3] }
  | _ => none }
def frontBoundsRow : OpenClaim := { program := "ytdomdjojbpehiaa", sum := "8ddff21e57241bc05a49fa6a5e53b80405c5b736fe35d5b9a0c9b79a734329eb", func := "runnel/runnellaw05.FrontBounds", spec := "frontBounds", unfollowed := true, recurses := true, apart := false }
def FrontBoundsSaid : Prop := frontBoundsRow.holds Try.pinned (OpenSpec.ofChange frontBoundsSpec)

/-- ITS FALSE NEIGHBOUR: 'it returns false'. Refute it at one input. -/
def frontBoundsWrong : ChangeSpec := { name := "frontBounds", fn := fun _ => fun
  | [d1, d2, d3] => { results := [.lit (.bool false)], args := [d1, d2, d3] }
  | _ => none }
def FrontBoundsWrongFalsely : Prop := frontBoundsRow.holds Try.pinned (OpenSpec.ofChange frontBoundsWrong)

/-- 'runnellaw05.FrontPairs': WHATEVER THE INPUT: true; the input reads as it did. -/
def frontPairsSpec : ChangeSpec := { name := "frontPairs", fn := fun _ => fun
  | [d1, d2] => { results := [.lit (.bool true)], args := [d1, d2] }
  | _ => none }
def frontPairsRow : OpenClaim := { program := "ytdomdjojbpehiaa", sum := "8ddff21e57241bc05a49fa6a5e53b80405c5b736fe35d5b9a0c9b79a734329eb", func := "runnel/runnellaw05.FrontPairs", spec := "frontPairs", unfollowed := true, recurses := true, apart := false }
def FrontPairsSaid : Prop := frontPairsRow.holds Try.pinned (OpenSpec.ofChange frontPairsSpec)

/-- ITS FALSE NEIGHBOUR: 'it returns false'. Refute it at one input. -/
def frontPairsWrong : ChangeSpec := { name := "frontPairs", fn := fun _ => fun
  | [d1, d2] => { results := [.lit (.bool false)], args := [d1, d2] }
  | _ => none }
def FrontPairsWrongFalsely : Prop := frontPairsRow.holds Try.pinned (OpenSpec.ofChange frontPairsWrong)

/- THE SECOND FORM. 'bulk': how many values and letters a reading holds, each counted each time it is reached (what is shared counts as often as it is met; a slice's spare places count too). A statement '..UptoSaid' is the law's where the arguments, and the package variables that the reading takes, are together of bulk at most 1048576: NARROWER than '..Said'. Prove '..Said' where nothing that the law and all that it calls make is longer than what came in: it says more and counts as full. Else prove '..UptoSaid'. A law counts once. -/
mutual
def uptoBulk {H : Type} : DataW H → Nat
  | .lit (.string bytes) => bytes.length + 1
  | .lit _ => 1
  | .nil => 1
  | .ptr d => uptoBulk d + 1
  | .slice elems spare => uptoBulkAll elems + uptoBulkAll spare + 1
  | .agg parts => uptoBulkAll parts + 1
  | .iface _ d => uptoBulk d + 1
  | .map entries => uptoBulkEntries entries + 1
  | .held _ => 1
def uptoBulkAll {H : Type} : List (DataW H) → Nat
  | [] => 0
  | d :: r => uptoBulk d + uptoBulkAll r
def uptoBulkEntries {H : Type} : List (Lit × DataW H) → Nat
  | [] => 0
  | x :: r => uptoBulkEntry x + uptoBulkEntries r
def uptoBulkEntry {H : Type} : Lit × DataW H → Nat
  | (.string bytes, d) => bytes.length + uptoBulk d + 1
  | (_, d) => uptoBulk d + 1
 end
def uptoSmall : (H : Type) → List (DataW H) → Bool := fun _ ds => decide (uptoBulkAll ds ≤ 1048576)
def OpenSpec.upto (s : _root_.Go.ChangeSpec) : _root_.Go.OpenSpec := { _root_.Go.OpenSpec.ofChange s with cond := some uptoSmall }

/-- 'runnellaw05.FrontLeast', WHERE WHAT IT READS IS OF BULK AT MOST 1048576: true; the input reads as it did. -/
def frontLeastUptoRow : OpenClaim := { program := "ytdomdjojbpehiaa", sum := "8ddff21e57241bc05a49fa6a5e53b80405c5b736fe35d5b9a0c9b79a734329eb", func := "runnel/runnellaw05.FrontLeast", spec := "frontLeast", unfollowed := true, recurses := true, apart := false, narrowed := true }
def FrontLeastUptoSaid : Prop := frontLeastUptoRow.holds Try.pinned (OpenSpec.upto frontLeastSpec)

/-- 'runnellaw05.FrontTimes', WHERE WHAT IT READS IS OF BULK AT MOST 1048576: true; the input reads as it did. -/
def frontTimesUptoRow : OpenClaim := { program := "ytdomdjojbpehiaa", sum := "8ddff21e57241bc05a49fa6a5e53b80405c5b736fe35d5b9a0c9b79a734329eb", func := "runnel/runnellaw05.FrontTimes", spec := "frontTimes", unfollowed := true, recurses := true, apart := false, narrowed := true }
def FrontTimesUptoSaid : Prop := frontTimesUptoRow.holds Try.pinned (OpenSpec.upto frontTimesSpec)

/-- 'runnellaw05.FrontStands', WHERE WHAT IT READS IS OF BULK AT MOST 1048576: true; the input reads as it did. -/
def frontStandsUptoRow : OpenClaim := { program := "ytdomdjojbpehiaa", sum := "8ddff21e57241bc05a49fa6a5e53b80405c5b736fe35d5b9a0c9b79a734329eb", func := "runnel/runnellaw05.FrontStands", spec := "frontStands", unfollowed := true, recurses := true, apart := false, narrowed := true }
def FrontStandsUptoSaid : Prop := frontStandsUptoRow.holds Try.pinned (OpenSpec.upto frontStandsSpec)

/-- 'runnellaw05.FrontSets', WHERE WHAT IT READS IS OF BULK AT MOST 1048576: true; the input reads as it did. -/
def frontSetsUptoRow : OpenClaim := { program := "ytdomdjojbpehiaa", sum := "8ddff21e57241bc05a49fa6a5e53b80405c5b736fe35d5b9a0c9b79a734329eb", func := "runnel/runnellaw05.FrontSets", spec := "frontSets", unfollowed := true, recurses := true, apart := false, narrowed := true }
def FrontSetsUptoSaid : Prop := frontSetsUptoRow.holds Try.pinned (OpenSpec.upto frontSetsSpec)

/-- 'runnellaw05.FrontBounds', WHERE WHAT IT READS IS OF BULK AT MOST 1048576: true; the input reads as it did. -/
def frontBoundsUptoRow : OpenClaim := { program := "ytdomdjojbpehiaa", sum := "8ddff21e57241bc05a49fa6a5e53b80405c5b736fe35d5b9a0c9b79a734329eb", func := "runnel/runnellaw05.FrontBounds", spec := "frontBounds", unfollowed := true, recurses := true, apart := false, narrowed := true }
def FrontBoundsUptoSaid : Prop := frontBoundsUptoRow.holds Try.pinned (OpenSpec.upto frontBoundsSpec)

/-- 'runnellaw05.FrontPairs', WHERE WHAT IT READS IS OF BULK AT MOST 1048576: true; the input reads as it did. -/
def frontPairsUptoRow : OpenClaim := { program := "ytdomdjojbpehiaa", sum := "8ddff21e57241bc05a49fa6a5e53b80405c5b736fe35d5b9a0c9b79a734329eb", func := "runnel/runnellaw05.FrontPairs", spec := "frontPairs", unfollowed := true, recurses := true, apart := false, narrowed := true }
def FrontPairsUptoSaid : Prop := frontPairsUptoRow.holds Try.pinned (OpenSpec.upto frontPairsSpec)

end Rows
end Go.Proofs.Ytdomdjojbpehiaa
