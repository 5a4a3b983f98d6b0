/-
  No cell of these rows narrows 'for every input' (looked for: loops, veiled, ifaces, maps, wideKeys, modest, calm, conditions, laid).
  DERIVED. THE GIVEN ROWS OF THIS SEAT. 4 by the template 'for every input the law returns true; each argument reads behind the call as it read before'; 0 by the template 'total and deterministic' (their statements: YthealffcpcbmhaaTotals.lean).
  GIVEN WITH THE SEED: the statements are not yours to turn. If you find one false, say at which input.
  Laid BY PROGRAM, IN A SANDBOX (cutbox-rows.mjs): the forced cells as the released guide's own fill.sh prints them over the translation 909e161400a231a7… (all of the seat's roots in one cut). By AI agents, Wed Nov 11 2026. No macro, syntax, notation, axiom, sorry.
-/
import Derived.Test.YthealffcpcbmhaaChecked
import GoSem.Claim
import GoSem.ClaimJoined
import GoSem.ClaimMapViews
import Derived.JoinedTies
import Derived.KernelRfl
namespace Go.Proofs.Ythealffcpcbmhaa
/- THE CELL 'sum', in the pinned program and in every row, IS THE sha256 OF THE DUMP (.gsa) THAT YthealffcpcbmhaaProg.lean LOADS. Nothing in Lean hashes anything: it is a label: what it is worth is what the hold of that sum in a sandbox is worth. -/
noncomputable def Try.pinned : Pinned := { name := "ythealffcpcbmhaa", sum := "909e161400a231a7defe4bfe33afb8dc113ef4bf3cf619fabfb10681904edbe0", checked := Try.checked }
namespace Rows
def none {H : Type} : Left H := { results := [], args := [] }

/-- 'runnellaw04.MomentSets': WHATEVER THE INPUT: true; the input reads as it did. -/
def momentSetsSpec : ChangeSpec := { name := "momentSets", fn := fun _ => fun
  | [d] => { results := [.lit (.bool true)], args := [d] }
  | _ => none }
def momentSetsRow : OpenClaim := { program := "ythealffcpcbmhaa", sum := "909e161400a231a7defe4bfe33afb8dc113ef4bf3cf619fabfb10681904edbe0", func := "runnel/runnellaw04.MomentSets", spec := "momentSets", unfollowed := true, recurses := true, plainKeys := false, apart := false }
def MomentSetsSaid : Prop := momentSetsRow.holds Try.pinned (OpenSpec.ofChange momentSetsSpec)

/-- ITS FALSE NEIGHBOUR: 'it returns false'. Refute it at one input. -/
def momentSetsWrong : ChangeSpec := { name := "momentSets", fn := fun _ => fun
  | [d] => { results := [.lit (.bool false)], args := [d] }
  | _ => none }
def MomentSetsWrongFalsely : Prop := momentSetsRow.holds Try.pinned (OpenSpec.ofChange momentSetsWrong)

/-- 'runnellaw04.MomentCloses': WHATEVER THE INPUT: true; the input reads as it did. -/
def momentClosesSpec : ChangeSpec := { name := "momentCloses", fn := fun _ => fun
  | [d1, d2] => { results := [.lit (.bool true)], args := [d1, d2] }
  | _ => none }
def momentClosesRow : OpenClaim := { program := "ythealffcpcbmhaa", sum := "909e161400a231a7defe4bfe33afb8dc113ef4bf3cf619fabfb10681904edbe0", func := "runnel/runnellaw04.MomentCloses", spec := "momentCloses", unfollowed := true, recurses := true, plainKeys := false, apart := false }
def MomentClosesSaid : Prop := momentClosesRow.holds Try.pinned (OpenSpec.ofChange momentClosesSpec)

/-- ITS FALSE NEIGHBOUR: 'it returns false'. Refute it at one input. -/
def momentClosesWrong : ChangeSpec := { name := "momentCloses", fn := fun _ => fun
  | [d1, d2] => { results := [.lit (.bool false)], args := [d1, d2] }
  | _ => none }
def MomentClosesWrongFalsely : Prop := momentClosesRow.holds Try.pinned (OpenSpec.ofChange momentClosesWrong)

/-- 'runnellaw04.MomentPartial': WHATEVER THE INPUT: true; the input reads as it did. -/
def momentPartialSpec : ChangeSpec := { name := "momentPartial", fn := fun _ => fun
  | [d1, d2, d3] => { results := [.lit (.bool true)], args := [d1, d2, d3] }
  | _ => none }
def momentPartialRow : OpenClaim := { program := "ythealffcpcbmhaa", sum := "909e161400a231a7defe4bfe33afb8dc113ef4bf3cf619fabfb10681904edbe0", func := "runnel/runnellaw04.MomentPartial", spec := "momentPartial", unfollowed := true, recurses := true, plainKeys := false, apart := false }
def MomentPartialSaid : Prop := momentPartialRow.holds Try.pinned (OpenSpec.ofChange momentPartialSpec)

/-- ITS FALSE NEIGHBOUR: 'it returns false'. Refute it at one input. -/
def momentPartialWrong : ChangeSpec := { name := "momentPartial", fn := fun _ => fun
  | [d1, d2, d3] => { results := [.lit (.bool false)], args := [d1, d2, d3] }
  | _ => none }
def MomentPartialWrongFalsely : Prop := momentPartialRow.holds Try.pinned (OpenSpec.ofChange momentPartialWrong)

/-- 'runnellaw04.MomentPairs': WHATEVER THE INPUT: true; the input reads as it did. -/
def momentPairsSpec : ChangeSpec := { name := "momentPairs", fn := fun _ => fun
  | [d1, d2] => { results := [.lit (.bool true)], args := [d1, d2] }
  | _ => none }
def momentPairsRow : OpenClaim := { program := "ythealffcpcbmhaa", sum := "909e161400a231a7defe4bfe33afb8dc113ef4bf3cf619fabfb10681904edbe0", func := "runnel/runnellaw04.MomentPairs", spec := "momentPairs", unfollowed := true, recurses := true, plainKeys := false, apart := false }
def MomentPairsSaid : Prop := momentPairsRow.holds Try.pinned (OpenSpec.ofChange momentPairsSpec)

/-- ITS FALSE NEIGHBOUR: 'it returns false'. Refute it at one input. -/
def momentPairsWrong : ChangeSpec := { name := "momentPairs", fn := fun _ => fun
  | [d1, d2] => { results := [.lit (.bool false)], args := [d1, d2] }
  | _ => none }
def MomentPairsWrongFalsely : Prop := momentPairsRow.holds Try.pinned (OpenSpec.ofChange momentPairsWrong)

/- THE SECOND FORM. 'bulk': how many values and letters a reading holds, each counted each time it is reached (what is shared counts as often as it is met; a slice's spare places count too). A statement '..UptoSaid' is the law's where the arguments, and the package variables that the reading takes, are together of bulk at most 1048576: NARROWER than '..Said'. Prove '..Said' where nothing that the law and all that it calls make is longer than what came in: it says more and counts as full. Else prove '..UptoSaid'. A law counts once. -/
mutual
def uptoBulk {H : Type} : DataW H → Nat
  | .lit (.string bytes) => bytes.length + 1
  | .lit _ => 1
  | .nil => 1
  | .ptr d => uptoBulk d + 1
  | .slice elems spare => uptoBulkAll elems + uptoBulkAll spare + 1
  | .agg parts => uptoBulkAll parts + 1
  | .iface _ d => uptoBulk d + 1
  | .map entries => uptoBulkEntries entries + 1
  | .held _ => 1
def uptoBulkAll {H : Type} : List (DataW H) → Nat
  | [] => 0
  | d :: r => uptoBulk d + uptoBulkAll r
def uptoBulkEntries {H : Type} : List (Lit × DataW H) → Nat
  | [] => 0
  | x :: r => uptoBulkEntry x + uptoBulkEntries r
def uptoBulkEntry {H : Type} : Lit × DataW H → Nat
  | (.string bytes, d) => bytes.length + uptoBulk d + 1
  | (_, d) => uptoBulk d + 1
 end
def uptoSmall : (H : Type) → List (DataW H) → Bool := fun _ ds => decide (uptoBulkAll ds ≤ 1048576)
def OpenSpec.upto (s : _root_.Go.ChangeSpec) : _root_.Go.OpenSpec := { _root_.Go.OpenSpec.ofChange s with cond := some uptoSmall }

/-- 'runnellaw04.MomentSets', WHERE WHAT IT READS IS OF BULK AT MOST 1048576: true; the input reads as it did. -/
def momentSetsUptoRow : OpenClaim := { program := "ythealffcpcbmhaa", sum := "909e161400a231a7defe4bfe33afb8dc113ef4bf3cf619fabfb10681904edbe0", func := "runnel/runnellaw04.MomentSets", spec := "momentSets", unfollowed := true, recurses := true, plainKeys := false, apart := false, narrowed := true }
def MomentSetsUptoSaid : Prop := momentSetsUptoRow.holds Try.pinned (OpenSpec.upto momentSetsSpec)

/-- 'runnellaw04.MomentCloses', WHERE WHAT IT READS IS OF BULK AT MOST 1048576: true; the input reads as it did. -/
def momentClosesUptoRow : OpenClaim := { program := "ythealffcpcbmhaa", sum := "909e161400a231a7defe4bfe33afb8dc113ef4bf3cf619fabfb10681904edbe0", func := "runnel/runnellaw04.MomentCloses", spec := "momentCloses", unfollowed := true, recurses := true, plainKeys := false, apart := false, narrowed := true }
def MomentClosesUptoSaid : Prop := momentClosesUptoRow.holds Try.pinned (OpenSpec.upto momentClosesSpec)

/-- 'runnellaw04.MomentPartial', WHERE WHAT IT READS IS OF BULK AT MOST 1048576: true; the input reads as it did. -/
def momentPartialUptoRow : OpenClaim := { program := "ythealffcpcbmhaa", sum := "909e161400a231a7defe4bfe33afb8dc113ef4bf3cf619fabfb10681904edbe0", func := "runnel/runnellaw04.MomentPartial", spec := "momentPartial", unfollowed := true, recurses := true, plainKeys := false, apart := false, narrowed := true }
def MomentPartialUptoSaid : Prop := momentPartialUptoRow.holds Try.pinned (OpenSpec.upto momentPartialSpec)

/-- 'runnellaw04.MomentPairs', WHERE WHAT IT READS IS OF BULK AT MOST 1048576: true; the input reads as it did. -/
def momentPairsUptoRow : OpenClaim := { program := "ythealffcpcbmhaa", sum := "909e161400a231a7defe4bfe33afb8dc113ef4bf3cf619fabfb10681904edbe0", func := "runnel/runnellaw04.MomentPairs", spec := "momentPairs", unfollowed := true, recurses := true, plainKeys := false, apart := false, narrowed := true }
def MomentPairsUptoSaid : Prop := momentPairsUptoRow.holds Try.pinned (OpenSpec.upto momentPairsSpec)

end Rows
end Go.Proofs.Ythealffcpcbmhaa
