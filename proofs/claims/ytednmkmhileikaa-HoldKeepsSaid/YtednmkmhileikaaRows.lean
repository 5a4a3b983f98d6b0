/-
  No cell of these rows narrows 'for every input' (looked for: loops, veiled, ifaces, maps, wideKeys, modest, calm, conditions, laid).
  DERIVED. THE GIVEN ROWS OF THIS SEAT. 3 by the template 'for every input the law returns true; each argument reads behind the call as it read before'; 0 by the template 'total and deterministic' (their statements: YtednmkmhileikaaTotals.lean).
  GIVEN WITH THE SEED: the statements are not yours to turn. If you find one false, say at which input.
  Laid BY PROGRAM, IN A SANDBOX (cutbox-rows.mjs): the forced cells as the released guide's own fill.sh prints them over the translation 8da87bf7a5f8bdd3… (all of the seat's roots in one cut). By AI agents, Wed Nov 11 2026. No macro, syntax, notation, axiom, sorry.
-/
import Derived.Test.YtednmkmhileikaaChecked
import GoSem.Claim
import GoSem.ClaimJoined
import GoSem.ClaimMapViews
import Derived.JoinedTies
import Derived.KernelRfl
namespace Go.Proofs.Ytednmkmhileikaa
/- THE CELL 'sum', in the pinned program and in every row, IS THE sha256 OF THE DUMP (.gsa) THAT YtednmkmhileikaaProg.lean LOADS. Nothing in Lean hashes anything: it is a label: what it is worth is what the hold of that sum in a sandbox is worth. -/
noncomputable def Try.pinned : Pinned := { name := "ytednmkmhileikaa", sum := "8da87bf7a5f8bdd317e62e7ef3ed1782cc5be96a92bbb55fbaf0e381772d8795", checked := Try.checked }
namespace Rows
def none {H : Type} : Left H := { results := [], args := [] }

/-- 'runnellaw21.HoldKeeps': WHATEVER THE INPUT: true; the input reads as it did. -/
def holdKeepsSpec : ChangeSpec := { name := "holdKeeps", fn := fun _ => fun
  | [d1, d2] => { results := [.lit (.bool true)], args := [d1, d2] }
  | _ => none }
def holdKeepsRow : OpenClaim := { program := "ytednmkmhileikaa", sum := "8da87bf7a5f8bdd317e62e7ef3ed1782cc5be96a92bbb55fbaf0e381772d8795", func := "runnel/runnellaw21.HoldKeeps", spec := "holdKeeps", inPlace := ["slices.overlaps[runnel/api.Up]"], unfollowed := true, recurses := true, apart := false }
def HoldKeepsSaid : Prop := holdKeepsRow.holds Try.pinned (OpenSpec.ofChange holdKeepsSpec)

/-- ITS FALSE NEIGHBOUR: 'it returns false'. Refute it at one input. -/
def holdKeepsWrong : ChangeSpec := { name := "holdKeeps", fn := fun _ => fun
  | [d1, d2] => { results := [.lit (.bool false)], args := [d1, d2] }
  | _ => none }
def HoldKeepsWrongFalsely : Prop := holdKeepsRow.holds Try.pinned (OpenSpec.ofChange holdKeepsWrong)

/-- 'runnellaw21.HoldPlays': WHATEVER THE INPUT: true; the input reads as it did. -/
def holdPlaysSpec : ChangeSpec := { name := "holdPlays", fn := fun _ => fun
  | [d] => { results := [.lit (.bool true)], args := [d] }
  | _ => none }
def holdPlaysRow : OpenClaim := { program := "ytednmkmhileikaa", sum := "8da87bf7a5f8bdd317e62e7ef3ed1782cc5be96a92bbb55fbaf0e381772d8795", func := "runnel/runnellaw21.HoldPlays", spec := "holdPlays", inPlace := ["slices.overlaps[runnel/api.Up]"], unfollowed := true, recurses := true, apart := false }
def HoldPlaysSaid : Prop := holdPlaysRow.holds Try.pinned (OpenSpec.ofChange holdPlaysSpec)

/-- ITS FALSE NEIGHBOUR: 'it returns false'. Refute it at one input. -/
def holdPlaysWrong : ChangeSpec := { name := "holdPlays", fn := fun _ => fun
  | [d] => { results := [.lit (.bool false)], args := [d] }
  | _ => none }
def HoldPlaysWrongFalsely : Prop := holdPlaysRow.holds Try.pinned (OpenSpec.ofChange holdPlaysWrong)

/-- 'runnellaw21.HoldEmpties': WHATEVER THE INPUT: true; the input reads as it did. -/
def holdEmptiesSpec : ChangeSpec := { name := "holdEmpties", fn := fun _ => fun
  | [d] => { results := [.lit (.bool true)], args := [d] }
  | _ => none }
def holdEmptiesRow : OpenClaim := { program := "ytednmkmhileikaa", sum := "8da87bf7a5f8bdd317e62e7ef3ed1782cc5be96a92bbb55fbaf0e381772d8795", func := "runnel/runnellaw21.HoldEmpties", spec := "holdEmpties", inPlace := ["slices.overlaps[runnel/api.Up]"], unfollowed := true, recurses := true, apart := false }
def HoldEmptiesSaid : Prop := holdEmptiesRow.holds Try.pinned (OpenSpec.ofChange holdEmptiesSpec)

/-- ITS FALSE NEIGHBOUR: 'it returns false'. Refute it at one input. -/
def holdEmptiesWrong : ChangeSpec := { name := "holdEmpties", fn := fun _ => fun
  | [d] => { results := [.lit (.bool false)], args := [d] }
  | _ => none }
def HoldEmptiesWrongFalsely : Prop := holdEmptiesRow.holds Try.pinned (OpenSpec.ofChange holdEmptiesWrong)

/- THE SECOND FORM. 'bulk': how many values and letters a reading holds, each counted each time it is reached (what is shared counts as often as it is met; a slice's spare places count too). A statement '..UptoSaid' is the law's where the arguments, and the package variables that the reading takes, are together of bulk at most 1048576: NARROWER than '..Said'. Prove '..Said' where nothing that the law and all that it calls make is longer than what came in: it says more and counts as full. Else prove '..UptoSaid'. A law counts once. -/
mutual
def uptoBulk {H : Type} : DataW H → Nat
  | .lit (.string bytes) => bytes.length + 1
  | .lit _ => 1
  | .nil => 1
  | .ptr d => uptoBulk d + 1
  | .slice elems spare => uptoBulkAll elems + uptoBulkAll spare + 1
  | .agg parts => uptoBulkAll parts + 1
  | .iface _ d => uptoBulk d + 1
  | .map entries => uptoBulkEntries entries + 1
  | .held _ => 1
def uptoBulkAll {H : Type} : List (DataW H) → Nat
  | [] => 0
  | d :: r => uptoBulk d + uptoBulkAll r
def uptoBulkEntries {H : Type} : List (Lit × DataW H) → Nat
  | [] => 0
  | x :: r => uptoBulkEntry x + uptoBulkEntries r
def uptoBulkEntry {H : Type} : Lit × DataW H → Nat
  | (.string bytes, d) => bytes.length + uptoBulk d + 1
  | (_, d) => uptoBulk d + 1
 end
def uptoSmall : (H : Type) → List (DataW H) → Bool := fun _ ds => decide (uptoBulkAll ds ≤ 1048576)
def OpenSpec.upto (s : _root_.Go.ChangeSpec) : _root_.Go.OpenSpec := { _root_.Go.OpenSpec.ofChange s with cond := some uptoSmall }

/-- 'runnellaw21.HoldKeeps', WHERE WHAT IT READS IS OF BULK AT MOST 1048576: true; the input reads as it did. -/
def holdKeepsUptoRow : OpenClaim := { program := "ytednmkmhileikaa", sum := "8da87bf7a5f8bdd317e62e7ef3ed1782cc5be96a92bbb55fbaf0e381772d8795", func := "runnel/runnellaw21.HoldKeeps", spec := "holdKeeps", inPlace := ["slices.overlaps[runnel/api.Up]"], unfollowed := true, recurses := true, apart := false, narrowed := true }
def HoldKeepsUptoSaid : Prop := holdKeepsUptoRow.holds Try.pinned (OpenSpec.upto holdKeepsSpec)

/-- 'runnellaw21.HoldPlays', WHERE WHAT IT READS IS OF BULK AT MOST 1048576: true; the input reads as it did. -/
def holdPlaysUptoRow : OpenClaim := { program := "ytednmkmhileikaa", sum := "8da87bf7a5f8bdd317e62e7ef3ed1782cc5be96a92bbb55fbaf0e381772d8795", func := "runnel/runnellaw21.HoldPlays", spec := "holdPlays", inPlace := ["slices.overlaps[runnel/api.Up]"], unfollowed := true, recurses := true, apart := false, narrowed := true }
def HoldPlaysUptoSaid : Prop := holdPlaysUptoRow.holds Try.pinned (OpenSpec.upto holdPlaysSpec)

/-- 'runnellaw21.HoldEmpties', WHERE WHAT IT READS IS OF BULK AT MOST 1048576: true; the input reads as it did. -/
def holdEmptiesUptoRow : OpenClaim := { program := "ytednmkmhileikaa", sum := "8da87bf7a5f8bdd317e62e7ef3ed1782cc5be96a92bbb55fbaf0e381772d8795", func := "runnel/runnellaw21.HoldEmpties", spec := "holdEmpties", inPlace := ["slices.overlaps[runnel/api.Up]"], unfollowed := true, recurses := true, apart := false, narrowed := true }
def HoldEmptiesUptoSaid : Prop := holdEmptiesUptoRow.holds Try.pinned (OpenSpec.upto holdEmptiesSpec)

end Rows
end Go.Proofs.Ytednmkmhileikaa
