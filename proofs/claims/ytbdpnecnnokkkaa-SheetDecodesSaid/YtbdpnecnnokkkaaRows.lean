/-
  No cell of these rows narrows 'for every input' (looked for: loops, veiled, ifaces, maps, wideKeys, modest, calm, conditions, laid).
  DERIVED. THE GIVEN ROWS OF THIS SEAT. 3 by the template 'for every input the law returns true; each argument reads behind the call as it read before'; 0 by the template 'total and deterministic' (their statements: YtbdpnecnnokkkaaTotals.lean).
  GIVEN WITH THE SEED: the statements are not yours to turn. If you find one false, say at which input.
  Laid BY PROGRAM, IN A SANDBOX (cutbox-rows.mjs): the forced cells as the released guide's own fill.sh prints them over the translation d897143a3c858cc6… (all of the seat's roots in one cut). By AI agents, Wed Nov 11 2026. No macro, syntax, notation, axiom, sorry.
-/
import Derived.Test.YtbdpnecnnokkkaaChecked
import GoSem.Claim
import GoSem.ClaimJoined
import GoSem.ClaimMapViews
import Derived.JoinedTies
import Derived.KernelRfl
namespace Go.Proofs.Ytbdpnecnnokkkaa
/- THE CELL 'sum', in the pinned program and in every row, IS THE sha256 OF THE DUMP (.gsa) THAT YtbdpnecnnokkkaaProg.lean LOADS. Nothing in Lean hashes anything: it is a label: what it is worth is what the hold of that sum in a sandbox is worth. -/
noncomputable def Try.pinned : Pinned := { name := "ytbdpnecnnokkkaa", sum := "d897143a3c858cc67108f83d092e8f3863436f269548e9a3f6faf1f34b6a2d8b", checked := Try.checked }
namespace Rows
def none {H : Type} : Left H := { results := [], args := [] }

/-- 'runnellaw17.SheetSame': WHATEVER THE INPUT: true; the input reads as it did. -/
def sheetSameSpec : ChangeSpec := { name := "sheetSame", fn := fun _ => fun
  | [d1, d2] => { results := [.lit (.bool true)], args := [d1, d2] }
  | _ => none }
def sheetSameRow : OpenClaim := { program := "ytbdpnecnnokkkaa", sum := "d897143a3c858cc67108f83d092e8f3863436f269548e9a3f6faf1f34b6a2d8b", func := "runnel/runnellaw17.SheetSame", spec := "sheetSame", unfollowed := true, recurses := true, apart := false }
def SheetSameSaid : Prop := sheetSameRow.holds Try.pinned (OpenSpec.ofChange sheetSameSpec)

/-- ITS FALSE NEIGHBOUR: 'it returns false'. Refute it at one input. -/
def sheetSameWrong : ChangeSpec := { name := "sheetSame", fn := fun _ => fun
  | [d1, d2] => { results := [.lit (.bool false)], args := [d1, d2] }
  | _ => none }
def SheetSameWrongFalsely : Prop := sheetSameRow.holds Try.pinned (OpenSpec.ofChange sheetSameWrong)

/-- 'runnellaw17.SheetEncodes': WHATEVER THE INPUT: true; the input reads as it did. -/
def sheetEncodesSpec : ChangeSpec := { name := "sheetEncodes", fn := fun _ => fun
  | [d] => { results := [.lit (.bool true)], args := [d] }
  | _ => none }
def sheetEncodesRow : OpenClaim := { program := "ytbdpnecnnokkkaa", sum := "d897143a3c858cc67108f83d092e8f3863436f269548e9a3f6faf1f34b6a2d8b", func := "runnel/runnellaw17.SheetEncodes", spec := "sheetEncodes", unfollowed := true, recurses := true, apart := false }
def SheetEncodesSaid : Prop := sheetEncodesRow.holds Try.pinned (OpenSpec.ofChange sheetEncodesSpec)

/-- ITS FALSE NEIGHBOUR: 'it returns false'. Refute it at one input. -/
def sheetEncodesWrong : ChangeSpec := { name := "sheetEncodes", fn := fun _ => fun
  | [d] => { results := [.lit (.bool false)], args := [d] }
  | _ => none }
def SheetEncodesWrongFalsely : Prop := sheetEncodesRow.holds Try.pinned (OpenSpec.ofChange sheetEncodesWrong)

/-- 'runnellaw17.SheetDecodes': WHATEVER THE INPUT: true; the input reads as it did. -/
def sheetDecodesSpec : ChangeSpec := { name := "sheetDecodes", fn := fun _ => fun
  | [d] => { results := [.lit (.bool true)], args := [d] }
  | _ => none }
def sheetDecodesRow : OpenClaim := { program := "ytbdpnecnnokkkaa", sum := "d897143a3c858cc67108f83d092e8f3863436f269548e9a3f6faf1f34b6a2d8b", func := "runnel/runnellaw17.SheetDecodes", spec := "sheetDecodes", unfollowed := true, recurses := true, apart := false }
def SheetDecodesSaid : Prop := sheetDecodesRow.holds Try.pinned (OpenSpec.ofChange sheetDecodesSpec)

/-- ITS FALSE NEIGHBOUR: 'it returns false'. Refute it at one input. -/
def sheetDecodesWrong : ChangeSpec := { name := "sheetDecodes", fn := fun _ => fun
  | [d] => { results := [.lit (.bool false)], args := [d] }
  | _ => none }
def SheetDecodesWrongFalsely : Prop := sheetDecodesRow.holds Try.pinned (OpenSpec.ofChange sheetDecodesWrong)

/- THE SECOND FORM. 'bulk': how many values and letters a reading holds, each counted each time it is reached (what is shared counts as often as it is met; a slice's spare places count too). A statement '..UptoSaid' is the law's where the arguments, and the package variables that the reading takes, are together of bulk at most 1048576: NARROWER than '..Said'. Prove '..Said' where nothing that the law and all that it calls make is longer than what came in: it says more and counts as full. Else prove '..UptoSaid'. A law counts once. -/
mutual
def uptoBulk {H : Type} : DataW H → Nat
  | .lit (.string bytes) => bytes.length + 1
  | .lit _ => 1
  | .nil => 1
  | .ptr d => uptoBulk d + 1
  | .slice elems spare => uptoBulkAll elems + uptoBulkAll spare + 1
  | .agg parts => uptoBulkAll parts + 1
  | .iface _ d => uptoBulk d + 1
  | .map entries => uptoBulkEntries entries + 1
  | .held _ => 1
def uptoBulkAll {H : Type} : List (DataW H) → Nat
  | [] => 0
  | d :: r => uptoBulk d + uptoBulkAll r
def uptoBulkEntries {H : Type} : List (Lit × DataW H) → Nat
  | [] => 0
  | x :: r => uptoBulkEntry x + uptoBulkEntries r
def uptoBulkEntry {H : Type} : Lit × DataW H → Nat
  | (.string bytes, d) => bytes.length + uptoBulk d + 1
  | (_, d) => uptoBulk d + 1
 end
def uptoSmall : (H : Type) → List (DataW H) → Bool := fun _ ds => decide (uptoBulkAll ds ≤ 1048576)
def OpenSpec.upto (s : _root_.Go.ChangeSpec) : _root_.Go.OpenSpec := { _root_.Go.OpenSpec.ofChange s with cond := some uptoSmall }

/-- 'runnellaw17.SheetSame', WHERE WHAT IT READS IS OF BULK AT MOST 1048576: true; the input reads as it did. -/
def sheetSameUptoRow : OpenClaim := { program := "ytbdpnecnnokkkaa", sum := "d897143a3c858cc67108f83d092e8f3863436f269548e9a3f6faf1f34b6a2d8b", func := "runnel/runnellaw17.SheetSame", spec := "sheetSame", unfollowed := true, recurses := true, apart := false, narrowed := true }
def SheetSameUptoSaid : Prop := sheetSameUptoRow.holds Try.pinned (OpenSpec.upto sheetSameSpec)

/-- 'runnellaw17.SheetEncodes', WHERE WHAT IT READS IS OF BULK AT MOST 1048576: true; the input reads as it did. -/
def sheetEncodesUptoRow : OpenClaim := { program := "ytbdpnecnnokkkaa", sum := "d897143a3c858cc67108f83d092e8f3863436f269548e9a3f6faf1f34b6a2d8b", func := "runnel/runnellaw17.SheetEncodes", spec := "sheetEncodes", unfollowed := true, recurses := true, apart := false, narrowed := true }
def SheetEncodesUptoSaid : Prop := sheetEncodesUptoRow.holds Try.pinned (OpenSpec.upto sheetEncodesSpec)

/-- 'runnellaw17.SheetDecodes', WHERE WHAT IT READS IS OF BULK AT MOST 1048576: true; the input reads as it did. -/
def sheetDecodesUptoRow : OpenClaim := { program := "ytbdpnecnnokkkaa", sum := "d897143a3c858cc67108f83d092e8f3863436f269548e9a3f6faf1f34b6a2d8b", func := "runnel/runnellaw17.SheetDecodes", spec := "sheetDecodes", unfollowed := true, recurses := true, apart := false, narrowed := true }
def SheetDecodesUptoSaid : Prop := sheetDecodesUptoRow.holds Try.pinned (OpenSpec.upto sheetDecodesSpec)

end Rows
end Go.Proofs.Ytbdpnecnnokkkaa
