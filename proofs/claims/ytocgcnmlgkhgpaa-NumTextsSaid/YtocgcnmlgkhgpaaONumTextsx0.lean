/- One piece of the machine's side of the law, written by a program over the translation; Lean checks it. -/
import Derived.Test.YtocgcnmlgkhgpaaProg
import Derived.Below
import Derived.Deep.Draws
import Derived.Deep.AppendLies
import Derived.Maps.AppendAt
import Derived.OwnWalk
import Derived.Laws.BytesArg
import Derived.Laws.MakeOwn
import Derived.Laws.OwnMore
import Derived.Deep.OwnRows
import Derived.Tactics
import Derived.Lib.ConvBytes
import Derived.Laws.Slices
import Derived.WalkKit
import Derived.KernelRfl
import Derived.RowKit3
import Derived.Deep.LoopGhost
import Derived.Deep.QuietTactic
import Derived.BigQuiet
import Derived.WideLaws
import Derived.Deep.DeepCutAuto
import Derived.Deep.CutBlock
import Derived.Deep.RegionHeld3
import Derived.Laws.Rows
import Derived.Lib.AppendStr
import Derived.ArgAppend
import Derived.Laws.IdiomCopy
import Derived.OrdersHeld
import Derived.Laws.BitsLemmas
import Derived.RowKit
import Derived.Test.YtocgcnmlgkhgpaaWWords
import Derived.Test.YtocgcnmlgkhgpaaWLast
import Derived.Test.YtocgcnmlgkhgpaaWTab
import Derived.Test.YtocgcnmlgkhgpaaWFour
import Derived.Test.YtocgcnmlgkhgpaaWQPut
import Derived.Test.YtocgcnmlgkhgpaaWApart
import Derived.Test.YtocgcnmlgkhgpaaWArr
import Derived.Test.YtocgcnmlgkhgpaaWZeros
import Derived.Test.YtocgcnmlgkhgpaaWFoot
import Derived.Test.YtocgcnmlgkhgpaaWKept
import Derived.Test.YtocgcnmlgkhgpaaWShare
import Derived.Test.YtocgcnmlgkhgpaaWN
import Derived.Test.YtocgcnmlgkhgpaaWFootNe
import Derived.Test.YtocgcnmlgkhgpaaWAt
import Derived.Test.YtocgcnmlgkhgpaaWEqStruct
import Derived.Test.YtocgcnmlgkhgpaaWRepsOne
import Derived.Test.YtocgcnmlgkhgpaaWInv
import Derived.Test.YtocgcnmlgkhgpaaWInvWords
import Derived.Test.YtocgcnmlgkhgpaaWGuard
import Derived.Test.YtocgcnmlgkhgpaaWNEv
import Derived.Test.YtocgcnmlgkhgpaaWMore
namespace Go.Proofs.Ytocgcnmlgkhgpaa.PNumTexts
open Go.RowKit Go.Proofs.YtocgcnmlgkhgpaaW.PrintWords Go.Proofs.YtocgcnmlgkhgpaaW.PrintLast Go.Proofs.YtocgcnmlgkhgpaaW.PrintMore
attribute [local go_sem] max2_int min2_int max_two min_two max_three min_three max_four min_four   -- for this text's walks alone
set_option linter.unusedVariables false
set_option linter.unusedSimpArgs false



def errW : Option Int → Value
  | none => .nilIface
  | some c => .iface 0 (.int .i64 c)
theorem errW_none : errW none = .nilIface := rfl
theorem errW_some (c : Int) : errW (some c) = .iface 0 (.int .i64 c) := rfl

theorem info5 : (Try.prog.info? 5).map (fun i => (i.zero, i.size, i.bytes)) = some (some (.int .u8 0), 1, 1) := by kernel_rfl
-- the values' own types

end Go.Proofs.Ytocgcnmlgkhgpaa.PNumTexts
