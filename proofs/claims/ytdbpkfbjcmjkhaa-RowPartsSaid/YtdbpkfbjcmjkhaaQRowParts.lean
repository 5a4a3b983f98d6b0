/- How the arguments of the law RowParts read, and the plain statement that is left of it. -/
import Derived.Test.YtdbpkfbjcmjkhaaORowPartsx6
import Derived.Test.YtdbpkfbjcmjkhaaOpens
namespace Go.Proofs.Ytdbpkfbjcmjkhaa.PRowParts
open Go.RowKit Go.Proofs.YtdbpkfbjcmjkhaaW.PrintWords Go.Proofs.YtdbpkfbjcmjkhaaW.PrintLast Go.Proofs.Ytdbpkfbjcmjkhaa.Opens
set_option linter.unusedVariables false
def W28 (x : S28) : Prop := (Lit.int .i64 x.f0).wf = true ∧ (Lit.int .i64 x.f1).wf = true ∧ x.f2.size ≤ maxLen
theorem op_28 : Tells Try.prog 28 k28 W28 := op_iso (fun x : S28 => (x.f0, x.f1, x.f2)) (fun a => ⟨a.1, a.2.1, a.2.2⟩) (fun _ => rfl) (op_struct Try.underlying28 (by kernel_rfl) (fs_cons (by rfl) (by kernel_rfl) (op_int Try.underlying3) (fs_cons (by rfl) (by kernel_rfl) (op_int Try.underlying3) (fs_last (by rfl) (by kernel_rfl) (op_string Try.underlying9)))))
/-- The plain statement that is left of the law. -/
def runnellaw03_RowParts.Pure : Prop := ∀ (l0 : List S28) (l1 : List Int) (a2 : Int), l0.length ≤ maxLen → (∀ x ∈ l0, W28 x) → l1.length ≤ maxLen → (∀ x ∈ l1, (Lit.int .i64 x).wf = true) → (Lit.int .i64 a2).wf = true → ∃ k, runnellaw03_RowParts.f k l0 l1 a2 = some true
end Go.Proofs.Ytdbpkfbjcmjkhaa.PRowParts
