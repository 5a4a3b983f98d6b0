/- How the arguments of the law RowBytes read, and the plain statement that is left of it. -/
import Derived.Test.YtdbpkfbjcmjkhaaORowBytesx7
import Derived.Test.YtdbpkfbjcmjkhaaOpens
namespace Go.Proofs.Ytdbpkfbjcmjkhaa.PRowBytes
open Go.RowKit Go.Proofs.YtdbpkfbjcmjkhaaW.PrintWords Go.Proofs.YtdbpkfbjcmjkhaaW.PrintLast Go.Proofs.Ytdbpkfbjcmjkhaa.Opens
set_option linter.unusedVariables false
def W28 (x : S28) : Prop := (Lit.int .i64 x.f0).wf = true ∧ (Lit.int .i64 x.f1).wf = true ∧ x.f2.size ≤ maxLen
theorem op_28 : Tells Try.prog 28 k28 W28 := op_iso (fun x : S28 => (x.f0, x.f1, x.f2)) (fun a => ⟨a.1, a.2.1, a.2.2⟩) (fun _ => rfl) (op_struct Try.underlying28 (by kernel_rfl) (fs_cons (by rfl) (by kernel_rfl) (op_int Try.underlying3) (fs_cons (by rfl) (by kernel_rfl) (op_int Try.underlying3) (fs_last (by rfl) (by kernel_rfl) (op_string Try.underlying9)))))
/-- The plain statement that is left of the law. -/
def runnellaw03_RowBytes.Pure : Prop := ∀ (l0 : List Int) (l1 : List S28), l0.length ≤ maxLen → (∀ x ∈ l0, (Lit.int .u8 x).wf = true) → l1.length ≤ maxLen → (∀ x ∈ l1, W28 x) → ∃ k, runnellaw03_RowBytes.f k l0 l1 = some true
end Go.Proofs.Ytdbpkfbjcmjkhaa.PRowBytes
