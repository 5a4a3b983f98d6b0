/- How the arguments of the law WireFronts read, and the plain statement that is left of it. -/
import Derived.Test.YtpplklickfioiaaOWireFrontsx7
import Derived.Test.YtpplklickfioiaaOpens
namespace Go.Proofs.Ytpplklickfioiaa.PWireFronts
open Go.RowKit Go.Proofs.YtpplklickfioiaaW.PrintWords Go.Proofs.YtpplklickfioiaaW.PrintLast Go.Proofs.Ytpplklickfioiaa.Opens
set_option linter.unusedVariables false
def W36 (x : S36) : Prop := (Lit.int .i64 x.f0).wf = true ∧ (Lit.int .i64 x.f1).wf = true
theorem op_36 : Tells Try.prog 36 k36 W36 := op_iso (fun x : S36 => (x.f0, x.f1)) (fun a => ⟨a.1, a.2⟩) (fun _ => rfl) (op_struct Try.underlying36 (by kernel_rfl) (fs_cons (by rfl) (by kernel_rfl) (op_int Try.underlying3) (fs_last (by rfl) (by kernel_rfl) (op_int Try.underlying3))))
/-- The plain statement that is left of the law. -/
def runnellaw26_WireFronts.Pure : Prop := ∀ (l0 : List Int) (l1 : List S36), l0.length ≤ maxLen → (∀ x ∈ l0, (Lit.int .u8 x).wf = true) → l1.length ≤ maxLen → (∀ x ∈ l1, W36 x) → ∃ k, runnellaw26_WireFronts.f k l0 l1 = some true
end Go.Proofs.Ytpplklickfioiaa.PWireFronts
