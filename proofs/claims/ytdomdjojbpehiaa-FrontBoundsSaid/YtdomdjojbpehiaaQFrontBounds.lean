/- How the arguments of the law FrontBounds read, and the plain statement that is left of it. -/
import Derived.Test.YtdomdjojbpehiaaOFrontBoundsx5
import Derived.Test.YtdomdjojbpehiaaOpens
namespace Go.Proofs.Ytdomdjojbpehiaa.PFrontBounds
open Go.RowKit Go.Proofs.YtdomdjojbpehiaaW.PrintWords Go.Proofs.YtdomdjojbpehiaaW.PrintLast Go.Proofs.Ytdomdjojbpehiaa.Opens
set_option linter.unusedVariables false
def W24 (x : S24) : Prop := (Lit.int .i64 x.f0).wf = true ∧ (Lit.int .i64 x.f1).wf = true
theorem op_24 : Tells Try.prog 24 k24 W24 := op_iso (fun x : S24 => (x.f0, x.f1)) (fun a => ⟨a.1, a.2⟩) (fun _ => rfl) (op_struct Try.underlying24 (by kernel_rfl) (fs_cons (by rfl) (by kernel_rfl) (op_int Try.underlying3) (fs_last (by rfl) (by kernel_rfl) (op_int Try.underlying3))))
/-- The plain statement that is left of the law. -/
def runnellaw05_FrontBounds.Pure : Prop := ∀ (l0 : List S24) (l1 : List S24) (a2 : S24), l0.length ≤ maxLen → (∀ x ∈ l0, W24 x) → l1.length ≤ maxLen → (∀ x ∈ l1, W24 x) → W24 a2 → ∃ k, runnellaw05_FrontBounds.f k l0 l1 a2.f0 a2.f1 = some true
end Go.Proofs.Ytdomdjojbpehiaa.PFrontBounds
