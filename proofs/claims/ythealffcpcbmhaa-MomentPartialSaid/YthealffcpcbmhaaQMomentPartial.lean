/- How the arguments of the law MomentPartial read, and the plain statement that is left of it. -/
import Derived.Test.YthealffcpcbmhaaOMomentPartialx6
import Derived.Test.YthealffcpcbmhaaOpens
namespace Go.Proofs.Ythealffcpcbmhaa.PMomentPartial
open Go.RowKit Go.Proofs.YthealffcpcbmhaaW.PrintWords Go.Proofs.YthealffcpcbmhaaW.PrintLast Go.Proofs.Ythealffcpcbmhaa.Opens
set_option linter.unusedVariables false
def W28 (x : S28) : Prop := (Lit.int .i64 x.f0).wf = true ∧ (Lit.int .i64 x.f1).wf = true
theorem op_28 : Tells Try.prog 28 k28 W28 := op_iso (fun x : S28 => (x.f0, x.f1)) (fun a => ⟨a.1, a.2⟩) (fun _ => rfl) (op_struct Try.underlying28 (by kernel_rfl) (fs_cons (by rfl) (by kernel_rfl) (op_int Try.underlying3) (fs_last (by rfl) (by kernel_rfl) (op_int Try.underlying3))))
/-- The plain statement that is left of the law. -/
def runnellaw04_MomentPartial.Pure : Prop := ∀ (a0 : S28) (a1 : S28) (a2 : S28), W28 a0 → W28 a1 → W28 a2 → ∃ k, runnellaw04_MomentPartial.f k a0.f0 a0.f1 a1.f0 a1.f1 a2.f0 a2.f1 = some true
end Go.Proofs.Ythealffcpcbmhaa.PMomentPartial
