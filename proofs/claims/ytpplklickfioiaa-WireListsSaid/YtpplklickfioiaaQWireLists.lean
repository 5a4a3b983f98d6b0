/- How the arguments of the law WireLists read, and the plain statement that is left of it. -/
import Derived.Test.YtpplklickfioiaaOWireListsx18
import Derived.Test.YtpplklickfioiaaOpens
namespace Go.Proofs.Ytpplklickfioiaa.PWireLists
open Go.RowKit Go.Proofs.YtpplklickfioiaaW.PrintWords Go.Proofs.YtpplklickfioiaaW.PrintLast Go.Proofs.Ytpplklickfioiaa.Opens
set_option linter.unusedVariables false
def W103 (x : S103) : Prop := (Lit.int .i64 x.f0).wf = true ∧ (Lit.int .i64 x.f1).wf = true ∧ x.f2.size ≤ maxLen
theorem op_103 : Tells Try.prog 103 k103 W103 := op_iso (fun x : S103 => (x.f0, x.f1, x.f2)) (fun a => ⟨a.1, a.2.1, a.2.2⟩) (fun _ => rfl) (op_struct Try.underlying103 (by kernel_rfl) (fs_cons (by rfl) (by kernel_rfl) (op_int Try.underlying3) (fs_cons (by rfl) (by kernel_rfl) (op_int Try.underlying3) (fs_last (by rfl) (by kernel_rfl) (op_string Try.underlying9)))))
def W36 (x : S36) : Prop := (Lit.int .i64 x.f0).wf = true ∧ (Lit.int .i64 x.f1).wf = true
theorem op_36 : Tells Try.prog 36 k36 W36 := op_iso (fun x : S36 => (x.f0, x.f1)) (fun a => ⟨a.1, a.2⟩) (fun _ => rfl) (op_struct Try.underlying36 (by kernel_rfl) (fs_cons (by rfl) (by kernel_rfl) (op_int Try.underlying3) (fs_last (by rfl) (by kernel_rfl) (op_int Try.underlying3))))
def W38 (x : S38) : Prop := (x.f0.length ≤ maxLen ∧ ∀ y ∈ x.f0, W103 y) ∧ W36 x.f1 ∧ (Lit.int .i64 x.f2).wf = true
theorem op_38 : Tells Try.prog 38 k38 W38 := op_iso (fun x : S38 => (x.f0, x.f1, x.f2)) (fun a => ⟨a.1, a.2.1, a.2.2⟩) (fun _ => rfl) (op_struct Try.underlying38 (by kernel_rfl) (fs_cons (by rfl) (by kernel_rfl) (op_slice (wf := fun x => W103 x) Try.underlying34 (by kernel_rfl) op_103) (fs_cons (by rfl) (by kernel_rfl) op_36 (fs_last (by rfl) (by kernel_rfl) (op_int Try.underlying3)))))
def W40 (x : S40) : Prop := (Lit.int .i64 x.f0).wf = true ∧ (Lit.int .i64 x.f1).wf = true ∧ W38 x.f2 ∧ (x.f3.length ≤ maxLen ∧ ∀ y ∈ x.f3, W36 y) ∧ (Lit.int .i64 x.f4).wf = true ∧ (x.f5.length ≤ maxLen ∧ ∀ y ∈ x.f5, (Lit.int .u8 y).wf = true)
theorem op_40 : Tells Try.prog 40 k40 W40 := op_iso (fun x : S40 => (x.f0, x.f1, x.f2, x.f3, x.f4, x.f5)) (fun a => ⟨a.1, a.2.1, a.2.2.1, a.2.2.2.1, a.2.2.2.2.1, a.2.2.2.2.2⟩) (fun _ => rfl) (op_struct Try.underlying40 (by kernel_rfl) (fs_cons (by rfl) (by kernel_rfl) (op_int Try.underlying3) (fs_cons (by rfl) (by kernel_rfl) (op_int Try.underlying3) (fs_cons (by rfl) (by kernel_rfl) op_38 (fs_cons (by rfl) (by kernel_rfl) (op_slice (wf := fun x => W36 x) Try.underlying23 (by kernel_rfl) op_36) (fs_cons (by rfl) (by kernel_rfl) (op_int Try.underlying3) (fs_last (by rfl) (by kernel_rfl) (op_slice (wf := fun x => (Lit.int .u8 x).wf = true) Try.underlying22 (by kernel_rfl) (op_int Try.underlying5)))))))))
/-- The plain statement that is left of the law. -/
def runnellaw26_WireLists.Pure : Prop := ∀ (l0 : List S40), l0.length ≤ maxLen → (∀ x ∈ l0, W40 x) → ∃ k, runnellaw26_WireLists.f k l0 = some true
end Go.Proofs.Ytpplklickfioiaa.PWireLists
