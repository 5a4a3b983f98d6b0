/- How the arguments of the law QueuePlays read, and the plain statement that is left of it. -/
import Derived.Test.YtbaboemhjcdpbaaOQueuePlaysx20
import Derived.Test.YtbaboemhjcdpbaaOpens
namespace Go.Proofs.Ytbaboemhjcdpbaa.PQueuePlays
open Go.RowKit Go.Proofs.YtbaboemhjcdpbaaW.PrintWords Go.Proofs.YtbaboemhjcdpbaaW.PrintLast Go.Proofs.Ytbaboemhjcdpbaa.Opens
set_option linter.unusedVariables false
def W65 (x : S65) : Prop := (Lit.int .i64 x.f0).wf = true ∧ (Lit.int .i64 x.f1).wf = true ∧ x.f2.size ≤ maxLen
theorem op_65 : Tells Try.prog 65 k65 W65 := op_iso (fun x : S65 => (x.f0, x.f1, x.f2)) (fun a => ⟨a.1, a.2.1, a.2.2⟩) (fun _ => rfl) (op_struct Try.underlying65 (by kernel_rfl) (fs_cons (by rfl) (by kernel_rfl) (op_int Try.underlying3) (fs_cons (by rfl) (by kernel_rfl) (op_int Try.underlying3) (fs_last (by rfl) (by kernel_rfl) (op_string Try.underlying9)))))
def W40 (x : S40) : Prop := (Lit.int .i64 x.f0).wf = true ∧ (Lit.int .i64 x.f1).wf = true
theorem op_40 : Tells Try.prog 40 k40 W40 := op_iso (fun x : S40 => (x.f0, x.f1)) (fun a => ⟨a.1, a.2⟩) (fun _ => rfl) (op_struct Try.underlying40 (by kernel_rfl) (fs_cons (by rfl) (by kernel_rfl) (op_int Try.underlying3) (fs_last (by rfl) (by kernel_rfl) (op_int Try.underlying3))))
def W42 (x : S42) : Prop := (x.f0.length ≤ maxLen ∧ ∀ y ∈ x.f0, W65 y) ∧ W40 x.f1 ∧ (Lit.int .i64 x.f2).wf = true
theorem op_42 : Tells Try.prog 42 k42 W42 := op_iso (fun x : S42 => (x.f0, x.f1, x.f2)) (fun a => ⟨a.1, a.2.1, a.2.2⟩) (fun _ => rfl) (op_struct Try.underlying42 (by kernel_rfl) (fs_cons (by rfl) (by kernel_rfl) (op_slice (wf := fun x => W65 x) Try.underlying38 (by kernel_rfl) op_65) (fs_cons (by rfl) (by kernel_rfl) op_40 (fs_last (by rfl) (by kernel_rfl) (op_int Try.underlying3)))))
def W36 (x : S36) : Prop := True ∧ (x.f1.length ≤ maxLen ∧ ∀ y ∈ x.f1, W42 y)
theorem op_36 : Tells Try.prog 36 k36 W36 := op_iso (fun x : S36 => (x.f0, x.f1)) (fun a => ⟨a.1, a.2⟩) (fun _ => rfl) (op_struct Try.underlying36 (by kernel_rfl) (fs_cons (by rfl) (by kernel_rfl) (op_bool Try.underlying4) (fs_last (by rfl) (by kernel_rfl) (op_slice (wf := fun x => W42 x) Try.underlying28 (by kernel_rfl) op_42))))
/-- The plain statement that is left of the law. -/
def runnellaw19_QueuePlays.Pure : Prop := ∀ (a0 : Int) (l1 : List S36), (Lit.int .i64 a0).wf = true → l1.length ≤ maxLen → (∀ x ∈ l1, W36 x) → ∃ k, runnellaw19_QueuePlays.f k a0 l1 = some true
end Go.Proofs.Ytbaboemhjcdpbaa.PQueuePlays
