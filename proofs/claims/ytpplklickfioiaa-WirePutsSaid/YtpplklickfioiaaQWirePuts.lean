/- How the arguments of the law WirePuts read, and the plain statement that is left of it. -/
import Derived.Test.YtpplklickfioiaaOWirePutsx18
import Derived.Test.YtpplklickfioiaaOpens
namespace Go.Proofs.Ytpplklickfioiaa.PWirePuts
open Go.RowKit Go.Proofs.YtpplklickfioiaaW.PrintWords Go.Proofs.YtpplklickfioiaaW.PrintLast Go.Proofs.Ytpplklickfioiaa.Opens
set_option linter.unusedVariables false
def W103 (x : S103) : Prop := (Lit.int .i64 x.f0).wf = true ∧ (Lit.int .i64 x.f1).wf = true ∧ x.f2.size ≤ maxLen
theorem op_103 : Tells Try.prog 103 k103 W103 := op_iso (fun x : S103 => (x.f0, x.f1, x.f2)) (fun a => ⟨a.1, a.2.1, a.2.2⟩) (fun _ => rfl) (op_struct Try.underlying103 (by kernel_rfl) (fs_cons (by rfl) (by kernel_rfl) (op_int Try.underlying3) (fs_cons (by rfl) (by kernel_rfl) (op_int Try.underlying3) (fs_last (by rfl) (by kernel_rfl) (op_string Try.underlying9)))))
def W36 (x : S36) : Prop := (Lit.int .i64 x.f0).wf = true ∧ (Lit.int .i64 x.f1).wf = true
theorem op_36 : Tells Try.prog 36 k36 W36 := op_iso (fun x : S36 => (x.f0, x.f1)) (fun a => ⟨a.1, a.2⟩) (fun _ => rfl) (op_struct Try.underlying36 (by kernel_rfl) (fs_cons (by rfl) (by kernel_rfl) (op_int Try.underlying3) (fs_last (by rfl) (by kernel_rfl) (op_int Try.underlying3))))
def W38 (x : S38) : Prop := (x.f0.length ≤ maxLen ∧ ∀ y ∈ x.f0, W103 y) ∧ W36 x.f1 ∧ (Lit.int .i64 x.f2).wf = true
theorem op_38 : Tells Try.prog 38 k38 W38 := op_iso (fun x : S38 => (x.f0, x.f1, x.f2)) (fun a => ⟨a.1, a.2.1, a.2.2⟩) (fun _ => rfl) (op_struct Try.underlying38 (by kernel_rfl) (fs_cons (by rfl) (by kernel_rfl) (op_slice (wf := fun x => W103 x) Try.underlying34 (by kernel_rfl) op_103) (fs_cons (by rfl) (by kernel_rfl) op_36 (fs_last (by rfl) (by kernel_rfl) (op_int Try.underlying3)))))
def W40 (x : S40) : Prop := (Lit.int .i64 x.f0).wf = true ∧ (Lit.int .i64 x.f1).wf = true ∧ W38 x.f2 ∧ (x.f3.length ≤ maxLen ∧ ∀ y ∈ x.f3, W36 y) ∧ (Lit.int .i64 x.f4).wf = true ∧ (x.f5.length ≤ maxLen ∧ ∀ y ∈ x.f5, (Lit.int .u8 y).wf = true)
theorem op_40 : Tells Try.prog 40 k40 W40 := op_iso (fun x : S40 => (x.f0, x.f1, x.f2, x.f3, x.f4, x.f5)) (fun a => ⟨a.1, a.2.1, a.2.2.1, a.2.2.2.1, a.2.2.2.2.1, a.2.2.2.2.2⟩) (fun _ => rfl) (op_struct Try.underlying40 (by kernel_rfl) (fs_cons (by rfl) (by kernel_rfl) (op_int Try.underlying3) (fs_cons (by rfl) (by kernel_rfl) (op_int Try.underlying3) (fs_cons (by rfl) (by kernel_rfl) op_38 (fs_cons (by rfl) (by kernel_rfl) (op_slice (wf := fun x => W36 x) Try.underlying23 (by kernel_rfl) op_36) (fs_cons (by rfl) (by kernel_rfl) (op_int Try.underlying3) (fs_last (by rfl) (by kernel_rfl) (op_slice (wf := fun x => (Lit.int .u8 x).wf = true) Try.underlying22 (by kernel_rfl) (op_int Try.underlying5)))))))))
theorem kh103 : Kd.Heap k103 := Kd.heap_iso _ (Kd.heap_pair (Kd.heap_int .i64) (Kd.heap_pair (Kd.heap_int .i64) Kd.heap_string))
theorem kh36 : Kd.Heap k36 := Kd.heap_iso _ (Kd.heap_pair (Kd.heap_int .i64) (Kd.heap_int .i64))
theorem kh38 : Kd.Heap k38 := Kd.heap_iso _ (Kd.heap_pair (Kd.heap_slice 103 kh103) (Kd.heap_pair kh36 (Kd.heap_int .i64)))
theorem kh40 : Kd.Heap k40 := Kd.heap_iso _ (Kd.heap_pair (Kd.heap_int .i64) (Kd.heap_pair (Kd.heap_int .i64) (Kd.heap_pair kh38 (Kd.heap_pair (Kd.heap_slice 36 kh36) (Kd.heap_pair (Kd.heap_int .i64) (Kd.heap_slice 5 (Kd.heap_int .u8)))))))
theorem V_of_C {α : Type} {d : Kd α} {e base c : Nat} {W : World} {A : Option Addr} {xs : List α} (hd : Kd.Heap d) (h : d.C W A xs.length xs) (hc : xs.length ≤ c) : Kd.V d e W base (fun k => k < W.heap.size) (.slice A xs.length c) xs := Kd.V_mk hc (fun W' hW => hd.C (fun k hk => hW k hk hk) h)
/-- The plain statement that is left of the law. -/
def runnellaw26_WirePuts.Pure : Prop := ∀ (l0 : List Int) (a1 : S40), l0.length ≤ maxLen → (∀ x ∈ l0, (Lit.int .u8 x).wf = true) → W40 a1 → ∃ k, runnellaw26_WirePuts.f k l0 a1.f0 a1.f1 a1.f2.f0 a1.f2.f1.f0 a1.f2.f1.f1 a1.f2.f2 a1.f3 a1.f4 a1.f5 = some true
end Go.Proofs.Ytpplklickfioiaa.PWirePuts
