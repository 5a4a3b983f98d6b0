/- How the arguments of the law HoldKeeps read, and the plain statement that is left of it. -/
import Derived.Test.YtednmkmhileikaaOHoldPlaysx32
import Derived.Test.YtednmkmhileikaaOpens
namespace Go.Proofs.Ytednmkmhileikaa.PHoldPlays
open Go.RowKit Go.Proofs.YtednmkmhileikaaW.PrintWords Go.Proofs.YtednmkmhileikaaW.PrintLast Go.Proofs.Ytednmkmhileikaa.Opens
set_option linter.unusedVariables false
def W61 (x : S61) : Prop := (Lit.int .i64 x.f0).wf = true ∧ (Lit.int .i64 x.f1).wf = true ∧ x.f2.size ≤ maxLen
theorem op_61 : Tells Try.prog 61 k61 W61 := op_iso (fun x : S61 => (x.f0, x.f1, x.f2)) (fun a => ⟨a.1, a.2.1, a.2.2⟩) (fun _ => rfl) (op_struct Try.underlying61 (by kernel_rfl) (fs_cons (by rfl) (by kernel_rfl) (op_int Try.underlying3) (fs_cons (by rfl) (by kernel_rfl) (op_int Try.underlying3) (fs_last (by rfl) (by kernel_rfl) (op_string Try.underlying9)))))
def W24 (x : S24) : Prop := (Lit.int .i64 x.f0).wf = true ∧ (Lit.int .i64 x.f1).wf = true
theorem op_24 : Tells Try.prog 24 k24 W24 := op_iso (fun x : S24 => (x.f0, x.f1)) (fun a => ⟨a.1, a.2⟩) (fun _ => rfl) (op_struct Try.underlying24 (by kernel_rfl) (fs_cons (by rfl) (by kernel_rfl) (op_int Try.underlying3) (fs_last (by rfl) (by kernel_rfl) (op_int Try.underlying3))))
def W33 (x : S33) : Prop := (x.f0.length ≤ maxLen ∧ ∀ y ∈ x.f0, W61 y) ∧ W24 x.f1 ∧ (Lit.int .i64 x.f2).wf = true
theorem op_33 : Tells Try.prog 33 k33 W33 := op_iso (fun x : S33 => (x.f0, x.f1, x.f2)) (fun a => ⟨a.1, a.2.1, a.2.2⟩) (fun _ => rfl) (op_struct Try.underlying33 (by kernel_rfl) (fs_cons (by rfl) (by kernel_rfl) (op_slice (wf := fun x => W61 x) Try.underlying31 (by kernel_rfl) op_61) (fs_cons (by rfl) (by kernel_rfl) op_24 (fs_last (by rfl) (by kernel_rfl) (op_int Try.underlying3)))))
def W36 (x : S36) : Prop := True ∧ W33 x.f1 ∧ (x.f2.length ≤ maxLen ∧ ∀ y ∈ x.f2, W24 y)
theorem op_36 : Tells Try.prog 36 k36 W36 := op_iso (fun x : S36 => (x.f0, x.f1, x.f2)) (fun a => ⟨a.1, a.2.1, a.2.2⟩) (fun _ => rfl) (op_struct Try.underlying36 (by kernel_rfl) (fs_cons (by rfl) (by kernel_rfl) (op_bool Try.underlying4) (fs_cons (by rfl) (by kernel_rfl) op_33 (fs_last (by rfl) (by kernel_rfl) (op_slice (wf := fun x => W24 x) Try.underlying34 (by kernel_rfl) op_24)))))
theorem kh61 : Kd.Heap k61 := Kd.heap_iso _ (Kd.heap_pair (Kd.heap_int .i64) (Kd.heap_pair (Kd.heap_int .i64) Kd.heap_string))
theorem kh24 : Kd.Heap k24 := Kd.heap_iso _ (Kd.heap_pair (Kd.heap_int .i64) (Kd.heap_int .i64))
theorem kh33 : Kd.Heap k33 := Kd.heap_iso _ (Kd.heap_pair (Kd.heap_slice 61 kh61) (Kd.heap_pair kh24 (Kd.heap_int .i64)))
theorem kh36 : Kd.Heap k36 := Kd.heap_iso _ (Kd.heap_pair Kd.heap_bool (Kd.heap_pair kh33 (Kd.heap_slice 24 kh24)))
theorem V_of_C {α : Type} {d : Kd α} {e base c : Nat} {W : World} {A : Option Addr} {xs : List α} (hd : Kd.Heap d) (h : d.C W A xs.length xs) (hc : xs.length ≤ c) : Kd.V d e W base (fun k => k < W.heap.size) (.slice A xs.length c) xs := Kd.V_mk hc (fun W' hW => hd.C (fun k hk => hW k hk hk) h)
/-- The plain statement that is left of the law. -/
def runnellaw21_HoldKeeps.Pure : Prop := ∀ (l0 : List S36) (a1 : S24), l0.length ≤ maxLen → (∀ x ∈ l0, W36 x) → W24 a1 → ∃ k, runnellaw21_HoldKeeps.f k l0 a1.f0 a1.f1 = some true
end Go.Proofs.Ytednmkmhileikaa.PHoldPlays
