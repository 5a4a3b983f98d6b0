/- How the arguments of the law RowTotal read, and the plain statement that is left of it. -/
import Derived.Test.YtdbpkfbjcmjkhaaORowTotalx3
import Derived.Test.YtdbpkfbjcmjkhaaOpens
namespace Go.Proofs.Ytdbpkfbjcmjkhaa.PRowTotal
open Go.RowKit Go.Proofs.YtdbpkfbjcmjkhaaW.PrintWords Go.Proofs.YtdbpkfbjcmjkhaaW.PrintLast Go.Proofs.Ytdbpkfbjcmjkhaa.Opens
set_option linter.unusedVariables false
def W28 (x : S28) : Prop := (Lit.int .i64 x.f0).wf = true ∧ (Lit.int .i64 x.f1).wf = true ∧ x.f2.size ≤ maxLen
theorem op_28 : Tells Try.prog 28 k28 W28 := op_iso (fun x : S28 => (x.f0, x.f1, x.f2)) (fun a => ⟨a.1, a.2.1, a.2.2⟩) (fun _ => rfl) (op_struct Try.underlying28 (by kernel_rfl) (fs_cons (by rfl) (by kernel_rfl) (op_int Try.underlying3) (fs_cons (by rfl) (by kernel_rfl) (op_int Try.underlying3) (fs_last (by rfl) (by kernel_rfl) (op_string Try.underlying9)))))
theorem kh28 : Kd.Heap k28 := Kd.heap_iso _ (Kd.heap_pair (Kd.heap_int .i64) (Kd.heap_pair (Kd.heap_int .i64) Kd.heap_string))
theorem V_of_C {α : Type} {d : Kd α} {e base c : Nat} {W : World} {A : Option Addr} {xs : List α} (hd : Kd.Heap d) (h : d.C W A xs.length xs) (hc : xs.length ≤ c) : Kd.V d e W base (fun k => k < W.heap.size) (.slice A xs.length c) xs := Kd.V_mk hc (fun W' hW => hd.C (fun k hk => hW k hk hk) h)
/-- The plain statement that is left of the law. -/
def runnellaw03_RowTotal.Pure : Prop := ∀ (l0 : List S28) (l1 : List S28) (l2 : List S28) (a3 : S28), l0.length ≤ maxLen → (∀ x ∈ l0, W28 x) → l1.length ≤ maxLen → (∀ x ∈ l1, W28 x) → l2.length ≤ maxLen → (∀ x ∈ l2, W28 x) → W28 a3 → ∃ k, runnellaw03_RowTotal.f k l0 l1 l2 a3.f0 a3.f1 a3.f2 = some true
end Go.Proofs.Ytdbpkfbjcmjkhaa.PRowTotal
