/- How the arguments of the law SheetEncodes read, and the plain statement that is left of it. -/
import Derived.Test.YtbdpnecnnokkkaaOSheetEncodesx16
import Derived.Test.YtbdpnecnnokkkaaOpens
namespace Go.Proofs.Ytbdpnecnnokkkaa.PSheetEncodes
open Go.RowKit Go.Proofs.YtbdpnecnnokkkaaW.PrintWords Go.Proofs.YtbdpnecnnokkkaaW.PrintLast Go.Proofs.Ytbdpnecnnokkkaa.Opens
set_option linter.unusedVariables false
structure S25 where
  f0 : (List S44)
  f1 : (List Int)
  f2 : Int
def k25 : Kd S25 := Kd.iso (Kd.pair (Kd.slice 44 k44) (Kd.pair (Kd.slice 3 (Kd.int .i64)) (Kd.int .i64))) (fun x : S25 => (x.f0, x.f1, x.f2))
theorem k25_open {w : World} {x : S25} {cs : List Value} (h : k25.K w x cs) : ∃ A0 c0 A1 c1, cs = [.slice A0 x.f0.length c0, .slice A1 x.f1.length c1, .int .i64 x.f2] ∧ x.f0.length ≤ c0 ∧ k44.C w A0 x.f0.length x.f0 ∧ x.f1.length ≤ c1 ∧ (Kd.int .i64).C w A1 x.f1.length x.f1 := by
  obtain ⟨_, _, rfl, ⟨A0, c0, rfl, l0, g0⟩, ⟨_, _, rfl, ⟨A1, c1, rfl, l1, g1⟩, rfl⟩⟩ := h
  exact ⟨A0, c0, A1, c1, rfl, l0, g0, l1, g1⟩
def W52 (x : S52) : Prop := (Lit.int .i64 x.f0).wf = true ∧ (Lit.int .i64 x.f1).wf = true ∧ x.f2.size ≤ maxLen
theorem op_52 : Tells Try.prog 52 k52 W52 := op_iso (fun x : S52 => (x.f0, x.f1, x.f2)) (fun a => ⟨a.1, a.2.1, a.2.2⟩) (fun _ => rfl) (op_struct Try.underlying52 (by kernel_rfl) (fs_cons (by rfl) (by kernel_rfl) (op_int Try.underlying3) (fs_cons (by rfl) (by kernel_rfl) (op_int Try.underlying3) (fs_last (by rfl) (by kernel_rfl) (op_string Try.underlying9)))))
def W44 (x : S44) : Prop := (Lit.int .i64 x.f0).wf = true ∧ (x.f1.length ≤ maxLen ∧ ∀ y ∈ x.f1, (Lit.int .i64 y).wf = true) ∧ (x.f2.length ≤ maxLen ∧ ∀ y ∈ x.f2, (Lit.int .i64 y).wf = true) ∧ (x.f3.length ≤ maxLen ∧ ∀ y ∈ x.f3, (y.length ≤ maxLen ∧ ∀ z ∈ y, W52 z)) ∧ (x.f4.length ≤ maxLen ∧ ∀ y ∈ x.f4, (Lit.int .i64 y).wf = true) ∧ (Lit.int .i64 x.f5).wf = true ∧ (Lit.int .i64 x.f6).wf = true ∧ (Lit.int .i64 x.f7).wf = true ∧ (Lit.int .i64 x.f8).wf = true
theorem op_44 : Tells Try.prog 44 k44 W44 := op_iso (fun x : S44 => (x.f0, x.f1, x.f2, x.f3, x.f4, x.f5, x.f6, x.f7, x.f8)) (fun a => ⟨a.1, a.2.1, a.2.2.1, a.2.2.2.1, a.2.2.2.2.1, a.2.2.2.2.2.1, a.2.2.2.2.2.2.1, a.2.2.2.2.2.2.2.1, a.2.2.2.2.2.2.2.2⟩) (fun _ => rfl) (op_struct Try.underlying44 (by kernel_rfl) (fs_cons (by rfl) (by kernel_rfl) (op_int Try.underlying3) (fs_cons (by rfl) (by kernel_rfl) (op_slice (wf := fun x => (Lit.int .i64 x).wf = true) Try.underlying23 (by kernel_rfl) (op_int Try.underlying3)) (fs_cons (by rfl) (by kernel_rfl) (op_slice (wf := fun x => (Lit.int .i64 x).wf = true) Try.underlying23 (by kernel_rfl) (op_int Try.underlying3)) (fs_cons (by rfl) (by kernel_rfl) (op_slice (wf := fun x : (List S52) => (x.length ≤ maxLen ∧ ∀ y ∈ x, W52 y)) Try.underlying42 (by kernel_rfl) (op_slice (wf := fun x => W52 x) Try.underlying46 (by kernel_rfl) op_52)) (fs_cons (by rfl) (by kernel_rfl) (op_slice (wf := fun x => (Lit.int .i64 x).wf = true) Try.underlying23 (by kernel_rfl) (op_int Try.underlying3)) (fs_cons (by rfl) (by kernel_rfl) (op_int Try.underlying3) (fs_cons (by rfl) (by kernel_rfl) (op_int Try.underlying3) (fs_cons (by rfl) (by kernel_rfl) (op_int Try.underlying3) (fs_last (by rfl) (by kernel_rfl) (op_int Try.underlying3)))))))))))
def W25 (x : S25) : Prop := (x.f0.length ≤ maxLen ∧ ∀ y ∈ x.f0, W44 y) ∧ (x.f1.length ≤ maxLen ∧ ∀ y ∈ x.f1, (Lit.int .i64 y).wf = true) ∧ (Lit.int .i64 x.f2).wf = true
theorem op_25 : Tells Try.prog 25 k25 W25 := op_iso (fun x : S25 => (x.f0, x.f1, x.f2)) (fun a => ⟨a.1, a.2.1, a.2.2⟩) (fun _ => rfl) (op_struct Try.underlying25 (by kernel_rfl) (fs_cons (by rfl) (by kernel_rfl) (op_slice (wf := fun x => W44 x) Try.underlying22 (by kernel_rfl) op_44) (fs_cons (by rfl) (by kernel_rfl) (op_slice (wf := fun x => (Lit.int .i64 x).wf = true) Try.underlying23 (by kernel_rfl) (op_int Try.underlying3)) (fs_last (by rfl) (by kernel_rfl) (op_int Try.underlying3)))))
/-- The plain statement that is left of the law. -/
def runnellaw17_SheetEncodes.Pure : Prop := ∀ (a0 : S25), W25 a0 → ∃ k, runnellaw17_SheetEncodes.f k a0.f0 a0.f1 a0.f2 = some true
end Go.Proofs.Ytbdpnecnnokkkaa.PSheetEncodes
