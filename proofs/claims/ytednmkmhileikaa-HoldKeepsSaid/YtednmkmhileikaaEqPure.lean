/- Lists that are alike, place by place: the plain mathematics, no program in sight. -/
import Derived.WalkKit
namespace Go.Proofs.Ytednmkmhileikaa.EqPure
set_option linter.unusedSimpArgs false
/-- A number that none of a list's lengths passes. -/
theorem bound {α : Type} (f : α → Nat) (l : List α) : ∃ B, ∀ x ∈ l, f x ≤ B := by
  induction l with
  | nil => exact ⟨0, fun x h => by cases h⟩
  | cons a l ih =>
    obtain ⟨B, hB⟩ := ih
    refine ⟨f a + B, fun x h => ?_⟩
    rcases List.mem_cons.1 h with rfl | h
    · omega
    · have := hB x h; omega
end Go.Proofs.Ytednmkmhileikaa.EqPure
