/- Lists that are alike, place by place: the plain mathematics, no program in sight. -/
import Derived.WalkKit
namespace Go.Proofs.Ytednmkmhileikaa.EqPure
set_option linter.unusedSimpArgs false
theorem decide_step {α β : Type} [DecidableEq β] (key : α → β) (l m : List α) (i : Nat) (h : i < l.length) (h' : i < m.length) :
    decide ((l.drop i).map key = (m.drop i).map key) = (decide (key l[i] = key m[i]) && decide ((l.drop (i + 1)).map key = (m.drop (i + 1)).map key)) := by
  rw [List.drop_eq_getElem_cons h, List.drop_eq_getElem_cons h', List.map_cons, List.map_cons]
  by_cases h1 : key l[i] = key m[i]
  · by_cases h2 : (l.drop (i + 1)).map key = (m.drop (i + 1)).map key
    · simp [h1, h2]
    · simp [h1, h2]
  · simp [h1]
theorem decide_end {α β : Type} [DecidableEq β] (key : α → β) (l m : List α) (i : Nat) (h : l.length ≤ i) (h' : m.length ≤ i) : decide ((l.drop i).map key = (m.drop i).map key) = true := by
  rw [List.drop_of_length_le h, List.drop_of_length_le h']; simp
theorem decide_len {α β : Type} [DecidableEq β] (key : α → β) (l m : List α) (h : l.length ≠ m.length) : decide (l.map key = m.map key) = false := by
  apply decide_eq_false
  intro e
  have := congrArg List.length e
  simp at this
  exact h this
/-- A number that none of a list's lengths passes. -/
theorem bound {α : Type} (f : α → Nat) (l : List α) : ∃ B, ∀ x ∈ l, f x ≤ B := by
  induction l with
  | nil => exact ⟨0, fun x h => by cases h⟩
  | cons a l ih =>
    obtain ⟨B, hB⟩ := ih
    refine ⟨f a + B, fun x h => ?_⟩
    rcases List.mem_cons.1 h with rfl | h
    · omega
    · have := hB x h; omega
end Go.Proofs.Ytednmkmhileikaa.EqPure
