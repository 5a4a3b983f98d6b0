/- '>' on two texts, as the order of their bytes turned round. -/
import Derived.WalkKit
import Derived.Laws.Cover1
namespace Go.Proofs.Ytednmkmhileikaa.Str
theorem less_turn : ∀ a b : List UInt8, (!(Op.bytesLess a b || a == b)) = Op.bytesLess b a
  | [], [] => rfl
  | [], _ :: _ => rfl
  | _ :: _, [] => rfl
  | x :: a, y :: b => by
    have ih := less_turn a b
    rw [Op.bytesLess, Op.bytesLess]
    have e : ((x :: a : List UInt8) == (y :: b)) = (x == y && a == b) := rfl
    rw [e]
    by_cases h : x = y
    · subst h
      have hx : decide (x < x) = false := by simp
      rw [hx, show (x == x) = true by simp]
      simpa using ih
    · have h1 : (x == y) = false := beq_eq_false_iff_ne.mpr h
      have h2 : (y == x) = false := beq_eq_false_iff_ne.mpr (fun e => h e.symm)
      rw [h1, h2]
      by_cases hlt : x < y
      · have h3 : ¬ y < x := fun h4 => absurd (UInt8.lt_iff_toNat_lt.1 hlt) (by have := UInt8.lt_iff_toNat_lt.1 h4; omega)
        rw [decide_eq_true hlt, decide_eq_false h3]; rfl
      · have h3 : y < x := by
          rw [UInt8.lt_iff_toNat_lt] at hlt ⊢
          have : x.toNat ≠ y.toNat := fun e => h (UInt8.toNat_inj.1 e)
          omega
        rw [decide_eq_true h3, decide_eq_false hlt]; rfl
theorem gtr_str (t : TypeId) (a b : ByteArray) : binOp .gtr t (.string a) (.string b) = pure (.bool (Op.bytesLess b.toList a.toList)) := by
  rw [binOp_string_gtr, less_turn]
end Go.Proofs.Ytednmkmhileikaa.Str
