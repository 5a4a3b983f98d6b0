/- HoldPlays: what the printed functions answer, for each input, by plain mathematics. -/
import Derived.Test.YtednmkmhileikaaOHoldPlaysx
import Derived.Test.YtednmkmhileikaaEqPure
namespace Go.Proofs.Ytednmkmhileikaa.BHoldPlays
open Go.RowKit Go.Proofs.Ytednmkmhileikaa.PHoldPlays Go.Proofs.Ytednmkmhileikaa.EqPure Go.Proofs.YtednmkmhileikaaW.PrintWords Go.Proofs.YtednmkmhileikaaW.PrintLast Go.Proofs.YtednmkmhileikaaW.PrintMore
set_option linter.unusedVariables false
set_option linter.unusedSimpArgs false
attribute [local irreducible] IntKind.wrap Go.bits shr shl maxLen
abbrev Tm := S24
theorem tm_ext {a b : Tm} (h0 : a.f0 = b.f0) (h1 : a.f1 = b.f1) : a = b := by cases a; cases b; simp_all
theorem wrapi {i n : Nat} (h : i < n) (hn : n ≤ 8796093022208) : wrap64 ((i : Int) + 1) = ((i + 1 : Nat) : Int) := by
  have e : wrap64 ((i : Int) + 1) = ((i : Int) + 1 + 9223372036854775808) % 18446744073709551616 - 9223372036854775808 := by with_unfolding_all rfl
  rw [e]; omega
theorem rdT (l : List Tm) (i : Nat) (h : i < l.length) : rd_T24 l (i : Int) = l[i] := by unfold rd_T24; rw [Int.toNat_natCast, List.getD_eq_getElem?_getD, List.getElem?_eq_getElem h]; rfl
/-- Not behind, in either way. -/
def le (a b : Tm) : Prop := a.f0 ≤ b.f0 ∧ a.f1 ≤ b.f1
def lx (a b : Tm) : Prop := a.f0 < b.f0 ∨ a.f0 = b.f0 ∧ a.f1 < b.f1
def any (l : List Tm) (t : Tm) : Bool := l.any fun x => decide (x.f0 ≤ t.f0) && decide (x.f1 ≤ t.f1)
theorem le_refl (a : Tm) : le a a := ⟨Int.le_refl _, Int.le_refl _⟩
theorem le_trans {a b c : Tm} (h : le a b) (k : le b c) : le a c := ⟨Int.le_trans h.1 k.1, Int.le_trans h.2 k.2⟩
theorem lx_trans {a b c : Tm} (h : lx a b) (k : lx b c) : lx a c := by unfold lx at *; omega
/-! the sort -/
/-! the least ones -/
/-! the printed functions -/
theorem ahead_l0 (l : List Tm) (t : Tm) (hs : ∀ x ∈ l, x.f0 ≤ t.f0) (hl : l.length ≤ 8796093022208) (d : Nat) : ∀ (k i : Nat), i + d = l.length → d < k →
    front_antichain_ahead.l0 k l (l.length : Int) (i : Int) t.f0 t.f1 = some (any (l.drop i) t) := by
  induction d with
  | zero =>
    intro k i hi hk
    obtain ⟨k, rfl⟩ : ∃ n, k = n + 1 := ⟨k - 1, by omega⟩
    simp only [front_antichain_ahead.l0]
    rw [if_neg (by omega), List.drop_of_length_le (by omega)]; rfl
  | succ d ih =>
    intro k i hi hk
    obtain ⟨k, rfl⟩ : ∃ n, k = n + 1 := ⟨k - 1, by omega⟩
    have hil : i < l.length := by omega
    have hx := hs l[i] (List.getElem_mem hil)
    simp only [front_antichain_ahead.l0]
    rw [if_pos (by omega), if_pos (by omega), if_pos (by omega), rdT l i hil, if_neg (by omega), wrapi hil hl, ih k (i + 1) (by omega) (by omega), List.drop_eq_getElem_cons hil]
    unfold any
    rw [List.any_cons]
    by_cases h : l[i].f1 ≤ t.f1
    · rw [if_pos h]; simp [h, hx]
    · rw [if_neg h]; simp [h]
/-! the reference's list of the least ones -/
def ins : List Tm → Tm → List Tm
  | [], t => [t]
  | a :: s, t => if a.f0 < t.f0 ∨ a.f0 = t.f0 ∧ a.f1 < t.f1 then a :: ins s t else if a.f0 = t.f0 ∧ a.f1 = t.f1 then a :: s else t :: a :: s
theorem ins_mem {x t : Tm} : ∀ {l : List Tm}, x ∈ ins l t ↔ x ∈ l ∨ x = t
  | [] => by simp [ins]
  | a :: s => by
    unfold ins
    split
    · rw [List.mem_cons, ins_mem, List.mem_cons, or_assoc]
    · split
      · rename_i h
        have e : a = t := tm_ext h.1 h.2
        subst e
        constructor
        · exact .inl
        · rintro (h5 | h5)
          · exact h5
          · rw [h5]; exact List.mem_cons_self
      · rw [List.mem_cons, or_comm]
theorem ins_sorted (t : Tm) : ∀ {l : List Tm}, l.Pairwise lx → (ins l t).Pairwise lx
  | [], _ => List.pairwise_singleton _ _
  | a :: s, h => by
    obtain ⟨h1, h2⟩ := List.pairwise_cons.1 h
    unfold ins
    split
    · rename_i hlt
      refine List.pairwise_cons.2 ⟨fun b hb => ?_, ins_sorted t h2⟩
      rcases ins_mem.1 hb with hb | hb
      · exact h1 b hb
      · rw [hb]; exact hlt
    · split
      · exact h
      · rename_i h3 h4
        have hta : lx t a := by unfold lx; omega
        refine List.pairwise_cons.2 ⟨fun b hb => ?_, h⟩
        rcases List.mem_cons.1 hb with hb | hb
        · rw [hb]; exact hta
        · exact lx_trans hta (h1 b hb)
/-! alike, place by place -/
end Go.Proofs.Ytednmkmhileikaa.BHoldPlays
