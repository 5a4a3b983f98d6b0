/- The reference's Next. -/
import Derived.Test.YtednmkmhileikaaG10
import Derived.Test.YtednmkmhileikaaOHoldPlaysx8
namespace Go.Proofs.Ytednmkmhileikaa.G
open Go.RowKit Go.Proofs.YtednmkmhileikaaW.PrintWords Go.Proofs.YtednmkmhileikaaW.PrintLast Go.Proofs.YtednmkmhileikaaW.PrintMore Go.Proofs.Ytednmkmhileikaa.PHoldPlays
attribute [local go_sem] max2_int min2_int max_two min_two max_three min_three max_four min_four
set_option linter.unusedVariables false
set_option linter.unusedSimpArgs false
/-- The place of the best one among the first n. -/
def bst (ah : Nat → Bool) (oo : Nat → Nat → Int) : Nat → Option Nat
 | 0 => none
 | n + 1 => match bst ah oo n with
  | none => if ah n then none else some n
  | some b => if ah n then some b else if oo n b < 0 then some n else some b
theorem bst_lt (ah : Nat → Bool) (oo : Nat → Nat → Int) : ∀ n b, bst ah oo n = some b → b < n
 | 0, _, h => by cases h
 | n + 1, b, h => by
  unfold bst at h
  rcases hq : bst ah oo n with _ | c
  · rw [hq] at h
    simp only [] at h
    split at h
    · cases h
    · injection h with h; omega
  · have := bst_lt ah oo n c hq
    rw [hq] at h
    simp only [] at h
    split at h
    · injection h with h; omega
    · split at h <;> (injection h with h; omega)
def RAhead (fs : List S24) (x : S33) (r : Bool) : Prop := ∃ k, runnelref05_Ahead.f k fs x.f1.f0 x.f1.f1 = some r
theorem rahead_at (w : World) (A : Option Addr) (c : Nat) (fs : List S24) (x : S33) (r : Bool) (hC : k24.C w A fs.length fs) (hc : fs.length ≤ c) (h : RAhead fs x r) : Calls Try.prog 12 #[.slice A fs.length c, .agg #[.int .i64 x.f1.f0, .int .i64 x.f1.f1]] w fun e w' => e = .returned (.bool r) ∧ Below w.heap.size w w' := by
 obtain ⟨k, h⟩ := h
 exact runnelref05_Ahead.calls k A c fs _ _ r w hC hc h
theorem N_empty_new {W : World} {ok : Nat → Prop} (hok : ok W.heap.size) : Kd.N k33 33 (W.alloc (.cells #[] 33)).drew W.heap.size ok (.slice (some ⟨W.heap.size, 0, none⟩) 0 0) [] :=
 Kd.R_N ⟨fun k hk => by
   have : W.heap.size = k := by simpa [Value.ownBlock] using hk
   subst this
   exact hok, [], ⟨rfl, .inr ⟨W.heap.size, 0, #[], rfl, Nat.le_refl _, blk_drew (blk_new W _), Nat.le_refl _, by decide, rfl, rfl⟩⟩, Reps.none _ _⟩
end Go.Proofs.Ytednmkmhileikaa.G
