/- Short forms of steps that a printed walk repeats: a cell beside a store; a block's cells, written one by one. -/
import Derived.Test.YtednmkmhileikaaWMore
namespace Go.Proofs.YtednmkmhileikaaW.PrintWords
open Go.RowKit
/-- A block's cells, told through what is yet to be written. -/
def E (W : World) (g : Nat) (t : TypeId) (f : Array Value → Array Value) (r : Array Value) : Prop := ∃ cs, W.heap[g]? = some (.cells cs t (0, 0)) ∧ f cs = r
section
variable {W : World} {g i : Nat} {t : TypeId} {f : Array Value → Array Value} {r : Array Value} {u : Value}
theorem E_in (h : E W g t (fun x => x) r) : W.heap[g]? = some (.cells r t (0, 0)) := by
  obtain ⟨cs, h1, rfl⟩ := h
  exact h1
theorem E_set (h : E W g t (fun cs => f (cs.setIfInBounds i u)) r) : E (W.setCell ⟨g, i, none⟩ u) g t f r := by
  obtain ⟨cs, h1, h2⟩ := h
  exact ⟨_, blk_set h1 i u, h2⟩
theorem E_far (h : E W g t f r) {p : Addr} (hne : g ≠ p.block) (u : Value) : E (W.setCell p u) g t f r := by
  obtain ⟨cs, h1, h2⟩ := h
  exact ⟨_, blk_far h1 hne u, h2⟩
theorem E_drew (h : E W g t f r) : E W.drew g t f r := by
  obtain ⟨cs, h1, h2⟩ := h
  exact ⟨_, blk_drew h1, h2⟩
theorem E_drewN (h : E W g t f r) (m : Nat) : E (W.drewN m) g t f r := by
  obtain ⟨cs, h1, h2⟩ := h
  exact ⟨_, blk_drewN h1 m, h2⟩
theorem E_alloc (h : E W g t f r) (o : Obj) : E (W.alloc o) g t f r := by
  obtain ⟨cs, h1, h2⟩ := h
  exact ⟨_, blk_alloc h1 o, h2⟩
end
/-! Terms that a printed walk repeats, told by what stands in the context. -/
theorem bl {p : Prop} (h : p := by repeat (first | (with_reducible first | exact HB.out | apply below_alloc | apply pw_below_drewN | apply below_drew1 | refine below_set ?_ (Aside0.out (by with_reducible assumption))) | exact HB.out)) : p := h
theorem bk {p : Prop} (h : p := by apply E_in; repeat (first | (with_reducible first | apply E_drewN | apply E_drew | apply E_alloc | apply E_set | apply E_far _ (Aside0.out (by with_reducible assumption))) | exact ⟨_, Aside0.out (by with_reducible assumption), by with_reducible rfl⟩ | exact ⟨_, Aside0.out (by with_reducible assumption), by simp only [List.setIfInBounds_toArray, List.set_cons_zero, List.set_cons_succ]⟩)) : p := h
theorem lt_set {W : World} {g : Nat} {p : Addr} {u : Value} (h : g < W.heap.size) : g < (W.setCell p u).heap.size := Nat.lt_of_lt_of_le h ((Below.refl 0 W).setCell (Nat.zero_le _) u).size
theorem lt_drewN {W : World} {g n : Nat} (h : g < W.heap.size) : g < (W.drewN n).heap.size := h
theorem lt_drew {W : World} {g : Nat} (h : g < W.heap.size) : g < W.drew.heap.size := h
theorem lt_alloc {W : World} {g : Nat} {o : Obj} (h : g < W.heap.size) : g < (W.alloc o).heap.size := Nat.lt_of_lt_of_le h (below_alloc (Below.refl _ _) o).size
theorem blt {p : Prop} (h : p := by repeat (first | (with_reducible first | refine lt_set ?_ | refine lt_drewN ?_ | refine lt_drew ?_ | refine lt_alloc ?_) | exact blk_lt (Aside0.out (by with_reducible assumption)))) : p := h
theorem rp {p q : Prop} (x : q) (h : q → p := by intro x_; (with_reducible repeat (first | apply Kd.R_alloc | apply Kd.R_drewN | apply Kd.R_drew)); exact x_) : p := h x
theorem mpq {p : Prop} (h : p := by (try simp only [List.map_toArray, List.map_cons, List.map_nil]); first | done | rfl | (simp only [List.length_drop, List.length_take]; rfl)) : p := h
section
variable {α : Type} {d : Kd α} {e : Nat} {w : World} {base : Nat} {ok : Nat → Prop} {v : Value} (h : v = .slice none 0 0)
include h
end
theorem erq {p : Prop} (h : p := by first | rfl | (simp [errW_none, errW_some] <;> rfl) | (simp [*, errW_none, errW_some] <;> rfl)) : p := h
theorem bc {w W : World} {a : Addr} {v : Value} (hb : Below w.heap.size w W) (h : w.cell? a = some v) : W.cell? a = some v := (hb.cell (World.block_lt_of_cell? w a h)).trans h

theorem cells2 {w : World} {g : Nat} {t : TypeId} {a0 a1 : Value} (h : w.heap[g]? = some (.cells #[a0, a1] t (0, 0))) : w.cell? ⟨g, 0, none⟩ = some a0 ∧ w.cell? ⟨g, 1, none⟩ = some a1 := ⟨(blk_cell h 0).trans rfl, (blk_cell h 1).trans rfl⟩
theorem frz2 {w : World} {g : Nat} {t : TypeId} {a0 a1 : Value} (h : w.heap[g]? = some (.cells #[a0, a1] t (0, 0))) : w.frozen? ⟨g, 0, none⟩ = false ∧ w.frozen? ⟨g, 1, none⟩ = false := ⟨blk_frozen h 0, blk_frozen h 1⟩
theorem cells3 {w : World} {g : Nat} {t : TypeId} {a0 a1 a2 : Value} (h : w.heap[g]? = some (.cells #[a0, a1, a2] t (0, 0))) : w.cell? ⟨g, 0, none⟩ = some a0 ∧ w.cell? ⟨g, 1, none⟩ = some a1 ∧ w.cell? ⟨g, 2, none⟩ = some a2 := ⟨(blk_cell h 0).trans rfl, (blk_cell h 1).trans rfl, (blk_cell h 2).trans rfl⟩
theorem frz3 {w : World} {g : Nat} {t : TypeId} {a0 a1 a2 : Value} (h : w.heap[g]? = some (.cells #[a0, a1, a2] t (0, 0))) : w.frozen? ⟨g, 0, none⟩ = false ∧ w.frozen? ⟨g, 1, none⟩ = false ∧ w.frozen? ⟨g, 2, none⟩ = false := ⟨blk_frozen h 0, blk_frozen h 1, blk_frozen h 2⟩
theorem cells4 {w : World} {g : Nat} {t : TypeId} {a0 a1 a2 a3 : Value} (h : w.heap[g]? = some (.cells #[a0, a1, a2, a3] t (0, 0))) : w.cell? ⟨g, 0, none⟩ = some a0 ∧ w.cell? ⟨g, 1, none⟩ = some a1 ∧ w.cell? ⟨g, 2, none⟩ = some a2 ∧ w.cell? ⟨g, 3, none⟩ = some a3 := ⟨(blk_cell h 0).trans rfl, (blk_cell h 1).trans rfl, (blk_cell h 2).trans rfl, (blk_cell h 3).trans rfl⟩
theorem frz4 {w : World} {g : Nat} {t : TypeId} {a0 a1 a2 a3 : Value} (h : w.heap[g]? = some (.cells #[a0, a1, a2, a3] t (0, 0))) : w.frozen? ⟨g, 0, none⟩ = false ∧ w.frozen? ⟨g, 1, none⟩ = false ∧ w.frozen? ⟨g, 2, none⟩ = false ∧ w.frozen? ⟨g, 3, none⟩ = false := ⟨blk_frozen h 0, blk_frozen h 1, blk_frozen h 2, blk_frozen h 3⟩
end Go.Proofs.YtednmkmhileikaaW.PrintWords
