/- Short forms of steps that a printed walk repeats: a cell beside a store; a block's cells, written one by one. -/
import Derived.Test.YtbdpnecnnokkkaaWMore
namespace Go.Proofs.YtbdpnecnnokkkaaW.PrintWords
open Go.RowKit
theorem ne_rd {W : World} {a : Addr} {v : Value} {g : Nat} (h : W.cell? a = some v) (hg : W.heap.size ≤ g) : a.block ≠ g := Nat.ne_of_lt (Nat.lt_of_lt_of_le (World.block_lt_of_cell? W a h) hg)
theorem ne_rd' {W : World} {a : Addr} {v : Value} {g i j : Nat} (h : W.cell? (a.add i) = some v) (hg : W.heap.size ≤ g) : (a.add j).block ≠ g := by
  have := ne_rd h hg
  rw [add_block] at this ⊢
  exact this
theorem ne_rd0 {W : World} {a : Addr} {v : Value} {g i : Nat} (h : W.cell? (a.add i) = some v) (hg : W.heap.size ≤ g) : a.block ≠ g := by
  have := ne_rd h hg
  rw [add_block] at this
  exact this
theorem ne_rd1 {W : World} {a : Addr} {v : Value} {g i : Nat} (h : W.cell? a = some v) (hg : W.heap.size ≤ g) : (a.add i).block ≠ g := by
  have := ne_rd h hg
  rw [add_block]
  exact this
theorem cf {W : World} {p a : Addr} {u : Value} {o : Option Value} (h : a.block ≠ p.block) (e : W.cell? a = o) : (W.setCell p u).cell? a = o := (cell_far h u).trans e
/-- A block's cells, told through what is yet to be written. -/
def E (W : World) (g : Nat) (t : TypeId) (f : Array Value → Array Value) (r : Array Value) : Prop := ∃ cs, W.heap[g]? = some (.cells cs t (0, 0)) ∧ f cs = r
section
variable {W : World} {g i : Nat} {t : TypeId} {f : Array Value → Array Value} {r : Array Value} {u : Value}
theorem E_in (h : E W g t (fun x => x) r) : W.heap[g]? = some (.cells r t (0, 0)) := by
  obtain ⟨cs, h1, rfl⟩ := h
  exact h1
theorem E_set (h : E W g t (fun cs => f (cs.setIfInBounds i u)) r) : E (W.setCell ⟨g, i, none⟩ u) g t f r := by
  obtain ⟨cs, h1, h2⟩ := h
  exact ⟨_, blk_set h1 i u, h2⟩
theorem E_far (h : E W g t f r) {p : Addr} (hne : g ≠ p.block) (u : Value) : E (W.setCell p u) g t f r := by
  obtain ⟨cs, h1, h2⟩ := h
  exact ⟨_, blk_far h1 hne u, h2⟩
theorem E_drew (h : E W g t f r) : E W.drew g t f r := by
  obtain ⟨cs, h1, h2⟩ := h
  exact ⟨_, blk_drew h1, h2⟩
theorem E_drewN (h : E W g t f r) (m : Nat) : E (W.drewN m) g t f r := by
  obtain ⟨cs, h1, h2⟩ := h
  exact ⟨_, blk_drewN h1 m, h2⟩
theorem E_alloc (h : E W g t f r) (o : Obj) : E (W.alloc o) g t f r := by
  obtain ⟨cs, h1, h2⟩ := h
  exact ⟨_, blk_alloc h1 o, h2⟩
end
end Go.Proofs.YtbdpnecnnokkkaaW.PrintWords
