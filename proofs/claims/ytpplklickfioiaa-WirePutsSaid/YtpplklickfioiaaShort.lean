/- Short forms of steps that a printed walk repeats: a cell beside a store; a block's cells, written one by one. -/
import Derived.Test.YtpplklickfioiaaWMore
namespace Go.Proofs.YtpplklickfioiaaW.PrintWords
open Go.RowKit
theorem ne_rd {W : World} {a : Addr} {v : Value} {g : Nat} (h : W.cell? a = some v) (hg : W.heap.size ≤ g) : a.block ≠ g := Nat.ne_of_lt (Nat.lt_of_lt_of_le (World.block_lt_of_cell? W a h) hg)
theorem ne_rd' {W : World} {a : Addr} {v : Value} {g i j : Nat} (h : W.cell? (a.add i) = some v) (hg : W.heap.size ≤ g) : (a.add j).block ≠ g := by
  have := ne_rd h hg
  rw [add_block] at this ⊢
  exact this
theorem cf {W : World} {p a : Addr} {u : Value} {o : Option Value} (h : a.block ≠ p.block) (e : W.cell? a = o) : (W.setCell p u).cell? a = o := (cell_far h u).trans e
/-- A block's cells, told through what is yet to be written. -/
def E (W : World) (g : Nat) (t : TypeId) (f : Array Value → Array Value) (r : Array Value) : Prop := ∃ cs, W.heap[g]? = some (.cells cs t (0, 0)) ∧ f cs = r
section
variable {W : World} {g i : Nat} {t : TypeId} {f : Array Value → Array Value} {r : Array Value} {u : Value}
theorem E_in (h : E W g t (fun x => x) r) : W.heap[g]? = some (.cells r t (0, 0)) := by
  obtain ⟨cs, h1, rfl⟩ := h
  exact h1
theorem E_set (h : E W g t (fun cs => f (cs.setIfInBounds i u)) r) : E (W.setCell ⟨g, i, none⟩ u) g t f r := by
  obtain ⟨cs, h1, h2⟩ := h
  exact ⟨_, blk_set h1 i u, h2⟩
theorem E_far (h : E W g t f r) {p : Addr} (hne : g ≠ p.block) (u : Value) : E (W.setCell p u) g t f r := by
  obtain ⟨cs, h1, h2⟩ := h
  exact ⟨_, blk_far h1 hne u, h2⟩
theorem E_drew (h : E W g t f r) : E W.drew g t f r := by
  obtain ⟨cs, h1, h2⟩ := h
  exact ⟨_, blk_drew h1, h2⟩
theorem E_drewN (h : E W g t f r) (m : Nat) : E (W.drewN m) g t f r := by
  obtain ⟨cs, h1, h2⟩ := h
  exact ⟨_, blk_drewN h1 m, h2⟩
theorem E_alloc (h : E W g t f r) (o : Obj) : E (W.alloc o) g t f r := by
  obtain ⟨cs, h1, h2⟩ := h
  exact ⟨_, blk_alloc h1 o, h2⟩
end
/-! Terms that a printed walk repeats, told by what stands in the context. -/
theorem bl {p : Prop} (h : p := by repeat (first | (with_reducible first | exact HB.out | apply below_alloc | apply pw_below_drewN | apply below_drew1 | refine below_set ?_ (Aside0.out (by with_reducible assumption))) | exact HB.out)) : p := h
theorem bk {p : Prop} (h : p := by apply E_in; repeat (first | (with_reducible first | apply E_drewN | apply E_drew | apply E_alloc | apply E_set | apply E_far _ (Aside0.out (by with_reducible assumption))) | exact ⟨_, Aside0.out (by with_reducible assumption), by with_reducible rfl⟩ | exact ⟨_, Aside0.out (by with_reducible assumption), by simp only [List.setIfInBounds_toArray, List.set_cons_zero, List.set_cons_succ]⟩)) : p := h
theorem lt_set {W : World} {g : Nat} {p : Addr} {u : Value} (h : g < W.heap.size) : g < (W.setCell p u).heap.size := Nat.lt_of_lt_of_le h ((Below.refl 0 W).setCell (Nat.zero_le _) u).size
theorem lt_drewN {W : World} {g n : Nat} (h : g < W.heap.size) : g < (W.drewN n).heap.size := h
theorem lt_drew {W : World} {g : Nat} (h : g < W.heap.size) : g < W.drew.heap.size := h
theorem lt_alloc {W : World} {g : Nat} {o : Obj} (h : g < W.heap.size) : g < (W.alloc o).heap.size := Nat.lt_of_lt_of_le h (below_alloc (Below.refl _ _) o).size
theorem blt {p : Prop} (h : p := by repeat (first | (with_reducible first | refine lt_set ?_ | refine lt_drewN ?_ | refine lt_drew ?_ | refine lt_alloc ?_) | exact blk_lt (Aside0.out (by with_reducible assumption)))) : p := h
theorem rp {p q : Prop} (x : q) (h : q → p := by intro x_; (with_reducible repeat (first | apply Kd.R_alloc | apply Kd.R_drewN | apply Kd.R_drew)); exact x_) : p := h x
theorem mpq {p : Prop} (h : p := by (try simp only [List.map_toArray, List.map_cons, List.map_nil]); first | done | rfl | (simp only [List.length_drop, List.length_take]; rfl)) : p := h
section
variable {α : Type} {d : Kd α} {e : Nat} {w : World} {base : Nat} {ok : Nat → Prop} {v : Value} (h : v = .slice none 0 0)
include h
theorem R_nlv : Kd.R d e w base ok v [] := h ▸ Kd.R_nil _ _ _ _ _
theorem N_nlv : Kd.N d e w base ok v [] := h ▸ Kd.N_nil _ _ _ _ _
theorem V_nlv : Kd.V d e w base ok v [] := h ▸ Kd.V_nil _ _ _ _ _
theorem Q_nlv : Kd.Q d e w base ok v [] := h ▸ Kd.Q_nil _ _ _ _ _
theorem S_nlv : Kd.S d e w base ok v [] := h ▸ Kd.S_nil _ _ _ _ _
end
theorem nlq {p : Prop} (h : p := by first | (with_reducible first | exact Kd.R_nil _ _ _ _ _ | exact Kd.N_nil _ _ _ _ _ | exact Kd.V_nil _ _ _ _ _ | exact Kd.Q_nil _ _ _ _ _ | exact Kd.S_nil _ _ _ _ _) | ((with_reducible first | refine R_nlv ?_ | refine N_nlv ?_ | refine V_nlv ?_ | refine Q_nlv ?_ | refine S_nlv ?_); rfl)) : p := h
theorem erq {p : Prop} (h : p := by first | rfl | (simp [errW_none, errW_some] <;> rfl) | (simp [*, errW_none, errW_some] <;> rfl)) : p := h
theorem heap_drew_ (w : World) (k : Nat) : w.drew.heap[k]? = w.heap[k]? := rfl
theorem heap_drewN_ (w : World) (n k : Nat) : (w.drewN n).heap[k]? = w.heap[k]? := rfl
theorem drew_cell_ (w : World) (a : Addr) : w.drew.cell? a = w.cell? a := rfl
theorem stp {p : Prop} (h : p := by repeat (first | (with_reducible rfl) | (with_reducible refine (Below.heap_setCell _ _ _ _ (by assumption)).trans ?_) | (with_reducible refine (heap_drew_ _ _).trans ?_) | (with_reducible refine (heap_drewN_ _ _ _).trans ?_))) : p := h
theorem bc {w W : World} {a : Addr} {v : Value} (hb : Below w.heap.size w W) (h : w.cell? a = some v) : W.cell? a = some v := (hb.cell (World.block_lt_of_cell? w a h)).trans h

theorem cells2 {w : World} {g : Nat} {t : TypeId} {a0 a1 : Value} (h : w.heap[g]? = some (.cells #[a0, a1] t (0, 0))) : w.cell? ⟨g, 0, none⟩ = some a0 ∧ w.cell? ⟨g, 1, none⟩ = some a1 := ⟨(blk_cell h 0).trans rfl, (blk_cell h 1).trans rfl⟩
theorem frz2 {w : World} {g : Nat} {t : TypeId} {a0 a1 : Value} (h : w.heap[g]? = some (.cells #[a0, a1] t (0, 0))) : w.frozen? ⟨g, 0, none⟩ = false ∧ w.frozen? ⟨g, 1, none⟩ = false := ⟨blk_frozen h 0, blk_frozen h 1⟩
theorem cells3 {w : World} {g : Nat} {t : TypeId} {a0 a1 a2 : Value} (h : w.heap[g]? = some (.cells #[a0, a1, a2] t (0, 0))) : w.cell? ⟨g, 0, none⟩ = some a0 ∧ w.cell? ⟨g, 1, none⟩ = some a1 ∧ w.cell? ⟨g, 2, none⟩ = some a2 := ⟨(blk_cell h 0).trans rfl, (blk_cell h 1).trans rfl, (blk_cell h 2).trans rfl⟩
theorem frz3 {w : World} {g : Nat} {t : TypeId} {a0 a1 a2 : Value} (h : w.heap[g]? = some (.cells #[a0, a1, a2] t (0, 0))) : w.frozen? ⟨g, 0, none⟩ = false ∧ w.frozen? ⟨g, 1, none⟩ = false ∧ w.frozen? ⟨g, 2, none⟩ = false := ⟨blk_frozen h 0, blk_frozen h 1, blk_frozen h 2⟩
theorem cells4 {w : World} {g : Nat} {t : TypeId} {a0 a1 a2 a3 : Value} (h : w.heap[g]? = some (.cells #[a0, a1, a2, a3] t (0, 0))) : w.cell? ⟨g, 0, none⟩ = some a0 ∧ w.cell? ⟨g, 1, none⟩ = some a1 ∧ w.cell? ⟨g, 2, none⟩ = some a2 ∧ w.cell? ⟨g, 3, none⟩ = some a3 := ⟨(blk_cell h 0).trans rfl, (blk_cell h 1).trans rfl, (blk_cell h 2).trans rfl, (blk_cell h 3).trans rfl⟩
theorem frz4 {w : World} {g : Nat} {t : TypeId} {a0 a1 a2 a3 : Value} (h : w.heap[g]? = some (.cells #[a0, a1, a2, a3] t (0, 0))) : w.frozen? ⟨g, 0, none⟩ = false ∧ w.frozen? ⟨g, 1, none⟩ = false ∧ w.frozen? ⟨g, 2, none⟩ = false ∧ w.frozen? ⟨g, 3, none⟩ = false := ⟨blk_frozen h 0, blk_frozen h 1, blk_frozen h 2, blk_frozen h 3⟩
theorem cells9 {w : World} {g : Nat} {t : TypeId} {a0 a1 a2 a3 a4 a5 a6 a7 a8 : Value} (h : w.heap[g]? = some (.cells #[a0, a1, a2, a3, a4, a5, a6, a7, a8] t (0, 0))) : w.cell? ⟨g, 0, none⟩ = some a0 ∧ w.cell? ⟨g, 1, none⟩ = some a1 ∧ w.cell? ⟨g, 2, none⟩ = some a2 ∧ w.cell? ⟨g, 3, none⟩ = some a3 ∧ w.cell? ⟨g, 4, none⟩ = some a4 ∧ w.cell? ⟨g, 5, none⟩ = some a5 ∧ w.cell? ⟨g, 6, none⟩ = some a6 ∧ w.cell? ⟨g, 7, none⟩ = some a7 ∧ w.cell? ⟨g, 8, none⟩ = some a8 := ⟨(blk_cell h 0).trans rfl, (blk_cell h 1).trans rfl, (blk_cell h 2).trans rfl, (blk_cell h 3).trans rfl, (blk_cell h 4).trans rfl, (blk_cell h 5).trans rfl, (blk_cell h 6).trans rfl, (blk_cell h 7).trans rfl, (blk_cell h 8).trans rfl⟩
theorem frz9 {w : World} {g : Nat} {t : TypeId} {a0 a1 a2 a3 a4 a5 a6 a7 a8 : Value} (h : w.heap[g]? = some (.cells #[a0, a1, a2, a3, a4, a5, a6, a7, a8] t (0, 0))) : w.frozen? ⟨g, 0, none⟩ = false ∧ w.frozen? ⟨g, 1, none⟩ = false ∧ w.frozen? ⟨g, 2, none⟩ = false ∧ w.frozen? ⟨g, 3, none⟩ = false ∧ w.frozen? ⟨g, 4, none⟩ = false ∧ w.frozen? ⟨g, 5, none⟩ = false ∧ w.frozen? ⟨g, 6, none⟩ = false ∧ w.frozen? ⟨g, 7, none⟩ = false ∧ w.frozen? ⟨g, 8, none⟩ = false := ⟨blk_frozen h 0, blk_frozen h 1, blk_frozen h 2, blk_frozen h 3, blk_frozen h 4, blk_frozen h 5, blk_frozen h 6, blk_frozen h 7, blk_frozen h 8⟩
theorem nrm {p : Prop} (h : p := by simp only [Act.put, List.setIfInBounds_toArray, List.set_cons_zero, List.set_cons_succ, i64_w, i32_w]; rfl) : p := h
theorem vp {p q : Prop} (x : q) (h : q → p := by intro x_; (with_reducible repeat (first | apply Kd.V_alloc | apply Kd.V_drewN | apply Kd.V_drew)); exact x_) : p := h x
theorem np {p q : Prop} (x : q) (h : q → p := by intro x_; (with_reducible repeat (first | apply Kd.N_alloc | apply Kd.N_drewN | apply Kd.N_drew)); exact x_) : p := h x
theorem bp {p q : Prop} (x : q) (h : q → p := by intro x_; (with_reducible repeat (first | refine blk_drewN ?_ _ | refine blk_drew ?_ | refine blk_alloc ?_ _)); exact x_) : p := h x
theorem cp {p q : Prop} (x : q) (h : q → p := by intro x_; repeat (first | exact x_ | (with_reducible refine Kd.C_alloc ?_ _) | (with_reducible refine Kd.C_drewN ?_ _) | (with_reducible refine Kd.C_drew ?_))) : p := h x
def bsl : Nat → Nat → List Bool
  | 0, _ => []
  | n + 1, m => Nat.beq (m % 2) 1 :: bsl n (m / 2)
def bs (n m : Nat) : Array Bool := ⟨bsl n m⟩
abbrev nb (v : Value) (k : Nat) : Prop := some k ≠ v.ownBlock
abbrev mnw (a b c : Nat → Prop) (w : World) (k : Nat) : Prop := (a k ∨ b k ∨ c k) ∨ w.heap.size ≤ k
theorem hkl {p : Prop} (h : p := by repeat (first | (with_reducible first | exact HK.out | apply KeepBut.set_ | apply keep_drewN | apply keep_drew | apply keep_alloc) | exact HK.out)) : p := h
theorem rsd {p : Prop} (h : p := by first | rfl | (simp; done) | (simp [*]; done)) : p := h
theorem asm {p : Prop} (h : p := by first | (with_reducible assumption) | assumption) : p := h
theorem and9 {a b c d e f g i j r : Prop} (h : a ∧ b ∧ c ∧ d ∧ e ∧ f ∧ g ∧ i ∧ j) (k : r) : a ∧ b ∧ c ∧ d ∧ e ∧ f ∧ g ∧ i ∧ j ∧ r := ⟨h.1, h.2.1, h.2.2.1, h.2.2.2.1, h.2.2.2.2.1, h.2.2.2.2.2.1, h.2.2.2.2.2.2.1, h.2.2.2.2.2.2.2.1, h.2.2.2.2.2.2.2.2, k⟩
theorem bbl {W W1 W2 : World} {g : Nat} {o : Obj} (x : W.heap[g]? = some o) (hb : Below W1.heap.size W1 W2) (h : W.heap[g]? = some o → W1.heap[g]? = some o := by intro x_; (with_reducible repeat (first | refine blk_drewN ?_ _ | refine blk_drew ?_ | refine blk_alloc ?_ _)); exact x_) : W2.heap[g]? = some o := blk_below (h x) hb
theorem bl73 {p : Prop} (h : p := by repeat (first | (with_reducible first | exact HB.out | apply below_alloc | apply pw_below_drewN | apply below_drew1 | refine below_set ?_ (IsS73.ge HI0.out) | refine below_set ?_ (Aside0.out (by with_reducible assumption))) | exact HB.out)) : p := h
theorem hi73 {p : Prop} (h : p := by repeat (first | (with_reducible first | exact HI0.out | apply IsS73.alloc | apply IsS73.drewN | apply IsS73.drew | apply IsS73.set_1 | apply IsS73.set_2) | exact HI0.out)) : p := h
end Go.Proofs.YtpplklickfioiaaW.PrintWords
