import Derived.Test.YtbaboemhjcdpbaaProg
import Derived.Below
import Derived.Deep.Draws
import Derived.Deep.AppendLies
import Derived.Maps.AppendAt
import Derived.OwnWalk
import Derived.Laws.BytesArg
import Derived.Laws.MakeOwn
import Derived.Laws.OwnMore
import Derived.Deep.OwnRows
import Derived.Tactics
import Derived.Lib.ConvBytes
import Derived.Laws.Slices
import Derived.WalkKit
import Derived.KernelRfl
import Derived.RowKit3
import Derived.Deep.LoopGhost
import Derived.Deep.QuietTactic
import Derived.BigQuiet
import Derived.WideLaws
import Derived.Deep.DeepCutAuto
import Derived.Deep.CutBlock
import Derived.Deep.RegionHeld3
import Derived.Laws.Rows
import Derived.Lib.AppendStr
import Derived.ArgAppend
import Derived.Laws.IdiomCopy
import Derived.OrdersHeld
import Derived.Laws.BitsLemmas
import Derived.RowKit
import Derived.Test.YtbaboemhjcdpbaaWWords
import Derived.Test.YtbaboemhjcdpbaaWLast
import Derived.Test.YtbaboemhjcdpbaaWTab
import Derived.Test.YtbaboemhjcdpbaaWFour
import Derived.Test.YtbaboemhjcdpbaaWQPut
import Derived.Test.YtbaboemhjcdpbaaWApart
import Derived.Test.YtbaboemhjcdpbaaWArr
import Derived.Test.YtbaboemhjcdpbaaWZeros
import Derived.Test.YtbaboemhjcdpbaaWFoot
import Derived.Test.YtbaboemhjcdpbaaWKept
import Derived.Test.YtbaboemhjcdpbaaWShare
import Derived.Test.YtbaboemhjcdpbaaWN
import Derived.Test.YtbaboemhjcdpbaaWFootNe
import Derived.Test.YtbaboemhjcdpbaaWAt
import Derived.Test.YtbaboemhjcdpbaaWEqStruct
import Derived.Test.YtbaboemhjcdpbaaWRepsOne
import Derived.Test.YtbaboemhjcdpbaaWInv
import Derived.Test.YtbaboemhjcdpbaaWInvWords
import Derived.Test.YtbaboemhjcdpbaaWGuard
import Derived.Test.YtbaboemhjcdpbaaWNEv
import Derived.Test.YtbaboemhjcdpbaaWMore
import Derived.StillTailTactics
import Derived.Laws.CopyRow
import Derived.Laws.ResultCell
import Derived.Lib.SliceRun
namespace Go.Proofs.Ytbaboemhjcdpbaa.Q
open Go.RowKit Go.Proofs.YtbaboemhjcdpbaaW.PrintWords Go.Proofs.YtbaboemhjcdpbaaW.PrintLast Go.Proofs.YtbaboemhjcdpbaaW.PrintMore
attribute [local go_sem] max2_int min2_int max_two min_two max_three min_three max_four min_four   -- for this text's walks alone
set_option linter.unusedVariables false
set_option linter.unusedSimpArgs false
/-- A queue's cells: its ring, where the first one lies, how many wait, the room, how many came in and went out. -/
def qcells (A : Option Addr) (l c : Nat) (first n room i o : Int) : Array Value := #[.slice A l c, .int .i64 first, .int .i64 n, .int .i64 room, .int .i64 i, .int .i64 o]
set_option maxHeartbeats 1000000 in
theorem new_calls (room : Int) (h1 : 1 ≤ room) (h2 : room ≤ 65536) (w : World) : Calls Try.prog 6 #[.int .i64 room] w fun e w' => ∃ g, e = .returned (.tuple #[.pointer (some ⟨g, 0, none⟩), .int .i64 0]) ∧ w.heap.size ≤ g ∧ w'.heap[g]? = some (.cells (qcells none 0 0 0 0 room 0 0) 56 (0, 0)) ∧ Below w.heap.size w w' := by
 have HB := Aside0.mk (Below.refl w.heap.size w)
 have c1 : decide (room < 1) = false := decide_eq_false (by omega)
 have c2 : decide (room > 65536) = false := decide_eq_false (by omega)
 go_enter Try.func6, Try.ntmps6
 go_wp2
 go_ret2
 exact ⟨w.heap.size, rfl, Nat.le_refl _, blk_new w _, below_alloc (Below.refl _ _) _⟩
section
variable {A : Option Addr} {l c g : Nat} {first n room i o : Int} {w : World}
set_option maxHeartbeats 1000000 in
theorem len_calls (h : w.heap[g]? = some (.cells (qcells A l c first n room i o) 56 (0, 0))) : Calls Try.prog 9 #[.pointer (some ⟨g, 0, none⟩)] w fun e w' => e = .returned (.int .i64 n) ∧ ∃ nd, w' = w.drewN nd := by
 have h2 : w.cell? ⟨g, 2, none⟩ = some (.int .i64 n) := (blk_cell h 2).trans rfl
 go_enter Try.func9, Try.ntmps9
 go_wp2
 go_ret
 exact ⟨rfl, 0, rfl⟩
set_option maxHeartbeats 1000000 in
theorem len_nil : Calls Try.prog 9 #[.pointer none] w fun e w' => e = .returned (.int .i64 0) ∧ ∃ nd, w' = w.drewN nd := by
 go_enter Try.func9, Try.ntmps9
 go_wp2
 go_ret
 exact ⟨rfl, 0, rfl⟩
set_option maxHeartbeats 1000000 in
theorem passed_nil : Calls Try.prog 14 #[.pointer none] w fun e w' => e = .returned (.tuple #[.int .i64 0, .int .i64 0]) ∧ ∃ nd, w' = w.drewN nd := by
 go_enter Try.func14, Try.ntmps14
 go_wp2
 go_ret2
 exact ⟨rfl, 0, rfl⟩
set_option maxHeartbeats 1000000 in
theorem open_calls (h : w.heap[g]? = some (.cells (qcells A l c first n room i o) 56 (0, 0))) : Calls Try.prog 15 #[.pointer (some ⟨g, 0, none⟩)] w fun e w' => e = .returned (.bool (decide (n < room))) ∧ ∃ nd, w' = w.drewN nd := by
 have h2 : w.cell? ⟨g, 2, none⟩ = some (.int .i64 n) := (blk_cell h 2).trans rfl
 have h3 : w.cell? ⟨g, 3, none⟩ = some (.int .i64 room) := (blk_cell h 3).trans rfl
 go_enter Try.func15, Try.ntmps15
 go_wp2
 go_quiet (fail)
 go_wp2
 go_ret
 exact ⟨rfl, _, rfl⟩
set_option maxHeartbeats 1000000 in
theorem open_nil : Calls Try.prog 15 #[.pointer none] w fun e w' => e = .returned (.bool false) ∧ ∃ nd, w' = w.drewN nd := by
 go_enter Try.func15, Try.ntmps15
 go_wp2
 go_quiet (fail)
 go_wp2
 go_ret
 exact ⟨rfl, _, rfl⟩
set_option maxHeartbeats 1000000 in
theorem passed_calls (h : w.heap[g]? = some (.cells (qcells A l c first n room i o) 56 (0, 0))) : Calls Try.prog 14 #[.pointer (some ⟨g, 0, none⟩)] w fun e w' => e = .returned (.tuple #[.int .i64 i, .int .i64 o]) ∧ ∃ nd, w' = w.drewN nd := by
 have h2 : w.cell? ⟨g, 4, none⟩ = some (.int .i64 i) := (blk_cell h 4).trans rfl
 have h3 : w.cell? ⟨g, 5, none⟩ = some (.int .i64 o) := (blk_cell h 5).trans rfl
 go_enter Try.func14, Try.ntmps14
 go_wp2
 go_quiet (fail)
 go_wp2
 go_ret2
 exact ⟨rfl, _, rfl⟩
/-- The place of the i-th. -/
theorem place_calls (j : Int) (h : w.heap[g]? = some (.cells (qcells A l c first n room i o) 56 (0, 0))) (hl : 0 < l) (hs : 0 ≤ first + j) (hs' : first + j < 2 ^ 62) : Calls Try.prog 22 #[.pointer (some ⟨g, 0, none⟩), .int .i64 j] w fun e w' => e = .returned (.int .i64 ((first + j) % l)) ∧ ∃ nd, w' = w.drewN nd := by
 have h2 : w.cell? ⟨g, 0, none⟩ = some (.slice A l c) := (blk_cell h 0).trans rfl
 have h3 : w.cell? ⟨g, 1, none⟩ = some (.int .i64 first) := (blk_cell h 1).trans rfl
 go_enter Try.func22, Try.ntmps22
 go_wp2
 go_quiet (fail)
 go_wp2
 go_ret
 exact ⟨rfl, _, rfl⟩
set_option maxHeartbeats 1000000 in
theorem push_nil (B : Option Addr) (m d : Nat) : Calls Try.prog 8 #[.pointer none, .slice B m d] w fun e w' => e = .returned (.int .i64 5) ∧ Below w.heap.size w w' := by
 go_enter Try.func8, Try.ntmps8
 go_wp2
 go_ret
 exact ⟨rfl, Below.refl _ _⟩
set_option maxHeartbeats 1000000 in
theorem peek_nil (j : Int) : Calls Try.prog 19 #[.pointer none, .int .i64 j] w fun e w' => e = .returned (.tuple #[.agg #[.slice none 0 0, .int .i64 0, .int .i64 0, .int .i64 0], .bool false]) ∧ Below w.heap.size w w' := by
 go_enter Try.func19, Try.ntmps19
 go_wp2
 (try simp only [Exit.inBlock, Exit.then])
 refine bodyPost_ret (v := .tuple #[.agg #[.slice none 0 0, .int .i64 0, .int .i64 0, .int .i64 0], .bool false]) ?_ rfl ⟨rfl, ?_⟩
 · rw [results_cell_tmp rfl]
   go_simp
 · repeat (first | exact Below.refl _ _ | apply below_alloc | (refine below_set ?_ (Nat.le_refl _)))
set_option maxHeartbeats 1000000 in
theorem pop_nil : Calls Try.prog 12 #[.pointer none] w fun e w' => e = .returned (.tuple #[.agg #[.slice none 0 0, .int .i64 0, .int .i64 0, .int .i64 0], .bool false]) ∧ Below w.heap.size w w' := by
 go_enter Try.func12, Try.ntmps12
 go_wp2_with (first
  | ((with_reducible refine gate_dst (N := 2) rfl ?_); refine box_event ?hg (N := 2) ?hd (cs := #[.slice none 0 0, .int .i64 0, .int .i64 0, .int .i64 0]) (t := 42) ?hr ?_; (case hd => rfl); (case hg => rfl); (case hr => first | (go_simp; done) | (go_simp; rfl)); intro g0 hg0 w0 BK hb; have hB := hb; have GE : w.heap.size ≤ g0 := (by rw [hg0]; exact Nat.le_refl _); clear hb hg0)
  | (go_at_call 19; (with_reducible refine (peek_nil 0).mono ?_); rintro e w1 ⟨rfl, hb⟩; have BK1 := blk_below (g := g0) (o := .cells #[.slice none 0 0, .int .i64 0, .int .i64 0, .int .i64 0] 42 (0, 0)) BK hb; have hB1 : Below w.heap.size w w1 := below_step hB hb; clear hb BK hB)
  | ((with_reducible refine gate_dst (N := 4) rfl ?_); refine box_event ?hg (N := 4) ?hd (cs := #[.slice none 0 0, .int .i64 0, .int .i64 0, .int .i64 0]) (t := 42) ?hr ?_; (case hd => rfl); (case hg => rfl); (case hr => first | (go_simp; done) | (go_simp; rfl)); intro g1 hg1 w2 BG hb; have BK2 := blk_below (g := g0) (o := .cells #[.slice none 0 0, .int .i64 0, .int .i64 0, .int .i64 0] 42 (0, 0)) BK1 hb; have hB2 : Below w.heap.size w w2 := below_step hB1 hb; have GE1 : w.heap.size ≤ g1 := (by rw [hg1]; exact below_size hB1); have hn : g0 ≠ g1 := (by rw [hg1]; exact Nat.ne_of_lt (blk_lt BK1)); have hn' : g1 ≠ g0 := (Ne.symm hn); clear hb hg1 BK1 hB1; have ac0 : w2.cell? ⟨g0, 0, none⟩ = some (.slice none 0 0) := (blk_cell BK2 0).trans rfl; have af0 := blk_frozen BK2 0; have ac1 : w2.cell? ⟨g0, 1, none⟩ = some (.int .i64 0) := (blk_cell BK2 1).trans rfl; have af1 := blk_frozen BK2 1; have ac2 : w2.cell? ⟨g0, 2, none⟩ = some (.int .i64 0) := (blk_cell BK2 2).trans rfl; have af2 := blk_frozen BK2 2; have ac3 : w2.cell? ⟨g0, 3, none⟩ = some (.int .i64 0) := (blk_cell BK2 3).trans rfl; have af3 := blk_frozen BK2 3; have bc0 : w2.cell? ⟨g1, 0, none⟩ = some (.slice none 0 0) := (blk_cell BG 0).trans rfl; have bf0 := blk_frozen BG 0; have bc1 : w2.cell? ⟨g1, 1, none⟩ = some (.int .i64 0) := (blk_cell BG 1).trans rfl; have bf1 := blk_frozen BG 1; have bc2 : w2.cell? ⟨g1, 2, none⟩ = some (.int .i64 0) := (blk_cell BG 2).trans rfl; have bf2 := blk_frozen BG 2; have bc3 : w2.cell? ⟨g1, 3, none⟩ = some (.int .i64 0) := (blk_cell BG 3).trans rfl; have bf3 := blk_frozen BG 3))
 (try simp only [Exit.inBlock, Exit.then])
 refine bodyPost_ret (v := .tuple #[.agg #[.slice none 0 0, .int .i64 0, .int .i64 0, .int .i64 0], .bool false]) ?_ rfl ⟨rfl, ?_⟩
 · rw [results_cell_tmp rfl]
   go_simp
 · iterate 4 refine below_set ?_ GE
   iterate 4 refine below_set ?_ GE1
   exact hB2
set_option maxHeartbeats 1000000 in
theorem clone_nil : Calls Try.prog 27 #[.slice none 0 0] w fun e w' => e = .returned (.slice none 0 0) ∧ ∃ nd, w' = w.drewN nd := by
 have hnil : ∀ W, (binOp .eql 38 (.slice none 0 0) (.slice none 0 0)).run Try.prog W = .ok (.bool true) W := fun W => Lib.run_eql_slice_nil W 38 65 none 0 0 0 0 Try.underlying38
 go_enter Try.func27, Try.ntmps27
 go_wp2
 go_ret
 exact ⟨rfl, 0, rfl⟩
theorem info42 : (Try.prog.info? 42).map (fun i => (i.zero, i.size, i.bytes)) = some (some (.agg #[.slice none 0 0, .int .i64 0, .int .i64 0, .int .i64 0]), 4, 48) := by kernel_rfl
end
end Go.Proofs.Ytbaboemhjcdpbaa.Q
