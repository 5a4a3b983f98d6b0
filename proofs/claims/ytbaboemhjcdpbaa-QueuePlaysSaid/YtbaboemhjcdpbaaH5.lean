/- (*queue.Queue).Peek and Pop. -/
import Derived.Test.YtbaboemhjcdpbaaH4
namespace Go.Proofs.Ytbaboemhjcdpbaa.Q
open Go.RowKit Go.Proofs.YtbaboemhjcdpbaaW.PrintWords Go.Proofs.YtbaboemhjcdpbaaW.PrintLast Go.Proofs.YtbaboemhjcdpbaaW.PrintMore Go.Proofs.Ytbaboemhjcdpbaa.PQueuePlays
attribute [local go_sem] max2_int min2_int max_two min_two max_three min_three max_four min_four
set_option linter.unusedVariables false
set_option linter.unusedSimpArgs false
/-- What Peek tells of u. -/
def Peeked (w : World) (u : S42) (e : Ending) (w' : World) : Prop := ∃ B d, e = .returned (.tuple #[.agg #[.slice B u.f0.length d, .int .i64 u.f1.f0, .int .i64 u.f1.f1, .int .i64 u.f2], .bool true]) ∧ k65.R 65 w' w.heap.size (fun _ => True) (.slice B u.f0.length d) u.f0 ∧ Below w.heap.size w w'
def PeekNone (w : World) (e : Ending) (w' : World) : Prop := e = .returned (.tuple #[.agg #[.slice none 0 0, .int .i64 0, .int .i64 0, .int .i64 0], .bool false]) ∧ Below w.heap.size w w'
section
variable {g r l first : Nat} {n room i o : Int} {w : World}
set_option maxHeartbeats 1000000 in
theorem peek_none (A : Option Addr) (c : Nat) (j : Int) (h : w.heap[g]? = some (.cells (qcells A l c first n room i o) 56 (0, 0))) (hj : j < 0 ∨ n ≤ j) : Calls Try.prog 19 #[.pointer (some ⟨g, 0, none⟩), .int .i64 j] w (PeekNone w) := by
 have h2 : w.cell? ⟨g, 2, none⟩ = some (.int .i64 n) := (blk_cell h 2).trans rfl
 have hlt := blk_lt h
 have hne : w.heap.size ≠ g := Nat.ne_of_gt hlt
 by_cases hj0 : j < 0
 · have d1 : decide (j < 0) = true := decide_eq_true hj0
   go_enter Try.func19, Try.ntmps19
   go_wp2
   (try simp only [Exit.inBlock, Exit.then])
   refine bodyPost_ret (v := .tuple #[.agg #[.slice none 0 0, .int .i64 0, .int .i64 0, .int .i64 0], .bool false]) ?_ rfl ⟨rfl, ?_⟩
   · rw [results_cell_tmp rfl]
     go_simp
   · repeat (first | exact Below.refl _ _ | apply below_alloc | (refine below_set ?_ (Nat.le_refl _)))
 · have d1 : decide (j < 0) = false := decide_eq_false hj0
   have d2 : decide (j ≥ n) = true := decide_eq_true (by omega)
   go_enter Try.func19, Try.ntmps19
   go_wp2
   (try simp only [Exit.inBlock, Exit.then])
   refine bodyPost_ret (v := .tuple #[.agg #[.slice none 0 0, .int .i64 0, .int .i64 0, .int .i64 0], .bool false]) ?_ rfl ⟨rfl, ?_⟩
   · rw [results_cell_tmp rfl]
     go_simp
   · repeat (first | exact Below.refl _ _ | apply below_alloc | (refine below_set ?_ (Nat.le_refl _)))
theorem place_at (A : Option Addr) (j q : Nat) (h : w.heap[g]? = some (.cells (qcells A l l first n room i o) 56 (0, 0))) (hl : 0 < l) (hf : first + j < 1000000) (hq : q = (first + j) % l) :
  Calls Try.prog 22 #[.pointer (some ⟨g, 0, none⟩), .int .i64 (j : Int)] w fun e w' => e = .returned (.int .i64 (q : Int)) ∧ ∃ nd, w' = w.drewN nd := by
 subst hq
 refine (place_calls (A := A) (j : Int) h hl (by omega) (by omega)).mono ?_
 rintro e w' ⟨rfl, hw⟩
 exact ⟨by congr 2, hw⟩
set_option maxHeartbeats 4000000 in
set_option maxRecDepth 100000 in
theorem peek_calls (es : List (List Value)) (j : Nat) (u : S42) (t : List Value) (hn : n = es.length) (hl2 : l ≤ 131072) (h : w.heap[g]? = some (.cells (qcells (some ⟨r, 0, none⟩) l l first n room i o) 56 (0, 0))) (hR : Ring w (some r) l first es) (hj : es[j]? = some t) (hK : k42.K w u t) (hul : u.f0.length < 4398046511104) :
  Calls Try.prog 19 #[.pointer (some ⟨g, 0, none⟩), .int .i64 j] w (Peeked w u) := by
 obtain ⟨A0, c0, rfl, hc0, hk0⟩ := k42_open hK
 obtain ⟨hfit, ⟨h0, _⟩ | ⟨r', cur, hr', hf, hc, hcs, h1c, hes⟩⟩ := hR
 · cases h0
 injection hr' with hr'
 subst hr'
 obtain ⟨_, ht⟩ := hes j _ hj
 have hjl : j < es.length := (List.getElem?_eq_some_iff.1 hj).1
 have h2 : w.cell? ⟨g, 2, none⟩ = some (.int .i64 n) := (blk_cell h 2).trans rfl
 have d1 : decide ((j : Int) < 0) = false := decide_eq_false (by omega)
 have d2 : decide ((j : Int) ≥ n) = false := decide_eq_false (by omega)
 obtain ⟨q, hq⟩ : ∃ q, q = (first + (0 + j)) % l := ⟨_, rfl⟩
 rw [Nat.zero_add] at hq
 rw [← hq] at ht
 have hql : q < l := by rw [hq]; exact Nat.mod_lt _ (by omega)
 have hqz : (q : Int) < (l : Int) := by omega
 have hq0 : (0 : Int) ≤ (q : Int) := by omega
 obtain ⟨bx, hbx⟩ : ∃ bx, bx = w.heap.size := ⟨_, rfl⟩
 obtain ⟨w2, hw2⟩ : ∃ w2, w2 = w.alloc (.cells #[.slice none 0 0, .int .i64 0, .int .i64 0, .int .i64 0] 42) := ⟨_, rfl⟩
 have hB2 : Below w.heap.size w w2 := by rw [hw2]; exact below_alloc (Below.refl _ _) _
 have b2 : w2.heap[bx]? = some (.cells #[.slice none 0 0, .int .i64 0, .int .i64 0, .int .i64 0] 42 (0, 0)) := by rw [hw2, hbx]; exact blk_new w _
 have gbx : g ≠ bx := by rw [hbx]; exact Nat.ne_of_lt (blk_lt h)
 have rbx : r ≠ bx := by rw [hbx]; exact Nat.ne_of_lt (blk_lt hc)
 have G2 := Aside0.mk (blk_below h hB2)
 have R2 := Aside0.mk (blk_below hc hB2)
 have K2 := Aside0.mk (Kd.C_below hk0 hB2)
 have H := Aside0.mk h
 have hjn : j < 131072 := by omega
 have HBX := Aside0.mk hbx
 have HB2 := Aside0.mk hB2
 have HC0 := Aside0.mk hc0
 have HN := Aside0.mk hn
 have HQ := Aside0.mk hq
 have B2 := Aside0.mk b2
 have x0 : w2.cell? ⟨g, 0, none⟩ = some (.slice (some ⟨r, 0, none⟩) l l) := (blk_cell G2.out 0).trans rfl
 have z0 : w2.cell? ⟨r, q * 4, none⟩ = some (.slice A0 u.f0.length c0) := (blk_cell R2.out _).trans (ht 0 (by omega))
 have z1 : w2.cell? ⟨r, q * 4 + 1, none⟩ = some (.int .i64 u.f1.f0) := (blk_cell R2.out _).trans (ht 1 (by omega))
 have z2 : w2.cell? ⟨r, q * 4 + 2, none⟩ = some (.int .i64 u.f1.f1) := (blk_cell R2.out _).trans (ht 2 (by omega))
 have z3 : w2.cell? ⟨r, q * 4 + 3, none⟩ = some (.int .i64 u.f2) := (blk_cell R2.out _).trans (ht 3 (by omega))
 have hw2' := Aside0.mk hw2
 have hne : w.heap.size ≠ g := Nat.ne_of_gt (blk_lt h)
 have hneg : g ≠ w.heap.size := Ne.symm hne
 have hlt := blk_lt h
 clear hw2 hc hcs h1c hes ht hj hfit hK hB2 hk0 hbx hq b2 hc0 hn
 go_enter Try.func19, Try.ntmps19
 go_wp2
 rw [← hw2'.out]
 rw [← HBX.out]
 have hpos : 0 < l := by omega
 have hfj : first + j < 1000000 := by omega
 clear HN hne hneg hlt h2 h d2
 go_region_held3 (fun w' => w'.cell? ⟨g, 0, none⟩ = some (.slice (some ⟨r, 0, none⟩) l l) ∧ w'.cell? ⟨r, q * 4, none⟩ = some (.slice A0 u.f0.length c0) ∧ w'.cell? ⟨r, q * 4 + 1, none⟩ = some (.int .i64 u.f1.f0) ∧ w'.cell? ⟨r, q * 4 + 2, none⟩ = some (.int .i64 u.f1.f1) ∧ w'.cell? ⟨r, q * 4 + 3, none⟩ = some (.int .i64 u.f2)) (first | exact ⟨x0, z0, z1, z2, z3⟩ | exact ⟨pw_cell_below HB3.out x0, pw_cell_below HB3.out z0, pw_cell_below HB3.out z1, pw_cell_below HB3.out z2, pw_cell_below HB3.out z3⟩ | exact ⟨far4 (o := 0) (pw_cell_below HB3.out x0) gbx, far4 (o := 0) (pw_cell_below HB3.out z0) rbx, far4 (o := 0) (pw_cell_below HB3.out z1) rbx, far4 (o := 0) (pw_cell_below HB3.out z2) rbx, far4 (o := 0) (pw_cell_below HB3.out z3) rbx⟩) (first | (go_at_call 22; (with_reducible refine (place_at (n := n) (room := room) (i := i) (o := o) (some ⟨r, 0, none⟩) j q ?hg hpos hfj HQ.out).mono ?_); (case hg => first | exact G2.out | exact G3.out); rintro e w4 ⟨rfl, nd, rfl⟩) | (go_at_call 21; (with_reducible refine (told_up u A0 c0 _ HC0.out ?hk hul).mono ?_); (case hk => exact Kd.C_below K2.out ⟨rfl, rfl, rfl, Nat.le_refl _, fun _ _ => rfl⟩); rintro e w3 ⟨B, d, rfl, hR3, hb3⟩; have HB3 : Aside0 (Below w2.heap.size w2 w3) := ⟨⟨hb3.os, hb3.tape, hb3.output, hb3.size, hb3.block⟩⟩; have G3 := Aside0.mk (blk_below G2.out HB3.out); have B3 := Aside0.mk (blk_below B2.out HB3.out); have k0 : w3.cell? ⟨bx, 0, none⟩ = some (.slice none 0 0) := (blk_cell B3.out 0).trans rfl; have k1 : w3.cell? ⟨bx, 1, none⟩ = some (.int .i64 0) := (blk_cell B3.out 1).trans rfl; have k2 : w3.cell? ⟨bx, 2, none⟩ = some (.int .i64 0) := (blk_cell B3.out 2).trans rfl; have k3 : w3.cell? ⟨bx, 3, none⟩ = some (.int .i64 0) := (blk_cell B3.out 3).trans rfl; have g0 := blk_frozen B3.out 0; have g1 := blk_frozen B3.out 1; have g2 := blk_frozen B3.out 2; have g3 := blk_frozen B3.out 3; have R3 : Aside0 (k65.R 65 w3 w2.heap.size (fun _ => True) (.slice B u.f0.length d) u.f0) := Aside0.mk hR3; clear hR3 hb3))
 all_goals go_wp2
 all_goals (try simp only [Exit.inBlock, Exit.then])
 all_goals refine bodyPost_ret (v := .tuple #[.agg #[.slice B u.f0.length d, .int .i64 u.f1.f0, .int .i64 u.f1.f1, .int .i64 u.f2], .bool true]) ?_ rfl ⟨B, d, rfl, ?_, ?_⟩
 · rw [results_cell_tmp rfl]
   go_simp
 · refine Kd.R_lower (?_ : k65.R 65 _ w2.heap.size _ _ _) HB2.out.size
   exact Kd.R_mono (Kd.R_far (p := ⟨bx, 3, none⟩) (Kd.R_far (p := ⟨bx, 2, none⟩) (Kd.R_far (p := ⟨bx, 1, none⟩) (Kd.R_far (p := ⟨bx, 0, none⟩) (Kd.R_types R3.out B3.out (by decide)) (fun _ hk => hk.2) _) (fun _ hk => hk.2) _) (fun _ hk => hk.2) _) (fun _ hk => hk.2) _) (fun _ _ => trivial)
 · have hge : w.heap.size ≤ bx := by rw [HBX.out]; exact Nat.le_refl _
   iterate 4 refine below_set ?_ hge
   exact below_then HB2.out HB2.out.size HB3.out
end
end Go.Proofs.Ytbaboemhjcdpbaa.Q
