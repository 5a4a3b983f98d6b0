/- The page's example answers true. -/
import Derived.Test.YtbaboemhjcdpbaaH6
namespace Go.Proofs.Ytbaboemhjcdpbaa.Q
open Go.RowKit Go.Proofs.YtbaboemhjcdpbaaW.PrintWords Go.Proofs.YtbaboemhjcdpbaaW.PrintLast Go.Proofs.YtbaboemhjcdpbaaW.PrintMore Go.Proofs.Ytbaboemhjcdpbaa.PQueuePlays
attribute [local go_sem] max2_int min2_int max_two min_two max_three min_three max_four min_four
set_option linter.unusedVariables false
set_option linter.unusedSimpArgs false
/-- A change of nothing at the first time, so many more. -/
def upOf (d : Int) : S42 := ⟨[], ⟨0, 0⟩, d⟩
theorem code_calls (a : Int) (w : World) : Calls Try.prog 7 #[.int .i64 a] w fun e w' => e = .returned (.int .i64 a) ∧ ∃ nd, w' = w.drewN nd := by
 refine (runnellaw19_code.calls a a w rfl).mono ?_
 rintro e w' ⟨rfl, ⟨n, rfl⟩⟩
 exact ⟨rfl, n, rfl⟩
theorem C42_of_block {w : World} {b : Nat} {cs : Array Value} (h : w.heap[b]? = some (.cells cs 42 (0, 0))) (xs : List S42) (hn : xs.length ≤ 9223372036854775807) (hx : ∀ j x, xs[j]? = some x → ∃ c : List Value, c.length = 4 ∧ k42.K w x c ∧ ∀ i u, c[i]? = some u → cs[j * 4 + i]? = some u) : Kd.C k42 w (some ⟨b, 0, none⟩) xs.length xs := by
 refine ⟨rfl, hn, fun _ => ⟨_, rfl, fun j p hj => ?_⟩⟩
 obtain ⟨c, hc, hK, hu⟩ := hx j p hj
 refine ⟨c, hc, hK, fun i u hi => ?_⟩
 have e : (⟨b, 0, none⟩ : Addr).add (j * k42.sz + i) = ⟨b, j * 4 + i, none⟩ := by
  show (⟨b, 0, none⟩ : Addr).add (j * 4 + i) = _
  unfold Addr.add; split <;> simp_all
 rw [e, blk_cell h]
 exact hu i u hi
theorem up_K (w : World) (d : Int) : k42.K w (upOf d) [.slice none 0 0, .int .i64 0, .int .i64 0, .int .i64 d] := k42_mk w (upOf d) (A0 := none) (c0 := 0) (Nat.le_refl _) (Kd.C_nil _ _)
def LiveTrue (w : World) (e : Ending) (w' : World) : Prop := e = .returned (.bool true) ∧ Below w.heap.size w w'
set_option maxHeartbeats 4000000 in
set_option maxRecDepth 100000 in
theorem live_calls (w : World) : Calls Try.prog 10 #[] w (LiveTrue w) := by
 go_enter Try.func10, Try.ntmps10
 go_wp2_with fail
 refine (qnew 1 (by omega) (by omega) _).mono ?_
 rintro e w1 ⟨g, rfl, hq, hg, hB⟩
 have Q1 := Aside0.mk hq
 have G1 := Aside0.mk hg
 have B1 := Aside0.mk hB
 clear hq hg hB
 go_wp2_with fail
 refine (code_calls _ _).mono ?_
 rintro e w2 ⟨rfl, nd, hw2⟩
 have Q2 := Aside0.mk (show Qs w2 g none [] 1 0 0 by rw [hw2]; exact Q1.out.drewN nd)
 have B2 := Aside0.mk (show Below w.heap.size w w2 by rw [hw2]; exact pw_below_drewN B1.out nd)
 clear hw2 Q1 B1
 go_wp2_with fail
 refine (qopen Q2.out).mono ?_
 rintro e w3 ⟨rfl, nd, hw3⟩
 have Q3 := Aside0.mk (show Qs w3 g none [] 1 0 0 by rw [hw3]; exact Q2.out.drewN nd)
 have B3 := Aside0.mk (show Below w.heap.size w w3 by rw [hw3]; exact pw_below_drewN B2.out nd)
 clear hw3 Q2 B2
 go_wp2_with fail
 obtain ⟨w4, hw4⟩ : ∃ w4, w4 = w3.alloc (.cells #[.slice none 0 0, .int .i64 0, .int .i64 0, .int .i64 1, .slice none 0 0, .int .i64 0, .int .i64 0, .int .i64 2] 42) := ⟨_, rfl⟩
 obtain ⟨b, hb⟩ : ∃ b, b = w3.heap.size := ⟨_, rfl⟩
 rw [← hw4, ← hb]
 have hB4 : Below w3.heap.size w3 w4 := by rw [hw4]; exact below_alloc (Below.refl _ _) _
 have hbk : w4.heap[b]? = some (.cells #[.slice none 0 0, .int .i64 0, .int .i64 0, .int .i64 1, .slice none 0 0, .int .i64 0, .int .i64 0, .int .i64 2] 42 (0, 0)) := by rw [hw4, hb]; exact blk_new w3 _
 have hnb : ¬ Own g none b := by
  rintro (h | h)
  · have := Q3.out.lt g (.inl rfl); omega
  · cases h
 refine (qpush [upOf 1, upOf 2] (some ⟨b, 0, none⟩) 2 (Q3.out.below hB4) (by decide) (by omega) (by omega) (fun w' hF => C42_of_block (hF.keep hbk hnb) [upOf 1, upOf 2] (by decide) (fun j x hj => ?_)) (by decide) (fun u hu => ?_)).mono ?_
 · match j, hj with
   | 0, hj => cases hj; exact ⟨_, rfl, up_K _ 1, fun i u hi => by match i, hi with | 0, hi => exact hi | 1, hi => exact hi | 2, hi => exact hi | 3, hi => exact hi | (n + 4), hi => cases hi⟩
   | 1, hj => cases hj; exact ⟨_, rfl, up_K _ 2, fun i u hi => by match i, hi with | 0, hi => exact hi | 1, hi => exact hi | 2, hi => exact hi | 3, hi => exact hi | (n + 4), hi => cases hi⟩
   | (n + 2), hj => cases hj
 · simp at hu; rcases hu with rfl | rfl <;> decide
 rintro e w5 ⟨rfl, ro, hq5, hF5, ha5⟩
 have hsz4 : w.heap.size ≤ w4.heap.size := Nat.le_trans B3.out.size hB4.size
 have OW : Aside0 (∀ k, Own g ro k → w.heap.size ≤ k) := ⟨by
  rintro k (rfl | hk)
  · exact G1.out
  · rcases ha5 with rfl | ⟨r, rfl, hle⟩
    · cases hk
    · injection hk with hk; omega⟩
 have Q5 := Aside0.mk hq5
 have B5 := Aside0.mk (Fr.below (below_then B3.out B3.out.size hB4) hF5 (by have := B3.out.size; have := hB4.size; omega) (fun k hk => by
  rcases hk with rfl | hk
  · exact G1.out
  · cases hk))
 clear hw4 hb hB4 hbk hnb hq5 hF5 Q3 B3 ha5 hsz4
 go_wp2_with fail
 refine (qlen Q5.out).mono ?_
 rintro e w6 ⟨rfl, nd, hw6⟩
 have Q6 := Aside0.mk (show Qs w6 g ro _ 1 _ 0 by rw [hw6]; exact Q5.out.drewN nd)
 have B6 := Aside0.mk (show Below w.heap.size w w6 by rw [hw6]; exact pw_below_drewN B5.out nd)
 clear hw6 Q5 B5
 go_wp2_with fail
 refine (qopen Q6.out).mono ?_
 rintro e w7 ⟨rfl, nd, hw7⟩
 have Q7 := Aside0.mk (show Qs w7 g ro _ 1 _ 0 by rw [hw7]; exact Q6.out.drewN nd)
 have B7 := Aside0.mk (show Below w.heap.size w w7 by rw [hw7]; exact pw_below_drewN B6.out nd)
 clear hw7 Q6 B6
 go_wp2_with fail
 refine (qpop (us := [upOf 2]) (upOf 1) Q7.out (by decide) (by omega) (by omega)).mono ?_
 rintro e w8 ⟨A8, d8, rfl, _, hq, hF⟩
 have hB8 : Below w.heap.size w w8 := Fr.below B7.out hF B7.out.size OW.out
 obtain ⟨b8, hb8⟩ : ∃ b, b = w8.heap.size := ⟨_, rfl⟩
 obtain ⟨w9, hw9⟩ : ∃ w', w' = w8.alloc (.cells #[.slice A8 (upOf 1).f0.length d8, .int .i64 (upOf 1).f1.f0, .int .i64 (upOf 1).f1.f1, .int .i64 (upOf 1).f2] 42) := ⟨_, rfl⟩
 have hbel : Below w8.heap.size w8 w9 := by rw [hw9]; exact below_alloc (Below.refl _ _) _
 have X8 := Aside0.mk (show w9.heap[b8]? = some (.cells #[.slice A8 (upOf 1).f0.length d8, .int .i64 (upOf 1).f1.f0, .int .i64 (upOf 1).f1.f1, .int .i64 (upOf 1).f2] 42 (0, 0)) by rw [hw9, hb8]; exact blk_new w8 _)
 have N8 : Aside0 (¬ Own g ro b8) := ⟨fun h => by have := hq.lt _ h; omega⟩
 have Q9 := Aside0.mk (hq.below hbel)
 have B9 := Aside0.mk (below_then hB8 hB8.size hbel)
 go_wp2_with fail
 rw [← hw9, ← hb8]
 clear hq hF hB8 Q7 B7 hw9 hb8 hbel
 refine (qpop (us := []) (upOf 2) Q9.out (by decide) (by omega) (by omega)).mono ?_
 rintro e w10 ⟨A10, d10, rfl, _, hq, hF⟩
 have hB10 : Below w.heap.size w w10 := Fr.below B9.out hF B9.out.size OW.out
 obtain ⟨b10, hb10⟩ : ∃ b, b = w10.heap.size := ⟨_, rfl⟩
 obtain ⟨w11, hw11⟩ : ∃ w', w' = w10.alloc (.cells #[.slice A10 (upOf 2).f0.length d10, .int .i64 (upOf 2).f1.f0, .int .i64 (upOf 2).f1.f1, .int .i64 (upOf 2).f2] 42) := ⟨_, rfl⟩
 have hbel : Below w10.heap.size w10 w11 := by rw [hw11]; exact below_alloc (Below.refl _ _) _
 have X10 := Aside0.mk (show w11.heap[b10]? = some (.cells #[.slice A10 (upOf 2).f0.length d10, .int .i64 (upOf 2).f1.f0, .int .i64 (upOf 2).f1.f1, .int .i64 (upOf 2).f2] 42 (0, 0)) by rw [hw11, hb10]; exact blk_new w10 _)
 have N10 : Aside0 (¬ Own g ro b10) := ⟨fun h => by have := hq.lt _ h; omega⟩
 have X8 := Aside0.mk (blk_below (hF.keep X8.out N8.out) hbel)
 have Q11 := Aside0.mk (hq.below hbel)
 have B11 := Aside0.mk (below_then hB10 hB10.size hbel)
 go_wp2_with fail
 rw [← hw11, ← hb10]
 clear hq hF hB10 Q9 B9 hw11 hb10 hbel
 refine (qpop_none Q11.out).mono ?_
 rintro e w12 ⟨rfl, hb⟩
 have X8 := Aside0.mk (blk_below X8.out hb)
 have X10 := Aside0.mk (blk_below X10.out hb)
 have B12 := Aside0.mk (below_then B11.out B11.out.size hb)
 clear hb Q11 B11
 go_wp2_with fail
 obtain ⟨w13, hw13⟩ : ∃ w', w' = w12.alloc (.cells #[.slice none 0 0, .int .i64 0, .int .i64 0, .int .i64 0] 42) := ⟨_, rfl⟩
 have hbel : Below w12.heap.size w12 w13 := by rw [hw13]; exact below_alloc (Below.refl _ _) _
 rw [← hw13]
 have X8 := Aside0.mk (blk_below X8.out hbel)
 have X10 := Aside0.mk (blk_below X10.out hbel)
 have B13 := Aside0.mk (below_then B12.out B12.out.size hbel)
 clear hw13 hbel B12
 refine (code_calls _ _).mono ?_
 rintro e w14 ⟨rfl, nd, hw14⟩
 have c8 : w14.cell? ⟨b8, 3, none⟩ = some (.int .i64 1) := by rw [hw14]; exact (blk_cell X8.out 3).trans rfl
 have c10 : w14.cell? ⟨b10, 3, none⟩ = some (.int .i64 2) := by rw [hw14]; exact (blk_cell X10.out 3).trans rfl
 have B14 := Aside0.mk (show Below w.heap.size w w14 by rw [hw14]; exact pw_below_drewN B13.out nd)
 clear hw14 B13
 go_wp2
 go_ret
 exact ⟨rfl, B14.out⟩
end Go.Proofs.Ytbaboemhjcdpbaa.Q
