/- QueueFull: the walk. -/
import Derived.Test.YtbaboemhjcdpbaaH7
namespace Go.Proofs.Ytbaboemhjcdpbaa.Q
open Go.RowKit Go.Proofs.YtbaboemhjcdpbaaW.PrintWords Go.Proofs.YtbaboemhjcdpbaaW.PrintLast Go.Proofs.YtbaboemhjcdpbaaW.PrintMore Go.Proofs.Ytbaboemhjcdpbaa.PQueuePlays
attribute [local go_sem] max2_int min2_int max_two min_two max_three min_three max_four min_four
set_option linter.unusedVariables false
set_option linter.unusedSimpArgs false
section
variable {w : World} {g : Nat} {ro : Option Nat} {us : List S42} {room i o : Int}
set_option maxHeartbeats 1000000 in
theorem push_many (n m c : Nat) (A : Option Addr) (C : Option Addr) (l k : Nat) (first : Int) (h : w.heap[g]? = some (.cells (qcells C l k first n room i o) 56 (0, 0))) (hn : n ≤ 65536) (hm : 65536 < n + m) (hm2 : m ≤ 4611686018427387904) : Calls Try.prog 8 #[.pointer (some ⟨g, 0, none⟩), .slice A m c] w fun e w' => e = .returned (.int .i64 3) ∧ w' = w := by
 have h2 : w.cell? ⟨g, 2, none⟩ = some (.int .i64 n) := (blk_cell h 2).trans rfl
 have d1 : decide ((m : Int) > 65536 - n) = true := decide_eq_true (by omega)
 go_enter Try.func8, Try.ntmps8
 go_wp2
 go_ret
 exact ⟨rfl, rfl⟩
theorem qpush_many (m c : Nat) (A : Option Addr) (h : Qs w g ro us room i o) (hn : us.length ≤ 65536) (hm : 65536 < us.length + m) (hm2 : m ≤ 4611686018427387904) : Calls Try.prog 8 #[.pointer (some ⟨g, 0, none⟩), .slice A m c] w fun e w' => e = .returned (.int .i64 3) ∧ w' = w := by
 obtain ⟨l, first, es, hl, hg, hR, hT, hr⟩ := h
 exact push_many us.length m c A _ l l first hg hn hm hm2
end
theorem made_at (z : Array Value) (hz : z.size = 4) (n j i : Nat) (hj : j < n) (hi : i < 4) : (madeCells z (n * 4))[j * 4 + i]? = z[i]? := by
 have hlt : j * 4 + i < n * 4 := by omega
 rw [Array.getElem?_eq_getElem (by rw [size_madeCells]; exact hlt), Array.getElem?_eq_getElem (by omega)]
 simp [madeCells]
 rw [getElem!_pos z _ (by rw [hz]; exact Nat.mod_lt _ (by omega))]
 congr 1
 rw [hz]; omega
theorem C42_made {w : World} {b n : Nat} {cur : Array Value} (h : w.heap[b]? = some (.cells cur 42 (0, 0))) (hc : cur = madeCells #[.slice none 0 0, .int .i64 0, .int .i64 0, .int .i64 0] (n * 4)) (hn : n ≤ 1000000) : Kd.C k42 w (some ⟨b, 0, none⟩) (List.replicate n (upOf 0)).length (List.replicate n (upOf 0)) := by
 refine C42_of_block h _ (by simp; omega) (fun j x hj => ?_)
 have hj' : j < n := by have := (List.getElem?_eq_some_iff.1 hj).1; simpa using this
 have hx : x = upOf 0 := by
  rw [List.getElem?_replicate, if_pos hj'] at hj
  exact (Option.some.inj hj).symm
 subst hx
 refine ⟨_, rfl, up_K w 0, fun i u hi => ?_⟩
 have hi4 : i < 4 := by have := (List.getElem?_eq_some_iff.1 hi).1; simpa using this
 rw [hc, made_at _ rfl n j i hj' hi4, ← hi]
 simp [upOf]
set_option maxHeartbeats 4000000 in
set_option maxRecDepth 100000 in
theorem full_calls (n m : Nat) (hn : n ≤ 65535) (hm : m ≤ 255) (w : World) : Calls Try.prog 3 #[.int .u16 n, .int .u8 m] w (LiveTrue w) := by
 obtain ⟨i0, hi, hz, hs, hb⟩ := info_parts info42
 have hb1 : i0.bytes * (n + 1) ≤ 281474976710656 := by rw [hb]; omega
 have hb2 : i0.bytes * m ≤ 281474976710656 := by rw [hb]; omega
 have hb3 : n + 1 ≤ maxLen := Nat.le_trans (show n + 1 ≤ 65536 by omega) (by decide)
 have hb4 : m ≤ maxLen := Nat.le_trans hm (by decide)
 go_enter Try.func3, Try.ntmps3
 go_wp2_with fail
 refine (qnew 1 (by omega) (by omega) _).mono ?_
 rintro e w1 ⟨g, rfl, hq, hg, hB⟩
 have Q1 := Aside0.mk hq
 have G1 := Aside0.mk hg
 have B1 := Aside0.mk hB
 clear hq hg hB
 go_wp2_with fail
 refine (code_calls _ _).mono ?_
 rintro e w2 ⟨rfl, nd, hw2⟩
 have Q2 := Aside0.mk (show Qs w2 g none [] 1 0 0 by rw [hw2]; exact Q1.out.drewN nd)
 have B2 := Aside0.mk (show Below w.heap.size w w2 by rw [hw2]; exact pw_below_drewN B1.out nd)
 clear hw2 Q1 B1
 go_wp2_with (first | ((with_reducible refine gate_dst (N := 25) rfl ?_); refine wpList_make_full _ rfl (.tmp 24) (.tmp 24) 28 rfl w2.heap.size 42 i0 _ 4 Try.underlying28 hi hz hs .i64 .i64 _ _ (n + 1) rfl rfl ?cL ?cM hb1 hb3 (Nat.le_refl _) ?_; (case cL => first | rfl | omega); (case cM => first | rfl | omega); intro w3 ho hgr; have HO3 := Aside0.mk ho; have HG3 := Aside0.mk hgr; clear ho hgr) | ((with_reducible refine gate_dst (N := 28) rfl ?_); refine wpList_make_full _ rfl (.tmp 27) (.tmp 27) 28 rfl w3.heap.size 42 i0 _ 4 Try.underlying28 hi hz hs .i64 .i64 _ _ m rfl rfl ?cL ?cM hb2 hb4 (Nat.le_refl _) ?_; (case cL => first | rfl | omega); (case cM => first | rfl | omega); intro w4 ho hgr; have HO4 := Aside0.mk ho; have HG4 := Aside0.mk hgr; clear ho hgr) | fail)
 have made : ∀ {W W' : World} {n : Nat}, W'.ownsRow W.heap.size 42 4 (.slice (some ⟨W.heap.size, 0, none⟩) n n) n (madeCells (Value.agg #[.slice none 0 0, .int .i64 0, .int .i64 0, .int .i64 0]).cells (n * 4)).toList → W'.heap[W.heap.size]? = some (.cells (madeCells #[.slice none 0 0, .int .i64 0, .int .i64 0, .int .i64 0] (n * 4)) 42 (0, 0)) := by
   intro W W' n ho
   obtain ⟨_, ⟨hn, _⟩ | ⟨r, cap, cur, hv, hb_, hcur, _, _, hsz, htk⟩⟩ := ho
   · cases hn
   · cases hv
     rw [hcur]
     rw [List.take_of_length_le (by simpa using Nat.le_of_eq hsz)] at htk
     have := Array.toList_inj.1 htk
     rw [this]
     rfl
 have b1 := made HO3.out
 have b2 := made HO4.out
 have z3 : w2.heap.size < w3.heap.size := blk_lt b1
 have z4 : w3.heap.size < w4.heap.size := blk_lt b2
 have hB3 : Below w2.heap.size w2 w3 := ⟨HG3.out.os, HG3.out.tape, HG3.out.output, HG3.out.size, fun k hk => HG3.out.block k hk (by simp)⟩
 have hB4 : Below w3.heap.size w3 w4 := ⟨HG4.out.os, HG4.out.tape, HG4.out.output, HG4.out.size, fun k hk => HG4.out.block k hk (by simp)⟩
 have Q4 := Aside0.mk ((Q2.out.below hB3).below hB4)
 have B4 := Aside0.mk (below_then (below_then B2.out B2.out.size hB3) (Nat.le_trans B2.out.size hB3.size) hB4)
 obtain ⟨x1, hx1⟩ : ∃ x, x = w2.heap.size := ⟨_, rfl⟩
 obtain ⟨x2, hx2⟩ : ∃ x, x = w3.heap.size := ⟨_, rfl⟩
 have c1 := blk_below b1 hB4
 rw [← hx1] at c1 z3
 rw [← hx2] at b2 z4
 rw [← hx1, ← hx2]
 have hg2 : g < w2.heap.size := Q2.out.lt g (.inl rfl)
 have N1 : ¬ Own g none x1 := by rintro (h | h); omega; cases h
 have N2 : ¬ Own g none x2 := by rintro (h | h); omega; cases h
 have C1 := Aside0.mk c1
 have C2 := Aside0.mk b2
 have X12 := Aside0.mk (show x2 < w4.heap.size from z4)
 have HN1 := Aside0.mk N1
 have HN2 := Aside0.mk N2
 clear made b1 b2 c1 HO3 HG3 HO4 HG4 z3 z4 hB3 hB4 hx1 hx2 hg2 N1 N2 Q2 B2
 have hl1 : (List.replicate (n + 1) (upOf 0)).length = n + 1 := List.length_replicate
 have hl2 : (List.replicate m (upOf 0)).length = m := List.length_replicate
 have HP := qpush (List.replicate (n + 1) (upOf 0)) (some ⟨x1, 0, none⟩) (n + 1) Q4.out (by rw [hl1]; simp; omega) (by omega) (by omega) (fun w' hF => C42_made (hF.keep C1.out HN1.out) rfl (by omega)) (by rw [hl1]; exact Nat.le_refl _) (fun u hu => by rw [List.eq_of_mem_replicate hu]; decide)
 rw [hl1] at HP
 refine HP.mono ?_
 clear HP
 rintro e w5 ⟨rfl, ro, hq5, hF5, ha5⟩
 have OW : Aside0 (∀ k, Own g ro k → w.heap.size ≤ k) := ⟨by
  rintro k (rfl | hk)
  · exact G1.out
  · rcases ha5 with rfl | ⟨r, rfl, hle⟩
    · cases hk
    · injection hk with hk; have := B4.out.size; omega⟩
 have N3 : Aside0 (¬ Own g ro x2) := ⟨by
  rintro (h | h)
  · exact HN2.out (.inl h)
  · rcases ha5 with rfl | ⟨r, rfl, hle⟩
    · cases h
    · injection h with h; have := X12.out; omega⟩
 have D2 := Aside0.mk (hF5.keep C2.out HN2.out)
 have B5 := Aside0.mk (Fr.below B4.out hF5 B4.out.size (fun k hk => by
  rcases hk with rfl | hk
  · exact G1.out
  · cases hk))
 obtain ⟨us, hus⟩ : ∃ us, us = [] ++ List.replicate (n + 1) (upOf 0) := ⟨_, rfl⟩
 rw [← hus, hl1] at hq5
 have hul : us.length = n + 1 := by rw [hus]; simp
 have Q5 := Aside0.mk hq5
 have HUL := Aside0.mk hul
 clear hq5 hF5 ha5 hus Q4 B4 C1 C2 X12 HN1 HN2 hul hl1
 go_wp2_with fail
 refine (code_calls _ _).mono ?_
 rintro e w6 ⟨rfl, nd, hw6⟩
 have Q6 := Aside0.mk (show Qs w6 g ro us 1 _ 0 by rw [hw6]; exact Q5.out.drewN nd)
 have B6 := Aside0.mk (show Below w.heap.size w w6 by rw [hw6]; exact pw_below_drewN B5.out nd)
 have D6 := Aside0.mk (show w6.heap[x2]? = some (.cells (madeCells #[.slice none 0 0, .int .i64 0, .int .i64 0, .int .i64 0] (m * 4)) 42 (0, 0)) by rw [hw6]; exact D2.out)
 clear hw6 Q5 B5 D2
 go_wp2_with fail
 refine (qlen Q6.out).mono ?_
 rintro e w7 ⟨rfl, nd, hw7⟩
 have Q7 := Aside0.mk (show Qs w7 g ro us 1 _ 0 by rw [hw7]; exact Q6.out.drewN nd)
 have B7 := Aside0.mk (show Below w.heap.size w w7 by rw [hw7]; exact pw_below_drewN B6.out nd)
 have D7 := Aside0.mk (show w7.heap[x2]? = some (.cells (madeCells #[.slice none 0 0, .int .i64 0, .int .i64 0, .int .i64 0] (m * 4)) 42 (0, 0)) by rw [hw7]; exact D6.out)
 clear hw7 Q6 B6 D6
 rw [HUL.out]
 go_wp2_with fail
 by_cases hmany : 65536 < n + 1 + m
 · refine (qpush_many m m _ Q7.out (by rw [HUL.out]; omega) (by rw [HUL.out]; omega) (by omega)).mono ?_
   rintro e w8 ⟨rfl, hw8⟩
   have Q8 := Aside0.mk (show Qs w8 g ro us 1 _ 0 by rw [hw8]; exact Q7.out)
   have B8 := Aside0.mk (show Below w.heap.size w w8 by rw [hw8]; exact B7.out)
   have hgt : decide (((n : Int) + 1) + (m : Int) > 65536) = true := decide_eq_true (by omega)
   clear hw8 Q7 B7
   go_wp2_with fail
   refine (code_calls _ _).mono ?_
   rintro e w9 ⟨rfl, nd, hw9⟩
   have Q9 := Aside0.mk (show Qs w9 g ro us 1 _ 0 by rw [hw9]; exact Q8.out.drewN nd)
   have B9 := Aside0.mk (show Below w.heap.size w w9 by rw [hw9]; exact pw_below_drewN B8.out nd)
   clear hw9 Q8 B8
   go_wp2_with fail
   refine (qlen Q9.out).mono ?_
   rintro e w10 ⟨rfl, nd, hw10⟩
   have B10 := Aside0.mk (show Below w.heap.size w w10 by rw [hw10]; exact pw_below_drewN B9.out nd)
   clear hw10 Q9 B9
   rw [HUL.out]
   go_wp2_with fail
   refine (live_calls _).mono ?_
   rintro e w11 ⟨rfl, hb⟩
   have B11 := Aside0.mk (below_then B10.out B10.out.size hb)
   clear hb B10
   go_wp2
   go_ret
   exact ⟨rfl, B11.out⟩
 · have HP := qpush (List.replicate m (upOf 0)) (some ⟨x2, 0, none⟩) m Q7.out (by rw [hl2, HUL.out]; omega) (by omega) (by omega) (fun w' hF => C42_made (hF.keep D7.out N3.out) rfl (by omega)) (by rw [hl2]; exact Nat.le_refl _) (fun u hu => by rw [List.eq_of_mem_replicate hu]; decide)
   rw [hl2] at HP
   refine HP.mono ?_
   clear HP
   rintro e w8 ⟨rfl, ro2, hq8, hF8, ha8⟩
   have B8 := Aside0.mk (Fr.below B7.out hF8 B7.out.size OW.out)
   obtain ⟨us2, hus2⟩ : ∃ us2, us2 = us ++ List.replicate m (upOf 0) := ⟨_, rfl⟩
   rw [← hus2] at hq8
   have hul2 : us2.length = n + 1 + m := by rw [hus2]; simp [HUL.out]
   have Q8 := Aside0.mk hq8
   have HUL2 := Aside0.mk hul2
   have hgt : decide (((n : Int) + 1) + (m : Int) > 65536) = false := decide_eq_false (by omega)
   clear hq8 hF8 ha8 hus2 hul2 Q7 B7
   go_wp2_with fail
   refine (code_calls _ _).mono ?_
   rintro e w9 ⟨rfl, nd, hw9⟩
   have Q9 := Aside0.mk (show Qs w9 g ro2 us2 1 _ 0 by rw [hw9]; exact Q8.out.drewN nd)
   have B9 := Aside0.mk (show Below w.heap.size w w9 by rw [hw9]; exact pw_below_drewN B8.out nd)
   clear hw9 Q8 B8
   go_wp2_with fail
   refine (qlen Q9.out).mono ?_
   rintro e w10 ⟨rfl, nd, hw10⟩
   have B10 := Aside0.mk (show Below w.heap.size w w10 by rw [hw10]; exact pw_below_drewN B9.out nd)
   clear hw10 Q9 B9
   rw [HUL2.out]
   go_wp2_with fail
   refine (live_calls _).mono ?_
   rintro e w11 ⟨rfl, hb⟩
   have B11 := Aside0.mk (below_then B10.out B10.out.size hb)
   clear hb B10
   go_wp2
   go_ret
   exact ⟨rfl, B11.out⟩
end Go.Proofs.Ytbaboemhjcdpbaa.Q
