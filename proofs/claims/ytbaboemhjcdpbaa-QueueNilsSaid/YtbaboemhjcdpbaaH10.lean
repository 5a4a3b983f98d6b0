/- QueueNils: the walk. -/
import Derived.Test.YtbaboemhjcdpbaaH7
namespace Go.Proofs.Ytbaboemhjcdpbaa.Q
open Go.RowKit Go.Proofs.YtbaboemhjcdpbaaW.PrintWords Go.Proofs.YtbaboemhjcdpbaaW.PrintLast Go.Proofs.YtbaboemhjcdpbaaW.PrintMore Go.Proofs.Ytbaboemhjcdpbaa.PQueuePlays
attribute [local go_sem] max2_int min2_int max_two min_two max_three min_three max_four min_four
set_option linter.unusedVariables false
set_option linter.unusedSimpArgs false
/-- What front.New answers where there is nothing. -/
def NewNil : Prop := ∀ w, Calls Try.prog 25 #[.slice none 0 0] w fun e w' => ∃ B d, e = .returned (.slice B 0 d) ∧ Below w.heap.size w w'
set_option maxHeartbeats 1000000 in
theorem lower_nil (HN : NewNil) (w : World) : Calls Try.prog 17 #[.pointer none] w fun e w' => ∃ B d, e = .returned (.slice B 0 d) ∧ Below w.heap.size w w' := by
 have HN := Aside0.mk HN
 go_enter Try.func17, Try.ntmps17
 go_wp2_with fail
 refine (len_nil (w := w)).mono ?_
 rintro e w1 ⟨rfl, nd, hw1⟩
 have B1 := Aside0.mk (show Below w.heap.size w w1 by rw [hw1]; exact pw_below_drewN (Below.refl _ _) nd)
 clear hw1
 go_wp2_with fail
 refine wp_loop_rounds 1 ?_
 rw [rounds_succ]
 go_wp2_with fail
 refine (HN.out _).mono ?_
 rintro e w2 ⟨B, d, rfl, hb⟩
 have B2 := Aside0.mk (below_then B1.out B1.out.size hb)
 clear hb B1
 go_wp2
 go_ret
 exact ⟨B, d, rfl, B2.out⟩
set_option maxHeartbeats 4000000 in
set_option maxRecDepth 100000 in
theorem nils_calls (HN : NewNil) (A : Option Addr) (n c : Nat) (j : Int) (w : World) : Calls Try.prog 5 #[.slice A n c, .int .i64 j] w (LiveTrue w) := by
 have HN := Aside0.mk HN
 go_enter Try.func5, Try.ntmps5
 go_wp2_with fail
 refine (pop_nil (w := w)).mono ?_
 rintro e w1 ⟨rfl, hb⟩
 have B1 := Aside0.mk hb
 clear hb
 go_wp2_with fail
 obtain ⟨w2, hw2⟩ : ∃ w', w' = w1.alloc (.cells #[.slice none 0 0, .int .i64 0, .int .i64 0, .int .i64 0] 42) := ⟨_, rfl⟩
 rw [← hw2]
 have B2 := Aside0.mk (show Below w.heap.size w w2 by rw [hw2]; exact B1.out.alloc B1.out.size _)
 clear hw2 B1
 refine (peek_nil (w := w2) j).mono ?_
 rintro e w3 ⟨rfl, hb⟩
 have B3 := Aside0.mk (below_then B2.out B2.out.size hb)
 clear hb B2
 go_wp2_with fail
 obtain ⟨w4, hw4⟩ : ∃ w', w' = w3.alloc (.cells #[.slice none 0 0, .int .i64 0, .int .i64 0, .int .i64 0] 42) := ⟨_, rfl⟩
 rw [← hw4]
 have B4 := Aside0.mk (show Below w.heap.size w w4 by rw [hw4]; exact B3.out.alloc B3.out.size _)
 clear hw4 B3
 refine (passed_nil (w := w4)).mono ?_
 rintro e w5 ⟨rfl, nd, hw5⟩
 have B5 := Aside0.mk (show Below w.heap.size w w5 by rw [hw5]; exact pw_below_drewN B4.out nd)
 clear hw5 B4
 go_wp2_with fail
 refine (push_nil (w := w5) A n c).mono ?_
 rintro e w6 ⟨rfl, hb⟩
 have B6 := Aside0.mk (below_then B5.out B5.out.size hb)
 clear hb B5
 go_wp2_with fail
 refine (code_calls _ _).mono ?_
 rintro e w7 ⟨rfl, nd, hw7⟩
 have B7 := Aside0.mk (show Below w.heap.size w w7 by rw [hw7]; exact pw_below_drewN B6.out nd)
 clear hw7 B6
 go_wp2_with fail
 refine (open_nil (w := w7)).mono ?_
 rintro e w8 ⟨rfl, nd, hw8⟩
 have B8 := Aside0.mk (show Below w.heap.size w w8 by rw [hw8]; exact pw_below_drewN B7.out nd)
 clear hw8 B7
 go_wp2_with fail
 refine (len_nil (w := w8)).mono ?_
 rintro e w9 ⟨rfl, nd, hw9⟩
 have B9 := Aside0.mk (show Below w.heap.size w w9 by rw [hw9]; exact pw_below_drewN B8.out nd)
 clear hw9 B8
 go_wp2_with fail
 refine (lower_nil HN.out w9).mono ?_
 rintro e w10 ⟨B, d, rfl, hb⟩
 have B10 := Aside0.mk (below_then B9.out B9.out.size hb)
 clear hb B9
 go_wp2_with fail
 refine (live_calls _).mono ?_
 rintro e w11 ⟨rfl, hb⟩
 have B11 := Aside0.mk (below_then B10.out B10.out.size hb)
 clear hb B10
 go_wp2
 go_ret
 exact ⟨rfl, B11.out⟩
end Go.Proofs.Ytbaboemhjcdpbaa.Q
