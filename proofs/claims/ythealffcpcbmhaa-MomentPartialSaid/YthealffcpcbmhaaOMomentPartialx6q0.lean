import Derived.Test.YthealffcpcbmhaaOMomentPartialx0
import Derived.Test.YthealffcpcbmhaaOMomentPartialx1
import Derived.Test.YthealffcpcbmhaaOMomentPartialx4
import Derived.Test.YthealffcpcbmhaaOMomentPartialx5
import Derived.Test.YthealffcpcbmhaaShort
import Derived.Test.YthealffcpcbmhaaOMomentPartialx6p
namespace Go.Proofs.Ythealffcpcbmhaa.PMomentPartial
open Go.RowKit Go.Proofs.YthealffcpcbmhaaW.PrintWords Go.Proofs.YthealffcpcbmhaaW.PrintLast Go.Proofs.YthealffcpcbmhaaW.PrintMore
attribute [local go_sem] max2_int min2_int max_two min_two max_three min_three max_four min_four   -- for this text's walks alone
set_option linter.unusedVariables false
set_option linter.unusedSimpArgs false
attribute [local go_sem high] eqA28
set_option maxHeartbeats 8000000 in
set_option maxRecDepth 100000 in
theorem runnellaw04_MomentPartial.calls.leaf0 : runnellaw04_MomentPartial.calls.pre.1 := by
 intro _ _ _ _ _ _ _ _ _ _ _ _ _ _ _ _ _ _ _ _ _ _ _ _ _ _ _ _ _ _ _ _ _ _ _ _ _ _ _ _ _ _ _ _ _ _ _ _ _ _ _ _ _ _ _ _ _ _ _ _ _ _ _ _ _ _ _ _ _ _ _ _ _ _ _ _ _ _ _ _ _ _ _ _ _ _ _ _ _ _ _ _ _ _ _ _ _ _ _ _ _ _ _ _ _ _ _ _ _ _ _ _ a0_0 a0_1 a1_0 a1_1 a2_0 a2_1 t208 t209 A192 t210 t211 A193 k gb193 gb194 _ _ gb195 _ _ _ _ _ _ _ w _ GE193 _ GE194 _ GE195 _ _ _ _ _ _ _ _ _ BK193 BK194 BK195 HB hHeld _ _ _ _
 have HT_ := Aside0.mk runnellaw04_MomentPartial.tab3
 have HW_ := Aside0.mk runnellaw04_MomentPartial.bits3
 intro hJ2_5_6_7
 refine join_ (σ := Nat) 3 #[true, true, true, true, true, true, true, false, false, false] (fun s_ => [(46, .agg #[.int .i64 t208, .int .i64 t209]), (49, .agg #[.int .i64 t210, .int .i64 t211]), (7, .pointer (some ⟨s_, 0, none⟩))]) (fun s_ w' => (w'.cell? ⟨gb193, 0, none⟩ = some (.int .i64 a0_0) ∧ w'.cell? ⟨gb193, 1, none⟩ = some (.int .i64 a0_1) ∧ w'.cell? ⟨gb194, 0, none⟩ = some (.int .i64 a1_0) ∧ w'.cell? ⟨gb194, 1, none⟩ = some (.int .i64 a1_1)) ∧ (w'.heap[gb193]? = some (.cells #[.int .i64 a0_0, .int .i64 a0_1] 28 (0, 0))) ∧ (w'.heap[gb194]? = some (.cells #[.int .i64 a1_0, .int .i64 a1_1] 28 (0, 0))) ∧ (w'.heap[gb195]? = some (.cells #[.int .i64 a2_0, .int .i64 a2_1] 28 (0, 0))) ∧ (w'.heap[s_]? = some (.cells #[.int .i64 0, .int .i64 0] 28 (0, 0))) ∧ (w.heap.size ≤ s_) ∧ (w.heap.size ≤ s_) ∧ (gb193 ≠ s_) ∧ (s_ ≠ gb193) ∧ (gb194 ≠ s_) ∧ (s_ ≠ gb194) ∧ (gb195 ≠ s_) ∧ (s_ ≠ gb195) ∧ (Below w.heap.size w w')) ?_ ?_
 rotate_left
 ·
  intro hJ2_5_6
  refine join_ (σ := Nat) 3 #[true, true, true, true, true, true, false, true, false, false] (fun s_ => [(46, .agg #[.int .i64 t208, .int .i64 t209]), (49, .agg #[.int .i64 t210, .int .i64 t211]), (8, .pointer (some ⟨s_, 0, none⟩))]) (fun s_ w' => (w'.cell? ⟨gb193, 0, none⟩ = some (.int .i64 a0_0) ∧ w'.cell? ⟨gb193, 1, none⟩ = some (.int .i64 a0_1) ∧ w'.cell? ⟨gb194, 0, none⟩ = some (.int .i64 a1_0) ∧ w'.cell? ⟨gb194, 1, none⟩ = some (.int .i64 a1_1)) ∧ (w'.heap[gb193]? = some (.cells #[.int .i64 a0_0, .int .i64 a0_1] 28 (0, 0))) ∧ (w'.heap[gb194]? = some (.cells #[.int .i64 a1_0, .int .i64 a1_1] 28 (0, 0))) ∧ (w'.heap[gb195]? = some (.cells #[.int .i64 a2_0, .int .i64 a2_1] 28 (0, 0))) ∧ (w'.heap[s_]? = some (.cells #[.int .i64 0, .int .i64 0] 28 (0, 0))) ∧ (w.heap.size ≤ s_) ∧ (w.heap.size ≤ s_) ∧ (gb193 ≠ s_) ∧ (s_ ≠ gb193) ∧ (gb194 ≠ s_) ∧ (s_ ≠ gb194) ∧ (gb195 ≠ s_) ∧ (s_ ≠ gb195) ∧ (Below w.heap.size w w')) ?_ ?_
  rotate_left
  ·
   intro hJ2_5_7
   refine join_ (σ := Nat × Nat) 3 #[true, true, true, true, true, false, true, true, false, false] (fun s_ => [(46, .agg #[.int .i64 t208, .int .i64 t209]), (7, .pointer (some ⟨s_.1, 0, none⟩)), (8, .pointer (some ⟨s_.2, 0, none⟩))]) (fun s_ w' => (w'.cell? ⟨gb193, 0, none⟩ = some (.int .i64 a0_0) ∧ w'.cell? ⟨gb193, 1, none⟩ = some (.int .i64 a0_1) ∧ w'.cell? ⟨gb194, 0, none⟩ = some (.int .i64 a1_0) ∧ w'.cell? ⟨gb194, 1, none⟩ = some (.int .i64 a1_1)) ∧ (w'.heap[gb193]? = some (.cells #[.int .i64 a0_0, .int .i64 a0_1] 28 (0, 0))) ∧ (w'.heap[gb194]? = some (.cells #[.int .i64 a1_0, .int .i64 a1_1] 28 (0, 0))) ∧ (w'.heap[gb195]? = some (.cells #[.int .i64 a2_0, .int .i64 a2_1] 28 (0, 0))) ∧ (w'.heap[s_.1]? = some (.cells #[.int .i64 0, .int .i64 0] 28 (0, 0))) ∧ (w'.heap[s_.2]? = some (.cells #[.int .i64 0, .int .i64 0] 28 (0, 0))) ∧ (w.heap.size ≤ s_.1) ∧ (w.heap.size ≤ s_.1) ∧ (gb193 ≠ s_.1) ∧ (s_.1 ≠ gb193) ∧ (gb194 ≠ s_.1) ∧ (s_.1 ≠ gb194) ∧ (gb195 ≠ s_.1) ∧ (s_.1 ≠ gb195) ∧ (s_.2 ≠ s_.1) ∧ (s_.1 ≠ s_.2) ∧ (w.heap.size ≤ s_.2) ∧ (w.heap.size ≤ s_.2) ∧ (gb193 ≠ s_.2) ∧ (s_.2 ≠ gb193) ∧ (gb194 ≠ s_.2) ∧ (s_.2 ≠ gb194) ∧ (gb195 ≠ s_.2) ∧ (s_.2 ≠ gb195) ∧ (Below w.heap.size w w')) ?_ ?_
   rotate_left
   ·
    intro hJ2_6_7
    refine join_ (σ := Unit) 4 #[true, true, true, true, true, true, false, false, false, false] (fun s_ => [(46, .agg #[.int .i64 t208, .int .i64 t209]), (49, .agg #[.int .i64 t210, .int .i64 t211])]) (fun s_ w' => (w'.cell? ⟨gb193, 0, none⟩ = some (.int .i64 a0_0) ∧ w'.cell? ⟨gb193, 1, none⟩ = some (.int .i64 a0_1) ∧ w'.cell? ⟨gb194, 0, none⟩ = some (.int .i64 a1_0) ∧ w'.cell? ⟨gb194, 1, none⟩ = some (.int .i64 a1_1)) ∧ (w'.heap[gb193]? = some (.cells #[.int .i64 a0_0, .int .i64 a0_1] 28 (0, 0))) ∧ (w'.heap[gb194]? = some (.cells #[.int .i64 a1_0, .int .i64 a1_1] 28 (0, 0))) ∧ (w'.heap[gb195]? = some (.cells #[.int .i64 a2_0, .int .i64 a2_1] 28 (0, 0))) ∧ (Below w.heap.size w w')) ?_ ?_
    rotate_left
    ·
     intro hJ2_5
     refine join_ (σ := Nat) 4 #[true, true, true, true, true, false, true, false, false, false] (fun s_ => [(46, .agg #[.int .i64 t208, .int .i64 t209]), (7, .pointer (some ⟨s_, 0, none⟩))]) (fun s_ w' => (w'.cell? ⟨gb193, 0, none⟩ = some (.int .i64 a0_0) ∧ w'.cell? ⟨gb193, 1, none⟩ = some (.int .i64 a0_1) ∧ w'.cell? ⟨gb194, 0, none⟩ = some (.int .i64 a1_0) ∧ w'.cell? ⟨gb194, 1, none⟩ = some (.int .i64 a1_1)) ∧ (w'.heap[gb193]? = some (.cells #[.int .i64 a0_0, .int .i64 a0_1] 28 (0, 0))) ∧ (w'.heap[gb194]? = some (.cells #[.int .i64 a1_0, .int .i64 a1_1] 28 (0, 0))) ∧ (w'.heap[gb195]? = some (.cells #[.int .i64 a2_0, .int .i64 a2_1] 28 (0, 0))) ∧ (w'.heap[s_]? = some (.cells #[.int .i64 0, .int .i64 0] 28 (0, 0))) ∧ (w.heap.size ≤ s_) ∧ (w.heap.size ≤ s_) ∧ (gb193 ≠ s_) ∧ (s_ ≠ gb193) ∧ (gb194 ≠ s_) ∧ (s_ ≠ gb194) ∧ (gb195 ≠ s_) ∧ (s_ ≠ gb195) ∧ (Below w.heap.size w w')) ?_ ?_
     rotate_left
     ·
      intro hJ2_6
      refine join_ (σ := Nat) 4 #[true, true, true, true, true, false, false, true, false, false] (fun s_ => [(46, .agg #[.int .i64 t208, .int .i64 t209]), (8, .pointer (some ⟨s_, 0, none⟩))]) (fun s_ w' => (w'.cell? ⟨gb193, 0, none⟩ = some (.int .i64 a0_0) ∧ w'.cell? ⟨gb193, 1, none⟩ = some (.int .i64 a0_1) ∧ w'.cell? ⟨gb194, 0, none⟩ = some (.int .i64 a1_0) ∧ w'.cell? ⟨gb194, 1, none⟩ = some (.int .i64 a1_1)) ∧ (w'.heap[gb193]? = some (.cells #[.int .i64 a0_0, .int .i64 a0_1] 28 (0, 0))) ∧ (w'.heap[gb194]? = some (.cells #[.int .i64 a1_0, .int .i64 a1_1] 28 (0, 0))) ∧ (w'.heap[gb195]? = some (.cells #[.int .i64 a2_0, .int .i64 a2_1] 28 (0, 0))) ∧ (w'.heap[s_]? = some (.cells #[.int .i64 0, .int .i64 0] 28 (0, 0))) ∧ (w.heap.size ≤ s_) ∧ (w.heap.size ≤ s_) ∧ (gb193 ≠ s_) ∧ (s_ ≠ gb193) ∧ (gb194 ≠ s_) ∧ (s_ ≠ gb194) ∧ (gb195 ≠ s_) ∧ (s_ ≠ gb195) ∧ (Below w.heap.size w w')) ?_ ?_
      rotate_left
      ·
       intro hJ2_7
       refine join_ (σ := Nat × Nat) 4 #[true, true, false, true, true, false, true, true, false, false] (fun s_ => [(7, .pointer (some ⟨s_.1, 0, none⟩)), (8, .pointer (some ⟨s_.2, 0, none⟩))]) (fun s_ w' => (w'.cell? ⟨gb193, 0, none⟩ = some (.int .i64 a0_0) ∧ w'.cell? ⟨gb193, 1, none⟩ = some (.int .i64 a0_1) ∧ w'.cell? ⟨gb194, 0, none⟩ = some (.int .i64 a1_0) ∧ w'.cell? ⟨gb194, 1, none⟩ = some (.int .i64 a1_1)) ∧ (w'.heap[gb193]? = some (.cells #[.int .i64 a0_0, .int .i64 a0_1] 28 (0, 0))) ∧ (w'.heap[gb194]? = some (.cells #[.int .i64 a1_0, .int .i64 a1_1] 28 (0, 0))) ∧ (w'.heap[gb195]? = some (.cells #[.int .i64 a2_0, .int .i64 a2_1] 28 (0, 0))) ∧ (w'.heap[s_.1]? = some (.cells #[.int .i64 0, .int .i64 0] 28 (0, 0))) ∧ (w'.heap[s_.2]? = some (.cells #[.int .i64 0, .int .i64 0] 28 (0, 0))) ∧ (w.heap.size ≤ s_.1) ∧ (w.heap.size ≤ s_.1) ∧ (gb193 ≠ s_.1) ∧ (s_.1 ≠ gb193) ∧ (gb194 ≠ s_.1) ∧ (s_.1 ≠ gb194) ∧ (gb195 ≠ s_.1) ∧ (s_.1 ≠ gb195) ∧ (s_.2 ≠ s_.1) ∧ (s_.1 ≠ s_.2) ∧ (w.heap.size ≤ s_.2) ∧ (w.heap.size ≤ s_.2) ∧ (gb193 ≠ s_.2) ∧ (s_.2 ≠ gb193) ∧ (gb194 ≠ s_.2) ∧ (s_.2 ≠ gb194) ∧ (gb195 ≠ s_.2) ∧ (s_.2 ≠ gb195) ∧ (Below w.heap.size w w')) ?_ ?_
       rotate_left
       ·
        intro hJ6_7
        refine join_ (σ := Unit) 5 #[true, true, true, true, true, false, false, false, false, false] (fun s_ => [(46, .agg #[.int .i64 t208, .int .i64 t209])]) (fun s_ w' => (w'.cell? ⟨gb193, 0, none⟩ = some (.int .i64 a0_0) ∧ w'.cell? ⟨gb193, 1, none⟩ = some (.int .i64 a0_1) ∧ w'.cell? ⟨gb194, 0, none⟩ = some (.int .i64 a1_0) ∧ w'.cell? ⟨gb194, 1, none⟩ = some (.int .i64 a1_1)) ∧ (w'.heap[gb193]? = some (.cells #[.int .i64 a0_0, .int .i64 a0_1] 28 (0, 0))) ∧ (w'.heap[gb194]? = some (.cells #[.int .i64 a1_0, .int .i64 a1_1] 28 (0, 0))) ∧ (w'.heap[gb195]? = some (.cells #[.int .i64 a2_0, .int .i64 a2_1] 28 (0, 0))) ∧ (Below w.heap.size w w')) ?_ ?_
        rotate_left
        ·
         intro hJ2
         refine join_ (σ := Nat) 5 #[true, true, false, true, true, false, true, false, false, false] (fun s_ => [(7, .pointer (some ⟨s_, 0, none⟩))]) (fun s_ w' => (w'.cell? ⟨gb193, 0, none⟩ = some (.int .i64 a0_0) ∧ w'.cell? ⟨gb193, 1, none⟩ = some (.int .i64 a0_1) ∧ w'.cell? ⟨gb194, 0, none⟩ = some (.int .i64 a1_0) ∧ w'.cell? ⟨gb194, 1, none⟩ = some (.int .i64 a1_1)) ∧ (w'.heap[gb193]? = some (.cells #[.int .i64 a0_0, .int .i64 a0_1] 28 (0, 0))) ∧ (w'.heap[gb194]? = some (.cells #[.int .i64 a1_0, .int .i64 a1_1] 28 (0, 0))) ∧ (w'.heap[gb195]? = some (.cells #[.int .i64 a2_0, .int .i64 a2_1] 28 (0, 0))) ∧ (w'.heap[s_]? = some (.cells #[.int .i64 0, .int .i64 0] 28 (0, 0))) ∧ (w.heap.size ≤ s_) ∧ (w.heap.size ≤ s_) ∧ (gb193 ≠ s_) ∧ (s_ ≠ gb193) ∧ (gb194 ≠ s_) ∧ (s_ ≠ gb194) ∧ (gb195 ≠ s_) ∧ (s_ ≠ gb195) ∧ (Below w.heap.size w w')) ?_ ?_
         rotate_left
         ·
          intro hJ6
          refine join_ (σ := Nat) 5 #[true, true, false, true, true, false, false, true, false, false] (fun s_ => [(8, .pointer (some ⟨s_, 0, none⟩))]) (fun s_ w' => (w'.cell? ⟨gb193, 0, none⟩ = some (.int .i64 a0_0) ∧ w'.cell? ⟨gb193, 1, none⟩ = some (.int .i64 a0_1) ∧ w'.cell? ⟨gb194, 0, none⟩ = some (.int .i64 a1_0) ∧ w'.cell? ⟨gb194, 1, none⟩ = some (.int .i64 a1_1)) ∧ (w'.heap[gb193]? = some (.cells #[.int .i64 a0_0, .int .i64 a0_1] 28 (0, 0))) ∧ (w'.heap[gb194]? = some (.cells #[.int .i64 a1_0, .int .i64 a1_1] 28 (0, 0))) ∧ (w'.heap[gb195]? = some (.cells #[.int .i64 a2_0, .int .i64 a2_1] 28 (0, 0))) ∧ (w'.heap[s_]? = some (.cells #[.int .i64 0, .int .i64 0] 28 (0, 0))) ∧ (w.heap.size ≤ s_) ∧ (w.heap.size ≤ s_) ∧ (gb193 ≠ s_) ∧ (s_ ≠ gb193) ∧ (gb194 ≠ s_) ∧ (s_ ≠ gb194) ∧ (gb195 ≠ s_) ∧ (s_ ≠ gb195) ∧ (Below w.heap.size w w')) ?_ ?_
          rotate_left
          ·
           intro hJ7
           refine three_ (i := 2) (j := 6) (k := 7) (Ni := some 46) (Nj := some 7) (Nk := some 8) #[true, true, true, true, true, false, false, false, false, false] #[true, true, false, true, true, false, true, false, false, false] #[true, true, false, true, true, false, false, true, false, false] rfl rfl rfl rfl rfl rfl (three_of HT_.out (by kernel_rfl)) (by decide) (by decide) (by decide) (fun K hK => ?_) (fun K hK => ?_) (fun K hK => ?_)
           ·
            skip
            refine goes_ Try.func14 (by kernel_rfl) rfl #[.agg #[.int .i64 a0_0, .int .i64 a0_1], .agg #[.int .i64 a1_0, .int .i64 a1_1]] (by rfl) rfl rfl (by (try simp only [List.map_toArray, List.map_cons, List.map_nil]); first | done | rfl | (simp only [List.length_drop, List.length_take]; rfl)) ?_
            with_reducible refine (moment_Join.calls a0_0 a0_1 a1_0 a1_1 t208 t209 _ A192.out).mono ?_
            rintro e w196 ⟨rfl, hb⟩
            refine ⟨_, rfl, ?_⟩
            have n0_ := am (b5 (g := gb193) (o := .cells #[.int .i64 a0_0, .int .i64 a0_1] 28 (0, 0)) (by (with_reducible repeat (first | refine b1 ?_ _ | refine b2 ?_ | refine b3 ?_ _)); exact BK193.out) hb)
            have n1_ := am (b5 (g := gb194) (o := .cells #[.int .i64 a1_0, .int .i64 a1_1] 28 (0, 0)) (by (with_reducible repeat (first | refine b1 ?_ _ | refine b2 ?_ | refine b3 ?_ _)); exact BK194.out) hb)
            have n2_ := am (b5 (g := gb195) (o := .cells #[.int .i64 a2_0, .int .i64 a2_1] 28 (0, 0)) (by (with_reducible repeat (first | refine b1 ?_ _ | refine b2 ?_ | refine b3 ?_ _)); exact BK195.out) hb)
            have n3_ := am (below_step (by repeat (first | (with_reducible first | exact HB.out | apply c1 | apply c2 | apply c3 | refine c4 ?_ GE193.out | refine c4 ?_ GE194.out | refine c4 ?_ GE195.out) | exact HB.out)) hb)
            clear BK193
            clear BK194
            clear BK195
            clear HB
            have BK193 := n0_
            have BK194 := n1_
            have BK195 := n2_
            have HB := n3_
            clear n0_ n1_ n2_ n3_
            (try clear hb)
            (try clear hb2)
            (try clear hk)
            (try clear hi)
            refine hK.out _ _ ⟨(b4 BK193.out 0).trans rfl, (b4 BK193.out 1).trans rfl, (b4 BK194.out 0).trans rfl, (b4 BK194.out 1).trans rfl⟩ (fun hHeld => ?_)
            clear hK K
            refine norm_ (a' := ?_) ?_ ?_
            rotate_left
            ·
             show Act.put _ (some 46) _ = _
             simp only [Act.put, List.setIfInBounds_toArray, List.set_cons_zero, List.set_cons_succ, i64_w, i32_w]
             rfl
            exact norm_ (by first | (simp only [putAll, Act.put, List.setIfInBounds_toArray, List.set_cons_zero, List.set_cons_succ]; done) | (simp only [putAll, Act.put, List.setIfInBounds_toArray, List.set_cons_zero, List.set_cons_succ]; rfl)) (hJ2 () _ ⟨hHeld, (by (with_reducible repeat (first | refine b1 ?_ _ | refine b2 ?_ | refine b3 ?_ _)); exact BK193.out), (by (with_reducible repeat (first | refine b1 ?_ _ | refine b2 ?_ | refine b3 ?_ _)); exact BK194.out), (by (with_reducible repeat (first | refine b1 ?_ _ | refine b2 ?_ | refine b3 ?_ _)); exact BK195.out), (by repeat (first | (with_reducible first | exact HB.out | apply c1 | apply c2 | apply c3 | refine c4 ?_ GE193.out | refine c4 ?_ GE194.out | refine c4 ?_ GE195.out) | exact HB.out))⟩)
           ·
            skip
            refine box_step ?hg (N := 7) ?hd (cs := #[.int .i64 0, .int .i64 0]) (t := 28) ?hr ?_; (case hd => rfl); (case hg => rfl); (case hr => first | (go_simp; done) | (go_simp; rfl))
            intro gb212 hg w196 hbox hb
            have n0_ := am (b5 (g := gb193) (o := .cells #[.int .i64 a0_0, .int .i64 a0_1] 28 (0, 0)) (by (with_reducible repeat (first | refine b1 ?_ _ | refine b2 ?_ | refine b3 ?_ _)); exact BK193.out) hb)
            have n1_ := am (b5 (g := gb194) (o := .cells #[.int .i64 a1_0, .int .i64 a1_1] 28 (0, 0)) (by (with_reducible repeat (first | refine b1 ?_ _ | refine b2 ?_ | refine b3 ?_ _)); exact BK194.out) hb)
            have n2_ := am (b5 (g := gb195) (o := .cells #[.int .i64 a2_0, .int .i64 a2_1] 28 (0, 0)) (by (with_reducible repeat (first | refine b1 ?_ _ | refine b2 ?_ | refine b3 ?_ _)); exact BK195.out) hb)
            have n3_ := am (below_step (by repeat (first | (with_reducible first | exact HB.out | apply c1 | apply c2 | apply c3 | refine c4 ?_ GE193.out | refine c4 ?_ GE194.out | refine c4 ?_ GE195.out) | exact HB.out)) hb)
            have n4_ := am (hbox)
            have n5_ := am ((by rw [hg]; exact (below_size (by repeat (first | (with_reducible first | exact HB.out | apply c1 | apply c2 | apply c3 | refine c4 ?_ GE193.out | refine c4 ?_ GE194.out | refine c4 ?_ GE195.out) | exact HB.out))) : w.heap.size ≤ gb212))
            have n6_ := am ((by rw [hg]; exact (below_size (by repeat (first | (with_reducible first | exact HB.out | apply c1 | apply c2 | apply c3 | refine c4 ?_ GE193.out | refine c4 ?_ GE194.out | refine c4 ?_ GE195.out) | exact HB.out))) : w.heap.size ≤ gb212))
            have n7_ := am ((by rw [hg]; exact Nat.ne_of_lt (blk_lt (g := gb193) (o := .cells #[.int .i64 a0_0, .int .i64 a0_1] 28 (0, 0)) (by (with_reducible repeat (first | refine b1 ?_ _ | refine b2 ?_ | refine b3 ?_ _)); exact BK193.out)) : gb193 ≠ gb212))
            have n8_ := am ((by rw [hg]; exact Nat.ne_of_gt (blk_lt (g := gb193) (o := .cells #[.int .i64 a0_0, .int .i64 a0_1] 28 (0, 0)) (by (with_reducible repeat (first | refine b1 ?_ _ | refine b2 ?_ | refine b3 ?_ _)); exact BK193.out)) : gb212 ≠ gb193))
            have n9_ := am ((by rw [hg]; exact Nat.ne_of_lt (blk_lt (g := gb194) (o := .cells #[.int .i64 a1_0, .int .i64 a1_1] 28 (0, 0)) (by (with_reducible repeat (first | refine b1 ?_ _ | refine b2 ?_ | refine b3 ?_ _)); exact BK194.out)) : gb194 ≠ gb212))
            have n10_ := am ((by rw [hg]; exact Nat.ne_of_gt (blk_lt (g := gb194) (o := .cells #[.int .i64 a1_0, .int .i64 a1_1] 28 (0, 0)) (by (with_reducible repeat (first | refine b1 ?_ _ | refine b2 ?_ | refine b3 ?_ _)); exact BK194.out)) : gb212 ≠ gb194))
            have n11_ := am ((by rw [hg]; exact Nat.ne_of_lt (blk_lt (g := gb195) (o := .cells #[.int .i64 a2_0, .int .i64 a2_1] 28 (0, 0)) (by (with_reducible repeat (first | refine b1 ?_ _ | refine b2 ?_ | refine b3 ?_ _)); exact BK195.out)) : gb195 ≠ gb212))
            have n12_ := am ((by rw [hg]; exact Nat.ne_of_gt (blk_lt (g := gb195) (o := .cells #[.int .i64 a2_0, .int .i64 a2_1] 28 (0, 0)) (by (with_reducible repeat (first | refine b1 ?_ _ | refine b2 ?_ | refine b3 ?_ _)); exact BK195.out)) : gb212 ≠ gb195))
            clear BK193
            clear BK194
            clear BK195
            clear HB
            have BK193 := n0_
            have BK194 := n1_
            have BK195 := n2_
            have HB := n3_
            have BK212 := n4_
            have GW212 := n5_
            have GE212 := n6_
            have NB193_212 := n7_
            have NB212_193 := n8_
            have NB194_212 := n9_
            have NB212_194 := n10_
            have NB195_212 := n11_
            have NB212_195 := n12_
            clear n0_ n1_ n2_ n3_ n4_ n5_ n6_ n7_ n8_ n9_ n10_ n11_ n12_
            clear hb hbox hg
            refine hK.out _ _ ⟨(b4 BK193.out 0).trans rfl, (b4 BK193.out 1).trans rfl, (b4 BK194.out 0).trans rfl, (b4 BK194.out 1).trans rfl⟩ (fun hHeld => ?_)
            clear hK K
            refine norm_ (a' := ?_) ?_ ?_
            rotate_left
            ·
             show Act.put _ (some 7) _ = _
             simp only [Act.put, List.setIfInBounds_toArray, List.set_cons_zero, List.set_cons_succ, i64_w, i32_w]
             rfl
            exact norm_ (by first | (simp only [putAll, Act.put, List.setIfInBounds_toArray, List.set_cons_zero, List.set_cons_succ]; done) | (simp only [putAll, Act.put, List.setIfInBounds_toArray, List.set_cons_zero, List.set_cons_succ]; rfl)) (hJ6 (gb212) _ ⟨hHeld, (by (with_reducible repeat (first | refine b1 ?_ _ | refine b2 ?_ | refine b3 ?_ _)); exact BK193.out), (by (with_reducible repeat (first | refine b1 ?_ _ | refine b2 ?_ | refine b3 ?_ _)); exact BK194.out), (by (with_reducible repeat (first | refine b1 ?_ _ | refine b2 ?_ | refine b3 ?_ _)); exact BK195.out), (by (with_reducible repeat (first | refine b1 ?_ _ | refine b2 ?_ | refine b3 ?_ _)); exact BK212.out), GW212.out, GE212.out, NB193_212.out, NB212_193.out, NB194_212.out, NB212_194.out, NB195_212.out, NB212_195.out, (by repeat (first | (with_reducible first | exact HB.out | apply c1 | apply c2 | apply c3 | refine c4 ?_ GE193.out | refine c4 ?_ GE194.out | refine c4 ?_ GE195.out | refine c4 ?_ GE212.out) | exact HB.out))⟩)
           ·
            skip
            refine box_step ?hg (N := 8) ?hd (cs := #[.int .i64 0, .int .i64 0]) (t := 28) ?hr ?_; (case hd => rfl); (case hg => rfl); (case hr => first | (go_simp; done) | (go_simp; rfl))
            intro gb213 hg w196 hbox hb
            have n0_ := am (b5 (g := gb193) (o := .cells #[.int .i64 a0_0, .int .i64 a0_1] 28 (0, 0)) (by (with_reducible repeat (first | refine b1 ?_ _ | refine b2 ?_ | refine b3 ?_ _)); exact BK193.out) hb)
            have n1_ := am (b5 (g := gb194) (o := .cells #[.int .i64 a1_0, .int .i64 a1_1] 28 (0, 0)) (by (with_reducible repeat (first | refine b1 ?_ _ | refine b2 ?_ | refine b3 ?_ _)); exact BK194.out) hb)
            have n2_ := am (b5 (g := gb195) (o := .cells #[.int .i64 a2_0, .int .i64 a2_1] 28 (0, 0)) (by (with_reducible repeat (first | refine b1 ?_ _ | refine b2 ?_ | refine b3 ?_ _)); exact BK195.out) hb)
            have n3_ := am (below_step (by repeat (first | (with_reducible first | exact HB.out | apply c1 | apply c2 | apply c3 | refine c4 ?_ GE193.out | refine c4 ?_ GE194.out | refine c4 ?_ GE195.out) | exact HB.out)) hb)
            have n4_ := am (hbox)
            have n5_ := am ((by rw [hg]; exact (below_size (by repeat (first | (with_reducible first | exact HB.out | apply c1 | apply c2 | apply c3 | refine c4 ?_ GE193.out | refine c4 ?_ GE194.out | refine c4 ?_ GE195.out) | exact HB.out))) : w.heap.size ≤ gb213))
            have n6_ := am ((by rw [hg]; exact (below_size (by repeat (first | (with_reducible first | exact HB.out | apply c1 | apply c2 | apply c3 | refine c4 ?_ GE193.out | refine c4 ?_ GE194.out | refine c4 ?_ GE195.out) | exact HB.out))) : w.heap.size ≤ gb213))
            have n7_ := am ((by rw [hg]; exact Nat.ne_of_lt (blk_lt (g := gb193) (o := .cells #[.int .i64 a0_0, .int .i64 a0_1] 28 (0, 0)) (by (with_reducible repeat (first | refine b1 ?_ _ | refine b2 ?_ | refine b3 ?_ _)); exact BK193.out)) : gb193 ≠ gb213))
            have n8_ := am ((by rw [hg]; exact Nat.ne_of_gt (blk_lt (g := gb193) (o := .cells #[.int .i64 a0_0, .int .i64 a0_1] 28 (0, 0)) (by (with_reducible repeat (first | refine b1 ?_ _ | refine b2 ?_ | refine b3 ?_ _)); exact BK193.out)) : gb213 ≠ gb193))
            have n9_ := am ((by rw [hg]; exact Nat.ne_of_lt (blk_lt (g := gb194) (o := .cells #[.int .i64 a1_0, .int .i64 a1_1] 28 (0, 0)) (by (with_reducible repeat (first | refine b1 ?_ _ | refine b2 ?_ | refine b3 ?_ _)); exact BK194.out)) : gb194 ≠ gb213))
            have n10_ := am ((by rw [hg]; exact Nat.ne_of_gt (blk_lt (g := gb194) (o := .cells #[.int .i64 a1_0, .int .i64 a1_1] 28 (0, 0)) (by (with_reducible repeat (first | refine b1 ?_ _ | refine b2 ?_ | refine b3 ?_ _)); exact BK194.out)) : gb213 ≠ gb194))
            have n11_ := am ((by rw [hg]; exact Nat.ne_of_lt (blk_lt (g := gb195) (o := .cells #[.int .i64 a2_0, .int .i64 a2_1] 28 (0, 0)) (by (with_reducible repeat (first | refine b1 ?_ _ | refine b2 ?_ | refine b3 ?_ _)); exact BK195.out)) : gb195 ≠ gb213))
            have n12_ := am ((by rw [hg]; exact Nat.ne_of_gt (blk_lt (g := gb195) (o := .cells #[.int .i64 a2_0, .int .i64 a2_1] 28 (0, 0)) (by (with_reducible repeat (first | refine b1 ?_ _ | refine b2 ?_ | refine b3 ?_ _)); exact BK195.out)) : gb213 ≠ gb195))
            clear BK193
            clear BK194
            clear BK195
            clear HB
            have BK193 := n0_
            have BK194 := n1_
            have BK195 := n2_
            have HB := n3_
            have BK213 := n4_
            have GW213 := n5_
            have GE213 := n6_
            have NB193_213 := n7_
            have NB213_193 := n8_
            have NB194_213 := n9_
            have NB213_194 := n10_
            have NB195_213 := n11_
            have NB213_195 := n12_
            clear n0_ n1_ n2_ n3_ n4_ n5_ n6_ n7_ n8_ n9_ n10_ n11_ n12_
            clear hb hbox hg
            refine hK.out _ _ ⟨(b4 BK193.out 0).trans rfl, (b4 BK193.out 1).trans rfl, (b4 BK194.out 0).trans rfl, (b4 BK194.out 1).trans rfl⟩ (fun hHeld => ?_)
            clear hK K
            refine norm_ (a' := ?_) ?_ ?_
            rotate_left
            ·
             show Act.put _ (some 8) _ = _
             simp only [Act.put, List.setIfInBounds_toArray, List.set_cons_zero, List.set_cons_succ, i64_w, i32_w]
             rfl
            exact norm_ (by first | (simp only [putAll, Act.put, List.setIfInBounds_toArray, List.set_cons_zero, List.set_cons_succ]; done) | (simp only [putAll, Act.put, List.setIfInBounds_toArray, List.set_cons_zero, List.set_cons_succ]; rfl)) (hJ7 (gb213) _ ⟨hHeld, (by (with_reducible repeat (first | refine b1 ?_ _ | refine b2 ?_ | refine b3 ?_ _)); exact BK193.out), (by (with_reducible repeat (first | refine b1 ?_ _ | refine b2 ?_ | refine b3 ?_ _)); exact BK194.out), (by (with_reducible repeat (first | refine b1 ?_ _ | refine b2 ?_ | refine b3 ?_ _)); exact BK195.out), (by (with_reducible repeat (first | refine b1 ?_ _ | refine b2 ?_ | refine b3 ?_ _)); exact BK213.out), GW213.out, GE213.out, NB193_213.out, NB213_193.out, NB194_213.out, NB213_194.out, NB195_213.out, NB213_195.out, (by repeat (first | (with_reducible first | exact HB.out | apply c1 | apply c2 | apply c3 | refine c4 ?_ GE193.out | refine c4 ?_ GE194.out | refine c4 ?_ GE195.out | refine c4 ?_ GE213.out) | exact HB.out))⟩)
          ·
           skip
           rintro gb213 w197 ⟨hS_, h0_, h1_, h2_, h3_, h4_, h5_, h6_, h7_, h8_, h9_, h10_, h11_, h12_⟩
           have n0_ : Aside0 (w197.heap[gb193]? = some (.cells #[.int .i64 a0_0, .int .i64 a0_1] 28 (0, 0))) := ⟨h0_⟩
           have n1_ : Aside0 (w197.heap[gb194]? = some (.cells #[.int .i64 a1_0, .int .i64 a1_1] 28 (0, 0))) := ⟨h1_⟩
           have n2_ : Aside0 (w197.heap[gb195]? = some (.cells #[.int .i64 a2_0, .int .i64 a2_1] 28 (0, 0))) := ⟨h2_⟩
           have n3_ : Aside0 (w197.heap[gb213]? = some (.cells #[.int .i64 0, .int .i64 0] 28 (0, 0))) := ⟨h3_⟩
           have n4_ : Aside0 (w.heap.size ≤ gb213) := ⟨h4_⟩
           have n5_ : Aside0 (w.heap.size ≤ gb213) := ⟨h5_⟩
           have n6_ : Aside0 (gb193 ≠ gb213) := ⟨h6_⟩
           have n7_ : Aside0 (gb213 ≠ gb193) := ⟨h7_⟩
           have n8_ : Aside0 (gb194 ≠ gb213) := ⟨h8_⟩
           have n9_ : Aside0 (gb213 ≠ gb194) := ⟨h9_⟩
           have n10_ : Aside0 (gb195 ≠ gb213) := ⟨h10_⟩
           have n11_ : Aside0 (gb213 ≠ gb195) := ⟨h11_⟩
           have n12_ : Aside0 (Below w.heap.size w w197) := ⟨h12_⟩
           clear BK193
           clear BK194
           clear BK195
           clear HB
           clear h0_ h1_ h2_ h3_ h4_ h5_ h6_ h7_ h8_ h9_ h10_ h11_ h12_
           have BK193 := n0_
           have BK194 := n1_
           have BK195 := n2_
           have BK213 := n3_
           have GW213 := n4_
           have GE213 := n5_
           have NB193_213 := n6_
           have NB213_193 := n7_
           have NB194_213 := n8_
           have NB213_194 := n9_
           have NB195_213 := n10_
           have NB213_195 := n11_
           have HB := n12_
           clear n0_ n1_ n2_ n3_ n4_ n5_ n6_ n7_ n8_ n9_ n10_ n11_ n12_
           have hHeld : w197.cell? ⟨gb193, 0, none⟩ = some (.int .i64 a0_0) ∧ w197.cell? ⟨gb193, 1, none⟩ = some (.int .i64 a0_1) ∧ w197.cell? ⟨gb194, 0, none⟩ = some (.int .i64 a1_0) ∧ w197.cell? ⟨gb194, 1, none⟩ = some (.int .i64 a1_1) := hS_
           refine norm_ (a' := ?_) ?_ ?_
           rotate_left
           ·
            simp only [putAll, Act.put, List.setIfInBounds_toArray, List.set_cons_zero, List.set_cons_succ]
            rfl
           refine two_ (i := 2) (j := 6) (Ni := some 46) (Nj := some 7) #[true, true, true, true, true, false, false, true, false, false] #[true, true, false, true, true, false, true, true, false, false] rfl rfl rfl rfl (two_of HT_.out (by kernel_rfl)) (by decide) (by decide) (fun K hK => ?_) (fun K hK => ?_)
           ·
            skip
            refine goes_ Try.func14 (by kernel_rfl) rfl #[.agg #[.int .i64 a0_0, .int .i64 a0_1], .agg #[.int .i64 a1_0, .int .i64 a1_1]] (by rfl) rfl rfl (by (try simp only [List.map_toArray, List.map_cons, List.map_nil]); first | done | rfl | (simp only [List.length_drop, List.length_take]; rfl)) ?_
            with_reducible refine (moment_Join.calls a0_0 a0_1 a1_0 a1_1 t208 t209 _ A192.out).mono ?_
            rintro e w198 ⟨rfl, hb⟩
            refine ⟨_, rfl, ?_⟩
            have n0_ := am (b5 (g := gb193) (o := .cells #[.int .i64 a0_0, .int .i64 a0_1] 28 (0, 0)) (by (with_reducible repeat (first | refine b1 ?_ _ | refine b2 ?_ | refine b3 ?_ _)); exact BK193.out) hb)
            have n1_ := am (b5 (g := gb194) (o := .cells #[.int .i64 a1_0, .int .i64 a1_1] 28 (0, 0)) (by (with_reducible repeat (first | refine b1 ?_ _ | refine b2 ?_ | refine b3 ?_ _)); exact BK194.out) hb)
            have n2_ := am (b5 (g := gb195) (o := .cells #[.int .i64 a2_0, .int .i64 a2_1] 28 (0, 0)) (by (with_reducible repeat (first | refine b1 ?_ _ | refine b2 ?_ | refine b3 ?_ _)); exact BK195.out) hb)
            have n3_ := am (b5 (g := gb213) (o := .cells #[.int .i64 0, .int .i64 0] 28 (0, 0)) (by (with_reducible repeat (first | refine b1 ?_ _ | refine b2 ?_ | refine b3 ?_ _)); exact BK213.out) hb)
            have n4_ := am (below_step (by repeat (first | (with_reducible first | exact HB.out | apply c1 | apply c2 | apply c3 | refine c4 ?_ GE193.out | refine c4 ?_ GE194.out | refine c4 ?_ GE195.out | refine c4 ?_ GE213.out) | exact HB.out)) hb)
            clear BK193
            clear BK194
            clear BK195
            clear BK213
            clear HB
            have BK193 := n0_
            have BK194 := n1_
            have BK195 := n2_
            have BK213 := n3_
            have HB := n4_
            clear n0_ n1_ n2_ n3_ n4_
            (try clear hb)
            (try clear hb2)
            (try clear hk)
            (try clear hi)
            refine hK.out _ _ ⟨(b4 BK193.out 0).trans rfl, (b4 BK193.out 1).trans rfl, (b4 BK194.out 0).trans rfl, (b4 BK194.out 1).trans rfl⟩ (fun hHeld => ?_)
            clear hK K
            refine norm_ (a' := ?_) ?_ ?_
            rotate_left
            ·
             show Act.put _ (some 46) _ = _
             simp only [Act.put, List.setIfInBounds_toArray, List.set_cons_zero, List.set_cons_succ, i64_w, i32_w]
             rfl
            exact norm_ (by first | (simp only [putAll, Act.put, List.setIfInBounds_toArray, List.set_cons_zero, List.set_cons_succ]; done) | (simp only [putAll, Act.put, List.setIfInBounds_toArray, List.set_cons_zero, List.set_cons_succ]; rfl)) (hJ2_7 (gb213) _ ⟨hHeld, (by (with_reducible repeat (first | refine b1 ?_ _ | refine b2 ?_ | refine b3 ?_ _)); exact BK193.out), (by (with_reducible repeat (first | refine b1 ?_ _ | refine b2 ?_ | refine b3 ?_ _)); exact BK194.out), (by (with_reducible repeat (first | refine b1 ?_ _ | refine b2 ?_ | refine b3 ?_ _)); exact BK195.out), (by (with_reducible repeat (first | refine b1 ?_ _ | refine b2 ?_ | refine b3 ?_ _)); exact BK213.out), GW213.out, GE213.out, NB193_213.out, NB213_193.out, NB194_213.out, NB213_194.out, NB195_213.out, NB213_195.out, (by repeat (first | (with_reducible first | exact HB.out | apply c1 | apply c2 | apply c3 | refine c4 ?_ GE193.out | refine c4 ?_ GE194.out | refine c4 ?_ GE195.out | refine c4 ?_ GE213.out) | exact HB.out))⟩)
           ·
            skip
            refine box_step ?hg (N := 7) ?hd (cs := #[.int .i64 0, .int .i64 0]) (t := 28) ?hr ?_; (case hd => rfl); (case hg => rfl); (case hr => first | (go_simp; done) | (go_simp; rfl))
            intro gb212 hg w198 hbox hb
            have n0_ := am (b5 (g := gb193) (o := .cells #[.int .i64 a0_0, .int .i64 a0_1] 28 (0, 0)) (by (with_reducible repeat (first | refine b1 ?_ _ | refine b2 ?_ | refine b3 ?_ _)); exact BK193.out) hb)
            have n1_ := am (b5 (g := gb194) (o := .cells #[.int .i64 a1_0, .int .i64 a1_1] 28 (0, 0)) (by (with_reducible repeat (first | refine b1 ?_ _ | refine b2 ?_ | refine b3 ?_ _)); exact BK194.out) hb)
            have n2_ := am (b5 (g := gb195) (o := .cells #[.int .i64 a2_0, .int .i64 a2_1] 28 (0, 0)) (by (with_reducible repeat (first | refine b1 ?_ _ | refine b2 ?_ | refine b3 ?_ _)); exact BK195.out) hb)
            have n3_ := am (b5 (g := gb213) (o := .cells #[.int .i64 0, .int .i64 0] 28 (0, 0)) (by (with_reducible repeat (first | refine b1 ?_ _ | refine b2 ?_ | refine b3 ?_ _)); exact BK213.out) hb)
            have n4_ := am (below_step (by repeat (first | (with_reducible first | exact HB.out | apply c1 | apply c2 | apply c3 | refine c4 ?_ GE193.out | refine c4 ?_ GE194.out | refine c4 ?_ GE195.out | refine c4 ?_ GE213.out) | exact HB.out)) hb)
            have n5_ := am (hbox)
            have n6_ := am ((by rw [hg]; exact (below_size (by repeat (first | (with_reducible first | exact HB.out | apply c1 | apply c2 | apply c3 | refine c4 ?_ GE193.out | refine c4 ?_ GE194.out | refine c4 ?_ GE195.out | refine c4 ?_ GE213.out) | exact HB.out))) : w.heap.size ≤ gb212))
            have n7_ := am ((by rw [hg]; exact (below_size (by repeat (first | (with_reducible first | exact HB.out | apply c1 | apply c2 | apply c3 | refine c4 ?_ GE193.out | refine c4 ?_ GE194.out | refine c4 ?_ GE195.out | refine c4 ?_ GE213.out) | exact HB.out))) : w.heap.size ≤ gb212))
            have n8_ := am ((by rw [hg]; exact Nat.ne_of_lt (blk_lt (g := gb193) (o := .cells #[.int .i64 a0_0, .int .i64 a0_1] 28 (0, 0)) (by (with_reducible repeat (first | refine b1 ?_ _ | refine b2 ?_ | refine b3 ?_ _)); exact BK193.out)) : gb193 ≠ gb212))
            have n9_ := am ((by rw [hg]; exact Nat.ne_of_gt (blk_lt (g := gb193) (o := .cells #[.int .i64 a0_0, .int .i64 a0_1] 28 (0, 0)) (by (with_reducible repeat (first | refine b1 ?_ _ | refine b2 ?_ | refine b3 ?_ _)); exact BK193.out)) : gb212 ≠ gb193))
            have n10_ := am ((by rw [hg]; exact Nat.ne_of_lt (blk_lt (g := gb194) (o := .cells #[.int .i64 a1_0, .int .i64 a1_1] 28 (0, 0)) (by (with_reducible repeat (first | refine b1 ?_ _ | refine b2 ?_ | refine b3 ?_ _)); exact BK194.out)) : gb194 ≠ gb212))
            have n11_ := am ((by rw [hg]; exact Nat.ne_of_gt (blk_lt (g := gb194) (o := .cells #[.int .i64 a1_0, .int .i64 a1_1] 28 (0, 0)) (by (with_reducible repeat (first | refine b1 ?_ _ | refine b2 ?_ | refine b3 ?_ _)); exact BK194.out)) : gb212 ≠ gb194))
            have n12_ := am ((by rw [hg]; exact Nat.ne_of_lt (blk_lt (g := gb195) (o := .cells #[.int .i64 a2_0, .int .i64 a2_1] 28 (0, 0)) (by (with_reducible repeat (first | refine b1 ?_ _ | refine b2 ?_ | refine b3 ?_ _)); exact BK195.out)) : gb195 ≠ gb212))
            have n13_ := am ((by rw [hg]; exact Nat.ne_of_gt (blk_lt (g := gb195) (o := .cells #[.int .i64 a2_0, .int .i64 a2_1] 28 (0, 0)) (by (with_reducible repeat (first | refine b1 ?_ _ | refine b2 ?_ | refine b3 ?_ _)); exact BK195.out)) : gb212 ≠ gb195))
            have n14_ := am ((by rw [hg]; exact Nat.ne_of_lt (blk_lt (g := gb213) (o := .cells #[.int .i64 0, .int .i64 0] 28 (0, 0)) (by (with_reducible repeat (first | refine b1 ?_ _ | refine b2 ?_ | refine b3 ?_ _)); exact BK213.out)) : gb213 ≠ gb212))
            have n15_ := am ((by rw [hg]; exact Nat.ne_of_gt (blk_lt (g := gb213) (o := .cells #[.int .i64 0, .int .i64 0] 28 (0, 0)) (by (with_reducible repeat (first | refine b1 ?_ _ | refine b2 ?_ | refine b3 ?_ _)); exact BK213.out)) : gb212 ≠ gb213))
            clear BK193
            clear BK194
            clear BK195
            clear BK213
            clear HB
            have BK193 := n0_
            have BK194 := n1_
            have BK195 := n2_
            have BK213 := n3_
            have HB := n4_
            have BK212 := n5_
            have GW212 := n6_
            have GE212 := n7_
            have NB193_212 := n8_
            have NB212_193 := n9_
            have NB194_212 := n10_
            have NB212_194 := n11_
            have NB195_212 := n12_
            have NB212_195 := n13_
            have NB213_212 := n14_
            have NB212_213 := n15_
            clear n0_ n1_ n2_ n3_ n4_ n5_ n6_ n7_ n8_ n9_ n10_ n11_ n12_ n13_ n14_ n15_
            clear hb hbox hg
            refine hK.out _ _ ⟨(b4 BK193.out 0).trans rfl, (b4 BK193.out 1).trans rfl, (b4 BK194.out 0).trans rfl, (b4 BK194.out 1).trans rfl⟩ (fun hHeld => ?_)
            clear hK K
            refine norm_ (a' := ?_) ?_ ?_
            rotate_left
            ·
             show Act.put _ (some 7) _ = _
             simp only [Act.put, List.setIfInBounds_toArray, List.set_cons_zero, List.set_cons_succ, i64_w, i32_w]
             rfl
            exact norm_ (by first | (simp only [putAll, Act.put, List.setIfInBounds_toArray, List.set_cons_zero, List.set_cons_succ]; done) | (simp only [putAll, Act.put, List.setIfInBounds_toArray, List.set_cons_zero, List.set_cons_succ]; rfl)) (hJ6_7 (gb212, gb213) _ ⟨hHeld, (by (with_reducible repeat (first | refine b1 ?_ _ | refine b2 ?_ | refine b3 ?_ _)); exact BK193.out), (by (with_reducible repeat (first | refine b1 ?_ _ | refine b2 ?_ | refine b3 ?_ _)); exact BK194.out), (by (with_reducible repeat (first | refine b1 ?_ _ | refine b2 ?_ | refine b3 ?_ _)); exact BK195.out), (by (with_reducible repeat (first | refine b1 ?_ _ | refine b2 ?_ | refine b3 ?_ _)); exact BK212.out), (by (with_reducible repeat (first | refine b1 ?_ _ | refine b2 ?_ | refine b3 ?_ _)); exact BK213.out), GW212.out, GE212.out, NB193_212.out, NB212_193.out, NB194_212.out, NB212_194.out, NB195_212.out, NB212_195.out, NB213_212.out, NB212_213.out, GW213.out, GE213.out, NB193_213.out, NB213_193.out, NB194_213.out, NB213_194.out, NB195_213.out, NB213_195.out, (by repeat (first | (with_reducible first | exact HB.out | apply c1 | apply c2 | apply c3 | refine c4 ?_ GE193.out | refine c4 ?_ GE194.out | refine c4 ?_ GE195.out | refine c4 ?_ GE213.out | refine c4 ?_ GE212.out) | exact HB.out))⟩)
         ·
          skip
          rintro gb212 w197 ⟨hS_, h0_, h1_, h2_, h3_, h4_, h5_, h6_, h7_, h8_, h9_, h10_, h11_, h12_⟩
          have n0_ : Aside0 (w197.heap[gb193]? = some (.cells #[.int .i64 a0_0, .int .i64 a0_1] 28 (0, 0))) := ⟨h0_⟩
          have n1_ : Aside0 (w197.heap[gb194]? = some (.cells #[.int .i64 a1_0, .int .i64 a1_1] 28 (0, 0))) := ⟨h1_⟩
          have n2_ : Aside0 (w197.heap[gb195]? = some (.cells #[.int .i64 a2_0, .int .i64 a2_1] 28 (0, 0))) := ⟨h2_⟩
          have n3_ : Aside0 (w197.heap[gb212]? = some (.cells #[.int .i64 0, .int .i64 0] 28 (0, 0))) := ⟨h3_⟩
          have n4_ : Aside0 (w.heap.size ≤ gb212) := ⟨h4_⟩
          have n5_ : Aside0 (w.heap.size ≤ gb212) := ⟨h5_⟩
          have n6_ : Aside0 (gb193 ≠ gb212) := ⟨h6_⟩
          have n7_ : Aside0 (gb212 ≠ gb193) := ⟨h7_⟩
          have n8_ : Aside0 (gb194 ≠ gb212) := ⟨h8_⟩
          have n9_ : Aside0 (gb212 ≠ gb194) := ⟨h9_⟩
          have n10_ : Aside0 (gb195 ≠ gb212) := ⟨h10_⟩
          have n11_ : Aside0 (gb212 ≠ gb195) := ⟨h11_⟩
          have n12_ : Aside0 (Below w.heap.size w w197) := ⟨h12_⟩
          clear BK193
          clear BK194
          clear BK195
          clear HB
          clear h0_ h1_ h2_ h3_ h4_ h5_ h6_ h7_ h8_ h9_ h10_ h11_ h12_
          have BK193 := n0_
          have BK194 := n1_
          have BK195 := n2_
          have BK212 := n3_
          have GW212 := n4_
          have GE212 := n5_
          have NB193_212 := n6_
          have NB212_193 := n7_
          have NB194_212 := n8_
          have NB212_194 := n9_
          have NB195_212 := n10_
          have NB212_195 := n11_
          have HB := n12_
          clear n0_ n1_ n2_ n3_ n4_ n5_ n6_ n7_ n8_ n9_ n10_ n11_ n12_
          have hHeld : w197.cell? ⟨gb193, 0, none⟩ = some (.int .i64 a0_0) ∧ w197.cell? ⟨gb193, 1, none⟩ = some (.int .i64 a0_1) ∧ w197.cell? ⟨gb194, 0, none⟩ = some (.int .i64 a1_0) ∧ w197.cell? ⟨gb194, 1, none⟩ = some (.int .i64 a1_1) := hS_
          refine norm_ (a' := ?_) ?_ ?_
          rotate_left
          ·
           simp only [putAll, Act.put, List.setIfInBounds_toArray, List.set_cons_zero, List.set_cons_succ]
           rfl
          refine two_ (i := 2) (j := 7) (Ni := some 46) (Nj := some 8) #[true, true, true, true, true, false, true, false, false, false] #[true, true, false, true, true, false, true, true, false, false] rfl rfl rfl rfl (two_of HT_.out (by kernel_rfl)) (by decide) (by decide) (fun K hK => ?_) (fun K hK => ?_)
          ·
           skip
           refine goes_ Try.func14 (by kernel_rfl) rfl #[.agg #[.int .i64 a0_0, .int .i64 a0_1], .agg #[.int .i64 a1_0, .int .i64 a1_1]] (by rfl) rfl rfl (by (try simp only [List.map_toArray, List.map_cons, List.map_nil]); first | done | rfl | (simp only [List.length_drop, List.length_take]; rfl)) ?_
           with_reducible refine (moment_Join.calls a0_0 a0_1 a1_0 a1_1 t208 t209 _ A192.out).mono ?_
           rintro e w198 ⟨rfl, hb⟩
           refine ⟨_, rfl, ?_⟩
           have n0_ := am (b5 (g := gb193) (o := .cells #[.int .i64 a0_0, .int .i64 a0_1] 28 (0, 0)) (by (with_reducible repeat (first | refine b1 ?_ _ | refine b2 ?_ | refine b3 ?_ _)); exact BK193.out) hb)
           have n1_ := am (b5 (g := gb194) (o := .cells #[.int .i64 a1_0, .int .i64 a1_1] 28 (0, 0)) (by (with_reducible repeat (first | refine b1 ?_ _ | refine b2 ?_ | refine b3 ?_ _)); exact BK194.out) hb)
           have n2_ := am (b5 (g := gb195) (o := .cells #[.int .i64 a2_0, .int .i64 a2_1] 28 (0, 0)) (by (with_reducible repeat (first | refine b1 ?_ _ | refine b2 ?_ | refine b3 ?_ _)); exact BK195.out) hb)
           have n3_ := am (b5 (g := gb212) (o := .cells #[.int .i64 0, .int .i64 0] 28 (0, 0)) (by (with_reducible repeat (first | refine b1 ?_ _ | refine b2 ?_ | refine b3 ?_ _)); exact BK212.out) hb)
           have n4_ := am (below_step (by repeat (first | (with_reducible first | exact HB.out | apply c1 | apply c2 | apply c3 | refine c4 ?_ GE193.out | refine c4 ?_ GE194.out | refine c4 ?_ GE195.out | refine c4 ?_ GE212.out) | exact HB.out)) hb)
           clear BK193
           clear BK194
           clear BK195
           clear BK212
           clear HB
           have BK193 := n0_
           have BK194 := n1_
           have BK195 := n2_
           have BK212 := n3_
           have HB := n4_
           clear n0_ n1_ n2_ n3_ n4_
           (try clear hb)
           (try clear hb2)
           (try clear hk)
           (try clear hi)
           refine hK.out _ _ ⟨(b4 BK193.out 0).trans rfl, (b4 BK193.out 1).trans rfl, (b4 BK194.out 0).trans rfl, (b4 BK194.out 1).trans rfl⟩ (fun hHeld => ?_)
           clear hK K
           refine norm_ (a' := ?_) ?_ ?_
           rotate_left
           ·
            show Act.put _ (some 46) _ = _
            simp only [Act.put, List.setIfInBounds_toArray, List.set_cons_zero, List.set_cons_succ, i64_w, i32_w]
            rfl
           exact norm_ (by first | (simp only [putAll, Act.put, List.setIfInBounds_toArray, List.set_cons_zero, List.set_cons_succ]; done) | (simp only [putAll, Act.put, List.setIfInBounds_toArray, List.set_cons_zero, List.set_cons_succ]; rfl)) (hJ2_6 (gb212) _ ⟨hHeld, (by (with_reducible repeat (first | refine b1 ?_ _ | refine b2 ?_ | refine b3 ?_ _)); exact BK193.out), (by (with_reducible repeat (first | refine b1 ?_ _ | refine b2 ?_ | refine b3 ?_ _)); exact BK194.out), (by (with_reducible repeat (first | refine b1 ?_ _ | refine b2 ?_ | refine b3 ?_ _)); exact BK195.out), (by (with_reducible repeat (first | refine b1 ?_ _ | refine b2 ?_ | refine b3 ?_ _)); exact BK212.out), GW212.out, GE212.out, NB193_212.out, NB212_193.out, NB194_212.out, NB212_194.out, NB195_212.out, NB212_195.out, (by repeat (first | (with_reducible first | exact HB.out | apply c1 | apply c2 | apply c3 | refine c4 ?_ GE193.out | refine c4 ?_ GE194.out | refine c4 ?_ GE195.out | refine c4 ?_ GE212.out) | exact HB.out))⟩)
          ·
           skip
           refine box_step ?hg (N := 8) ?hd (cs := #[.int .i64 0, .int .i64 0]) (t := 28) ?hr ?_; (case hd => rfl); (case hg => rfl); (case hr => first | (go_simp; done) | (go_simp; rfl))
           intro gb213 hg w198 hbox hb
           have n0_ := am (b5 (g := gb193) (o := .cells #[.int .i64 a0_0, .int .i64 a0_1] 28 (0, 0)) (by (with_reducible repeat (first | refine b1 ?_ _ | refine b2 ?_ | refine b3 ?_ _)); exact BK193.out) hb)
           have n1_ := am (b5 (g := gb194) (o := .cells #[.int .i64 a1_0, .int .i64 a1_1] 28 (0, 0)) (by (with_reducible repeat (first | refine b1 ?_ _ | refine b2 ?_ | refine b3 ?_ _)); exact BK194.out) hb)
           have n2_ := am (b5 (g := gb195) (o := .cells #[.int .i64 a2_0, .int .i64 a2_1] 28 (0, 0)) (by (with_reducible repeat (first | refine b1 ?_ _ | refine b2 ?_ | refine b3 ?_ _)); exact BK195.out) hb)
           have n3_ := am (b5 (g := gb212) (o := .cells #[.int .i64 0, .int .i64 0] 28 (0, 0)) (by (with_reducible repeat (first | refine b1 ?_ _ | refine b2 ?_ | refine b3 ?_ _)); exact BK212.out) hb)
           have n4_ := am (below_step (by repeat (first | (with_reducible first | exact HB.out | apply c1 | apply c2 | apply c3 | refine c4 ?_ GE193.out | refine c4 ?_ GE194.out | refine c4 ?_ GE195.out | refine c4 ?_ GE212.out) | exact HB.out)) hb)
           have n5_ := am (hbox)
           have n6_ := am ((by rw [hg]; exact (below_size (by repeat (first | (with_reducible first | exact HB.out | apply c1 | apply c2 | apply c3 | refine c4 ?_ GE193.out | refine c4 ?_ GE194.out | refine c4 ?_ GE195.out | refine c4 ?_ GE212.out) | exact HB.out))) : w.heap.size ≤ gb213))
           have n7_ := am ((by rw [hg]; exact (below_size (by repeat (first | (with_reducible first | exact HB.out | apply c1 | apply c2 | apply c3 | refine c4 ?_ GE193.out | refine c4 ?_ GE194.out | refine c4 ?_ GE195.out | refine c4 ?_ GE212.out) | exact HB.out))) : w.heap.size ≤ gb213))
           have n8_ := am ((by rw [hg]; exact Nat.ne_of_lt (blk_lt (g := gb193) (o := .cells #[.int .i64 a0_0, .int .i64 a0_1] 28 (0, 0)) (by (with_reducible repeat (first | refine b1 ?_ _ | refine b2 ?_ | refine b3 ?_ _)); exact BK193.out)) : gb193 ≠ gb213))
           have n9_ := am ((by rw [hg]; exact Nat.ne_of_gt (blk_lt (g := gb193) (o := .cells #[.int .i64 a0_0, .int .i64 a0_1] 28 (0, 0)) (by (with_reducible repeat (first | refine b1 ?_ _ | refine b2 ?_ | refine b3 ?_ _)); exact BK193.out)) : gb213 ≠ gb193))
           have n10_ := am ((by rw [hg]; exact Nat.ne_of_lt (blk_lt (g := gb194) (o := .cells #[.int .i64 a1_0, .int .i64 a1_1] 28 (0, 0)) (by (with_reducible repeat (first | refine b1 ?_ _ | refine b2 ?_ | refine b3 ?_ _)); exact BK194.out)) : gb194 ≠ gb213))
           have n11_ := am ((by rw [hg]; exact Nat.ne_of_gt (blk_lt (g := gb194) (o := .cells #[.int .i64 a1_0, .int .i64 a1_1] 28 (0, 0)) (by (with_reducible repeat (first | refine b1 ?_ _ | refine b2 ?_ | refine b3 ?_ _)); exact BK194.out)) : gb213 ≠ gb194))
           have n12_ := am ((by rw [hg]; exact Nat.ne_of_lt (blk_lt (g := gb195) (o := .cells #[.int .i64 a2_0, .int .i64 a2_1] 28 (0, 0)) (by (with_reducible repeat (first | refine b1 ?_ _ | refine b2 ?_ | refine b3 ?_ _)); exact BK195.out)) : gb195 ≠ gb213))
           have n13_ := am ((by rw [hg]; exact Nat.ne_of_gt (blk_lt (g := gb195) (o := .cells #[.int .i64 a2_0, .int .i64 a2_1] 28 (0, 0)) (by (with_reducible repeat (first | refine b1 ?_ _ | refine b2 ?_ | refine b3 ?_ _)); exact BK195.out)) : gb213 ≠ gb195))
           have n14_ := am ((by rw [hg]; exact Nat.ne_of_lt (blk_lt (g := gb212) (o := .cells #[.int .i64 0, .int .i64 0] 28 (0, 0)) (by (with_reducible repeat (first | refine b1 ?_ _ | refine b2 ?_ | refine b3 ?_ _)); exact BK212.out)) : gb212 ≠ gb213))
           have n15_ := am ((by rw [hg]; exact Nat.ne_of_gt (blk_lt (g := gb212) (o := .cells #[.int .i64 0, .int .i64 0] 28 (0, 0)) (by (with_reducible repeat (first | refine b1 ?_ _ | refine b2 ?_ | refine b3 ?_ _)); exact BK212.out)) : gb213 ≠ gb212))
           clear BK193
           clear BK194
           clear BK195
           clear BK212
           clear HB
           have BK193 := n0_
           have BK194 := n1_
           have BK195 := n2_
           have BK212 := n3_
           have HB := n4_
           have BK213 := n5_
           have GW213 := n6_
           have GE213 := n7_
           have NB193_213 := n8_
           have NB213_193 := n9_
           have NB194_213 := n10_
           have NB213_194 := n11_
           have NB195_213 := n12_
           have NB213_195 := n13_
           have NB212_213 := n14_
           have NB213_212 := n15_
           clear n0_ n1_ n2_ n3_ n4_ n5_ n6_ n7_ n8_ n9_ n10_ n11_ n12_ n13_ n14_ n15_
           clear hb hbox hg
           refine hK.out _ _ ⟨(b4 BK193.out 0).trans rfl, (b4 BK193.out 1).trans rfl, (b4 BK194.out 0).trans rfl, (b4 BK194.out 1).trans rfl⟩ (fun hHeld => ?_)
           clear hK K
           refine norm_ (a' := ?_) ?_ ?_
           rotate_left
           ·
            show Act.put _ (some 8) _ = _
            simp only [Act.put, List.setIfInBounds_toArray, List.set_cons_zero, List.set_cons_succ, i64_w, i32_w]
            rfl
           exact norm_ (by first | (simp only [putAll, Act.put, List.setIfInBounds_toArray, List.set_cons_zero, List.set_cons_succ]; done) | (simp only [putAll, Act.put, List.setIfInBounds_toArray, List.set_cons_zero, List.set_cons_succ]; rfl)) (hJ6_7 (gb212, gb213) _ ⟨hHeld, (by (with_reducible repeat (first | refine b1 ?_ _ | refine b2 ?_ | refine b3 ?_ _)); exact BK193.out), (by (with_reducible repeat (first | refine b1 ?_ _ | refine b2 ?_ | refine b3 ?_ _)); exact BK194.out), (by (with_reducible repeat (first | refine b1 ?_ _ | refine b2 ?_ | refine b3 ?_ _)); exact BK195.out), (by (with_reducible repeat (first | refine b1 ?_ _ | refine b2 ?_ | refine b3 ?_ _)); exact BK212.out), (by (with_reducible repeat (first | refine b1 ?_ _ | refine b2 ?_ | refine b3 ?_ _)); exact BK213.out), GW212.out, GE212.out, NB193_212.out, NB212_193.out, NB194_212.out, NB212_194.out, NB195_212.out, NB212_195.out, NB213_212.out, NB212_213.out, GW213.out, GE213.out, NB193_213.out, NB213_193.out, NB194_213.out, NB213_194.out, NB195_213.out, NB213_195.out, (by repeat (first | (with_reducible first | exact HB.out | apply c1 | apply c2 | apply c3 | refine c4 ?_ GE193.out | refine c4 ?_ GE194.out | refine c4 ?_ GE195.out | refine c4 ?_ GE212.out | refine c4 ?_ GE213.out) | exact HB.out))⟩)
        ·
         skip
         rintro _ w197 ⟨hS_, h0_, h1_, h2_, h3_⟩
         have n0_ : Aside0 (w197.heap[gb193]? = some (.cells #[.int .i64 a0_0, .int .i64 a0_1] 28 (0, 0))) := ⟨h0_⟩
         have n1_ : Aside0 (w197.heap[gb194]? = some (.cells #[.int .i64 a1_0, .int .i64 a1_1] 28 (0, 0))) := ⟨h1_⟩
         have n2_ : Aside0 (w197.heap[gb195]? = some (.cells #[.int .i64 a2_0, .int .i64 a2_1] 28 (0, 0))) := ⟨h2_⟩
         have n3_ : Aside0 (Below w.heap.size w w197) := ⟨h3_⟩
         clear BK193
         clear BK194
         clear BK195
         clear HB
         clear h0_ h1_ h2_ h3_
         have BK193 := n0_
         have BK194 := n1_
         have BK195 := n2_
         have HB := n3_
         clear n0_ n1_ n2_ n3_
         have hHeld : w197.cell? ⟨gb193, 0, none⟩ = some (.int .i64 a0_0) ∧ w197.cell? ⟨gb193, 1, none⟩ = some (.int .i64 a0_1) ∧ w197.cell? ⟨gb194, 0, none⟩ = some (.int .i64 a1_0) ∧ w197.cell? ⟨gb194, 1, none⟩ = some (.int .i64 a1_1) := hS_
         refine norm_ (a' := ?_) ?_ ?_
         rotate_left
         ·
          simp only [putAll, Act.put, List.setIfInBounds_toArray, List.set_cons_zero, List.set_cons_succ]
          rfl
         refine three_ (i := 5) (j := 6) (k := 7) (Ni := some 49) (Nj := some 7) (Nk := some 8) #[true, true, true, true, true, true, false, false, false, false] #[true, true, true, true, true, false, true, false, false, false] #[true, true, true, true, true, false, false, true, false, false] rfl rfl rfl rfl rfl rfl (three_of HT_.out (by kernel_rfl)) (by decide) (by decide) (by decide) (fun K hK => ?_) (fun K hK => ?_) (fun K hK => ?_)
         ·
          skip
          refine goes_ Try.func15 (by kernel_rfl) rfl #[.agg #[.int .i64 a0_0, .int .i64 a0_1], .agg #[.int .i64 a1_0, .int .i64 a1_1]] (by rfl) rfl rfl (by (try simp only [List.map_toArray, List.map_cons, List.map_nil]); first | done | rfl | (simp only [List.length_drop, List.length_take]; rfl)) ?_
          with_reducible refine (moment_Meet.calls a0_0 a0_1 a1_0 a1_1 t210 t211 _ A193.out).mono ?_
          rintro e w198 ⟨rfl, hb⟩
          refine ⟨_, rfl, ?_⟩
          have n0_ := am (b5 (g := gb193) (o := .cells #[.int .i64 a0_0, .int .i64 a0_1] 28 (0, 0)) (by (with_reducible repeat (first | refine b1 ?_ _ | refine b2 ?_ | refine b3 ?_ _)); exact BK193.out) hb)
          have n1_ := am (b5 (g := gb194) (o := .cells #[.int .i64 a1_0, .int .i64 a1_1] 28 (0, 0)) (by (with_reducible repeat (first | refine b1 ?_ _ | refine b2 ?_ | refine b3 ?_ _)); exact BK194.out) hb)
          have n2_ := am (b5 (g := gb195) (o := .cells #[.int .i64 a2_0, .int .i64 a2_1] 28 (0, 0)) (by (with_reducible repeat (first | refine b1 ?_ _ | refine b2 ?_ | refine b3 ?_ _)); exact BK195.out) hb)
          have n3_ := am (below_step (by repeat (first | (with_reducible first | exact HB.out | apply c1 | apply c2 | apply c3 | refine c4 ?_ GE193.out | refine c4 ?_ GE194.out | refine c4 ?_ GE195.out) | exact HB.out)) hb)
          clear BK193
          clear BK194
          clear BK195
          clear HB
          have BK193 := n0_
          have BK194 := n1_
          have BK195 := n2_
          have HB := n3_
          clear n0_ n1_ n2_ n3_
          (try clear hb)
          (try clear hb2)
          (try clear hk)
          (try clear hi)
          refine hK.out _ _ ⟨(b4 BK193.out 0).trans rfl, (b4 BK193.out 1).trans rfl, (b4 BK194.out 0).trans rfl, (b4 BK194.out 1).trans rfl⟩ (fun hHeld => ?_)
          clear hK K
          refine norm_ (a' := ?_) ?_ ?_
          rotate_left
          ·
           show Act.put _ (some 49) _ = _
           simp only [Act.put, List.setIfInBounds_toArray, List.set_cons_zero, List.set_cons_succ, i64_w, i32_w]
           rfl
          exact norm_ (by first | (simp only [putAll, Act.put, List.setIfInBounds_toArray, List.set_cons_zero, List.set_cons_succ]; done) | (simp only [putAll, Act.put, List.setIfInBounds_toArray, List.set_cons_zero, List.set_cons_succ]; rfl)) (hJ2_5 () _ ⟨hHeld, (by (with_reducible repeat (first | refine b1 ?_ _ | refine b2 ?_ | refine b3 ?_ _)); exact BK193.out), (by (with_reducible repeat (first | refine b1 ?_ _ | refine b2 ?_ | refine b3 ?_ _)); exact BK194.out), (by (with_reducible repeat (first | refine b1 ?_ _ | refine b2 ?_ | refine b3 ?_ _)); exact BK195.out), (by repeat (first | (with_reducible first | exact HB.out | apply c1 | apply c2 | apply c3 | refine c4 ?_ GE193.out | refine c4 ?_ GE194.out | refine c4 ?_ GE195.out) | exact HB.out))⟩)
         ·
          skip
          refine box_step ?hg (N := 7) ?hd (cs := #[.int .i64 0, .int .i64 0]) (t := 28) ?hr ?_; (case hd => rfl); (case hg => rfl); (case hr => first | (go_simp; done) | (go_simp; rfl))
          intro gb212 hg w198 hbox hb
          have n0_ := am (b5 (g := gb193) (o := .cells #[.int .i64 a0_0, .int .i64 a0_1] 28 (0, 0)) (by (with_reducible repeat (first | refine b1 ?_ _ | refine b2 ?_ | refine b3 ?_ _)); exact BK193.out) hb)
          have n1_ := am (b5 (g := gb194) (o := .cells #[.int .i64 a1_0, .int .i64 a1_1] 28 (0, 0)) (by (with_reducible repeat (first | refine b1 ?_ _ | refine b2 ?_ | refine b3 ?_ _)); exact BK194.out) hb)
          have n2_ := am (b5 (g := gb195) (o := .cells #[.int .i64 a2_0, .int .i64 a2_1] 28 (0, 0)) (by (with_reducible repeat (first | refine b1 ?_ _ | refine b2 ?_ | refine b3 ?_ _)); exact BK195.out) hb)
          have n3_ := am (below_step (by repeat (first | (with_reducible first | exact HB.out | apply c1 | apply c2 | apply c3 | refine c4 ?_ GE193.out | refine c4 ?_ GE194.out | refine c4 ?_ GE195.out) | exact HB.out)) hb)
          have n4_ := am (hbox)
          have n5_ := am ((by rw [hg]; exact (below_size (by repeat (first | (with_reducible first | exact HB.out | apply c1 | apply c2 | apply c3 | refine c4 ?_ GE193.out | refine c4 ?_ GE194.out | refine c4 ?_ GE195.out) | exact HB.out))) : w.heap.size ≤ gb212))
          have n6_ := am ((by rw [hg]; exact (below_size (by repeat (first | (with_reducible first | exact HB.out | apply c1 | apply c2 | apply c3 | refine c4 ?_ GE193.out | refine c4 ?_ GE194.out | refine c4 ?_ GE195.out) | exact HB.out))) : w.heap.size ≤ gb212))
          have n7_ := am ((by rw [hg]; exact Nat.ne_of_lt (blk_lt (g := gb193) (o := .cells #[.int .i64 a0_0, .int .i64 a0_1] 28 (0, 0)) (by (with_reducible repeat (first | refine b1 ?_ _ | refine b2 ?_ | refine b3 ?_ _)); exact BK193.out)) : gb193 ≠ gb212))
          have n8_ := am ((by rw [hg]; exact Nat.ne_of_gt (blk_lt (g := gb193) (o := .cells #[.int .i64 a0_0, .int .i64 a0_1] 28 (0, 0)) (by (with_reducible repeat (first | refine b1 ?_ _ | refine b2 ?_ | refine b3 ?_ _)); exact BK193.out)) : gb212 ≠ gb193))
          have n9_ := am ((by rw [hg]; exact Nat.ne_of_lt (blk_lt (g := gb194) (o := .cells #[.int .i64 a1_0, .int .i64 a1_1] 28 (0, 0)) (by (with_reducible repeat (first | refine b1 ?_ _ | refine b2 ?_ | refine b3 ?_ _)); exact BK194.out)) : gb194 ≠ gb212))
          have n10_ := am ((by rw [hg]; exact Nat.ne_of_gt (blk_lt (g := gb194) (o := .cells #[.int .i64 a1_0, .int .i64 a1_1] 28 (0, 0)) (by (with_reducible repeat (first | refine b1 ?_ _ | refine b2 ?_ | refine b3 ?_ _)); exact BK194.out)) : gb212 ≠ gb194))
          have n11_ := am ((by rw [hg]; exact Nat.ne_of_lt (blk_lt (g := gb195) (o := .cells #[.int .i64 a2_0, .int .i64 a2_1] 28 (0, 0)) (by (with_reducible repeat (first | refine b1 ?_ _ | refine b2 ?_ | refine b3 ?_ _)); exact BK195.out)) : gb195 ≠ gb212))
          have n12_ := am ((by rw [hg]; exact Nat.ne_of_gt (blk_lt (g := gb195) (o := .cells #[.int .i64 a2_0, .int .i64 a2_1] 28 (0, 0)) (by (with_reducible repeat (first | refine b1 ?_ _ | refine b2 ?_ | refine b3 ?_ _)); exact BK195.out)) : gb212 ≠ gb195))
          clear BK193
          clear BK194
          clear BK195
          clear HB
          have BK193 := n0_
          have BK194 := n1_
          have BK195 := n2_
          have HB := n3_
          have BK212 := n4_
          have GW212 := n5_
          have GE212 := n6_
          have NB193_212 := n7_
          have NB212_193 := n8_
          have NB194_212 := n9_
          have NB212_194 := n10_
          have NB195_212 := n11_
          have NB212_195 := n12_
          clear n0_ n1_ n2_ n3_ n4_ n5_ n6_ n7_ n8_ n9_ n10_ n11_ n12_
          clear hb hbox hg
          refine hK.out _ _ ⟨(b4 BK193.out 0).trans rfl, (b4 BK193.out 1).trans rfl, (b4 BK194.out 0).trans rfl, (b4 BK194.out 1).trans rfl⟩ (fun hHeld => ?_)
          clear hK K
          refine norm_ (a' := ?_) ?_ ?_
          rotate_left
          ·
           show Act.put _ (some 7) _ = _
           simp only [Act.put, List.setIfInBounds_toArray, List.set_cons_zero, List.set_cons_succ, i64_w, i32_w]
           rfl
          exact norm_ (by first | (simp only [putAll, Act.put, List.setIfInBounds_toArray, List.set_cons_zero, List.set_cons_succ]; done) | (simp only [putAll, Act.put, List.setIfInBounds_toArray, List.set_cons_zero, List.set_cons_succ]; rfl)) (hJ2_6 (gb212) _ ⟨hHeld, (by (with_reducible repeat (first | refine b1 ?_ _ | refine b2 ?_ | refine b3 ?_ _)); exact BK193.out), (by (with_reducible repeat (first | refine b1 ?_ _ | refine b2 ?_ | refine b3 ?_ _)); exact BK194.out), (by (with_reducible repeat (first | refine b1 ?_ _ | refine b2 ?_ | refine b3 ?_ _)); exact BK195.out), (by (with_reducible repeat (first | refine b1 ?_ _ | refine b2 ?_ | refine b3 ?_ _)); exact BK212.out), GW212.out, GE212.out, NB193_212.out, NB212_193.out, NB194_212.out, NB212_194.out, NB195_212.out, NB212_195.out, (by repeat (first | (with_reducible first | exact HB.out | apply c1 | apply c2 | apply c3 | refine c4 ?_ GE193.out | refine c4 ?_ GE194.out | refine c4 ?_ GE195.out | refine c4 ?_ GE212.out) | exact HB.out))⟩)
         ·
          skip
          refine box_step ?hg (N := 8) ?hd (cs := #[.int .i64 0, .int .i64 0]) (t := 28) ?hr ?_; (case hd => rfl); (case hg => rfl); (case hr => first | (go_simp; done) | (go_simp; rfl))
          intro gb213 hg w198 hbox hb
          have n0_ := am (b5 (g := gb193) (o := .cells #[.int .i64 a0_0, .int .i64 a0_1] 28 (0, 0)) (by (with_reducible repeat (first | refine b1 ?_ _ | refine b2 ?_ | refine b3 ?_ _)); exact BK193.out) hb)
          have n1_ := am (b5 (g := gb194) (o := .cells #[.int .i64 a1_0, .int .i64 a1_1] 28 (0, 0)) (by (with_reducible repeat (first | refine b1 ?_ _ | refine b2 ?_ | refine b3 ?_ _)); exact BK194.out) hb)
          have n2_ := am (b5 (g := gb195) (o := .cells #[.int .i64 a2_0, .int .i64 a2_1] 28 (0, 0)) (by (with_reducible repeat (first | refine b1 ?_ _ | refine b2 ?_ | refine b3 ?_ _)); exact BK195.out) hb)
          have n3_ := am (below_step (by repeat (first | (with_reducible first | exact HB.out | apply c1 | apply c2 | apply c3 | refine c4 ?_ GE193.out | refine c4 ?_ GE194.out | refine c4 ?_ GE195.out) | exact HB.out)) hb)
          have n4_ := am (hbox)
          have n5_ := am ((by rw [hg]; exact (below_size (by repeat (first | (with_reducible first | exact HB.out | apply c1 | apply c2 | apply c3 | refine c4 ?_ GE193.out | refine c4 ?_ GE194.out | refine c4 ?_ GE195.out) | exact HB.out))) : w.heap.size ≤ gb213))
          have n6_ := am ((by rw [hg]; exact (below_size (by repeat (first | (with_reducible first | exact HB.out | apply c1 | apply c2 | apply c3 | refine c4 ?_ GE193.out | refine c4 ?_ GE194.out | refine c4 ?_ GE195.out) | exact HB.out))) : w.heap.size ≤ gb213))
          have n7_ := am ((by rw [hg]; exact Nat.ne_of_lt (blk_lt (g := gb193) (o := .cells #[.int .i64 a0_0, .int .i64 a0_1] 28 (0, 0)) (by (with_reducible repeat (first | refine b1 ?_ _ | refine b2 ?_ | refine b3 ?_ _)); exact BK193.out)) : gb193 ≠ gb213))
          have n8_ := am ((by rw [hg]; exact Nat.ne_of_gt (blk_lt (g := gb193) (o := .cells #[.int .i64 a0_0, .int .i64 a0_1] 28 (0, 0)) (by (with_reducible repeat (first | refine b1 ?_ _ | refine b2 ?_ | refine b3 ?_ _)); exact BK193.out)) : gb213 ≠ gb193))
          have n9_ := am ((by rw [hg]; exact Nat.ne_of_lt (blk_lt (g := gb194) (o := .cells #[.int .i64 a1_0, .int .i64 a1_1] 28 (0, 0)) (by (with_reducible repeat (first | refine b1 ?_ _ | refine b2 ?_ | refine b3 ?_ _)); exact BK194.out)) : gb194 ≠ gb213))
          have n10_ := am ((by rw [hg]; exact Nat.ne_of_gt (blk_lt (g := gb194) (o := .cells #[.int .i64 a1_0, .int .i64 a1_1] 28 (0, 0)) (by (with_reducible repeat (first | refine b1 ?_ _ | refine b2 ?_ | refine b3 ?_ _)); exact BK194.out)) : gb213 ≠ gb194))
          have n11_ := am ((by rw [hg]; exact Nat.ne_of_lt (blk_lt (g := gb195) (o := .cells #[.int .i64 a2_0, .int .i64 a2_1] 28 (0, 0)) (by (with_reducible repeat (first | refine b1 ?_ _ | refine b2 ?_ | refine b3 ?_ _)); exact BK195.out)) : gb195 ≠ gb213))
          have n12_ := am ((by rw [hg]; exact Nat.ne_of_gt (blk_lt (g := gb195) (o := .cells #[.int .i64 a2_0, .int .i64 a2_1] 28 (0, 0)) (by (with_reducible repeat (first | refine b1 ?_ _ | refine b2 ?_ | refine b3 ?_ _)); exact BK195.out)) : gb213 ≠ gb195))
          clear BK193
          clear BK194
          clear BK195
          clear HB
          have BK193 := n0_
          have BK194 := n1_
          have BK195 := n2_
          have HB := n3_
          have BK213 := n4_
          have GW213 := n5_
          have GE213 := n6_
          have NB193_213 := n7_
          have NB213_193 := n8_
          have NB194_213 := n9_
          have NB213_194 := n10_
          have NB195_213 := n11_
          have NB213_195 := n12_
          clear n0_ n1_ n2_ n3_ n4_ n5_ n6_ n7_ n8_ n9_ n10_ n11_ n12_
          clear hb hbox hg
          refine hK.out _ _ ⟨(b4 BK193.out 0).trans rfl, (b4 BK193.out 1).trans rfl, (b4 BK194.out 0).trans rfl, (b4 BK194.out 1).trans rfl⟩ (fun hHeld => ?_)
          clear hK K
          refine norm_ (a' := ?_) ?_ ?_
          rotate_left
          ·
           show Act.put _ (some 8) _ = _
           simp only [Act.put, List.setIfInBounds_toArray, List.set_cons_zero, List.set_cons_succ, i64_w, i32_w]
           rfl
          exact norm_ (by first | (simp only [putAll, Act.put, List.setIfInBounds_toArray, List.set_cons_zero, List.set_cons_succ]; done) | (simp only [putAll, Act.put, List.setIfInBounds_toArray, List.set_cons_zero, List.set_cons_succ]; rfl)) (hJ2_7 (gb213) _ ⟨hHeld, (by (with_reducible repeat (first | refine b1 ?_ _ | refine b2 ?_ | refine b3 ?_ _)); exact BK193.out), (by (with_reducible repeat (first | refine b1 ?_ _ | refine b2 ?_ | refine b3 ?_ _)); exact BK194.out), (by (with_reducible repeat (first | refine b1 ?_ _ | refine b2 ?_ | refine b3 ?_ _)); exact BK195.out), (by (with_reducible repeat (first | refine b1 ?_ _ | refine b2 ?_ | refine b3 ?_ _)); exact BK213.out), GW213.out, GE213.out, NB193_213.out, NB213_193.out, NB194_213.out, NB213_194.out, NB195_213.out, NB213_195.out, (by repeat (first | (with_reducible first | exact HB.out | apply c1 | apply c2 | apply c3 | refine c4 ?_ GE193.out | refine c4 ?_ GE194.out | refine c4 ?_ GE195.out | refine c4 ?_ GE213.out) | exact HB.out))⟩)
       ·
        skip
        rintro ⟨gb212, gb213⟩ w198 ⟨hS_, h0_, h1_, h2_, h3_, h4_, h5_, h6_, h7_, h8_, h9_, h10_, h11_, h12_, h13_, h14_, h15_, h16_, h17_, h18_, h19_, h20_, h21_, h22_, h23_⟩
        have n0_ : Aside0 (w198.heap[gb193]? = some (.cells #[.int .i64 a0_0, .int .i64 a0_1] 28 (0, 0))) := ⟨h0_⟩
        have n1_ : Aside0 (w198.heap[gb194]? = some (.cells #[.int .i64 a1_0, .int .i64 a1_1] 28 (0, 0))) := ⟨h1_⟩
        have n2_ : Aside0 (w198.heap[gb195]? = some (.cells #[.int .i64 a2_0, .int .i64 a2_1] 28 (0, 0))) := ⟨h2_⟩
        have n3_ : Aside0 (w198.heap[gb212]? = some (.cells #[.int .i64 0, .int .i64 0] 28 (0, 0))) := ⟨h3_⟩
        have n4_ : Aside0 (w198.heap[gb213]? = some (.cells #[.int .i64 0, .int .i64 0] 28 (0, 0))) := ⟨h4_⟩
        have n5_ : Aside0 (w.heap.size ≤ gb212) := ⟨h5_⟩
        have n6_ : Aside0 (w.heap.size ≤ gb212) := ⟨h6_⟩
        have n7_ : Aside0 (gb193 ≠ gb212) := ⟨h7_⟩
        have n8_ : Aside0 (gb212 ≠ gb193) := ⟨h8_⟩
        have n9_ : Aside0 (gb194 ≠ gb212) := ⟨h9_⟩
        have n10_ : Aside0 (gb212 ≠ gb194) := ⟨h10_⟩
        have n11_ : Aside0 (gb195 ≠ gb212) := ⟨h11_⟩
        have n12_ : Aside0 (gb212 ≠ gb195) := ⟨h12_⟩
        have n13_ : Aside0 (gb213 ≠ gb212) := ⟨h13_⟩
        have n14_ : Aside0 (gb212 ≠ gb213) := ⟨h14_⟩
        have n15_ : Aside0 (w.heap.size ≤ gb213) := ⟨h15_⟩
        have n16_ : Aside0 (w.heap.size ≤ gb213) := ⟨h16_⟩
        have n17_ : Aside0 (gb193 ≠ gb213) := ⟨h17_⟩
        have n18_ : Aside0 (gb213 ≠ gb193) := ⟨h18_⟩
        have n19_ : Aside0 (gb194 ≠ gb213) := ⟨h19_⟩
        have n20_ : Aside0 (gb213 ≠ gb194) := ⟨h20_⟩
        have n21_ : Aside0 (gb195 ≠ gb213) := ⟨h21_⟩
        have n22_ : Aside0 (gb213 ≠ gb195) := ⟨h22_⟩
        have n23_ : Aside0 (Below w.heap.size w w198) := ⟨h23_⟩
        clear BK193
        clear BK194
        clear BK195
        clear HB
        clear h0_ h1_ h2_ h3_ h4_ h5_ h6_ h7_ h8_ h9_ h10_ h11_ h12_ h13_ h14_ h15_ h16_ h17_ h18_ h19_ h20_ h21_ h22_ h23_
        have BK193 := n0_
        have BK194 := n1_
        have BK195 := n2_
        have BK212 := n3_
        have BK213 := n4_
        have GW212 := n5_
        have GE212 := n6_
        have NB193_212 := n7_
        have NB212_193 := n8_
        have NB194_212 := n9_
        have NB212_194 := n10_
        have NB195_212 := n11_
        have NB212_195 := n12_
        have NB213_212 := n13_
        have NB212_213 := n14_
        have GW213 := n15_
        have GE213 := n16_
        have NB193_213 := n17_
        have NB213_193 := n18_
        have NB194_213 := n19_
        have NB213_194 := n20_
        have NB195_213 := n21_
        have NB213_195 := n22_
        have HB := n23_
        clear n0_ n1_ n2_ n3_ n4_ n5_ n6_ n7_ n8_ n9_ n10_ n11_ n12_ n13_ n14_ n15_ n16_ n17_ n18_ n19_ n20_ n21_ n22_ n23_
        have hHeld : w198.cell? ⟨gb193, 0, none⟩ = some (.int .i64 a0_0) ∧ w198.cell? ⟨gb193, 1, none⟩ = some (.int .i64 a0_1) ∧ w198.cell? ⟨gb194, 0, none⟩ = some (.int .i64 a1_0) ∧ w198.cell? ⟨gb194, 1, none⟩ = some (.int .i64 a1_1) := hS_
        refine norm_ (a' := ?_) ?_ ?_
        rotate_left
        ·
         simp only [putAll, Act.put, List.setIfInBounds_toArray, List.set_cons_zero, List.set_cons_succ]
         rfl
        refine one_ (i := 2) (N := some 46) #[true, true, true, true, true, false, true, true, false, false] rfl rfl (one_of HT_.out (by kernel_rfl)) (by decide) (fun K hK => ?_)
        refine goes_ Try.func14 (by kernel_rfl) rfl #[.agg #[.int .i64 a0_0, .int .i64 a0_1], .agg #[.int .i64 a1_0, .int .i64 a1_1]] (by rfl) rfl rfl (by (try simp only [List.map_toArray, List.map_cons, List.map_nil]); first | done | rfl | (simp only [List.length_drop, List.length_take]; rfl)) ?_
        with_reducible refine (moment_Join.calls a0_0 a0_1 a1_0 a1_1 t208 t209 _ A192.out).mono ?_
        rintro e w199 ⟨rfl, hb⟩
        refine ⟨_, rfl, ?_⟩
        have n0_ := am (b5 (g := gb193) (o := .cells #[.int .i64 a0_0, .int .i64 a0_1] 28 (0, 0)) (by (with_reducible repeat (first | refine b1 ?_ _ | refine b2 ?_ | refine b3 ?_ _)); exact BK193.out) hb)
        have n1_ := am (b5 (g := gb194) (o := .cells #[.int .i64 a1_0, .int .i64 a1_1] 28 (0, 0)) (by (with_reducible repeat (first | refine b1 ?_ _ | refine b2 ?_ | refine b3 ?_ _)); exact BK194.out) hb)
        have n2_ := am (b5 (g := gb195) (o := .cells #[.int .i64 a2_0, .int .i64 a2_1] 28 (0, 0)) (by (with_reducible repeat (first | refine b1 ?_ _ | refine b2 ?_ | refine b3 ?_ _)); exact BK195.out) hb)
        have n3_ := am (b5 (g := gb212) (o := .cells #[.int .i64 0, .int .i64 0] 28 (0, 0)) (by (with_reducible repeat (first | refine b1 ?_ _ | refine b2 ?_ | refine b3 ?_ _)); exact BK212.out) hb)
        have n4_ := am (b5 (g := gb213) (o := .cells #[.int .i64 0, .int .i64 0] 28 (0, 0)) (by (with_reducible repeat (first | refine b1 ?_ _ | refine b2 ?_ | refine b3 ?_ _)); exact BK213.out) hb)
        have n5_ := am (below_step (by repeat (first | (with_reducible first | exact HB.out | apply c1 | apply c2 | apply c3 | refine c4 ?_ GE193.out | refine c4 ?_ GE194.out | refine c4 ?_ GE195.out | refine c4 ?_ GE212.out | refine c4 ?_ GE213.out) | exact HB.out)) hb)
        clear BK193
        clear BK194
        clear BK195
        clear BK212
        clear BK213
        clear HB
        have BK193 := n0_
        have BK194 := n1_
        have BK195 := n2_
        have BK212 := n3_
        have BK213 := n4_
        have HB := n5_
        clear n0_ n1_ n2_ n3_ n4_ n5_
        (try clear hb)
        (try clear hb2)
        (try clear hk)
        (try clear hi)
        refine hK.out _ _ ⟨(b4 BK193.out 0).trans rfl, (b4 BK193.out 1).trans rfl, (b4 BK194.out 0).trans rfl, (b4 BK194.out 1).trans rfl⟩ (fun hHeld => ?_)
        clear hK K
        refine norm_ (a' := ?_) ?_ ?_
        rotate_left
        ·
         show Act.put _ (some 46) _ = _
         simp only [Act.put, List.setIfInBounds_toArray, List.set_cons_zero, List.set_cons_succ, i64_w, i32_w]
         rfl
        exact norm_ (by first | (simp only [putAll, Act.put, List.setIfInBounds_toArray, List.set_cons_zero, List.set_cons_succ]; done) | (simp only [putAll, Act.put, List.setIfInBounds_toArray, List.set_cons_zero, List.set_cons_succ]; rfl)) (hJ2_6_7 (gb212, gb213) _ ⟨hHeld, (by (with_reducible repeat (first | refine b1 ?_ _ | refine b2 ?_ | refine b3 ?_ _)); exact BK193.out), (by (with_reducible repeat (first | refine b1 ?_ _ | refine b2 ?_ | refine b3 ?_ _)); exact BK194.out), (by (with_reducible repeat (first | refine b1 ?_ _ | refine b2 ?_ | refine b3 ?_ _)); exact BK195.out), (by (with_reducible repeat (first | refine b1 ?_ _ | refine b2 ?_ | refine b3 ?_ _)); exact BK212.out), (by (with_reducible repeat (first | refine b1 ?_ _ | refine b2 ?_ | refine b3 ?_ _)); exact BK213.out), GW212.out, GE212.out, NB193_212.out, NB212_193.out, NB194_212.out, NB212_194.out, NB195_212.out, NB212_195.out, NB213_212.out, NB212_213.out, GW213.out, GE213.out, NB193_213.out, NB213_193.out, NB194_213.out, NB213_194.out, NB195_213.out, NB213_195.out, (by repeat (first | (with_reducible first | exact HB.out | apply c1 | apply c2 | apply c3 | refine c4 ?_ GE193.out | refine c4 ?_ GE194.out | refine c4 ?_ GE195.out | refine c4 ?_ GE212.out | refine c4 ?_ GE213.out) | exact HB.out))⟩)
      ·
       skip
       rintro gb213 w198 ⟨hS_, h0_, h1_, h2_, h3_, h4_, h5_, h6_, h7_, h8_, h9_, h10_, h11_, h12_⟩
       have n0_ : Aside0 (w198.heap[gb193]? = some (.cells #[.int .i64 a0_0, .int .i64 a0_1] 28 (0, 0))) := ⟨h0_⟩
       have n1_ : Aside0 (w198.heap[gb194]? = some (.cells #[.int .i64 a1_0, .int .i64 a1_1] 28 (0, 0))) := ⟨h1_⟩
       have n2_ : Aside0 (w198.heap[gb195]? = some (.cells #[.int .i64 a2_0, .int .i64 a2_1] 28 (0, 0))) := ⟨h2_⟩
       have n3_ : Aside0 (w198.heap[gb213]? = some (.cells #[.int .i64 0, .int .i64 0] 28 (0, 0))) := ⟨h3_⟩
       have n4_ : Aside0 (w.heap.size ≤ gb213) := ⟨h4_⟩
       have n5_ : Aside0 (w.heap.size ≤ gb213) := ⟨h5_⟩
       have n6_ : Aside0 (gb193 ≠ gb213) := ⟨h6_⟩
       have n7_ : Aside0 (gb213 ≠ gb193) := ⟨h7_⟩
       have n8_ : Aside0 (gb194 ≠ gb213) := ⟨h8_⟩
       have n9_ : Aside0 (gb213 ≠ gb194) := ⟨h9_⟩
       have n10_ : Aside0 (gb195 ≠ gb213) := ⟨h10_⟩
       have n11_ : Aside0 (gb213 ≠ gb195) := ⟨h11_⟩
       have n12_ : Aside0 (Below w.heap.size w w198) := ⟨h12_⟩
       clear BK193
       clear BK194
       clear BK195
       clear HB
       clear h0_ h1_ h2_ h3_ h4_ h5_ h6_ h7_ h8_ h9_ h10_ h11_ h12_
       have BK193 := n0_
       have BK194 := n1_
       have BK195 := n2_
       have BK213 := n3_
       have GW213 := n4_
       have GE213 := n5_
       have NB193_213 := n6_
       have NB213_193 := n7_
       have NB194_213 := n8_
       have NB213_194 := n9_
       have NB195_213 := n10_
       have NB213_195 := n11_
       have HB := n12_
       clear n0_ n1_ n2_ n3_ n4_ n5_ n6_ n7_ n8_ n9_ n10_ n11_ n12_
       have hHeld : w198.cell? ⟨gb193, 0, none⟩ = some (.int .i64 a0_0) ∧ w198.cell? ⟨gb193, 1, none⟩ = some (.int .i64 a0_1) ∧ w198.cell? ⟨gb194, 0, none⟩ = some (.int .i64 a1_0) ∧ w198.cell? ⟨gb194, 1, none⟩ = some (.int .i64 a1_1) := hS_
       refine norm_ (a' := ?_) ?_ ?_
       rotate_left
       ·
        simp only [putAll, Act.put, List.setIfInBounds_toArray, List.set_cons_zero, List.set_cons_succ]
        rfl
       refine two_ (i := 5) (j := 6) (Ni := some 49) (Nj := some 7) #[true, true, true, true, true, true, false, true, false, false] #[true, true, true, true, true, false, true, true, false, false] rfl rfl rfl rfl (two_of HT_.out (by kernel_rfl)) (by decide) (by decide) (fun K hK => ?_) (fun K hK => ?_)
       ·
        skip
        refine goes_ Try.func15 (by kernel_rfl) rfl #[.agg #[.int .i64 a0_0, .int .i64 a0_1], .agg #[.int .i64 a1_0, .int .i64 a1_1]] (by rfl) rfl rfl (by (try simp only [List.map_toArray, List.map_cons, List.map_nil]); first | done | rfl | (simp only [List.length_drop, List.length_take]; rfl)) ?_
        with_reducible refine (moment_Meet.calls a0_0 a0_1 a1_0 a1_1 t210 t211 _ A193.out).mono ?_
        rintro e w199 ⟨rfl, hb⟩
        refine ⟨_, rfl, ?_⟩
        have n0_ := am (b5 (g := gb193) (o := .cells #[.int .i64 a0_0, .int .i64 a0_1] 28 (0, 0)) (by (with_reducible repeat (first | refine b1 ?_ _ | refine b2 ?_ | refine b3 ?_ _)); exact BK193.out) hb)
        have n1_ := am (b5 (g := gb194) (o := .cells #[.int .i64 a1_0, .int .i64 a1_1] 28 (0, 0)) (by (with_reducible repeat (first | refine b1 ?_ _ | refine b2 ?_ | refine b3 ?_ _)); exact BK194.out) hb)
        have n2_ := am (b5 (g := gb195) (o := .cells #[.int .i64 a2_0, .int .i64 a2_1] 28 (0, 0)) (by (with_reducible repeat (first | refine b1 ?_ _ | refine b2 ?_ | refine b3 ?_ _)); exact BK195.out) hb)
        have n3_ := am (b5 (g := gb213) (o := .cells #[.int .i64 0, .int .i64 0] 28 (0, 0)) (by (with_reducible repeat (first | refine b1 ?_ _ | refine b2 ?_ | refine b3 ?_ _)); exact BK213.out) hb)
        have n4_ := am (below_step (by repeat (first | (with_reducible first | exact HB.out | apply c1 | apply c2 | apply c3 | refine c4 ?_ GE193.out | refine c4 ?_ GE194.out | refine c4 ?_ GE195.out | refine c4 ?_ GE213.out) | exact HB.out)) hb)
        clear BK193
        clear BK194
        clear BK195
        clear BK213
        clear HB
        have BK193 := n0_
        have BK194 := n1_
        have BK195 := n2_
        have BK213 := n3_
        have HB := n4_
        clear n0_ n1_ n2_ n3_ n4_
        (try clear hb)
        (try clear hb2)
        (try clear hk)
        (try clear hi)
        refine hK.out _ _ ⟨(b4 BK193.out 0).trans rfl, (b4 BK193.out 1).trans rfl, (b4 BK194.out 0).trans rfl, (b4 BK194.out 1).trans rfl⟩ (fun hHeld => ?_)
        clear hK K
        refine norm_ (a' := ?_) ?_ ?_
        rotate_left
        ·
         show Act.put _ (some 49) _ = _
         simp only [Act.put, List.setIfInBounds_toArray, List.set_cons_zero, List.set_cons_succ, i64_w, i32_w]
         rfl
        exact norm_ (by first | (simp only [putAll, Act.put, List.setIfInBounds_toArray, List.set_cons_zero, List.set_cons_succ]; done) | (simp only [putAll, Act.put, List.setIfInBounds_toArray, List.set_cons_zero, List.set_cons_succ]; rfl)) (hJ2_5_7 (gb213) _ ⟨hHeld, (by (with_reducible repeat (first | refine b1 ?_ _ | refine b2 ?_ | refine b3 ?_ _)); exact BK193.out), (by (with_reducible repeat (first | refine b1 ?_ _ | refine b2 ?_ | refine b3 ?_ _)); exact BK194.out), (by (with_reducible repeat (first | refine b1 ?_ _ | refine b2 ?_ | refine b3 ?_ _)); exact BK195.out), (by (with_reducible repeat (first | refine b1 ?_ _ | refine b2 ?_ | refine b3 ?_ _)); exact BK213.out), GW213.out, GE213.out, NB193_213.out, NB213_193.out, NB194_213.out, NB213_194.out, NB195_213.out, NB213_195.out, (by repeat (first | (with_reducible first | exact HB.out | apply c1 | apply c2 | apply c3 | refine c4 ?_ GE193.out | refine c4 ?_ GE194.out | refine c4 ?_ GE195.out | refine c4 ?_ GE213.out) | exact HB.out))⟩)
       ·
        skip
        refine box_step ?hg (N := 7) ?hd (cs := #[.int .i64 0, .int .i64 0]) (t := 28) ?hr ?_; (case hd => rfl); (case hg => rfl); (case hr => first | (go_simp; done) | (go_simp; rfl))
        intro gb212 hg w199 hbox hb
        have n0_ := am (b5 (g := gb193) (o := .cells #[.int .i64 a0_0, .int .i64 a0_1] 28 (0, 0)) (by (with_reducible repeat (first | refine b1 ?_ _ | refine b2 ?_ | refine b3 ?_ _)); exact BK193.out) hb)
        have n1_ := am (b5 (g := gb194) (o := .cells #[.int .i64 a1_0, .int .i64 a1_1] 28 (0, 0)) (by (with_reducible repeat (first | refine b1 ?_ _ | refine b2 ?_ | refine b3 ?_ _)); exact BK194.out) hb)
        have n2_ := am (b5 (g := gb195) (o := .cells #[.int .i64 a2_0, .int .i64 a2_1] 28 (0, 0)) (by (with_reducible repeat (first | refine b1 ?_ _ | refine b2 ?_ | refine b3 ?_ _)); exact BK195.out) hb)
        have n3_ := am (b5 (g := gb213) (o := .cells #[.int .i64 0, .int .i64 0] 28 (0, 0)) (by (with_reducible repeat (first | refine b1 ?_ _ | refine b2 ?_ | refine b3 ?_ _)); exact BK213.out) hb)
        have n4_ := am (below_step (by repeat (first | (with_reducible first | exact HB.out | apply c1 | apply c2 | apply c3 | refine c4 ?_ GE193.out | refine c4 ?_ GE194.out | refine c4 ?_ GE195.out | refine c4 ?_ GE213.out) | exact HB.out)) hb)
        have n5_ := am (hbox)
        have n6_ := am ((by rw [hg]; exact (below_size (by repeat (first | (with_reducible first | exact HB.out | apply c1 | apply c2 | apply c3 | refine c4 ?_ GE193.out | refine c4 ?_ GE194.out | refine c4 ?_ GE195.out | refine c4 ?_ GE213.out) | exact HB.out))) : w.heap.size ≤ gb212))
        have n7_ := am ((by rw [hg]; exact (below_size (by repeat (first | (with_reducible first | exact HB.out | apply c1 | apply c2 | apply c3 | refine c4 ?_ GE193.out | refine c4 ?_ GE194.out | refine c4 ?_ GE195.out | refine c4 ?_ GE213.out) | exact HB.out))) : w.heap.size ≤ gb212))
        have n8_ := am ((by rw [hg]; exact Nat.ne_of_lt (blk_lt (g := gb193) (o := .cells #[.int .i64 a0_0, .int .i64 a0_1] 28 (0, 0)) (by (with_reducible repeat (first | refine b1 ?_ _ | refine b2 ?_ | refine b3 ?_ _)); exact BK193.out)) : gb193 ≠ gb212))
        have n9_ := am ((by rw [hg]; exact Nat.ne_of_gt (blk_lt (g := gb193) (o := .cells #[.int .i64 a0_0, .int .i64 a0_1] 28 (0, 0)) (by (with_reducible repeat (first | refine b1 ?_ _ | refine b2 ?_ | refine b3 ?_ _)); exact BK193.out)) : gb212 ≠ gb193))
        have n10_ := am ((by rw [hg]; exact Nat.ne_of_lt (blk_lt (g := gb194) (o := .cells #[.int .i64 a1_0, .int .i64 a1_1] 28 (0, 0)) (by (with_reducible repeat (first | refine b1 ?_ _ | refine b2 ?_ | refine b3 ?_ _)); exact BK194.out)) : gb194 ≠ gb212))
        have n11_ := am ((by rw [hg]; exact Nat.ne_of_gt (blk_lt (g := gb194) (o := .cells #[.int .i64 a1_0, .int .i64 a1_1] 28 (0, 0)) (by (with_reducible repeat (first | refine b1 ?_ _ | refine b2 ?_ | refine b3 ?_ _)); exact BK194.out)) : gb212 ≠ gb194))
        have n12_ := am ((by rw [hg]; exact Nat.ne_of_lt (blk_lt (g := gb195) (o := .cells #[.int .i64 a2_0, .int .i64 a2_1] 28 (0, 0)) (by (with_reducible repeat (first | refine b1 ?_ _ | refine b2 ?_ | refine b3 ?_ _)); exact BK195.out)) : gb195 ≠ gb212))
        have n13_ := am ((by rw [hg]; exact Nat.ne_of_gt (blk_lt (g := gb195) (o := .cells #[.int .i64 a2_0, .int .i64 a2_1] 28 (0, 0)) (by (with_reducible repeat (first | refine b1 ?_ _ | refine b2 ?_ | refine b3 ?_ _)); exact BK195.out)) : gb212 ≠ gb195))
        have n14_ := am ((by rw [hg]; exact Nat.ne_of_lt (blk_lt (g := gb213) (o := .cells #[.int .i64 0, .int .i64 0] 28 (0, 0)) (by (with_reducible repeat (first | refine b1 ?_ _ | refine b2 ?_ | refine b3 ?_ _)); exact BK213.out)) : gb213 ≠ gb212))
        have n15_ := am ((by rw [hg]; exact Nat.ne_of_gt (blk_lt (g := gb213) (o := .cells #[.int .i64 0, .int .i64 0] 28 (0, 0)) (by (with_reducible repeat (first | refine b1 ?_ _ | refine b2 ?_ | refine b3 ?_ _)); exact BK213.out)) : gb212 ≠ gb213))
        clear BK193
        clear BK194
        clear BK195
        clear BK213
        clear HB
        have BK193 := n0_
        have BK194 := n1_
        have BK195 := n2_
        have BK213 := n3_
        have HB := n4_
        have BK212 := n5_
        have GW212 := n6_
        have GE212 := n7_
        have NB193_212 := n8_
        have NB212_193 := n9_
        have NB194_212 := n10_
        have NB212_194 := n11_
        have NB195_212 := n12_
        have NB212_195 := n13_
        have NB213_212 := n14_
        have NB212_213 := n15_
        clear n0_ n1_ n2_ n3_ n4_ n5_ n6_ n7_ n8_ n9_ n10_ n11_ n12_ n13_ n14_ n15_
        clear hb hbox hg
        refine hK.out _ _ ⟨(b4 BK193.out 0).trans rfl, (b4 BK193.out 1).trans rfl, (b4 BK194.out 0).trans rfl, (b4 BK194.out 1).trans rfl⟩ (fun hHeld => ?_)
        clear hK K
        refine norm_ (a' := ?_) ?_ ?_
        rotate_left
        ·
         show Act.put _ (some 7) _ = _
         simp only [Act.put, List.setIfInBounds_toArray, List.set_cons_zero, List.set_cons_succ, i64_w, i32_w]
         rfl
        exact norm_ (by first | (simp only [putAll, Act.put, List.setIfInBounds_toArray, List.set_cons_zero, List.set_cons_succ]; done) | (simp only [putAll, Act.put, List.setIfInBounds_toArray, List.set_cons_zero, List.set_cons_succ]; rfl)) (hJ2_6_7 (gb212, gb213) _ ⟨hHeld, (by (with_reducible repeat (first | refine b1 ?_ _ | refine b2 ?_ | refine b3 ?_ _)); exact BK193.out), (by (with_reducible repeat (first | refine b1 ?_ _ | refine b2 ?_ | refine b3 ?_ _)); exact BK194.out), (by (with_reducible repeat (first | refine b1 ?_ _ | refine b2 ?_ | refine b3 ?_ _)); exact BK195.out), (by (with_reducible repeat (first | refine b1 ?_ _ | refine b2 ?_ | refine b3 ?_ _)); exact BK212.out), (by (with_reducible repeat (first | refine b1 ?_ _ | refine b2 ?_ | refine b3 ?_ _)); exact BK213.out), GW212.out, GE212.out, NB193_212.out, NB212_193.out, NB194_212.out, NB212_194.out, NB195_212.out, NB212_195.out, NB213_212.out, NB212_213.out, GW213.out, GE213.out, NB193_213.out, NB213_193.out, NB194_213.out, NB213_194.out, NB195_213.out, NB213_195.out, (by repeat (first | (with_reducible first | exact HB.out | apply c1 | apply c2 | apply c3 | refine c4 ?_ GE193.out | refine c4 ?_ GE194.out | refine c4 ?_ GE195.out | refine c4 ?_ GE213.out | refine c4 ?_ GE212.out) | exact HB.out))⟩)
     ·
      skip
      rintro gb212 w198 ⟨hS_, h0_, h1_, h2_, h3_, h4_, h5_, h6_, h7_, h8_, h9_, h10_, h11_, h12_⟩
      have n0_ : Aside0 (w198.heap[gb193]? = some (.cells #[.int .i64 a0_0, .int .i64 a0_1] 28 (0, 0))) := ⟨h0_⟩
      have n1_ : Aside0 (w198.heap[gb194]? = some (.cells #[.int .i64 a1_0, .int .i64 a1_1] 28 (0, 0))) := ⟨h1_⟩
      have n2_ : Aside0 (w198.heap[gb195]? = some (.cells #[.int .i64 a2_0, .int .i64 a2_1] 28 (0, 0))) := ⟨h2_⟩
      have n3_ : Aside0 (w198.heap[gb212]? = some (.cells #[.int .i64 0, .int .i64 0] 28 (0, 0))) := ⟨h3_⟩
      have n4_ : Aside0 (w.heap.size ≤ gb212) := ⟨h4_⟩
      have n5_ : Aside0 (w.heap.size ≤ gb212) := ⟨h5_⟩
      have n6_ : Aside0 (gb193 ≠ gb212) := ⟨h6_⟩
      have n7_ : Aside0 (gb212 ≠ gb193) := ⟨h7_⟩
      have n8_ : Aside0 (gb194 ≠ gb212) := ⟨h8_⟩
      have n9_ : Aside0 (gb212 ≠ gb194) := ⟨h9_⟩
      have n10_ : Aside0 (gb195 ≠ gb212) := ⟨h10_⟩
      have n11_ : Aside0 (gb212 ≠ gb195) := ⟨h11_⟩
      have n12_ : Aside0 (Below w.heap.size w w198) := ⟨h12_⟩
      clear BK193
      clear BK194
      clear BK195
      clear HB
      clear h0_ h1_ h2_ h3_ h4_ h5_ h6_ h7_ h8_ h9_ h10_ h11_ h12_
      have BK193 := n0_
      have BK194 := n1_
      have BK195 := n2_
      have BK212 := n3_
      have GW212 := n4_
      have GE212 := n5_
      have NB193_212 := n6_
      have NB212_193 := n7_
      have NB194_212 := n8_
      have NB212_194 := n9_
      have NB195_212 := n10_
      have NB212_195 := n11_
      have HB := n12_
      clear n0_ n1_ n2_ n3_ n4_ n5_ n6_ n7_ n8_ n9_ n10_ n11_ n12_
      have hHeld : w198.cell? ⟨gb193, 0, none⟩ = some (.int .i64 a0_0) ∧ w198.cell? ⟨gb193, 1, none⟩ = some (.int .i64 a0_1) ∧ w198.cell? ⟨gb194, 0, none⟩ = some (.int .i64 a1_0) ∧ w198.cell? ⟨gb194, 1, none⟩ = some (.int .i64 a1_1) := hS_
      refine norm_ (a' := ?_) ?_ ?_
      rotate_left
      ·
       simp only [putAll, Act.put, List.setIfInBounds_toArray, List.set_cons_zero, List.set_cons_succ]
       rfl
      refine two_ (i := 5) (j := 7) (Ni := some 49) (Nj := some 8) #[true, true, true, true, true, true, true, false, false, false] #[true, true, true, true, true, false, true, true, false, false] rfl rfl rfl rfl (two_of HT_.out (by kernel_rfl)) (by decide) (by decide) (fun K hK => ?_) (fun K hK => ?_)
      ·
       skip
       refine goes_ Try.func15 (by kernel_rfl) rfl #[.agg #[.int .i64 a0_0, .int .i64 a0_1], .agg #[.int .i64 a1_0, .int .i64 a1_1]] (by rfl) rfl rfl (by (try simp only [List.map_toArray, List.map_cons, List.map_nil]); first | done | rfl | (simp only [List.length_drop, List.length_take]; rfl)) ?_
       with_reducible refine (moment_Meet.calls a0_0 a0_1 a1_0 a1_1 t210 t211 _ A193.out).mono ?_
       rintro e w199 ⟨rfl, hb⟩
       refine ⟨_, rfl, ?_⟩
       have n0_ := am (b5 (g := gb193) (o := .cells #[.int .i64 a0_0, .int .i64 a0_1] 28 (0, 0)) (by (with_reducible repeat (first | refine b1 ?_ _ | refine b2 ?_ | refine b3 ?_ _)); exact BK193.out) hb)
       have n1_ := am (b5 (g := gb194) (o := .cells #[.int .i64 a1_0, .int .i64 a1_1] 28 (0, 0)) (by (with_reducible repeat (first | refine b1 ?_ _ | refine b2 ?_ | refine b3 ?_ _)); exact BK194.out) hb)
       have n2_ := am (b5 (g := gb195) (o := .cells #[.int .i64 a2_0, .int .i64 a2_1] 28 (0, 0)) (by (with_reducible repeat (first | refine b1 ?_ _ | refine b2 ?_ | refine b3 ?_ _)); exact BK195.out) hb)
       have n3_ := am (b5 (g := gb212) (o := .cells #[.int .i64 0, .int .i64 0] 28 (0, 0)) (by (with_reducible repeat (first | refine b1 ?_ _ | refine b2 ?_ | refine b3 ?_ _)); exact BK212.out) hb)
       have n4_ := am (below_step (by repeat (first | (with_reducible first | exact HB.out | apply c1 | apply c2 | apply c3 | refine c4 ?_ GE193.out | refine c4 ?_ GE194.out | refine c4 ?_ GE195.out | refine c4 ?_ GE212.out) | exact HB.out)) hb)
       clear BK193
       clear BK194
       clear BK195
       clear BK212
       clear HB
       have BK193 := n0_
       have BK194 := n1_
       have BK195 := n2_
       have BK212 := n3_
       have HB := n4_
       clear n0_ n1_ n2_ n3_ n4_
       (try clear hb)
       (try clear hb2)
       (try clear hk)
       (try clear hi)
       refine hK.out _ _ ⟨(b4 BK193.out 0).trans rfl, (b4 BK193.out 1).trans rfl, (b4 BK194.out 0).trans rfl, (b4 BK194.out 1).trans rfl⟩ (fun hHeld => ?_)
       clear hK K
       refine norm_ (a' := ?_) ?_ ?_
       rotate_left
       ·
        show Act.put _ (some 49) _ = _
        simp only [Act.put, List.setIfInBounds_toArray, List.set_cons_zero, List.set_cons_succ, i64_w, i32_w]
        rfl
       exact norm_ (by first | (simp only [putAll, Act.put, List.setIfInBounds_toArray, List.set_cons_zero, List.set_cons_succ]; done) | (simp only [putAll, Act.put, List.setIfInBounds_toArray, List.set_cons_zero, List.set_cons_succ]; rfl)) (hJ2_5_6 (gb212) _ ⟨hHeld, (by (with_reducible repeat (first | refine b1 ?_ _ | refine b2 ?_ | refine b3 ?_ _)); exact BK193.out), (by (with_reducible repeat (first | refine b1 ?_ _ | refine b2 ?_ | refine b3 ?_ _)); exact BK194.out), (by (with_reducible repeat (first | refine b1 ?_ _ | refine b2 ?_ | refine b3 ?_ _)); exact BK195.out), (by (with_reducible repeat (first | refine b1 ?_ _ | refine b2 ?_ | refine b3 ?_ _)); exact BK212.out), GW212.out, GE212.out, NB193_212.out, NB212_193.out, NB194_212.out, NB212_194.out, NB195_212.out, NB212_195.out, (by repeat (first | (with_reducible first | exact HB.out | apply c1 | apply c2 | apply c3 | refine c4 ?_ GE193.out | refine c4 ?_ GE194.out | refine c4 ?_ GE195.out | refine c4 ?_ GE212.out) | exact HB.out))⟩)
      ·
       skip
       refine box_step ?hg (N := 8) ?hd (cs := #[.int .i64 0, .int .i64 0]) (t := 28) ?hr ?_; (case hd => rfl); (case hg => rfl); (case hr => first | (go_simp; done) | (go_simp; rfl))
       intro gb213 hg w199 hbox hb
       have n0_ := am (b5 (g := gb193) (o := .cells #[.int .i64 a0_0, .int .i64 a0_1] 28 (0, 0)) (by (with_reducible repeat (first | refine b1 ?_ _ | refine b2 ?_ | refine b3 ?_ _)); exact BK193.out) hb)
       have n1_ := am (b5 (g := gb194) (o := .cells #[.int .i64 a1_0, .int .i64 a1_1] 28 (0, 0)) (by (with_reducible repeat (first | refine b1 ?_ _ | refine b2 ?_ | refine b3 ?_ _)); exact BK194.out) hb)
       have n2_ := am (b5 (g := gb195) (o := .cells #[.int .i64 a2_0, .int .i64 a2_1] 28 (0, 0)) (by (with_reducible repeat (first | refine b1 ?_ _ | refine b2 ?_ | refine b3 ?_ _)); exact BK195.out) hb)
       have n3_ := am (b5 (g := gb212) (o := .cells #[.int .i64 0, .int .i64 0] 28 (0, 0)) (by (with_reducible repeat (first | refine b1 ?_ _ | refine b2 ?_ | refine b3 ?_ _)); exact BK212.out) hb)
       have n4_ := am (below_step (by repeat (first | (with_reducible first | exact HB.out | apply c1 | apply c2 | apply c3 | refine c4 ?_ GE193.out | refine c4 ?_ GE194.out | refine c4 ?_ GE195.out | refine c4 ?_ GE212.out) | exact HB.out)) hb)
       have n5_ := am (hbox)
       have n6_ := am ((by rw [hg]; exact (below_size (by repeat (first | (with_reducible first | exact HB.out | apply c1 | apply c2 | apply c3 | refine c4 ?_ GE193.out | refine c4 ?_ GE194.out | refine c4 ?_ GE195.out | refine c4 ?_ GE212.out) | exact HB.out))) : w.heap.size ≤ gb213))
       have n7_ := am ((by rw [hg]; exact (below_size (by repeat (first | (with_reducible first | exact HB.out | apply c1 | apply c2 | apply c3 | refine c4 ?_ GE193.out | refine c4 ?_ GE194.out | refine c4 ?_ GE195.out | refine c4 ?_ GE212.out) | exact HB.out))) : w.heap.size ≤ gb213))
       have n8_ := am ((by rw [hg]; exact Nat.ne_of_lt (blk_lt (g := gb193) (o := .cells #[.int .i64 a0_0, .int .i64 a0_1] 28 (0, 0)) (by (with_reducible repeat (first | refine b1 ?_ _ | refine b2 ?_ | refine b3 ?_ _)); exact BK193.out)) : gb193 ≠ gb213))
       have n9_ := am ((by rw [hg]; exact Nat.ne_of_gt (blk_lt (g := gb193) (o := .cells #[.int .i64 a0_0, .int .i64 a0_1] 28 (0, 0)) (by (with_reducible repeat (first | refine b1 ?_ _ | refine b2 ?_ | refine b3 ?_ _)); exact BK193.out)) : gb213 ≠ gb193))
       have n10_ := am ((by rw [hg]; exact Nat.ne_of_lt (blk_lt (g := gb194) (o := .cells #[.int .i64 a1_0, .int .i64 a1_1] 28 (0, 0)) (by (with_reducible repeat (first | refine b1 ?_ _ | refine b2 ?_ | refine b3 ?_ _)); exact BK194.out)) : gb194 ≠ gb213))
       have n11_ := am ((by rw [hg]; exact Nat.ne_of_gt (blk_lt (g := gb194) (o := .cells #[.int .i64 a1_0, .int .i64 a1_1] 28 (0, 0)) (by (with_reducible repeat (first | refine b1 ?_ _ | refine b2 ?_ | refine b3 ?_ _)); exact BK194.out)) : gb213 ≠ gb194))
       have n12_ := am ((by rw [hg]; exact Nat.ne_of_lt (blk_lt (g := gb195) (o := .cells #[.int .i64 a2_0, .int .i64 a2_1] 28 (0, 0)) (by (with_reducible repeat (first | refine b1 ?_ _ | refine b2 ?_ | refine b3 ?_ _)); exact BK195.out)) : gb195 ≠ gb213))
       have n13_ := am ((by rw [hg]; exact Nat.ne_of_gt (blk_lt (g := gb195) (o := .cells #[.int .i64 a2_0, .int .i64 a2_1] 28 (0, 0)) (by (with_reducible repeat (first | refine b1 ?_ _ | refine b2 ?_ | refine b3 ?_ _)); exact BK195.out)) : gb213 ≠ gb195))
       have n14_ := am ((by rw [hg]; exact Nat.ne_of_lt (blk_lt (g := gb212) (o := .cells #[.int .i64 0, .int .i64 0] 28 (0, 0)) (by (with_reducible repeat (first | refine b1 ?_ _ | refine b2 ?_ | refine b3 ?_ _)); exact BK212.out)) : gb212 ≠ gb213))
       have n15_ := am ((by rw [hg]; exact Nat.ne_of_gt (blk_lt (g := gb212) (o := .cells #[.int .i64 0, .int .i64 0] 28 (0, 0)) (by (with_reducible repeat (first | refine b1 ?_ _ | refine b2 ?_ | refine b3 ?_ _)); exact BK212.out)) : gb213 ≠ gb212))
       clear BK193
       clear BK194
       clear BK195
       clear BK212
       clear HB
       have BK193 := n0_
       have BK194 := n1_
       have BK195 := n2_
       have BK212 := n3_
       have HB := n4_
       have BK213 := n5_
       have GW213 := n6_
       have GE213 := n7_
       have NB193_213 := n8_
       have NB213_193 := n9_
       have NB194_213 := n10_
       have NB213_194 := n11_
       have NB195_213 := n12_
       have NB213_195 := n13_
       have NB212_213 := n14_
       have NB213_212 := n15_
       clear n0_ n1_ n2_ n3_ n4_ n5_ n6_ n7_ n8_ n9_ n10_ n11_ n12_ n13_ n14_ n15_
       clear hb hbox hg
       refine hK.out _ _ ⟨(b4 BK193.out 0).trans rfl, (b4 BK193.out 1).trans rfl, (b4 BK194.out 0).trans rfl, (b4 BK194.out 1).trans rfl⟩ (fun hHeld => ?_)
       clear hK K
       refine norm_ (a' := ?_) ?_ ?_
       rotate_left
       ·
        show Act.put _ (some 8) _ = _
        simp only [Act.put, List.setIfInBounds_toArray, List.set_cons_zero, List.set_cons_succ, i64_w, i32_w]
        rfl
       exact norm_ (by first | (simp only [putAll, Act.put, List.setIfInBounds_toArray, List.set_cons_zero, List.set_cons_succ]; done) | (simp only [putAll, Act.put, List.setIfInBounds_toArray, List.set_cons_zero, List.set_cons_succ]; rfl)) (hJ2_6_7 (gb212, gb213) _ ⟨hHeld, (by (with_reducible repeat (first | refine b1 ?_ _ | refine b2 ?_ | refine b3 ?_ _)); exact BK193.out), (by (with_reducible repeat (first | refine b1 ?_ _ | refine b2 ?_ | refine b3 ?_ _)); exact BK194.out), (by (with_reducible repeat (first | refine b1 ?_ _ | refine b2 ?_ | refine b3 ?_ _)); exact BK195.out), (by (with_reducible repeat (first | refine b1 ?_ _ | refine b2 ?_ | refine b3 ?_ _)); exact BK212.out), (by (with_reducible repeat (first | refine b1 ?_ _ | refine b2 ?_ | refine b3 ?_ _)); exact BK213.out), GW212.out, GE212.out, NB193_212.out, NB212_193.out, NB194_212.out, NB212_194.out, NB195_212.out, NB212_195.out, NB213_212.out, NB212_213.out, GW213.out, GE213.out, NB193_213.out, NB213_193.out, NB194_213.out, NB213_194.out, NB195_213.out, NB213_195.out, (by repeat (first | (with_reducible first | exact HB.out | apply c1 | apply c2 | apply c3 | refine c4 ?_ GE193.out | refine c4 ?_ GE194.out | refine c4 ?_ GE195.out | refine c4 ?_ GE212.out | refine c4 ?_ GE213.out) | exact HB.out))⟩)
    ·
     skip
     rintro _ w198 ⟨hS_, h0_, h1_, h2_, h3_⟩
     have n0_ : Aside0 (w198.heap[gb193]? = some (.cells #[.int .i64 a0_0, .int .i64 a0_1] 28 (0, 0))) := ⟨h0_⟩
     have n1_ : Aside0 (w198.heap[gb194]? = some (.cells #[.int .i64 a1_0, .int .i64 a1_1] 28 (0, 0))) := ⟨h1_⟩
     have n2_ : Aside0 (w198.heap[gb195]? = some (.cells #[.int .i64 a2_0, .int .i64 a2_1] 28 (0, 0))) := ⟨h2_⟩
     have n3_ : Aside0 (Below w.heap.size w w198) := ⟨h3_⟩
     clear BK193
     clear BK194
     clear BK195
     clear HB
     clear h0_ h1_ h2_ h3_
     have BK193 := n0_
     have BK194 := n1_
     have BK195 := n2_
     have HB := n3_
     clear n0_ n1_ n2_ n3_
     have hHeld : w198.cell? ⟨gb193, 0, none⟩ = some (.int .i64 a0_0) ∧ w198.cell? ⟨gb193, 1, none⟩ = some (.int .i64 a0_1) ∧ w198.cell? ⟨gb194, 0, none⟩ = some (.int .i64 a1_0) ∧ w198.cell? ⟨gb194, 1, none⟩ = some (.int .i64 a1_1) := hS_
     refine norm_ (a' := ?_) ?_ ?_
     rotate_left
     ·
      simp only [putAll, Act.put, List.setIfInBounds_toArray, List.set_cons_zero, List.set_cons_succ]
      rfl
     refine two_ (i := 6) (j := 7) (Ni := some 7) (Nj := some 8) #[true, true, true, true, true, true, true, false, false, false] #[true, true, true, true, true, true, false, true, false, false] rfl rfl rfl rfl (two_of HT_.out (by kernel_rfl)) (by decide) (by decide) (fun K hK => ?_) (fun K hK => ?_)
     ·
      skip
      refine box_step ?hg (N := 7) ?hd (cs := #[.int .i64 0, .int .i64 0]) (t := 28) ?hr ?_; (case hd => rfl); (case hg => rfl); (case hr => first | (go_simp; done) | (go_simp; rfl))
      intro gb212 hg w199 hbox hb
      have n0_ := am (b5 (g := gb193) (o := .cells #[.int .i64 a0_0, .int .i64 a0_1] 28 (0, 0)) (by (with_reducible repeat (first | refine b1 ?_ _ | refine b2 ?_ | refine b3 ?_ _)); exact BK193.out) hb)
      have n1_ := am (b5 (g := gb194) (o := .cells #[.int .i64 a1_0, .int .i64 a1_1] 28 (0, 0)) (by (with_reducible repeat (first | refine b1 ?_ _ | refine b2 ?_ | refine b3 ?_ _)); exact BK194.out) hb)
      have n2_ := am (b5 (g := gb195) (o := .cells #[.int .i64 a2_0, .int .i64 a2_1] 28 (0, 0)) (by (with_reducible repeat (first | refine b1 ?_ _ | refine b2 ?_ | refine b3 ?_ _)); exact BK195.out) hb)
      have n3_ := am (below_step (by repeat (first | (with_reducible first | exact HB.out | apply c1 | apply c2 | apply c3 | refine c4 ?_ GE193.out | refine c4 ?_ GE194.out | refine c4 ?_ GE195.out) | exact HB.out)) hb)
      have n4_ := am (hbox)
      have n5_ := am ((by rw [hg]; exact (below_size (by repeat (first | (with_reducible first | exact HB.out | apply c1 | apply c2 | apply c3 | refine c4 ?_ GE193.out | refine c4 ?_ GE194.out | refine c4 ?_ GE195.out) | exact HB.out))) : w.heap.size ≤ gb212))
      have n6_ := am ((by rw [hg]; exact (below_size (by repeat (first | (with_reducible first | exact HB.out | apply c1 | apply c2 | apply c3 | refine c4 ?_ GE193.out | refine c4 ?_ GE194.out | refine c4 ?_ GE195.out) | exact HB.out))) : w.heap.size ≤ gb212))
      have n7_ := am ((by rw [hg]; exact Nat.ne_of_lt (blk_lt (g := gb193) (o := .cells #[.int .i64 a0_0, .int .i64 a0_1] 28 (0, 0)) (by (with_reducible repeat (first | refine b1 ?_ _ | refine b2 ?_ | refine b3 ?_ _)); exact BK193.out)) : gb193 ≠ gb212))
      have n8_ := am ((by rw [hg]; exact Nat.ne_of_gt (blk_lt (g := gb193) (o := .cells #[.int .i64 a0_0, .int .i64 a0_1] 28 (0, 0)) (by (with_reducible repeat (first | refine b1 ?_ _ | refine b2 ?_ | refine b3 ?_ _)); exact BK193.out)) : gb212 ≠ gb193))
      have n9_ := am ((by rw [hg]; exact Nat.ne_of_lt (blk_lt (g := gb194) (o := .cells #[.int .i64 a1_0, .int .i64 a1_1] 28 (0, 0)) (by (with_reducible repeat (first | refine b1 ?_ _ | refine b2 ?_ | refine b3 ?_ _)); exact BK194.out)) : gb194 ≠ gb212))
      have n10_ := am ((by rw [hg]; exact Nat.ne_of_gt (blk_lt (g := gb194) (o := .cells #[.int .i64 a1_0, .int .i64 a1_1] 28 (0, 0)) (by (with_reducible repeat (first | refine b1 ?_ _ | refine b2 ?_ | refine b3 ?_ _)); exact BK194.out)) : gb212 ≠ gb194))
      have n11_ := am ((by rw [hg]; exact Nat.ne_of_lt (blk_lt (g := gb195) (o := .cells #[.int .i64 a2_0, .int .i64 a2_1] 28 (0, 0)) (by (with_reducible repeat (first | refine b1 ?_ _ | refine b2 ?_ | refine b3 ?_ _)); exact BK195.out)) : gb195 ≠ gb212))
      have n12_ := am ((by rw [hg]; exact Nat.ne_of_gt (blk_lt (g := gb195) (o := .cells #[.int .i64 a2_0, .int .i64 a2_1] 28 (0, 0)) (by (with_reducible repeat (first | refine b1 ?_ _ | refine b2 ?_ | refine b3 ?_ _)); exact BK195.out)) : gb212 ≠ gb195))
      clear BK193
      clear BK194
      clear BK195
      clear HB
      have BK193 := n0_
      have BK194 := n1_
      have BK195 := n2_
      have HB := n3_
      have BK212 := n4_
      have GW212 := n5_
      have GE212 := n6_
      have NB193_212 := n7_
      have NB212_193 := n8_
      have NB194_212 := n9_
      have NB212_194 := n10_
      have NB195_212 := n11_
      have NB212_195 := n12_
      clear n0_ n1_ n2_ n3_ n4_ n5_ n6_ n7_ n8_ n9_ n10_ n11_ n12_
      clear hb hbox hg
      refine hK.out _ _ ⟨(b4 BK193.out 0).trans rfl, (b4 BK193.out 1).trans rfl, (b4 BK194.out 0).trans rfl, (b4 BK194.out 1).trans rfl⟩ (fun hHeld => ?_)
      clear hK K
      refine norm_ (a' := ?_) ?_ ?_
      rotate_left
      ·
       show Act.put _ (some 7) _ = _
       simp only [Act.put, List.setIfInBounds_toArray, List.set_cons_zero, List.set_cons_succ, i64_w, i32_w]
       rfl
      exact norm_ (by first | (simp only [putAll, Act.put, List.setIfInBounds_toArray, List.set_cons_zero, List.set_cons_succ]; done) | (simp only [putAll, Act.put, List.setIfInBounds_toArray, List.set_cons_zero, List.set_cons_succ]; rfl)) (hJ2_5_6 (gb212) _ ⟨hHeld, (by (with_reducible repeat (first | refine b1 ?_ _ | refine b2 ?_ | refine b3 ?_ _)); exact BK193.out), (by (with_reducible repeat (first | refine b1 ?_ _ | refine b2 ?_ | refine b3 ?_ _)); exact BK194.out), (by (with_reducible repeat (first | refine b1 ?_ _ | refine b2 ?_ | refine b3 ?_ _)); exact BK195.out), (by (with_reducible repeat (first | refine b1 ?_ _ | refine b2 ?_ | refine b3 ?_ _)); exact BK212.out), GW212.out, GE212.out, NB193_212.out, NB212_193.out, NB194_212.out, NB212_194.out, NB195_212.out, NB212_195.out, (by repeat (first | (with_reducible first | exact HB.out | apply c1 | apply c2 | apply c3 | refine c4 ?_ GE193.out | refine c4 ?_ GE194.out | refine c4 ?_ GE195.out | refine c4 ?_ GE212.out) | exact HB.out))⟩)
     ·
      skip
      refine box_step ?hg (N := 8) ?hd (cs := #[.int .i64 0, .int .i64 0]) (t := 28) ?hr ?_; (case hd => rfl); (case hg => rfl); (case hr => first | (go_simp; done) | (go_simp; rfl))
      intro gb213 hg w199 hbox hb
      have n0_ := am (b5 (g := gb193) (o := .cells #[.int .i64 a0_0, .int .i64 a0_1] 28 (0, 0)) (by (with_reducible repeat (first | refine b1 ?_ _ | refine b2 ?_ | refine b3 ?_ _)); exact BK193.out) hb)
      have n1_ := am (b5 (g := gb194) (o := .cells #[.int .i64 a1_0, .int .i64 a1_1] 28 (0, 0)) (by (with_reducible repeat (first | refine b1 ?_ _ | refine b2 ?_ | refine b3 ?_ _)); exact BK194.out) hb)
      have n2_ := am (b5 (g := gb195) (o := .cells #[.int .i64 a2_0, .int .i64 a2_1] 28 (0, 0)) (by (with_reducible repeat (first | refine b1 ?_ _ | refine b2 ?_ | refine b3 ?_ _)); exact BK195.out) hb)
      have n3_ := am (below_step (by repeat (first | (with_reducible first | exact HB.out | apply c1 | apply c2 | apply c3 | refine c4 ?_ GE193.out | refine c4 ?_ GE194.out | refine c4 ?_ GE195.out) | exact HB.out)) hb)
      have n4_ := am (hbox)
      have n5_ := am ((by rw [hg]; exact (below_size (by repeat (first | (with_reducible first | exact HB.out | apply c1 | apply c2 | apply c3 | refine c4 ?_ GE193.out | refine c4 ?_ GE194.out | refine c4 ?_ GE195.out) | exact HB.out))) : w.heap.size ≤ gb213))
      have n6_ := am ((by rw [hg]; exact (below_size (by repeat (first | (with_reducible first | exact HB.out | apply c1 | apply c2 | apply c3 | refine c4 ?_ GE193.out | refine c4 ?_ GE194.out | refine c4 ?_ GE195.out) | exact HB.out))) : w.heap.size ≤ gb213))
      have n7_ := am ((by rw [hg]; exact Nat.ne_of_lt (blk_lt (g := gb193) (o := .cells #[.int .i64 a0_0, .int .i64 a0_1] 28 (0, 0)) (by (with_reducible repeat (first | refine b1 ?_ _ | refine b2 ?_ | refine b3 ?_ _)); exact BK193.out)) : gb193 ≠ gb213))
      have n8_ := am ((by rw [hg]; exact Nat.ne_of_gt (blk_lt (g := gb193) (o := .cells #[.int .i64 a0_0, .int .i64 a0_1] 28 (0, 0)) (by (with_reducible repeat (first | refine b1 ?_ _ | refine b2 ?_ | refine b3 ?_ _)); exact BK193.out)) : gb213 ≠ gb193))
      have n9_ := am ((by rw [hg]; exact Nat.ne_of_lt (blk_lt (g := gb194) (o := .cells #[.int .i64 a1_0, .int .i64 a1_1] 28 (0, 0)) (by (with_reducible repeat (first | refine b1 ?_ _ | refine b2 ?_ | refine b3 ?_ _)); exact BK194.out)) : gb194 ≠ gb213))
      have n10_ := am ((by rw [hg]; exact Nat.ne_of_gt (blk_lt (g := gb194) (o := .cells #[.int .i64 a1_0, .int .i64 a1_1] 28 (0, 0)) (by (with_reducible repeat (first | refine b1 ?_ _ | refine b2 ?_ | refine b3 ?_ _)); exact BK194.out)) : gb213 ≠ gb194))
      have n11_ := am ((by rw [hg]; exact Nat.ne_of_lt (blk_lt (g := gb195) (o := .cells #[.int .i64 a2_0, .int .i64 a2_1] 28 (0, 0)) (by (with_reducible repeat (first | refine b1 ?_ _ | refine b2 ?_ | refine b3 ?_ _)); exact BK195.out)) : gb195 ≠ gb213))
      have n12_ := am ((by rw [hg]; exact Nat.ne_of_gt (blk_lt (g := gb195) (o := .cells #[.int .i64 a2_0, .int .i64 a2_1] 28 (0, 0)) (by (with_reducible repeat (first | refine b1 ?_ _ | refine b2 ?_ | refine b3 ?_ _)); exact BK195.out)) : gb213 ≠ gb195))
      clear BK193
      clear BK194
      clear BK195
      clear HB
      have BK193 := n0_
      have BK194 := n1_
      have BK195 := n2_
      have HB := n3_
      have BK213 := n4_
      have GW213 := n5_
      have GE213 := n6_
      have NB193_213 := n7_
      have NB213_193 := n8_
      have NB194_213 := n9_
      have NB213_194 := n10_
      have NB195_213 := n11_
      have NB213_195 := n12_
      clear n0_ n1_ n2_ n3_ n4_ n5_ n6_ n7_ n8_ n9_ n10_ n11_ n12_
      clear hb hbox hg
      refine hK.out _ _ ⟨(b4 BK193.out 0).trans rfl, (b4 BK193.out 1).trans rfl, (b4 BK194.out 0).trans rfl, (b4 BK194.out 1).trans rfl⟩ (fun hHeld => ?_)
      clear hK K
      refine norm_ (a' := ?_) ?_ ?_
      rotate_left
      ·
       show Act.put _ (some 8) _ = _
       simp only [Act.put, List.setIfInBounds_toArray, List.set_cons_zero, List.set_cons_succ, i64_w, i32_w]
       rfl
      exact norm_ (by first | (simp only [putAll, Act.put, List.setIfInBounds_toArray, List.set_cons_zero, List.set_cons_succ]; done) | (simp only [putAll, Act.put, List.setIfInBounds_toArray, List.set_cons_zero, List.set_cons_succ]; rfl)) (hJ2_5_7 (gb213) _ ⟨hHeld, (by (with_reducible repeat (first | refine b1 ?_ _ | refine b2 ?_ | refine b3 ?_ _)); exact BK193.out), (by (with_reducible repeat (first | refine b1 ?_ _ | refine b2 ?_ | refine b3 ?_ _)); exact BK194.out), (by (with_reducible repeat (first | refine b1 ?_ _ | refine b2 ?_ | refine b3 ?_ _)); exact BK195.out), (by (with_reducible repeat (first | refine b1 ?_ _ | refine b2 ?_ | refine b3 ?_ _)); exact BK213.out), GW213.out, GE213.out, NB193_213.out, NB213_193.out, NB194_213.out, NB213_194.out, NB195_213.out, NB213_195.out, (by repeat (first | (with_reducible first | exact HB.out | apply c1 | apply c2 | apply c3 | refine c4 ?_ GE193.out | refine c4 ?_ GE194.out | refine c4 ?_ GE195.out | refine c4 ?_ GE213.out) | exact HB.out))⟩)
   ·
    skip
    rintro ⟨gb212, gb213⟩ w199 ⟨hS_, h0_, h1_, h2_, h3_, h4_, h5_, h6_, h7_, h8_, h9_, h10_, h11_, h12_, h13_, h14_, h15_, h16_, h17_, h18_, h19_, h20_, h21_, h22_, h23_⟩
    have n0_ : Aside0 (w199.heap[gb193]? = some (.cells #[.int .i64 a0_0, .int .i64 a0_1] 28 (0, 0))) := ⟨h0_⟩
    have n1_ : Aside0 (w199.heap[gb194]? = some (.cells #[.int .i64 a1_0, .int .i64 a1_1] 28 (0, 0))) := ⟨h1_⟩
    have n2_ : Aside0 (w199.heap[gb195]? = some (.cells #[.int .i64 a2_0, .int .i64 a2_1] 28 (0, 0))) := ⟨h2_⟩
    have n3_ : Aside0 (w199.heap[gb212]? = some (.cells #[.int .i64 0, .int .i64 0] 28 (0, 0))) := ⟨h3_⟩
    have n4_ : Aside0 (w199.heap[gb213]? = some (.cells #[.int .i64 0, .int .i64 0] 28 (0, 0))) := ⟨h4_⟩
    have n5_ : Aside0 (w.heap.size ≤ gb212) := ⟨h5_⟩
    have n6_ : Aside0 (w.heap.size ≤ gb212) := ⟨h6_⟩
    have n7_ : Aside0 (gb193 ≠ gb212) := ⟨h7_⟩
    have n8_ : Aside0 (gb212 ≠ gb193) := ⟨h8_⟩
    have n9_ : Aside0 (gb194 ≠ gb212) := ⟨h9_⟩
    have n10_ : Aside0 (gb212 ≠ gb194) := ⟨h10_⟩
    have n11_ : Aside0 (gb195 ≠ gb212) := ⟨h11_⟩
    have n12_ : Aside0 (gb212 ≠ gb195) := ⟨h12_⟩
    have n13_ : Aside0 (gb213 ≠ gb212) := ⟨h13_⟩
    have n14_ : Aside0 (gb212 ≠ gb213) := ⟨h14_⟩
    have n15_ : Aside0 (w.heap.size ≤ gb213) := ⟨h15_⟩
    have n16_ : Aside0 (w.heap.size ≤ gb213) := ⟨h16_⟩
    have n17_ : Aside0 (gb193 ≠ gb213) := ⟨h17_⟩
    have n18_ : Aside0 (gb213 ≠ gb193) := ⟨h18_⟩
    have n19_ : Aside0 (gb194 ≠ gb213) := ⟨h19_⟩
    have n20_ : Aside0 (gb213 ≠ gb194) := ⟨h20_⟩
    have n21_ : Aside0 (gb195 ≠ gb213) := ⟨h21_⟩
    have n22_ : Aside0 (gb213 ≠ gb195) := ⟨h22_⟩
    have n23_ : Aside0 (Below w.heap.size w w199) := ⟨h23_⟩
    clear BK193
    clear BK194
    clear BK195
    clear HB
    clear h0_ h1_ h2_ h3_ h4_ h5_ h6_ h7_ h8_ h9_ h10_ h11_ h12_ h13_ h14_ h15_ h16_ h17_ h18_ h19_ h20_ h21_ h22_ h23_
    have BK193 := n0_
    have BK194 := n1_
    have BK195 := n2_
    have BK212 := n3_
    have BK213 := n4_
    have GW212 := n5_
    have GE212 := n6_
    have NB193_212 := n7_
    have NB212_193 := n8_
    have NB194_212 := n9_
    have NB212_194 := n10_
    have NB195_212 := n11_
    have NB212_195 := n12_
    have NB213_212 := n13_
    have NB212_213 := n14_
    have GW213 := n15_
    have GE213 := n16_
    have NB193_213 := n17_
    have NB213_193 := n18_
    have NB194_213 := n19_
    have NB213_194 := n20_
    have NB195_213 := n21_
    have NB213_195 := n22_
    have HB := n23_
    clear n0_ n1_ n2_ n3_ n4_ n5_ n6_ n7_ n8_ n9_ n10_ n11_ n12_ n13_ n14_ n15_ n16_ n17_ n18_ n19_ n20_ n21_ n22_ n23_
    have hHeld : w199.cell? ⟨gb193, 0, none⟩ = some (.int .i64 a0_0) ∧ w199.cell? ⟨gb193, 1, none⟩ = some (.int .i64 a0_1) ∧ w199.cell? ⟨gb194, 0, none⟩ = some (.int .i64 a1_0) ∧ w199.cell? ⟨gb194, 1, none⟩ = some (.int .i64 a1_1) := hS_
    refine norm_ (a' := ?_) ?_ ?_
    rotate_left
    ·
     simp only [putAll, Act.put, List.setIfInBounds_toArray, List.set_cons_zero, List.set_cons_succ]
     rfl
    refine one_ (i := 5) (N := some 49) #[true, true, true, true, true, true, true, true, false, false] rfl rfl (one_of HT_.out (by kernel_rfl)) (by decide) (fun K hK => ?_)
    refine goes_ Try.func15 (by kernel_rfl) rfl #[.agg #[.int .i64 a0_0, .int .i64 a0_1], .agg #[.int .i64 a1_0, .int .i64 a1_1]] (by rfl) rfl rfl (by (try simp only [List.map_toArray, List.map_cons, List.map_nil]); first | done | rfl | (simp only [List.length_drop, List.length_take]; rfl)) ?_
    with_reducible refine (moment_Meet.calls a0_0 a0_1 a1_0 a1_1 t210 t211 _ A193.out).mono ?_
    rintro e w200 ⟨rfl, hb⟩
    refine ⟨_, rfl, ?_⟩
    have n0_ := am (b5 (g := gb193) (o := .cells #[.int .i64 a0_0, .int .i64 a0_1] 28 (0, 0)) (by (with_reducible repeat (first | refine b1 ?_ _ | refine b2 ?_ | refine b3 ?_ _)); exact BK193.out) hb)
    have n1_ := am (b5 (g := gb194) (o := .cells #[.int .i64 a1_0, .int .i64 a1_1] 28 (0, 0)) (by (with_reducible repeat (first | refine b1 ?_ _ | refine b2 ?_ | refine b3 ?_ _)); exact BK194.out) hb)
    have n2_ := am (b5 (g := gb195) (o := .cells #[.int .i64 a2_0, .int .i64 a2_1] 28 (0, 0)) (by (with_reducible repeat (first | refine b1 ?_ _ | refine b2 ?_ | refine b3 ?_ _)); exact BK195.out) hb)
    have n3_ := am (b5 (g := gb212) (o := .cells #[.int .i64 0, .int .i64 0] 28 (0, 0)) (by (with_reducible repeat (first | refine b1 ?_ _ | refine b2 ?_ | refine b3 ?_ _)); exact BK212.out) hb)
    have n4_ := am (b5 (g := gb213) (o := .cells #[.int .i64 0, .int .i64 0] 28 (0, 0)) (by (with_reducible repeat (first | refine b1 ?_ _ | refine b2 ?_ | refine b3 ?_ _)); exact BK213.out) hb)
    have n5_ := am (below_step (by repeat (first | (with_reducible first | exact HB.out | apply c1 | apply c2 | apply c3 | refine c4 ?_ GE193.out | refine c4 ?_ GE194.out | refine c4 ?_ GE195.out | refine c4 ?_ GE212.out | refine c4 ?_ GE213.out) | exact HB.out)) hb)
    clear BK193
    clear BK194
    clear BK195
    clear BK212
    clear BK213
    clear HB
    have BK193 := n0_
    have BK194 := n1_
    have BK195 := n2_
    have BK212 := n3_
    have BK213 := n4_
    have HB := n5_
    clear n0_ n1_ n2_ n3_ n4_ n5_
    (try clear hb)
    (try clear hb2)
    (try clear hk)
    (try clear hi)
    refine hK.out _ _ ⟨(b4 BK193.out 0).trans rfl, (b4 BK193.out 1).trans rfl, (b4 BK194.out 0).trans rfl, (b4 BK194.out 1).trans rfl⟩ (fun hHeld => ?_)
    clear hK K
    refine norm_ (a' := ?_) ?_ ?_
    rotate_left
    ·
     show Act.put _ (some 49) _ = _
     simp only [Act.put, List.setIfInBounds_toArray, List.set_cons_zero, List.set_cons_succ, i64_w, i32_w]
     rfl
    exact norm_ (by first | (simp only [putAll, Act.put, List.setIfInBounds_toArray, List.set_cons_zero, List.set_cons_succ]; done) | (simp only [putAll, Act.put, List.setIfInBounds_toArray, List.set_cons_zero, List.set_cons_succ]; rfl)) (hJ2_5_6_7 (gb212, gb213) _ ⟨hHeld, (by (with_reducible repeat (first | refine b1 ?_ _ | refine b2 ?_ | refine b3 ?_ _)); exact BK193.out), (by (with_reducible repeat (first | refine b1 ?_ _ | refine b2 ?_ | refine b3 ?_ _)); exact BK194.out), (by (with_reducible repeat (first | refine b1 ?_ _ | refine b2 ?_ | refine b3 ?_ _)); exact BK195.out), (by (with_reducible repeat (first | refine b1 ?_ _ | refine b2 ?_ | refine b3 ?_ _)); exact BK212.out), (by (with_reducible repeat (first | refine b1 ?_ _ | refine b2 ?_ | refine b3 ?_ _)); exact BK213.out), GW212.out, GE212.out, NB193_212.out, NB212_193.out, NB194_212.out, NB212_194.out, NB195_212.out, NB212_195.out, NB213_212.out, NB212_213.out, GW213.out, GE213.out, NB193_213.out, NB213_193.out, NB194_213.out, NB213_194.out, NB195_213.out, NB213_195.out, (by repeat (first | (with_reducible first | exact HB.out | apply c1 | apply c2 | apply c3 | refine c4 ?_ GE193.out | refine c4 ?_ GE194.out | refine c4 ?_ GE195.out | refine c4 ?_ GE212.out | refine c4 ?_ GE213.out) | exact HB.out))⟩)
  ·
   skip
   rintro gb213 w199 ⟨hS_, h0_, h1_, h2_, h3_, h4_, h5_, h6_, h7_, h8_, h9_, h10_, h11_, h12_⟩
   have n0_ : Aside0 (w199.heap[gb193]? = some (.cells #[.int .i64 a0_0, .int .i64 a0_1] 28 (0, 0))) := ⟨h0_⟩
   have n1_ : Aside0 (w199.heap[gb194]? = some (.cells #[.int .i64 a1_0, .int .i64 a1_1] 28 (0, 0))) := ⟨h1_⟩
   have n2_ : Aside0 (w199.heap[gb195]? = some (.cells #[.int .i64 a2_0, .int .i64 a2_1] 28 (0, 0))) := ⟨h2_⟩
   have n3_ : Aside0 (w199.heap[gb213]? = some (.cells #[.int .i64 0, .int .i64 0] 28 (0, 0))) := ⟨h3_⟩
   have n4_ : Aside0 (w.heap.size ≤ gb213) := ⟨h4_⟩
   have n5_ : Aside0 (w.heap.size ≤ gb213) := ⟨h5_⟩
   have n6_ : Aside0 (gb193 ≠ gb213) := ⟨h6_⟩
   have n7_ : Aside0 (gb213 ≠ gb193) := ⟨h7_⟩
   have n8_ : Aside0 (gb194 ≠ gb213) := ⟨h8_⟩
   have n9_ : Aside0 (gb213 ≠ gb194) := ⟨h9_⟩
   have n10_ : Aside0 (gb195 ≠ gb213) := ⟨h10_⟩
   have n11_ : Aside0 (gb213 ≠ gb195) := ⟨h11_⟩
   have n12_ : Aside0 (Below w.heap.size w w199) := ⟨h12_⟩
   clear BK193
   clear BK194
   clear BK195
   clear HB
   clear h0_ h1_ h2_ h3_ h4_ h5_ h6_ h7_ h8_ h9_ h10_ h11_ h12_
   have BK193 := n0_
   have BK194 := n1_
   have BK195 := n2_
   have BK213 := n3_
   have GW213 := n4_
   have GE213 := n5_
   have NB193_213 := n6_
   have NB213_193 := n7_
   have NB194_213 := n8_
   have NB213_194 := n9_
   have NB195_213 := n10_
   have NB213_195 := n11_
   have HB := n12_
   clear n0_ n1_ n2_ n3_ n4_ n5_ n6_ n7_ n8_ n9_ n10_ n11_ n12_
   have hHeld : w199.cell? ⟨gb193, 0, none⟩ = some (.int .i64 a0_0) ∧ w199.cell? ⟨gb193, 1, none⟩ = some (.int .i64 a0_1) ∧ w199.cell? ⟨gb194, 0, none⟩ = some (.int .i64 a1_0) ∧ w199.cell? ⟨gb194, 1, none⟩ = some (.int .i64 a1_1) := hS_
   refine norm_ (a' := ?_) ?_ ?_
   rotate_left
   ·
    simp only [putAll, Act.put, List.setIfInBounds_toArray, List.set_cons_zero, List.set_cons_succ]
    rfl
   refine one_ (i := 6) (N := some 7) #[true, true, true, true, true, true, true, true, false, false] rfl rfl (one_of HT_.out (by kernel_rfl)) (by decide) (fun K hK => ?_)
   refine box_step ?hg (N := 7) ?hd (cs := #[.int .i64 0, .int .i64 0]) (t := 28) ?hr ?_; (case hd => rfl); (case hg => rfl); (case hr => first | (go_simp; done) | (go_simp; rfl))
   intro gb212 hg w200 hbox hb
   have n0_ := am (b5 (g := gb193) (o := .cells #[.int .i64 a0_0, .int .i64 a0_1] 28 (0, 0)) (by (with_reducible repeat (first | refine b1 ?_ _ | refine b2 ?_ | refine b3 ?_ _)); exact BK193.out) hb)
   have n1_ := am (b5 (g := gb194) (o := .cells #[.int .i64 a1_0, .int .i64 a1_1] 28 (0, 0)) (by (with_reducible repeat (first | refine b1 ?_ _ | refine b2 ?_ | refine b3 ?_ _)); exact BK194.out) hb)
   have n2_ := am (b5 (g := gb195) (o := .cells #[.int .i64 a2_0, .int .i64 a2_1] 28 (0, 0)) (by (with_reducible repeat (first | refine b1 ?_ _ | refine b2 ?_ | refine b3 ?_ _)); exact BK195.out) hb)
   have n3_ := am (b5 (g := gb213) (o := .cells #[.int .i64 0, .int .i64 0] 28 (0, 0)) (by (with_reducible repeat (first | refine b1 ?_ _ | refine b2 ?_ | refine b3 ?_ _)); exact BK213.out) hb)
   have n4_ := am (below_step (by repeat (first | (with_reducible first | exact HB.out | apply c1 | apply c2 | apply c3 | refine c4 ?_ GE193.out | refine c4 ?_ GE194.out | refine c4 ?_ GE195.out | refine c4 ?_ GE213.out) | exact HB.out)) hb)
   have n5_ := am (hbox)
   have n6_ := am ((by rw [hg]; exact (below_size (by repeat (first | (with_reducible first | exact HB.out | apply c1 | apply c2 | apply c3 | refine c4 ?_ GE193.out | refine c4 ?_ GE194.out | refine c4 ?_ GE195.out | refine c4 ?_ GE213.out) | exact HB.out))) : w.heap.size ≤ gb212))
   have n7_ := am ((by rw [hg]; exact (below_size (by repeat (first | (with_reducible first | exact HB.out | apply c1 | apply c2 | apply c3 | refine c4 ?_ GE193.out | refine c4 ?_ GE194.out | refine c4 ?_ GE195.out | refine c4 ?_ GE213.out) | exact HB.out))) : w.heap.size ≤ gb212))
   have n8_ := am ((by rw [hg]; exact Nat.ne_of_lt (blk_lt (g := gb193) (o := .cells #[.int .i64 a0_0, .int .i64 a0_1] 28 (0, 0)) (by (with_reducible repeat (first | refine b1 ?_ _ | refine b2 ?_ | refine b3 ?_ _)); exact BK193.out)) : gb193 ≠ gb212))
   have n9_ := am ((by rw [hg]; exact Nat.ne_of_gt (blk_lt (g := gb193) (o := .cells #[.int .i64 a0_0, .int .i64 a0_1] 28 (0, 0)) (by (with_reducible repeat (first | refine b1 ?_ _ | refine b2 ?_ | refine b3 ?_ _)); exact BK193.out)) : gb212 ≠ gb193))
   have n10_ := am ((by rw [hg]; exact Nat.ne_of_lt (blk_lt (g := gb194) (o := .cells #[.int .i64 a1_0, .int .i64 a1_1] 28 (0, 0)) (by (with_reducible repeat (first | refine b1 ?_ _ | refine b2 ?_ | refine b3 ?_ _)); exact BK194.out)) : gb194 ≠ gb212))
   have n11_ := am ((by rw [hg]; exact Nat.ne_of_gt (blk_lt (g := gb194) (o := .cells #[.int .i64 a1_0, .int .i64 a1_1] 28 (0, 0)) (by (with_reducible repeat (first | refine b1 ?_ _ | refine b2 ?_ | refine b3 ?_ _)); exact BK194.out)) : gb212 ≠ gb194))
   have n12_ := am ((by rw [hg]; exact Nat.ne_of_lt (blk_lt (g := gb195) (o := .cells #[.int .i64 a2_0, .int .i64 a2_1] 28 (0, 0)) (by (with_reducible repeat (first | refine b1 ?_ _ | refine b2 ?_ | refine b3 ?_ _)); exact BK195.out)) : gb195 ≠ gb212))
   have n13_ := am ((by rw [hg]; exact Nat.ne_of_gt (blk_lt (g := gb195) (o := .cells #[.int .i64 a2_0, .int .i64 a2_1] 28 (0, 0)) (by (with_reducible repeat (first | refine b1 ?_ _ | refine b2 ?_ | refine b3 ?_ _)); exact BK195.out)) : gb212 ≠ gb195))
   have n14_ := am ((by rw [hg]; exact Nat.ne_of_lt (blk_lt (g := gb213) (o := .cells #[.int .i64 0, .int .i64 0] 28 (0, 0)) (by (with_reducible repeat (first | refine b1 ?_ _ | refine b2 ?_ | refine b3 ?_ _)); exact BK213.out)) : gb213 ≠ gb212))
   have n15_ := am ((by rw [hg]; exact Nat.ne_of_gt (blk_lt (g := gb213) (o := .cells #[.int .i64 0, .int .i64 0] 28 (0, 0)) (by (with_reducible repeat (first | refine b1 ?_ _ | refine b2 ?_ | refine b3 ?_ _)); exact BK213.out)) : gb212 ≠ gb213))
   clear BK193
   clear BK194
   clear BK195
   clear BK213
   clear HB
   have BK193 := n0_
   have BK194 := n1_
   have BK195 := n2_
   have BK213 := n3_
   have HB := n4_
   have BK212 := n5_
   have GW212 := n6_
   have GE212 := n7_
   have NB193_212 := n8_
   have NB212_193 := n9_
   have NB194_212 := n10_
   have NB212_194 := n11_
   have NB195_212 := n12_
   have NB212_195 := n13_
   have NB213_212 := n14_
   have NB212_213 := n15_
   clear n0_ n1_ n2_ n3_ n4_ n5_ n6_ n7_ n8_ n9_ n10_ n11_ n12_ n13_ n14_ n15_
   clear hb hbox hg
   refine hK.out _ _ ⟨(b4 BK193.out 0).trans rfl, (b4 BK193.out 1).trans rfl, (b4 BK194.out 0).trans rfl, (b4 BK194.out 1).trans rfl⟩ (fun hHeld => ?_)
   clear hK K
   refine norm_ (a' := ?_) ?_ ?_
   rotate_left
   ·
    show Act.put _ (some 7) _ = _
    simp only [Act.put, List.setIfInBounds_toArray, List.set_cons_zero, List.set_cons_succ, i64_w, i32_w]
    rfl
   exact norm_ (by first | (simp only [putAll, Act.put, List.setIfInBounds_toArray, List.set_cons_zero, List.set_cons_succ]; done) | (simp only [putAll, Act.put, List.setIfInBounds_toArray, List.set_cons_zero, List.set_cons_succ]; rfl)) (hJ2_5_6_7 (gb212, gb213) _ ⟨hHeld, (by (with_reducible repeat (first | refine b1 ?_ _ | refine b2 ?_ | refine b3 ?_ _)); exact BK193.out), (by (with_reducible repeat (first | refine b1 ?_ _ | refine b2 ?_ | refine b3 ?_ _)); exact BK194.out), (by (with_reducible repeat (first | refine b1 ?_ _ | refine b2 ?_ | refine b3 ?_ _)); exact BK195.out), (by (with_reducible repeat (first | refine b1 ?_ _ | refine b2 ?_ | refine b3 ?_ _)); exact BK212.out), (by (with_reducible repeat (first | refine b1 ?_ _ | refine b2 ?_ | refine b3 ?_ _)); exact BK213.out), GW212.out, GE212.out, NB193_212.out, NB212_193.out, NB194_212.out, NB212_194.out, NB195_212.out, NB212_195.out, NB213_212.out, NB212_213.out, GW213.out, GE213.out, NB193_213.out, NB213_193.out, NB194_213.out, NB213_194.out, NB195_213.out, NB213_195.out, (by repeat (first | (with_reducible first | exact HB.out | apply c1 | apply c2 | apply c3 | refine c4 ?_ GE193.out | refine c4 ?_ GE194.out | refine c4 ?_ GE195.out | refine c4 ?_ GE213.out | refine c4 ?_ GE212.out) | exact HB.out))⟩)
 ·
  skip
  rintro gb212 w199 ⟨hS_, h0_, h1_, h2_, h3_, h4_, h5_, h6_, h7_, h8_, h9_, h10_, h11_, h12_⟩
  have n0_ : Aside0 (w199.heap[gb193]? = some (.cells #[.int .i64 a0_0, .int .i64 a0_1] 28 (0, 0))) := ⟨h0_⟩
  have n1_ : Aside0 (w199.heap[gb194]? = some (.cells #[.int .i64 a1_0, .int .i64 a1_1] 28 (0, 0))) := ⟨h1_⟩
  have n2_ : Aside0 (w199.heap[gb195]? = some (.cells #[.int .i64 a2_0, .int .i64 a2_1] 28 (0, 0))) := ⟨h2_⟩
  have n3_ : Aside0 (w199.heap[gb212]? = some (.cells #[.int .i64 0, .int .i64 0] 28 (0, 0))) := ⟨h3_⟩
  have n4_ : Aside0 (w.heap.size ≤ gb212) := ⟨h4_⟩
  have n5_ : Aside0 (w.heap.size ≤ gb212) := ⟨h5_⟩
  have n6_ : Aside0 (gb193 ≠ gb212) := ⟨h6_⟩
  have n7_ : Aside0 (gb212 ≠ gb193) := ⟨h7_⟩
  have n8_ : Aside0 (gb194 ≠ gb212) := ⟨h8_⟩
  have n9_ : Aside0 (gb212 ≠ gb194) := ⟨h9_⟩
  have n10_ : Aside0 (gb195 ≠ gb212) := ⟨h10_⟩
  have n11_ : Aside0 (gb212 ≠ gb195) := ⟨h11_⟩
  have n12_ : Aside0 (Below w.heap.size w w199) := ⟨h12_⟩
  clear BK193
  clear BK194
  clear BK195
  clear HB
  clear h0_ h1_ h2_ h3_ h4_ h5_ h6_ h7_ h8_ h9_ h10_ h11_ h12_
  have BK193 := n0_
  have BK194 := n1_
  have BK195 := n2_
  have BK212 := n3_
  have GW212 := n4_
  have GE212 := n5_
  have NB193_212 := n6_
  have NB212_193 := n7_
  have NB194_212 := n8_
  have NB212_194 := n9_
  have NB195_212 := n10_
  have NB212_195 := n11_
  have HB := n12_
  clear n0_ n1_ n2_ n3_ n4_ n5_ n6_ n7_ n8_ n9_ n10_ n11_ n12_
  have hHeld : w199.cell? ⟨gb193, 0, none⟩ = some (.int .i64 a0_0) ∧ w199.cell? ⟨gb193, 1, none⟩ = some (.int .i64 a0_1) ∧ w199.cell? ⟨gb194, 0, none⟩ = some (.int .i64 a1_0) ∧ w199.cell? ⟨gb194, 1, none⟩ = some (.int .i64 a1_1) := hS_
  refine norm_ (a' := ?_) ?_ ?_
  rotate_left
  ·
   simp only [putAll, Act.put, List.setIfInBounds_toArray, List.set_cons_zero, List.set_cons_succ]
   rfl
  refine one_ (i := 7) (N := some 8) #[true, true, true, true, true, true, true, true, false, false] rfl rfl (one_of HT_.out (by kernel_rfl)) (by decide) (fun K hK => ?_)
  refine box_step ?hg (N := 8) ?hd (cs := #[.int .i64 0, .int .i64 0]) (t := 28) ?hr ?_; (case hd => rfl); (case hg => rfl); (case hr => first | (go_simp; done) | (go_simp; rfl))
  intro gb213 hg w200 hbox hb
  have n0_ := am (b5 (g := gb193) (o := .cells #[.int .i64 a0_0, .int .i64 a0_1] 28 (0, 0)) (by (with_reducible repeat (first | refine b1 ?_ _ | refine b2 ?_ | refine b3 ?_ _)); exact BK193.out) hb)
  have n1_ := am (b5 (g := gb194) (o := .cells #[.int .i64 a1_0, .int .i64 a1_1] 28 (0, 0)) (by (with_reducible repeat (first | refine b1 ?_ _ | refine b2 ?_ | refine b3 ?_ _)); exact BK194.out) hb)
  have n2_ := am (b5 (g := gb195) (o := .cells #[.int .i64 a2_0, .int .i64 a2_1] 28 (0, 0)) (by (with_reducible repeat (first | refine b1 ?_ _ | refine b2 ?_ | refine b3 ?_ _)); exact BK195.out) hb)
  have n3_ := am (b5 (g := gb212) (o := .cells #[.int .i64 0, .int .i64 0] 28 (0, 0)) (by (with_reducible repeat (first | refine b1 ?_ _ | refine b2 ?_ | refine b3 ?_ _)); exact BK212.out) hb)
  have n4_ := am (below_step (by repeat (first | (with_reducible first | exact HB.out | apply c1 | apply c2 | apply c3 | refine c4 ?_ GE193.out | refine c4 ?_ GE194.out | refine c4 ?_ GE195.out | refine c4 ?_ GE212.out) | exact HB.out)) hb)
  have n5_ := am (hbox)
  have n6_ := am ((by rw [hg]; exact (below_size (by repeat (first | (with_reducible first | exact HB.out | apply c1 | apply c2 | apply c3 | refine c4 ?_ GE193.out | refine c4 ?_ GE194.out | refine c4 ?_ GE195.out | refine c4 ?_ GE212.out) | exact HB.out))) : w.heap.size ≤ gb213))
  have n7_ := am ((by rw [hg]; exact (below_size (by repeat (first | (with_reducible first | exact HB.out | apply c1 | apply c2 | apply c3 | refine c4 ?_ GE193.out | refine c4 ?_ GE194.out | refine c4 ?_ GE195.out | refine c4 ?_ GE212.out) | exact HB.out))) : w.heap.size ≤ gb213))
  have n8_ := am ((by rw [hg]; exact Nat.ne_of_lt (blk_lt (g := gb193) (o := .cells #[.int .i64 a0_0, .int .i64 a0_1] 28 (0, 0)) (by (with_reducible repeat (first | refine b1 ?_ _ | refine b2 ?_ | refine b3 ?_ _)); exact BK193.out)) : gb193 ≠ gb213))
  have n9_ := am ((by rw [hg]; exact Nat.ne_of_gt (blk_lt (g := gb193) (o := .cells #[.int .i64 a0_0, .int .i64 a0_1] 28 (0, 0)) (by (with_reducible repeat (first | refine b1 ?_ _ | refine b2 ?_ | refine b3 ?_ _)); exact BK193.out)) : gb213 ≠ gb193))
  have n10_ := am ((by rw [hg]; exact Nat.ne_of_lt (blk_lt (g := gb194) (o := .cells #[.int .i64 a1_0, .int .i64 a1_1] 28 (0, 0)) (by (with_reducible repeat (first | refine b1 ?_ _ | refine b2 ?_ | refine b3 ?_ _)); exact BK194.out)) : gb194 ≠ gb213))
  have n11_ := am ((by rw [hg]; exact Nat.ne_of_gt (blk_lt (g := gb194) (o := .cells #[.int .i64 a1_0, .int .i64 a1_1] 28 (0, 0)) (by (with_reducible repeat (first | refine b1 ?_ _ | refine b2 ?_ | refine b3 ?_ _)); exact BK194.out)) : gb213 ≠ gb194))
  have n12_ := am ((by rw [hg]; exact Nat.ne_of_lt (blk_lt (g := gb195) (o := .cells #[.int .i64 a2_0, .int .i64 a2_1] 28 (0, 0)) (by (with_reducible repeat (first | refine b1 ?_ _ | refine b2 ?_ | refine b3 ?_ _)); exact BK195.out)) : gb195 ≠ gb213))
  have n13_ := am ((by rw [hg]; exact Nat.ne_of_gt (blk_lt (g := gb195) (o := .cells #[.int .i64 a2_0, .int .i64 a2_1] 28 (0, 0)) (by (with_reducible repeat (first | refine b1 ?_ _ | refine b2 ?_ | refine b3 ?_ _)); exact BK195.out)) : gb213 ≠ gb195))
  have n14_ := am ((by rw [hg]; exact Nat.ne_of_lt (blk_lt (g := gb212) (o := .cells #[.int .i64 0, .int .i64 0] 28 (0, 0)) (by (with_reducible repeat (first | refine b1 ?_ _ | refine b2 ?_ | refine b3 ?_ _)); exact BK212.out)) : gb212 ≠ gb213))
  have n15_ := am ((by rw [hg]; exact Nat.ne_of_gt (blk_lt (g := gb212) (o := .cells #[.int .i64 0, .int .i64 0] 28 (0, 0)) (by (with_reducible repeat (first | refine b1 ?_ _ | refine b2 ?_ | refine b3 ?_ _)); exact BK212.out)) : gb213 ≠ gb212))
  clear BK193
  clear BK194
  clear BK195
  clear BK212
  clear HB
  have BK193 := n0_
  have BK194 := n1_
  have BK195 := n2_
  have BK212 := n3_
  have HB := n4_
  have BK213 := n5_
  have GW213 := n6_
  have GE213 := n7_
  have NB193_213 := n8_
  have NB213_193 := n9_
  have NB194_213 := n10_
  have NB213_194 := n11_
  have NB195_213 := n12_
  have NB213_195 := n13_
  have NB212_213 := n14_
  have NB213_212 := n15_
  clear n0_ n1_ n2_ n3_ n4_ n5_ n6_ n7_ n8_ n9_ n10_ n11_ n12_ n13_ n14_ n15_
  clear hb hbox hg
  refine hK.out _ _ ⟨(b4 BK193.out 0).trans rfl, (b4 BK193.out 1).trans rfl, (b4 BK194.out 0).trans rfl, (b4 BK194.out 1).trans rfl⟩ (fun hHeld => ?_)
  clear hK K
  refine norm_ (a' := ?_) ?_ ?_
  rotate_left
  ·
   show Act.put _ (some 8) _ = _
   simp only [Act.put, List.setIfInBounds_toArray, List.set_cons_zero, List.set_cons_succ, i64_w, i32_w]
   rfl
  exact norm_ (by first | (simp only [putAll, Act.put, List.setIfInBounds_toArray, List.set_cons_zero, List.set_cons_succ]; done) | (simp only [putAll, Act.put, List.setIfInBounds_toArray, List.set_cons_zero, List.set_cons_succ]; rfl)) (hJ2_5_6_7 (gb212, gb213) _ ⟨hHeld, (by (with_reducible repeat (first | refine b1 ?_ _ | refine b2 ?_ | refine b3 ?_ _)); exact BK193.out), (by (with_reducible repeat (first | refine b1 ?_ _ | refine b2 ?_ | refine b3 ?_ _)); exact BK194.out), (by (with_reducible repeat (first | refine b1 ?_ _ | refine b2 ?_ | refine b3 ?_ _)); exact BK195.out), (by (with_reducible repeat (first | refine b1 ?_ _ | refine b2 ?_ | refine b3 ?_ _)); exact BK212.out), (by (with_reducible repeat (first | refine b1 ?_ _ | refine b2 ?_ | refine b3 ?_ _)); exact BK213.out), GW212.out, GE212.out, NB193_212.out, NB212_193.out, NB194_212.out, NB212_194.out, NB195_212.out, NB212_195.out, NB213_212.out, NB212_213.out, GW213.out, GE213.out, NB193_213.out, NB213_193.out, NB194_213.out, NB213_194.out, NB195_213.out, NB213_195.out, (by repeat (first | (with_reducible first | exact HB.out | apply c1 | apply c2 | apply c3 | refine c4 ?_ GE193.out | refine c4 ?_ GE194.out | refine c4 ?_ GE195.out | refine c4 ?_ GE212.out | refine c4 ?_ GE213.out) | exact HB.out))⟩)
end Go.Proofs.Ythealffcpcbmhaa.PMomentPartial
