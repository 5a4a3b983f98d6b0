import Derived.Test.YtbdpnecnnokkkaaOSheetEncodesx0
import Derived.Test.YtbdpnecnnokkkaaOSheetEncodesx1
import Derived.Test.YtbdpnecnnokkkaaOSheetEncodesx7
import Derived.Test.YtbdpnecnnokkkaaShort
import Derived.Test.YtbdpnecnnokkkaaOSheetEncodesx8p
namespace Go.Proofs.Ytbdpnecnnokkkaa.PSheetEncodes
open Go.RowKit Go.Proofs.YtbdpnecnnokkkaaW.PrintWords Go.Proofs.YtbdpnecnnokkkaaW.PrintLast Go.Proofs.YtbdpnecnnokkkaaW.PrintMore
attribute [local go_sem] max2_int min2_int max_two min_two max_three min_three max_four min_four   -- for this text's walks alone
set_option linter.unusedVariables false
set_option linter.unusedSimpArgs false
attribute [local go_sem high] eqA52
set_option maxHeartbeats 8000000 in
set_option maxRecDepth 100000 in
theorem runnelref17_Same.calls.leaf1 : runnelref17_Same.calls.pre.2.1 := by
 intro l0_0 l1_0 l0_1 l1_1 ad254 ad255 A0_1 A1_1 A254_1 A254_2 A254_3 A254_4 A255_1 A255_2 A255_3 A255_4 r a0_2 a1_2 x5_2 _ _ _ _ _ _ _ _ c0_0 HC0_0 c0_1 HC0_1 c1_0 HC1_0 c1_1 HC1_1 gb251 gb252 NB251_252 NB252_251 _ _ _ HJ2 _ HK2 HC22 c254_1 HC254_1 c254_2 HC254_2 c254_3 HC254_3 c254_4 HC254_4 c255_1 HC255_1 c255_2 HC255_2 c255_3 HC255_3 c255_4 HC255_4 gb256 NB251_256 NB256_251 NB252_256 NB256_252 _ _ _ _ _ _ _ _ _ _ _ _ _ _ _ _ _ _ _ _ _ _ _ _ _ _ _ _ _ _ _ _ _ _ _ _ gb257 NB257_256 NB256_257 NB251_257 NB257_251 NB252_257 NB257_252 _ _ _ _ _ _ _ _ _ _ _ _ _ _ _ _ _ _ _ _ _ _ _ _ _ _ _ _ _ _ _ _ _ _ _ _ _ _ _ _ _ _ _ _ _ _ _ _ _ _ _ _ _ _ _ _ _ _ _ _ _ _ _ _ _ _ _ _ _ _ _ _ w HR0_1 HR1_1 GW251 GE251 GW252 GE252 _ _ _ _ _ _ _ _ _ HR0_0 HR254_1 HR254_2 HR254_3 HR254_4 _ _ _ _ _ _ _ _ _ HR1_0 HR255_1 HR255_2 HR255_3 HR255_4 GW256 GE256 GW257 GE257 _ _ _ _ _ _ _ _ _ wr _ _ _ _ _ _ _ _ _ _ _ _ _ _ _ _ _ _ _ _ _ _ _ _ _ _ _ _ _ _ _ _ _ _ _ _ _ _ _ _ _ _ _ _ _ _ _ _ _ _ _ _ _ _ _ _ _ _ _ _ _ _ _ _ _ _ _ _ hHeld BK256 BK251 BK252 BK257 HB _ _ _ _ _ _ _ _ _ _ _ _ _ _ _ _ _ _ _ _ _ _ _ _ _ _ _ _ _ _ _ _ _ _ _ _ _ _ _ _ _ _ _ _ _ _ _ _ _ _ _ _ _ _ _ _ _ _ _ _ _ _ _ _ _ _ _ _ _ _ _ _ _ _ _ _ _ _ _ _ _ _ _ _ _ _ _ _ _ _ _ _ _ _ _ _ _ _ _ _ _ _ _ _ _ _ _ _ _ _ _ _ _ _ _ _ _ _ _ _ _ _ _ _ _ _ _ _ _ _ _ _ _ _ _ _ _ _ _ _ _ _ _ _ _ _ _ _ _ _ _ _ _ _ _ _ _ _ _ _ _ _ _ _ _ _ _ _ _ _ _ _ _ _ _ _ _ _ _ _ _ _ _ _ _ _ _ _ _ _ _ _ _ _ _ _ _ _ _ _ _ _ _ _ _ _ _ _ _ _ _ _ _ _ _ _ _ _ _ _ _ _ _ _ _ _ _ _ _ _ _ _ _ _ _ _ _ _ _ _ _ _ _ _ _ _ _ _ _ _ _ _ _ _ _ _ _ _ _ _ _ _ _ _ _ _ _ _ _ _ _ _ _ _ _ _ _ _ _ _ _ _ _ _ _ _ _ _ _ _ _ _ _ _ _ _ _ _ _ _ _ _ _ _ _ _ _ _ _ _ _ _ _ _ _ _ _ _ _ _ _ _ _ _ _ _ _ _ _ _ _ _ _ _ _ _ _ _ _ _ _ _ _ _ _ _ _ _ _ _ _ _ _ _ _ _ _ _ _ _ _ _ _ _ _ _ _ _ _ _ _ _ _ _ _ _ _ _ _ _ _ _ _ hcut _ _ _ _ _ _ _ _ _ _ _ _ _ _ _ _ _ _ _ _ _ _ _ _ _ _ _ _ _ _ _ _ _ _ _ _ _ _ _ _ _ _ _ _ _ _ _ _ _ _
 clear HC22
 obtain ⟨kq, x114_21, rfl, HA, HJ21, BK251, BK252, BK256, BK257, HB⟩ := hcut
 cases kq with
 | zero => exact absurd HA.out (by simp [runnelref17_Same.j2])
 | succ kj21 =>
  have H := HA.out
  clear HA
  simp only [runnelref17_Same.j2] at H
  by_cases c121 : x114_21 = true
  ·
   subst c121
   have H1 : (some false) = some r := by rw [if_pos rfl] at H; exact H
   clear H
   have H := H1
   clear H1
   obtain rfl := Option.some.inj H
   go_wp2
   go_ret
   exact ⟨erq, by repeat (first | (with_reducible first | exact HB.out | apply below_alloc | apply pw_below_drewN | apply below_drew1 | refine below_set ?_ GE251.out | refine below_set ?_ GE252.out | refine below_set ?_ GE256.out | refine below_set ?_ GE257.out) | exact HB.out)⟩
  ·
   replace c121 := Bool.eq_false_iff.mpr c121
   subst c121
   have H1 : (runnelref17_Same.l1 kj21 x5_2 0 l0_0 l0_1 a0_2 l1_0 l1_1 a1_2 ((rd_T44 l0_0 x5_2).f0) ((rd_T44 l0_0 x5_2).f1) ((rd_T44 l0_0 x5_2).f2) ((rd_T44 l0_0 x5_2).f3) ((rd_T44 l0_0 x5_2).f4) ((rd_T44 l0_0 x5_2).f5) ((rd_T44 l0_0 x5_2).f6) ((rd_T44 l0_0 x5_2).f7) ((rd_T44 l0_0 x5_2).f8) ((rd_T44 l1_0 x5_2).f0) ((rd_T44 l1_0 x5_2).f1) ((rd_T44 l1_0 x5_2).f2) ((rd_T44 l1_0 x5_2).f3) ((rd_T44 l1_0 x5_2).f4) ((rd_T44 l1_0 x5_2).f5) ((rd_T44 l1_0 x5_2).f6) ((rd_T44 l1_0 x5_2).f7) ((rd_T44 l1_0 x5_2).f8)) = some r := by rw [if_neg (show ¬ (false = true) by decide)] at H; exact H
   clear H
   have H := H1
   clear H1
   have H' := Aside0.mk H
   clear H
   go_wp2
   go_loopg [8] kj21 (fun kq v8 w' => ∃ (x8_4 : Int), v8 = .int .i64 x8_4 ∧ Aside0 (runnelref17_Same.l1 kq x5_2 x8_4 l0_0 l0_1 a0_2 l1_0 l1_1 a1_2 ((rd_T44 l0_0 x5_2).f0) ((rd_T44 l0_0 x5_2).f1) ((rd_T44 l0_0 x5_2).f2) ((rd_T44 l0_0 x5_2).f3) ((rd_T44 l0_0 x5_2).f4) ((rd_T44 l0_0 x5_2).f5) ((rd_T44 l0_0 x5_2).f6) ((rd_T44 l0_0 x5_2).f7) ((rd_T44 l0_0 x5_2).f8) ((rd_T44 l1_0 x5_2).f0) ((rd_T44 l1_0 x5_2).f1) ((rd_T44 l1_0 x5_2).f2) ((rd_T44 l1_0 x5_2).f3) ((rd_T44 l1_0 x5_2).f4) ((rd_T44 l1_0 x5_2).f5) ((rd_T44 l1_0 x5_2).f6) ((rd_T44 l1_0 x5_2).f7) ((rd_T44 l1_0 x5_2).f8) = some r) ∧ Aside0 (kq ≤ kj21) ∧ Aside0 (w'.heap[gb251]? = some (.cells #[(.slice (some ad254) l0_0.length c0_0), (.slice A0_1 l0_1.length c0_1), .int .i64 a0_2] 25 (0, 0))) ∧ Aside0 (w'.heap[gb252]? = some (.cells #[(.slice (some ad255) l1_0.length c1_0), (.slice A1_1 l1_1.length c1_1), .int .i64 a1_2] 25 (0, 0))) ∧ Aside0 (w'.heap[gb256]? = some (.cells #[.int .i64 ((rd_T44 l0_0 x5_2).f0), (.slice A254_1 ((rd_T44 l0_0 x5_2).f1).length c254_1), (.slice A254_2 ((rd_T44 l0_0 x5_2).f2).length c254_2), (.slice A254_3 ((rd_T44 l0_0 x5_2).f3).length c254_3), (.slice A254_4 ((rd_T44 l0_0 x5_2).f4).length c254_4), .int .i64 ((rd_T44 l0_0 x5_2).f5), .int .i64 ((rd_T44 l0_0 x5_2).f6), .int .i64 ((rd_T44 l0_0 x5_2).f7), .int .i64 ((rd_T44 l0_0 x5_2).f8)] 44 (0, 0))) ∧ Aside0 (w'.heap[gb257]? = some (.cells #[.int .i64 ((rd_T44 l1_0 x5_2).f0), (.slice A255_1 ((rd_T44 l1_0 x5_2).f1).length c255_1), (.slice A255_2 ((rd_T44 l1_0 x5_2).f2).length c255_2), (.slice A255_3 ((rd_T44 l1_0 x5_2).f3).length c255_3), (.slice A255_4 ((rd_T44 l1_0 x5_2).f4).length c255_4), .int .i64 ((rd_T44 l1_0 x5_2).f5), .int .i64 ((rd_T44 l1_0 x5_2).f6), .int .i64 ((rd_T44 l1_0 x5_2).f7), .int .i64 ((rd_T44 l1_0 x5_2).f8)] 44 (0, 0))) ∧ Aside0 (Below w.heap.size w w'))
   case atStart => exact ⟨(0), (by first | rfl | (simp; done) | (simp [*]; done)), H', ⟨Nat.le_refl _⟩, ⟨by (with_reducible repeat (first | refine blk_drewN ?_ _ | refine blk_drew ?_ | refine blk_alloc ?_ _)); exact BK251.out⟩, ⟨by (with_reducible repeat (first | refine blk_drewN ?_ _ | refine blk_drew ?_ | refine blk_alloc ?_ _)); exact BK252.out⟩, ⟨by (with_reducible repeat (first | refine blk_drewN ?_ _ | refine blk_drew ?_ | refine blk_alloc ?_ _)); exact BK256.out⟩, ⟨by (with_reducible repeat (first | refine blk_drewN ?_ _ | refine blk_drew ?_ | refine blk_alloc ?_ _)); exact BK257.out⟩, ⟨bl⟩⟩
   case round =>
    clear H'
    try clear c121
    obtain ⟨x8_4, rfl, HA, HK4, BK251, BK252, BK256, BK257, HB⟩ := hrel
    cases gk with
    | zero => exact absurd HA.out (by simp [runnelref17_Same.l1])
    | succ k4 =>
     have H := HA.out
     clear HA
     simp only [runnelref17_Same.l1] at H
     by_cases c122 : x8_4 < (((rd_T44 l0_0 x5_2).f3).length : Int)
     ·
      rw [if_pos c122] at H
      have c122b0 : decide (x8_4 < (((rd_T44 l0_0 x5_2).f3).length : Int)) = true := decide_eq_true c122
      clear c122
      by_cases c123 : 0 ≤ x8_4
      ·
       rw [if_pos c123] at H
       have c123b0 : decide (0 ≤ x8_4) = true := decide_eq_true c123
       clear c123
       by_cases c124 : x8_4 < (((rd_T44 l1_0 x5_2).f3).length : Int)
       ·
        rw [if_pos c124] at H
        have c124b0 : decide (x8_4 < (((rd_T44 l1_0 x5_2).f3).length : Int)) = true := decide_eq_true c124
        clear c124
        have HQ_ := Aside0.mk H
        clear H
        have hnb126 := NB256_251.out
        have hnc126 := NB251_256.out
        have hnb127 := NB256_252.out
        have hnc127 := NB252_256.out
        have hnb128 := NB256_257.out
        have hnc128 := NB257_256.out
        obtain ⟨hcz129_0, hcz129_1, hcz129_2, hcz129_3, hcz129_4, hcz129_5, hcz129_6, hcz129_7, hcz129_8⟩ := cells9 BK256.out
        obtain ⟨hfz129_0, hfz129_1, hfz129_2, hfz129_3, hfz129_4, hfz129_5, hfz129_6, hfz129_7, hfz129_8⟩ := frz9 BK256.out
        try go_wp2
        have n0_ := Aside0.mk (blk_drew BK251.out)
        have n1_ := Aside0.mk (blk_drew BK252.out)
        have n2_ := Aside0.mk (blk_drew BK256.out)
        have n3_ := Aside0.mk (blk_drew BK257.out)
        have n4_ := Aside0.mk (below_drew1 HB.out)
        clear BK251
        clear BK252
        clear BK256
        clear BK257
        clear HB
        have BK251 := n0_
        have BK252 := n1_
        have BK256 := n2_
        have BK257 := n3_
        have HB := n4_
        clear n0_ n1_ n2_ n3_ n4_
        have p261 : 0 ≤ (x8_4 : Int) := of_decide_eq_true (by first | (with_reducible assumption) | assumption)
        have q261 : x8_4 < (((rd_T44 l0_0 x5_2).f3).length : Int) := of_decide_eq_true (by first | (with_reducible assumption) | assumption)
        obtain ⟨ad261, A261_0, c261_0, e261, hx261_0, hl261_0, hi261_0⟩ := at_L4 HR254_3.out x8_4 p261 q261
        have hw261_0 := hx261_0
        cases e261
        replace hx261_0 := bc HB.out hx261_0
        have HR261_0 := Aside0.mk hi261_0
        have HC261_0 := Aside0.mk hl261_0
        clear hi261_0 hl261_0
        replace p261 := eq_true p261
        replace q261 := eq_true q261
        have p262 : 0 ≤ (x8_4 : Int) := of_decide_eq_true (by first | (with_reducible assumption) | assumption)
        have q262 : x8_4 < (((rd_T44 l1_0 x5_2).f3).length : Int) := of_decide_eq_true (by first | (with_reducible assumption) | assumption)
        obtain ⟨ad262, A262_0, c262_0, e262, hx262_0, hl262_0, hi262_0⟩ := at_L4 HR255_3.out x8_4 p262 q262
        have hw262_0 := hx262_0
        cases e262
        replace hx262_0 := bc HB.out hx262_0
        have HR262_0 := Aside0.mk hi262_0
        have HC262_0 := Aside0.mk hl262_0
        clear hi262_0 hl262_0
        replace p262 := eq_true p262
        replace q262 := eq_true q262
        refine start_ (n := 13) (S := fun w' => w'.cell? ⟨gb256, 0, none⟩ = some (.int .i64 ((rd_T44 l0_0 x5_2).f0)) ∧ w'.cell? ⟨gb256, 1, none⟩ = some (.slice A254_1 ((rd_T44 l0_0 x5_2).f1).length c254_1) ∧ w'.cell? ⟨gb256, 2, none⟩ = some (.slice A254_2 ((rd_T44 l0_0 x5_2).f2).length c254_2) ∧ w'.cell? ⟨gb256, 3, none⟩ = some (.slice (some ad261) ((rd_T44 l0_0 x5_2).f3).length c254_3) ∧ w'.cell? ⟨gb256, 4, none⟩ = some (.slice A254_4 ((rd_T44 l0_0 x5_2).f4).length c254_4) ∧ w'.cell? ⟨gb256, 5, none⟩ = some (.int .i64 ((rd_T44 l0_0 x5_2).f5)) ∧ w'.cell? ⟨gb256, 6, none⟩ = some (.int .i64 ((rd_T44 l0_0 x5_2).f6)) ∧ w'.cell? ⟨gb256, 7, none⟩ = some (.int .i64 ((rd_T44 l0_0 x5_2).f7)) ∧ w'.cell? ⟨gb256, 8, none⟩ = some (.int .i64 ((rd_T44 l0_0 x5_2).f8)) ∧ w'.cell? ⟨gb257, 0, none⟩ = some (.int .i64 ((rd_T44 l1_0 x5_2).f0)) ∧ w'.cell? ⟨gb257, 1, none⟩ = some (.slice A255_1 ((rd_T44 l1_0 x5_2).f1).length c255_1) ∧ w'.cell? ⟨gb257, 2, none⟩ = some (.slice A255_2 ((rd_T44 l1_0 x5_2).f2).length c255_2) ∧ w'.cell? ⟨gb257, 3, none⟩ = some (.slice (some ad262) ((rd_T44 l1_0 x5_2).f3).length c255_3) ∧ w'.cell? ⟨gb257, 4, none⟩ = some (.slice A255_4 ((rd_T44 l1_0 x5_2).f4).length c255_4) ∧ w'.cell? ⟨gb257, 5, none⟩ = some (.int .i64 ((rd_T44 l1_0 x5_2).f5)) ∧ w'.cell? ⟨gb257, 6, none⟩ = some (.int .i64 ((rd_T44 l1_0 x5_2).f6)) ∧ w'.cell? ⟨gb257, 7, none⟩ = some (.int .i64 ((rd_T44 l1_0 x5_2).f7)) ∧ w'.cell? ⟨gb257, 8, none⟩ = some (.int .i64 ((rd_T44 l1_0 x5_2).f8)) ∧ w'.cell? (ad261.add (x8_4).toNat) = some (.slice A261_0 (rd_L4 ((rd_T44 l0_0 x5_2).f3) x8_4).length c261_0) ∧ w'.cell? (ad262.add (x8_4).toNat) = some (.slice A262_0 (rd_L4 ((rd_T44 l1_0 x5_2).f3) x8_4).length c262_0)) (ds := []) #[false, false, false, false, false, false, false, false, false, false, false, false, false] (by kernel_rfl) rfl rfl ⟨(blk_cell BK256.out 0).trans rfl, (blk_cell BK256.out 1).trans rfl, (blk_cell BK256.out 2).trans rfl, (blk_cell BK256.out 3).trans rfl, (blk_cell BK256.out 4).trans rfl, (blk_cell BK256.out 5).trans rfl, (blk_cell BK256.out 6).trans rfl, (blk_cell BK256.out 7).trans rfl, (blk_cell BK256.out 8).trans rfl, (blk_cell BK257.out 0).trans rfl, (blk_cell BK257.out 1).trans rfl, (blk_cell BK257.out 2).trans rfl, (blk_cell BK257.out 3).trans rfl, (blk_cell BK257.out 4).trans rfl, (blk_cell BK257.out 5).trans rfl, (blk_cell BK257.out 6).trans rfl, (blk_cell BK257.out 7).trans rfl, (blk_cell BK257.out 8).trans rfl, (bc HB.out hw261_0), (bc HB.out hw262_0)⟩ (fun hHeld => ?_); refine with_tabW runnelref17_Same.tab12 runnelref17_Same.bits12 (fun HT_ HW_ => ?_)
        generalize wr.drew = w130 at BK251 BK252 BK256 BK257 HB HR261_0 HR262_0 hx261_0 hx262_0 hHeld ⊢
        refine pure_ (i := 0) (N := some 122) (v := ?_) (a' := ?_) #[true, false, false, false, false, false, false, false, false, false, false, false, false] rfl rfl (any_of HT_.out (by kernel_rfl)) (fun _ _ _ h => h) (Or.inl ⟨by rfl, ?_⟩) ?_ ?_
        rotate_left
        ·
         intro w'
         go_simp
         with_reducible rfl
        rotate_left
        ·
         simp only [Act.put, List.setIfInBounds_toArray, List.set_cons_zero, List.set_cons_succ, i64_w, i32_w]
         rfl
        refine pure_ (i := 2) (N := some 124) (v := ?_) (a' := ?_) #[true, false, true, false, false, false, false, false, false, false, false, false, false] rfl rfl (any_of HT_.out (by kernel_rfl)) (fun _ _ _ h => h) (Or.inl ⟨by rfl, ?_⟩) ?_ ?_
        rotate_left
        ·
         intro w'
         go_simp
         with_reducible rfl
        rotate_left
        ·
         simp only [Act.put, List.setIfInBounds_toArray, List.set_cons_zero, List.set_cons_succ, i64_w, i32_w]
         rfl
        refine pure_ (i := 6) (N := some 128) (v := ?_) (a' := ?_) #[true, false, true, false, false, false, true, false, false, false, false, false, false] rfl rfl (any_of HT_.out (by kernel_rfl)) (fun _ _ _ h => h) (Or.inl ⟨by rfl, ?_⟩) ?_ ?_
        rotate_left
        ·
         intro w'
         go_simp
         with_reducible rfl
        rotate_left
        ·
         simp only [Act.put, List.setIfInBounds_toArray, List.set_cons_zero, List.set_cons_succ, i64_w, i32_w]
         rfl
        refine pure_ (i := 8) (N := some 130) (v := ?_) (a' := ?_) #[true, false, true, false, false, false, true, false, true, false, false, false, false] rfl rfl (any_of HT_.out (by kernel_rfl)) (fun _ _ _ h => h) (Or.inl ⟨by rfl, ?_⟩) ?_ ?_
        rotate_left
        ·
         intro w'
         go_simp
         with_reducible rfl
        rotate_left
        ·
         simp only [Act.put, List.setIfInBounds_toArray, List.set_cons_zero, List.set_cons_succ, i64_w, i32_w]
         rfl
        refine take_ (i := 1) (N := some 123) (v := ?_) (a' := ?_) #[true, true, true, false, false, false, true, false, true, false, false, false, false] rfl rfl (take_ofW HT_.out HW_.out (by kernel_rfl)) (fun _ _ _ h => h) (Or.inl ⟨by rfl, ?_⟩) hHeld ?_ ?_
        rotate_left
        ·
         rintro w' ⟨s0, s1, s2, s3, s4, s5, s6, s7, s8, s9, s10, s11, s12, s13, s14, s15, s16, s17, s18, s19⟩
         go_simp
         with_reducible rfl
        rotate_left
        ·
         simp only [Act.put, List.setIfInBounds_toArray, List.set_cons_zero, List.set_cons_succ, i64_w, i32_w]
         rfl
        refine pure_ (i := 3) (N := some 125) (v := ?_) (a' := ?_) #[true, true, true, true, false, false, true, false, true, false, false, false, false] rfl rfl (any_of HT_.out (by kernel_rfl)) (fun _ _ _ h => h) (Or.inl ⟨by rfl, ?_⟩) ?_ ?_
        rotate_left
        ·
         intro w'
         go_simp
         with_reducible rfl
        rotate_left
        ·
         simp only [Act.put, List.setIfInBounds_toArray, List.set_cons_zero, List.set_cons_succ, i64_w, i32_w]
         rfl
        refine take_ (i := 4) (N := some 126) (v := ?_) (a' := ?_) #[true, true, true, true, true, false, true, false, true, false, false, false, false] rfl rfl (take_ofW HT_.out HW_.out (by kernel_rfl)) (fun _ _ _ h => h) (Or.inl ⟨by rfl, ?_⟩) hHeld ?_ ?_
        rotate_left
        ·
         rintro w' ⟨s0, s1, s2, s3, s4, s5, s6, s7, s8, s9, s10, s11, s12, s13, s14, s15, s16, s17, s18, s19⟩
         go_simp
         with_reducible rfl
        rotate_left
        ·
         simp only [Act.put, List.setIfInBounds_toArray, List.set_cons_zero, List.set_cons_succ, i64_w, i32_w]
         rfl
        refine pure_ (i := 5) (N := some 127) (v := ?_) (a' := ?_) #[true, true, true, true, true, true, true, false, true, false, false, false, false] rfl rfl (any_of HT_.out (by kernel_rfl)) (fun _ _ _ h => h) (Or.inl ⟨by rfl, ?_⟩) ?_ ?_
        rotate_left
        ·
         intro w'
         go_simp
         with_reducible rfl
        rotate_left
        ·
         simp only [Act.put, List.setIfInBounds_toArray, List.set_cons_zero, List.set_cons_succ, i64_w, i32_w]
         rfl
        refine take_ (i := 7) (N := some 129) (v := ?_) (a' := ?_) #[true, true, true, true, true, true, true, true, true, false, false, false, false] rfl rfl (take_ofW HT_.out HW_.out (by kernel_rfl)) (fun _ _ _ h => h) (Or.inl ⟨by rfl, ?_⟩) hHeld ?_ ?_
        rotate_left
        ·
         rintro w' ⟨s0, s1, s2, s3, s4, s5, s6, s7, s8, s9, s10, s11, s12, s13, s14, s15, s16, s17, s18, s19⟩
         go_simp
         with_reducible rfl
        rotate_left
        ·
         simp only [Act.put, List.setIfInBounds_toArray, List.set_cons_zero, List.set_cons_succ, i64_w, i32_w]
         rfl
        refine pure_ (i := 9) (N := some 131) (v := ?_) (a' := ?_) #[true, true, true, true, true, true, true, true, true, true, false, false, false] rfl rfl (any_of HT_.out (by kernel_rfl)) (fun _ _ _ h => h) (Or.inl ⟨by rfl, ?_⟩) ?_ ?_
        rotate_left
        ·
         intro w'
         go_simp
         with_reducible rfl
        rotate_left
        ·
         simp only [Act.put, List.setIfInBounds_toArray, List.set_cons_zero, List.set_cons_succ, i64_w, i32_w]
         rfl
        refine take_ (i := 10) (N := some 132) (v := ?_) (a' := ?_) #[true, true, true, true, true, true, true, true, true, true, true, false, false] rfl rfl (take_ofW HT_.out HW_.out (by kernel_rfl)) (fun _ _ _ h => h) (Or.inl ⟨by rfl, ?_⟩) hHeld ?_ ?_
        rotate_left
        ·
         rintro w' ⟨s0, s1, s2, s3, s4, s5, s6, s7, s8, s9, s10, s11, s12, s13, s14, s15, s16, s17, s18, s19⟩
         go_simp
         with_reducible rfl
        rotate_left
        ·
         simp only [Act.put, List.setIfInBounds_toArray, List.set_cons_zero, List.set_cons_succ, i64_w, i32_w]
         rfl
        refine pure_ (i := 11) (N := some 133) (v := ?_) (a' := ?_) #[true, true, true, true, true, true, true, true, true, true, true, true, false] rfl rfl (any_of HT_.out (by kernel_rfl)) (fun _ _ _ h => h) (Or.inl ⟨by rfl, ?_⟩) ?_ ?_
        rotate_left
        ·
         intro w'
         go_simp
         with_reducible rfl
        rotate_left
        ·
         simp only [Act.put, List.setIfInBounds_toArray, List.set_cons_zero, List.set_cons_succ, i64_w, i32_w]
         rfl
        refine pure_ (i := 12) (N := some 134) (v := ?_) (a' := ?_) #[true, true, true, true, true, true, true, true, true, true, true, true, true] rfl rfl (any_of HT_.out (by kernel_rfl)) (fun _ _ _ h => h) (Or.inl ⟨by rfl, ?_⟩) ?_ ?_
        rotate_left
        ·
         intro w'
         go_simp
         with_reducible rfl
        rotate_left
        ·
         simp only [Act.put, List.setIfInBounds_toArray, List.set_cons_zero, List.set_cons_succ, i64_w, i32_w]
         rfl
        refine done_ (done_of HT_.out (by kernel_rfl)) ?_
        have H := HQ_.out
        clear HQ_
        by_cases c125 : ((rd_L4 ((rd_T44 l0_0 x5_2).f3) x8_4).length : Int) = ((rd_L4 ((rd_T44 l1_0 x5_2).f3) x8_4).length : Int)
        ·
         rw [if_pos c125] at H
         have c125b0 : (((rd_L4 ((rd_T44 l0_0 x5_2).f3) x8_4).length : Int) == ((rd_L4 ((rd_T44 l1_0 x5_2).f3) x8_4).length : Int)) = true := beq_iff_eq.mpr c125
         have c125b1 : (((rd_L4 ((rd_T44 l0_0 x5_2).f3) x8_4).length : Int) != ((rd_L4 ((rd_T44 l1_0 x5_2).f3) x8_4).length : Int)) = false := bne_eq_false_iff_eq.mpr c125
         have c125b2 : ((rd_L4 ((rd_T44 l0_0 x5_2).f3) x8_4).length == (rd_L4 ((rd_T44 l1_0 x5_2).f3) x8_4).length) = true := by first | simpa using c125 | (simp at c125 ⊢; omega)
         clear c125
         try rw [c125b1]
         have H' := Aside0.mk H
         clear H
         have hnb126 := NB256_251.out
         have hnc126 := NB251_256.out
         have hnb127 := NB256_252.out
         have hnc127 := NB252_256.out
         have hnb128 := NB256_257.out
         have hnc128 := NB257_256.out
         obtain ⟨hcz129_0, hcz129_1, hcz129_2, hcz129_3, hcz129_4, hcz129_5, hcz129_6, hcz129_7, hcz129_8⟩ := cells9 BK256.out
         obtain ⟨hfz129_0, hfz129_1, hfz129_2, hfz129_3, hfz129_4, hfz129_5, hfz129_6, hfz129_7, hfz129_8⟩ := frz9 BK256.out
         try go_wp2
         go_loopg [9] k4 (fun kq v9 w' => ∃ (x9_5 : Int), v9 = .int .i64 x9_5 ∧ Aside0 (runnelref17_Same.l2 kq x5_2 x8_4 x9_5 l0_0 l0_1 a0_2 l1_0 l1_1 a1_2 ((rd_T44 l0_0 x5_2).f0) ((rd_T44 l0_0 x5_2).f1) ((rd_T44 l0_0 x5_2).f2) ((rd_T44 l0_0 x5_2).f3) ((rd_T44 l0_0 x5_2).f4) ((rd_T44 l0_0 x5_2).f5) ((rd_T44 l0_0 x5_2).f6) ((rd_T44 l0_0 x5_2).f7) ((rd_T44 l0_0 x5_2).f8) ((rd_T44 l1_0 x5_2).f0) ((rd_T44 l1_0 x5_2).f1) ((rd_T44 l1_0 x5_2).f2) ((rd_T44 l1_0 x5_2).f3) ((rd_T44 l1_0 x5_2).f4) ((rd_T44 l1_0 x5_2).f5) ((rd_T44 l1_0 x5_2).f6) ((rd_T44 l1_0 x5_2).f7) ((rd_T44 l1_0 x5_2).f8) = some r) ∧ Aside0 (kq ≤ k4) ∧ Aside0 (w'.heap[gb251]? = some (.cells #[(.slice (some ad254) l0_0.length c0_0), (.slice A0_1 l0_1.length c0_1), .int .i64 a0_2] 25 (0, 0))) ∧ Aside0 (w'.heap[gb252]? = some (.cells #[(.slice (some ad255) l1_0.length c1_0), (.slice A1_1 l1_1.length c1_1), .int .i64 a1_2] 25 (0, 0))) ∧ Aside0 (w'.heap[gb256]? = some (.cells #[.int .i64 ((rd_T44 l0_0 x5_2).f0), (.slice A254_1 ((rd_T44 l0_0 x5_2).f1).length c254_1), (.slice A254_2 ((rd_T44 l0_0 x5_2).f2).length c254_2), (.slice (some ad261) ((rd_T44 l0_0 x5_2).f3).length c254_3), (.slice A254_4 ((rd_T44 l0_0 x5_2).f4).length c254_4), .int .i64 ((rd_T44 l0_0 x5_2).f5), .int .i64 ((rd_T44 l0_0 x5_2).f6), .int .i64 ((rd_T44 l0_0 x5_2).f7), .int .i64 ((rd_T44 l0_0 x5_2).f8)] 44 (0, 0))) ∧ Aside0 (w'.heap[gb257]? = some (.cells #[.int .i64 ((rd_T44 l1_0 x5_2).f0), (.slice A255_1 ((rd_T44 l1_0 x5_2).f1).length c255_1), (.slice A255_2 ((rd_T44 l1_0 x5_2).f2).length c255_2), (.slice (some ad262) ((rd_T44 l1_0 x5_2).f3).length c255_3), (.slice A255_4 ((rd_T44 l1_0 x5_2).f4).length c255_4), .int .i64 ((rd_T44 l1_0 x5_2).f5), .int .i64 ((rd_T44 l1_0 x5_2).f6), .int .i64 ((rd_T44 l1_0 x5_2).f7), .int .i64 ((rd_T44 l1_0 x5_2).f8)] 44 (0, 0))) ∧ Aside0 (Below w.heap.size w w'))
         case atStart => exact ⟨(0), (by first | rfl | (simp; done) | (simp [*]; done)), H', ⟨Nat.le_refl _⟩, ⟨by (with_reducible repeat (first | refine blk_drewN ?_ _ | refine blk_drew ?_ | refine blk_alloc ?_ _)); exact BK251.out⟩, ⟨by (with_reducible repeat (first | refine blk_drewN ?_ _ | refine blk_drew ?_ | refine blk_alloc ?_ _)); exact BK252.out⟩, ⟨by (with_reducible repeat (first | refine blk_drewN ?_ _ | refine blk_drew ?_ | refine blk_alloc ?_ _)); exact BK256.out⟩, ⟨by (with_reducible repeat (first | refine blk_drewN ?_ _ | refine blk_drew ?_ | refine blk_alloc ?_ _)); exact BK257.out⟩, ⟨bl⟩⟩
         case round =>
          clear H'
          (try clear c121); (try clear c122); (try clear c122b0); (try clear c123); (try clear c123b0); (try clear c124); (try clear c124b0); (try clear c125); (try clear c125b0); (try clear c125b1); (try clear c125b2); (try clear hcz129_0); (try clear hcz129_1); (try clear hcz129_2); (try clear hcz129_3); (try clear hcz129_4); (try clear hcz129_5); (try clear hcz129_6); (try clear hcz129_7); (try clear hcz129_8); (try clear hfz129_0); (try clear hfz129_1); (try clear hfz129_2); (try clear hfz129_3); (try clear hfz129_4); (try clear hfz129_5); (try clear hfz129_6); (try clear hfz129_7); (try clear hfz129_8); (try clear hx261_0); (try clear hx262_0); (try clear p261); (try clear p262); (try clear q261); (try clear q262)
          obtain ⟨x9_5, rfl, HA, HK5, BK251, BK252, BK256, BK257, HB⟩ := hrel
          cases gk with
          | zero => exact absurd HA.out (by simp [runnelref17_Same.l2])
          | succ k5 =>
           have H := HA.out
           clear HA
           simp only [runnelref17_Same.l2] at H
           by_cases c131 : 0 ≤ x8_4
           ·
            rw [if_pos c131] at H
            have c131b0 : decide (0 ≤ x8_4) = true := decide_eq_true c131
            clear c131
            by_cases c132 : x8_4 < (((rd_T44 l0_0 x5_2).f3).length : Int)
            ·
             rw [if_pos c132] at H
             have c132b0 : decide (x8_4 < (((rd_T44 l0_0 x5_2).f3).length : Int)) = true := decide_eq_true c132
             clear c132
             by_cases c133 : x9_5 < ((rd_L4 ((rd_T44 l0_0 x5_2).f3) x8_4).length : Int)
             ·
              rw [if_pos c133] at H
              have c133b0 : decide (x9_5 < ((rd_L4 ((rd_T44 l0_0 x5_2).f3) x8_4).length : Int)) = true := decide_eq_true c133
              clear c133
              by_cases c134 : 0 ≤ x9_5
              ·
               rw [if_pos c134] at H
               have c134b0 : decide (0 ≤ x9_5) = true := decide_eq_true c134
               clear c134
               by_cases c135 : x8_4 < (((rd_T44 l1_0 x5_2).f3).length : Int)
               ·
                rw [if_pos c135] at H
                have c135b0 : decide (x8_4 < (((rd_T44 l1_0 x5_2).f3).length : Int)) = true := decide_eq_true c135
                clear c135
                by_cases c136 : x9_5 < ((rd_L4 ((rd_T44 l1_0 x5_2).f3) x8_4).length : Int)
                ·
                 rw [if_pos c136] at H
                 have c136b0 : decide (x9_5 < ((rd_L4 ((rd_T44 l1_0 x5_2).f3) x8_4).length : Int)) = true := decide_eq_true c136
                 clear c136
                 have HQ_ := Aside0.mk H
                 clear H
                 have hnb138 := NB256_251.out
                 have hnc138 := NB251_256.out
                 have hnb139 := NB256_252.out
                 have hnc139 := NB252_256.out
                 have hnb140 := NB256_257.out
                 have hnc140 := NB257_256.out
                 obtain ⟨hcz141_0, hcz141_1, hcz141_2, hcz141_3, hcz141_4, hcz141_5, hcz141_6, hcz141_7, hcz141_8⟩ := cells9 BK256.out
                 obtain ⟨hfz141_0, hfz141_1, hfz141_2, hfz141_3, hfz141_4, hfz141_5, hfz141_6, hfz141_7, hfz141_8⟩ := frz9 BK256.out
                 have p263 : 0 ≤ (x8_4 : Int) := of_decide_eq_true (by first | (with_reducible assumption) | assumption)
                 have q263 : x8_4 < (((rd_T44 l0_0 x5_2).f3).length : Int) := of_decide_eq_true (by first | (with_reducible assumption) | assumption)
                 obtain ⟨ad263, A263_0, c263_0, e263, hx263_0, hl263_0, hi263_0⟩ := at_L4 HR254_3.out x8_4 p263 q263
                 obtain rfl : ad261 = ad263 := (by injection e263)
                 replace hx263_0 := bc HB.out hx263_0
                 have HR263_0 := Aside0.mk hi263_0
                 have HC263_0 := Aside0.mk hl263_0
                 clear hi263_0 hl263_0
                 replace p263 := eq_true p263
                 replace q263 := eq_true q263
                 try go_wp2
                 have n0_ := Aside0.mk (blk_drew BK251.out)
                 have n1_ := Aside0.mk (blk_drew BK252.out)
                 have n2_ := Aside0.mk (blk_drew BK256.out)
                 have n3_ := Aside0.mk (blk_drew BK257.out)
                 have n4_ := Aside0.mk (below_drew1 HB.out)
                 clear BK251
                 clear BK252
                 clear BK256
                 clear BK257
                 clear HB
                 have BK251 := n0_
                 have BK252 := n1_
                 have BK256 := n2_
                 have BK257 := n3_
                 have HB := n4_
                 clear n0_ n1_ n2_ n3_ n4_
                 have p264 : 0 ≤ (x8_4 : Int) := of_decide_eq_true (by first | (with_reducible assumption) | assumption)
                 have q264 : x8_4 < (((rd_T44 l0_0 x5_2).f3).length : Int) := of_decide_eq_true (by first | (with_reducible assumption) | assumption)
                 obtain ⟨ad264, A264_0, c264_0, e264, hx264_0, hl264_0, hi264_0⟩ := at_L4 HR254_3.out x8_4 p264 q264
                 have hw264_0 := hx264_0
                 obtain rfl : ad261 = ad264 := (by injection e264)
                 replace hx264_0 := bc HB.out hx264_0
                 have HR264_0 := Aside0.mk hi264_0
                 have HC264_0 := Aside0.mk hl264_0
                 clear hi264_0 hl264_0
                 replace p264 := eq_true p264
                 replace q264 := eq_true q264
                 have p265 : 0 ≤ (x9_5 : Int) := of_decide_eq_true (by first | (with_reducible assumption) | assumption)
                 have q265 : x9_5 < ((rd_L4 ((rd_T44 l0_0 x5_2).f3) x8_4).length : Int) := of_decide_eq_true (by first | (with_reducible assumption) | assumption)
                 obtain ⟨ad265, e265, hx265_0, hx265_1, hx265_2⟩ := at_T52 HR264_0.out x9_5 p265 q265
                 have hw265_2 := hx265_2
                 have hw265_1 := hx265_1
                 have hw265_0 := hx265_0
                 cases e265
                 replace hx265_0 := bc HB.out hx265_0
                 replace hx265_1 := bc HB.out hx265_1
                 replace hx265_2 := bc HB.out hx265_2
                 replace p265 := eq_true p265
                 replace q265 := eq_true q265
                 have p266 : 0 ≤ (x8_4 : Int) := of_decide_eq_true (by first | (with_reducible assumption) | assumption)
                 have q266 : x8_4 < (((rd_T44 l1_0 x5_2).f3).length : Int) := of_decide_eq_true (by first | (with_reducible assumption) | assumption)
                 obtain ⟨ad266, A266_0, c266_0, e266, hx266_0, hl266_0, hi266_0⟩ := at_L4 HR255_3.out x8_4 p266 q266
                 have hw266_0 := hx266_0
                 obtain rfl : ad262 = ad266 := (by injection e266)
                 replace hx266_0 := bc HB.out hx266_0
                 have HR266_0 := Aside0.mk hi266_0
                 have HC266_0 := Aside0.mk hl266_0
                 clear hi266_0 hl266_0
                 replace p266 := eq_true p266
                 replace q266 := eq_true q266
                 have p267 : 0 ≤ (x9_5 : Int) := of_decide_eq_true (by first | (with_reducible assumption) | assumption)
                 have q267 : x9_5 < ((rd_L4 ((rd_T44 l1_0 x5_2).f3) x8_4).length : Int) := of_decide_eq_true (by first | (with_reducible assumption) | assumption)
                 obtain ⟨ad267, e267, hx267_0, hx267_1, hx267_2⟩ := at_T52 HR266_0.out x9_5 p267 q267
                 have hw267_2 := hx267_2
                 have hw267_1 := hx267_1
                 have hw267_0 := hx267_0
                 cases e267
                 replace hx267_0 := bc HB.out hx267_0
                 replace hx267_1 := bc HB.out hx267_1
                 replace hx267_2 := bc HB.out hx267_2
                 replace p267 := eq_true p267
                 replace q267 := eq_true q267
                 refine start_ (n := 17) (S := fun w' => w'.cell? ⟨gb256, 0, none⟩ = some (.int .i64 ((rd_T44 l0_0 x5_2).f0)) ∧ w'.cell? ⟨gb256, 1, none⟩ = some (.slice A254_1 ((rd_T44 l0_0 x5_2).f1).length c254_1) ∧ w'.cell? ⟨gb256, 2, none⟩ = some (.slice A254_2 ((rd_T44 l0_0 x5_2).f2).length c254_2) ∧ w'.cell? ⟨gb256, 3, none⟩ = some (.slice (some ad261) ((rd_T44 l0_0 x5_2).f3).length c254_3) ∧ w'.cell? ⟨gb256, 4, none⟩ = some (.slice A254_4 ((rd_T44 l0_0 x5_2).f4).length c254_4) ∧ w'.cell? ⟨gb256, 5, none⟩ = some (.int .i64 ((rd_T44 l0_0 x5_2).f5)) ∧ w'.cell? ⟨gb256, 6, none⟩ = some (.int .i64 ((rd_T44 l0_0 x5_2).f6)) ∧ w'.cell? ⟨gb256, 7, none⟩ = some (.int .i64 ((rd_T44 l0_0 x5_2).f7)) ∧ w'.cell? ⟨gb256, 8, none⟩ = some (.int .i64 ((rd_T44 l0_0 x5_2).f8)) ∧ w'.cell? ⟨gb257, 0, none⟩ = some (.int .i64 ((rd_T44 l1_0 x5_2).f0)) ∧ w'.cell? ⟨gb257, 1, none⟩ = some (.slice A255_1 ((rd_T44 l1_0 x5_2).f1).length c255_1) ∧ w'.cell? ⟨gb257, 2, none⟩ = some (.slice A255_2 ((rd_T44 l1_0 x5_2).f2).length c255_2) ∧ w'.cell? ⟨gb257, 3, none⟩ = some (.slice (some ad262) ((rd_T44 l1_0 x5_2).f3).length c255_3) ∧ w'.cell? ⟨gb257, 4, none⟩ = some (.slice A255_4 ((rd_T44 l1_0 x5_2).f4).length c255_4) ∧ w'.cell? ⟨gb257, 5, none⟩ = some (.int .i64 ((rd_T44 l1_0 x5_2).f5)) ∧ w'.cell? ⟨gb257, 6, none⟩ = some (.int .i64 ((rd_T44 l1_0 x5_2).f6)) ∧ w'.cell? ⟨gb257, 7, none⟩ = some (.int .i64 ((rd_T44 l1_0 x5_2).f7)) ∧ w'.cell? ⟨gb257, 8, none⟩ = some (.int .i64 ((rd_T44 l1_0 x5_2).f8)) ∧ w'.cell? (ad261.add (x8_4).toNat) = some (.slice (some ad265) (rd_L4 ((rd_T44 l0_0 x5_2).f3) x8_4).length c264_0) ∧ w'.cell? (ad265.add ((x9_5).toNat * 3)) = some (.int .i64 ((rd_T52 (rd_L4 ((rd_T44 l0_0 x5_2).f3) x8_4) x9_5).f0)) ∧ w'.cell? ⟨(ad265.add ((x9_5).toNat * 3)).block, (ad265.add ((x9_5).toNat * 3)).off + 1, none⟩ = some (.int .i64 ((rd_T52 (rd_L4 ((rd_T44 l0_0 x5_2).f3) x8_4) x9_5).f1)) ∧ w'.cell? ⟨(ad265.add ((x9_5).toNat * 3)).block, (ad265.add ((x9_5).toNat * 3)).off + 2, none⟩ = some (.string ((rd_T52 (rd_L4 ((rd_T44 l0_0 x5_2).f3) x8_4) x9_5).f2)) ∧ w'.cell? (ad262.add (x8_4).toNat) = some (.slice (some ad267) (rd_L4 ((rd_T44 l1_0 x5_2).f3) x8_4).length c266_0) ∧ w'.cell? (ad267.add ((x9_5).toNat * 3)) = some (.int .i64 ((rd_T52 (rd_L4 ((rd_T44 l1_0 x5_2).f3) x8_4) x9_5).f0)) ∧ w'.cell? ⟨(ad267.add ((x9_5).toNat * 3)).block, (ad267.add ((x9_5).toNat * 3)).off + 1, none⟩ = some (.int .i64 ((rd_T52 (rd_L4 ((rd_T44 l1_0 x5_2).f3) x8_4) x9_5).f1)) ∧ w'.cell? ⟨(ad267.add ((x9_5).toNat * 3)).block, (ad267.add ((x9_5).toNat * 3)).off + 2, none⟩ = some (.string ((rd_T52 (rd_L4 ((rd_T44 l1_0 x5_2).f3) x8_4) x9_5).f2))) (ds := []) #[false, false, false, false, false, false, false, false, false, false, false, false, false, false, false, false, false] (by kernel_rfl) rfl rfl ⟨(blk_cell BK256.out 0).trans rfl, (blk_cell BK256.out 1).trans rfl, (blk_cell BK256.out 2).trans rfl, (blk_cell BK256.out 3).trans rfl, (blk_cell BK256.out 4).trans rfl, (blk_cell BK256.out 5).trans rfl, (blk_cell BK256.out 6).trans rfl, (blk_cell BK256.out 7).trans rfl, (blk_cell BK256.out 8).trans rfl, (blk_cell BK257.out 0).trans rfl, (blk_cell BK257.out 1).trans rfl, (blk_cell BK257.out 2).trans rfl, (blk_cell BK257.out 3).trans rfl, (blk_cell BK257.out 4).trans rfl, (blk_cell BK257.out 5).trans rfl, (blk_cell BK257.out 6).trans rfl, (blk_cell BK257.out 7).trans rfl, (blk_cell BK257.out 8).trans rfl, (bc HB.out hw264_0), (bc HB.out hw265_0), (bc HB.out hw265_1), (bc HB.out hw265_2), (bc HB.out hw266_0), (bc HB.out hw267_0), (bc HB.out hw267_1), (bc HB.out hw267_2)⟩ (fun hHeld => ?_); refine with_tabW runnelref17_Same.tab17 runnelref17_Same.bits17 (fun HT_ HW_ => ?_)
                 generalize wr.drew = w142 at BK251 BK252 BK256 BK257 HB HR264_0 HR266_0 hx264_0 hx265_0 hx265_1 hx265_2 hx266_0 hx267_0 hx267_1 hx267_2 hHeld ⊢
                 refine pure_ (i := 0) (N := some 145) (v := ?_) (a' := ?_) #[true, false, false, false, false, false, false, false, false, false, false, false, false, false, false, false, false] rfl rfl (any_of HT_.out (by kernel_rfl)) (fun _ _ _ h => h) (Or.inl ⟨by rfl, ?_⟩) ?_ ?_
                 rotate_left
                 ·
                  intro w'
                  go_simp
                  with_reducible rfl
                 rotate_left
                 ·
                  simp only [Act.put, List.setIfInBounds_toArray, List.set_cons_zero, List.set_cons_succ, i64_w, i32_w]
                  rfl
                 refine pure_ (i := 2) (N := some 147) (v := ?_) (a' := ?_) #[true, false, true, false, false, false, false, false, false, false, false, false, false, false, false, false, false] rfl rfl (any_of HT_.out (by kernel_rfl)) (fun _ _ _ h => h) (Or.inl ⟨by rfl, ?_⟩) ?_ ?_
                 rotate_left
                 ·
                  intro w'
                  go_simp
                  with_reducible rfl
                 rotate_left
                 ·
                  simp only [Act.put, List.setIfInBounds_toArray, List.set_cons_zero, List.set_cons_succ, i64_w, i32_w]
                  rfl
                 refine pure_ (i := 5) (N := some 150) (v := ?_) (a' := ?_) #[true, false, true, false, false, true, false, false, false, false, false, false, false, false, false, false, false] rfl rfl (any_of HT_.out (by kernel_rfl)) (fun _ _ _ h => h) (Or.inl ⟨by rfl, ?_⟩) ?_ ?_
                 rotate_left
                 ·
                  intro w'
                  go_simp
                  with_reducible rfl
                 rotate_left
                 ·
                  simp only [Act.put, List.setIfInBounds_toArray, List.set_cons_zero, List.set_cons_succ, i64_w, i32_w]
                  rfl
                 refine pure_ (i := 8) (N := some 153) (v := ?_) (a' := ?_) #[true, false, true, false, false, true, false, false, true, false, false, false, false, false, false, false, false] rfl rfl (any_of HT_.out (by kernel_rfl)) (fun _ _ _ h => h) (Or.inl ⟨by rfl, ?_⟩) ?_ ?_
                 rotate_left
                 ·
                  intro w'
                  go_simp
                  with_reducible rfl
                 rotate_left
                 ·
                  simp only [Act.put, List.setIfInBounds_toArray, List.set_cons_zero, List.set_cons_succ, i64_w, i32_w]
                  rfl
                 refine pure_ (i := 10) (N := some 155) (v := ?_) (a' := ?_) #[true, false, true, false, false, true, false, false, true, false, true, false, false, false, false, false, false] rfl rfl (any_of HT_.out (by kernel_rfl)) (fun _ _ _ h => h) (Or.inl ⟨by rfl, ?_⟩) ?_ ?_
                 rotate_left
                 ·
                  intro w'
                  go_simp
                  with_reducible rfl
                 rotate_left
                 ·
                  simp only [Act.put, List.setIfInBounds_toArray, List.set_cons_zero, List.set_cons_succ, i64_w, i32_w]
                  rfl
                 refine pure_ (i := 13) (N := some 158) (v := ?_) (a' := ?_) #[true, false, true, false, false, true, false, false, true, false, true, false, false, true, false, false, false] rfl rfl (any_of HT_.out (by kernel_rfl)) (fun _ _ _ h => h) (Or.inl ⟨by rfl, ?_⟩) ?_ ?_
                 rotate_left
                 ·
                  intro w'
                  go_simp
                  with_reducible rfl
                 rotate_left
                 ·
                  simp only [Act.put, List.setIfInBounds_toArray, List.set_cons_zero, List.set_cons_succ, i64_w, i32_w]
                  rfl
                 refine take_ (i := 1) (N := some 146) (v := ?_) (a' := ?_) #[true, true, true, false, false, true, false, false, true, false, true, false, false, true, false, false, false] rfl rfl (take_ofW HT_.out HW_.out (by kernel_rfl)) (fun _ _ _ h => h) (Or.inl ⟨by rfl, ?_⟩) hHeld ?_ ?_
                 rotate_left
                 ·
                  rintro w' ⟨s0, s1, s2, s3, s4, s5, s6, s7, s8, s9, s10, s11, s12, s13, s14, s15, s16, s17, s18, s19, s20, s21, s22, s23, s24, s25⟩
                  go_simp
                  with_reducible rfl
                 rotate_left
                 ·
                  simp only [Act.put, List.setIfInBounds_toArray, List.set_cons_zero, List.set_cons_succ, i64_w, i32_w]
                  rfl
                 refine pure_ (i := 3) (N := some 148) (v := ?_) (a' := ?_) #[true, true, true, true, false, true, false, false, true, false, true, false, false, true, false, false, false] rfl rfl (any_of HT_.out (by kernel_rfl)) (fun _ _ _ h => h) (Or.inl ⟨by rfl, ?_⟩) ?_ ?_
                 rotate_left
                 ·
                  intro w'
                  go_simp
                  with_reducible rfl
                 rotate_left
                 ·
                  simp only [Act.put, List.setIfInBounds_toArray, List.set_cons_zero, List.set_cons_succ, i64_w, i32_w]
                  rfl
                 refine take_ (i := 4) (N := some 149) (v := ?_) (a' := ?_) #[true, true, true, true, true, true, false, false, true, false, true, false, false, true, false, false, false] rfl rfl (take_ofW HT_.out HW_.out (by kernel_rfl)) (fun _ _ _ h => h) (Or.inl ⟨by rfl, ?_⟩) hHeld ?_ ?_
                 rotate_left
                 ·
                  rintro w' ⟨s0, s1, s2, s3, s4, s5, s6, s7, s8, s9, s10, s11, s12, s13, s14, s15, s16, s17, s18, s19, s20, s21, s22, s23, s24, s25⟩
                  go_simp
                  with_reducible rfl
                 rotate_left
                 ·
                  simp only [Act.put, List.setIfInBounds_toArray, List.set_cons_zero, List.set_cons_succ, i64_w, i32_w]
                  rfl
                 refine pure_ (i := 6) (N := some 151) (v := ?_) (a' := ?_) #[true, true, true, true, true, true, true, false, true, false, true, false, false, true, false, false, false] rfl rfl (any_of HT_.out (by kernel_rfl)) (fun _ _ _ h => h) (Or.inl ⟨by rfl, ?_⟩) ?_ ?_
                 rotate_left
                 ·
                  intro w'
                  go_simp
                  with_reducible rfl
                 rotate_left
                 ·
                  simp only [Act.put, List.setIfInBounds_toArray, List.set_cons_zero, List.set_cons_succ, i64_w, i32_w]
                  rfl
                 refine take_ (i := 7) (N := some 152) (v := ?_) (a' := ?_) #[true, true, true, true, true, true, true, true, true, false, true, false, false, true, false, false, false] rfl rfl (take_ofW HT_.out HW_.out (by kernel_rfl)) (fun _ _ _ h => h) (Or.inl ⟨by rfl, ?_⟩) hHeld ?_ ?_
                 rotate_left
                 ·
                  rintro w' ⟨s0, s1, s2, s3, s4, s5, s6, s7, s8, s9, s10, s11, s12, s13, s14, s15, s16, s17, s18, s19, s20, s21, s22, s23, s24, s25⟩
                  go_simp
                  with_reducible rfl
                 rotate_left
                 ·
                  simp only [Act.put, List.setIfInBounds_toArray, List.set_cons_zero, List.set_cons_succ, i64_w, i32_w]
                  rfl
                 refine take_ (i := 9) (N := some 154) (v := ?_) (a' := ?_) #[true, true, true, true, true, true, true, true, true, true, true, false, false, true, false, false, false] rfl rfl (take_ofW HT_.out HW_.out (by kernel_rfl)) (fun _ _ _ h => h) (Or.inl ⟨by rfl, ?_⟩) hHeld ?_ ?_
                 rotate_left
                 ·
                  rintro w' ⟨s0, s1, s2, s3, s4, s5, s6, s7, s8, s9, s10, s11, s12, s13, s14, s15, s16, s17, s18, s19, s20, s21, s22, s23, s24, s25⟩
                  go_simp
                  with_reducible rfl
                 rotate_left
                 ·
                  simp only [Act.put, List.setIfInBounds_toArray, List.set_cons_zero, List.set_cons_succ, i64_w, i32_w]
                  rfl
                 refine pure_ (i := 11) (N := some 156) (v := ?_) (a' := ?_) #[true, true, true, true, true, true, true, true, true, true, true, true, false, true, false, false, false] rfl rfl (any_of HT_.out (by kernel_rfl)) (fun _ _ _ h => h) (Or.inl ⟨by rfl, ?_⟩) ?_ ?_
                 rotate_left
                 ·
                  intro w'
                  go_simp
                  with_reducible rfl
                 rotate_left
                 ·
                  simp only [Act.put, List.setIfInBounds_toArray, List.set_cons_zero, List.set_cons_succ, i64_w, i32_w]
                  rfl
                 refine take_ (i := 12) (N := some 157) (v := ?_) (a' := ?_) #[true, true, true, true, true, true, true, true, true, true, true, true, true, true, false, false, false] rfl rfl (take_ofW HT_.out HW_.out (by kernel_rfl)) (fun _ _ _ h => h) (Or.inl ⟨by rfl, ?_⟩) hHeld ?_ ?_
                 rotate_left
                 ·
                  rintro w' ⟨s0, s1, s2, s3, s4, s5, s6, s7, s8, s9, s10, s11, s12, s13, s14, s15, s16, s17, s18, s19, s20, s21, s22, s23, s24, s25⟩
                  go_simp
                  with_reducible rfl
                 rotate_left
                 ·
                  simp only [Act.put, List.setIfInBounds_toArray, List.set_cons_zero, List.set_cons_succ, i64_w, i32_w]
                  rfl
                 refine pure_ (i := 14) (N := some 159) (v := ?_) (a' := ?_) #[true, true, true, true, true, true, true, true, true, true, true, true, true, true, true, false, false] rfl rfl (any_of HT_.out (by kernel_rfl)) (fun _ _ _ h => h) (Or.inl ⟨by rfl, ?_⟩) ?_ ?_
                 rotate_left
                 ·
                  intro w'
                  go_simp
                  with_reducible rfl
                 rotate_left
                 ·
                  simp only [Act.put, List.setIfInBounds_toArray, List.set_cons_zero, List.set_cons_succ, i64_w, i32_w]
                  rfl
                 refine take_ (i := 15) (N := some 160) (v := ?_) (a' := ?_) #[true, true, true, true, true, true, true, true, true, true, true, true, true, true, true, true, false] rfl rfl (take_ofW HT_.out HW_.out (by kernel_rfl)) (fun _ _ _ h => h) (Or.inl ⟨by rfl, ?_⟩) hHeld ?_ ?_
                 rotate_left
                 ·
                  rintro w' ⟨s0, s1, s2, s3, s4, s5, s6, s7, s8, s9, s10, s11, s12, s13, s14, s15, s16, s17, s18, s19, s20, s21, s22, s23, s24, s25⟩
                  go_simp
                  with_reducible rfl
                 rotate_left
                 ·
                  simp only [Act.put, List.setIfInBounds_toArray, List.set_cons_zero, List.set_cons_succ, i64_w, i32_w]
                  rfl
                 refine pure_ (i := 16) (N := some 161) (v := ?_) (a' := ?_) #[true, true, true, true, true, true, true, true, true, true, true, true, true, true, true, true, true] rfl rfl (any_of HT_.out (by kernel_rfl)) (fun _ _ _ h => h) (Or.inl ⟨by rfl, ?_⟩) ?_ ?_
                 rotate_left
                 ·
                  intro w'
                  go_simp
                  with_reducible rfl
                 rotate_left
                 ·
                  simp only [Act.put, List.setIfInBounds_toArray, List.set_cons_zero, List.set_cons_succ, i64_w, i32_w]
                  rfl
                 refine done_ (done_of HT_.out (by kernel_rfl)) ?_
                 have H := HQ_.out
                 clear HQ_
                 by_cases c137 : (!(((rd_T52 (rd_L4 ((rd_T44 l0_0 x5_2).f3) x8_4) x9_5).f0) == ((rd_T52 (rd_L4 ((rd_T44 l1_0 x5_2).f3) x8_4) x9_5).f0)) || (!(((rd_T52 (rd_L4 ((rd_T44 l0_0 x5_2).f3) x8_4) x9_5).f1) == ((rd_T52 (rd_L4 ((rd_T44 l1_0 x5_2).f3) x8_4) x9_5).f1)) || (!((((rd_T52 (rd_L4 ((rd_T44 l0_0 x5_2).f3) x8_4) x9_5).f2).toList) == (((rd_T52 (rd_L4 ((rd_T44 l1_0 x5_2).f3) x8_4) x9_5).f2).toList))))) = true
                 ·
                  rw [if_pos c137] at H
                  have c137b0 : (!(((rd_T52 (rd_L4 ((rd_T44 l0_0 x5_2).f3) x8_4) x9_5).f0) == ((rd_T52 (rd_L4 ((rd_T44 l1_0 x5_2).f3) x8_4) x9_5).f0)) || (!(((rd_T52 (rd_L4 ((rd_T44 l0_0 x5_2).f3) x8_4) x9_5).f1) == ((rd_T52 (rd_L4 ((rd_T44 l1_0 x5_2).f3) x8_4) x9_5).f1)) || (!((((rd_T52 (rd_L4 ((rd_T44 l0_0 x5_2).f3) x8_4) x9_5).f2).toList) == (((rd_T52 (rd_L4 ((rd_T44 l1_0 x5_2).f3) x8_4) x9_5).f2).toList))))) = true := c137
                  clear c137
                  try rw [c137b0]
                  try rw [c137b0]
                  obtain rfl := Option.some.inj H
                  have hnb138 := NB256_251.out
                  have hnc138 := NB251_256.out
                  have hnb139 := NB256_252.out
                  have hnc139 := NB252_256.out
                  have hnb140 := NB256_257.out
                  have hnc140 := NB257_256.out
                  obtain ⟨hcz141_0, hcz141_1, hcz141_2, hcz141_3, hcz141_4, hcz141_5, hcz141_6, hcz141_7, hcz141_8⟩ := cells9 BK256.out
                  obtain ⟨hfz141_0, hfz141_1, hfz141_2, hfz141_3, hfz141_4, hfz141_5, hfz141_6, hfz141_7, hfz141_8⟩ := frz9 BK256.out
                  have p263 : 0 ≤ (x8_4 : Int) := of_decide_eq_true (by first | (with_reducible assumption) | assumption)
                  have q263 : x8_4 < (((rd_T44 l0_0 x5_2).f3).length : Int) := of_decide_eq_true (by first | (with_reducible assumption) | assumption)
                  obtain ⟨ad263, A263_0, c263_0, e263, hx263_0, hl263_0, hi263_0⟩ := at_L4 HR254_3.out x8_4 p263 q263
                  obtain rfl : ad261 = ad263 := (by injection e263)
                  replace hx263_0 := bc HB.out hx263_0
                  have HR263_0 := Aside0.mk hi263_0
                  have HC263_0 := Aside0.mk hl263_0
                  clear hi263_0 hl263_0
                  replace p263 := eq_true p263
                  replace q263 := eq_true q263
                  try go_wp2
                  go_ret
                  exact ⟨erq, by repeat (first | (with_reducible first | exact HB.out | apply below_alloc | apply pw_below_drewN | apply below_drew1 | refine below_set ?_ GE251.out | refine below_set ?_ GE252.out | refine below_set ?_ GE256.out | refine below_set ?_ GE257.out) | exact HB.out)⟩
                 ·
                  rw [if_neg c137] at H
                  have c137b0 : (!(((rd_T52 (rd_L4 ((rd_T44 l0_0 x5_2).f3) x8_4) x9_5).f0) == ((rd_T52 (rd_L4 ((rd_T44 l1_0 x5_2).f3) x8_4) x9_5).f0)) || (!(((rd_T52 (rd_L4 ((rd_T44 l0_0 x5_2).f3) x8_4) x9_5).f1) == ((rd_T52 (rd_L4 ((rd_T44 l1_0 x5_2).f3) x8_4) x9_5).f1)) || (!((((rd_T52 (rd_L4 ((rd_T44 l0_0 x5_2).f3) x8_4) x9_5).f2).toList) == (((rd_T52 (rd_L4 ((rd_T44 l1_0 x5_2).f3) x8_4) x9_5).f2).toList))))) = false := by simpa using c137
                  clear c137
                  try rw [c137b0]
                  try rw [c137b0]
                  have H' := Aside0.mk H
                  clear H
                  have hnb143 := NB256_251.out
                  have hnc143 := NB251_256.out
                  have hnb144 := NB256_252.out
                  have hnc144 := NB252_256.out
                  have hnb145 := NB256_257.out
                  have hnc145 := NB257_256.out
                  obtain ⟨hcz146_0, hcz146_1, hcz146_2, hcz146_3, hcz146_4, hcz146_5, hcz146_6, hcz146_7, hcz146_8⟩ := cells9 BK256.out
                  obtain ⟨hfz146_0, hfz146_1, hfz146_2, hfz146_3, hfz146_4, hfz146_5, hfz146_6, hfz146_7, hfz146_8⟩ := frz9 BK256.out
                  have p263 : 0 ≤ (x8_4 : Int) := of_decide_eq_true (by first | (with_reducible assumption) | assumption)
                  have q263 : x8_4 < (((rd_T44 l0_0 x5_2).f3).length : Int) := of_decide_eq_true (by first | (with_reducible assumption) | assumption)
                  obtain ⟨ad263, A263_0, c263_0, e263, hx263_0, hl263_0, hi263_0⟩ := at_L4 HR254_3.out x8_4 p263 q263
                  obtain rfl : ad261 = ad263 := (by injection e263)
                  replace hx263_0 := bc HB.out hx263_0
                  have HR263_0 := Aside0.mk hi263_0
                  have HC263_0 := Aside0.mk hl263_0
                  clear hi263_0 hl263_0
                  replace p263 := eq_true p263
                  replace q263 := eq_true q263
                  try go_wp2
                  go_roundg k5
                  case measure => have := HJ2.out; have := HK2.out; have := HJ21.out; have := HK4.out; have := HK5.out; omega
                  case rel => exact ⟨(wrap64 (x9_5 + 1)), (by first | rfl | (simp; done) | (simp [*]; done)), H', ⟨by have := HJ2.out; have := HK2.out; have := HJ21.out; have := HK4.out; have := HK5.out; omega⟩, ⟨by (with_reducible repeat (first | refine blk_drewN ?_ _ | refine blk_drew ?_ | refine blk_alloc ?_ _)); exact BK251.out⟩, ⟨by (with_reducible repeat (first | refine blk_drewN ?_ _ | refine blk_drew ?_ | refine blk_alloc ?_ _)); exact BK252.out⟩, ⟨by (with_reducible repeat (first | refine blk_drewN ?_ _ | refine blk_drew ?_ | refine blk_alloc ?_ _)); exact BK256.out⟩, ⟨by (with_reducible repeat (first | refine blk_drewN ?_ _ | refine blk_drew ?_ | refine blk_alloc ?_ _)); exact BK257.out⟩, ⟨bl⟩⟩
                ·
                 rw [if_neg c136] at H
                 exact absurd H (by simp)
               ·
                rw [if_neg c135] at H
                exact absurd H (by simp)
              ·
               rw [if_neg c134] at H
               exact absurd H (by simp)
             ·
              rw [if_neg c133] at H
              have c133b0 : decide (x9_5 < ((rd_L4 ((rd_T44 l0_0 x5_2).f3) x8_4).length : Int)) = false := decide_eq_false c133
              clear c133
              have H' := Aside0.mk H
              clear H
              have hnb148 := NB256_251.out
              have hnc148 := NB251_256.out
              have hnb149 := NB256_252.out
              have hnc149 := NB252_256.out
              have hnb150 := NB256_257.out
              have hnc150 := NB257_256.out
              obtain ⟨hcz151_0, hcz151_1, hcz151_2, hcz151_3, hcz151_4, hcz151_5, hcz151_6, hcz151_7, hcz151_8⟩ := cells9 BK256.out
              obtain ⟨hfz151_0, hfz151_1, hfz151_2, hfz151_3, hfz151_4, hfz151_5, hfz151_6, hfz151_7, hfz151_8⟩ := frz9 BK256.out
              have p263 : 0 ≤ (x8_4 : Int) := of_decide_eq_true (by first | (with_reducible assumption) | assumption)
              have q263 : x8_4 < (((rd_T44 l0_0 x5_2).f3).length : Int) := of_decide_eq_true (by first | (with_reducible assumption) | assumption)
              obtain ⟨ad263, A263_0, c263_0, e263, hx263_0, hl263_0, hi263_0⟩ := at_L4 HR254_3.out x8_4 p263 q263
              obtain rfl : ad261 = ad263 := (by injection e263)
              replace hx263_0 := bc HB.out hx263_0
              have HR263_0 := Aside0.mk hi263_0
              have HC263_0 := Aside0.mk hl263_0
              clear hi263_0 hl263_0
              replace p263 := eq_true p263
              replace q263 := eq_true q263
              go_wp2
              go_roundg k5
              case measure => have := HJ2.out; have := HK2.out; have := HJ21.out; have := HK4.out; have := HK5.out; omega
              case rel => exact ⟨(wrap64 (x8_4 + 1)), (by first | rfl | (simp; done) | (simp [*]; done)), H', ⟨by have := HJ2.out; have := HK2.out; have := HJ21.out; have := HK4.out; have := HK5.out; omega⟩, ⟨by (with_reducible repeat (first | refine blk_drewN ?_ _ | refine blk_drew ?_ | refine blk_alloc ?_ _)); exact BK251.out⟩, ⟨by (with_reducible repeat (first | refine blk_drewN ?_ _ | refine blk_drew ?_ | refine blk_alloc ?_ _)); exact BK252.out⟩, ⟨by (with_reducible repeat (first | refine blk_drewN ?_ _ | refine blk_drew ?_ | refine blk_alloc ?_ _)); exact BK256.out⟩, ⟨by (with_reducible repeat (first | refine blk_drewN ?_ _ | refine blk_drew ?_ | refine blk_alloc ?_ _)); exact BK257.out⟩, ⟨bl⟩⟩
            ·
             rw [if_neg c132] at H
             exact absurd H (by simp)
           ·
            rw [if_neg c131] at H
            exact absurd H (by simp)
        ·
         rw [if_neg c125] at H
         have c125b0 : (((rd_L4 ((rd_T44 l0_0 x5_2).f3) x8_4).length : Int) == ((rd_L4 ((rd_T44 l1_0 x5_2).f3) x8_4).length : Int)) = false := beq_eq_false_iff_ne.mpr c125
         have c125b1 : (((rd_L4 ((rd_T44 l0_0 x5_2).f3) x8_4).length : Int) != ((rd_L4 ((rd_T44 l1_0 x5_2).f3) x8_4).length : Int)) = true := bne_iff_ne.mpr c125
         have c125b2 : ((rd_L4 ((rd_T44 l0_0 x5_2).f3) x8_4).length == (rd_L4 ((rd_T44 l1_0 x5_2).f3) x8_4).length) = false := by first | simpa using c125 | (simp at c125 ⊢; omega)
         obtain rfl := Option.some.inj H
         have hnb152 := NB256_251.out
         have hnc152 := NB251_256.out
         have hnb153 := NB256_252.out
         have hnc153 := NB252_256.out
         have hnb154 := NB256_257.out
         have hnc154 := NB257_256.out
         obtain ⟨hcz155_0, hcz155_1, hcz155_2, hcz155_3, hcz155_4, hcz155_5, hcz155_6, hcz155_7, hcz155_8⟩ := cells9 BK256.out
         obtain ⟨hfz155_0, hfz155_1, hfz155_2, hfz155_3, hfz155_4, hfz155_5, hfz155_6, hfz155_7, hfz155_8⟩ := frz9 BK256.out
         try go_wp2
         go_ret
         exact ⟨erq, by repeat (first | (with_reducible first | exact HB.out | apply below_alloc | apply pw_below_drewN | apply below_drew1 | refine below_set ?_ GE251.out | refine below_set ?_ GE252.out | refine below_set ?_ GE256.out | refine below_set ?_ GE257.out) | exact HB.out)⟩
       ·
        rw [if_neg c124] at H
        exact absurd H (by simp)
      ·
       rw [if_neg c123] at H
       exact absurd H (by simp)
     ·
      rw [if_neg c122] at H
      have c122b0 : decide (x8_4 < (((rd_T44 l0_0 x5_2).f3).length : Int)) = false := decide_eq_false c122
      clear c122
      have H' := Aside0.mk H
      clear H
      have hnb157 := NB256_251.out
      have hnc157 := NB251_256.out
      have hnb158 := NB256_252.out
      have hnc158 := NB252_256.out
      have hnb159 := NB256_257.out
      have hnc159 := NB257_256.out
      obtain ⟨hcz160_0, hcz160_1, hcz160_2, hcz160_3, hcz160_4, hcz160_5, hcz160_6, hcz160_7, hcz160_8⟩ := cells9 BK256.out
      obtain ⟨hfz160_0, hfz160_1, hfz160_2, hfz160_3, hfz160_4, hfz160_5, hfz160_6, hfz160_7, hfz160_8⟩ := frz9 BK256.out
      go_wp2
      go_roundg k4
      case measure => have := HJ2.out; have := HK2.out; have := HJ21.out; have := HK4.out; omega
      case rel => exact ⟨(wrap64 (x5_2 + 1)), (by first | rfl | (simp; done) | (simp [*]; done)), H', ⟨by have := HJ2.out; have := HK2.out; have := HJ21.out; have := HK4.out; omega⟩, ⟨by (with_reducible repeat (first | refine blk_drewN ?_ _ | refine blk_drew ?_ | refine blk_alloc ?_ _)); exact BK251.out⟩, ⟨by (with_reducible repeat (first | refine blk_drewN ?_ _ | refine blk_drew ?_ | refine blk_alloc ?_ _)); exact BK252.out⟩, ⟨bl⟩⟩
end Go.Proofs.Ytbdpnecnnokkkaa.PSheetEncodes
