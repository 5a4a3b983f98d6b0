import Derived.Test.YtbdpnecnnokkkaaOSheetSamex0
import Derived.Test.YtbdpnecnnokkkaaOSheetSamex1
import Derived.Test.YtbdpnecnnokkkaaOSheetSamex9
import Derived.Test.YtbdpnecnnokkkaaShort
import Derived.Test.YtbdpnecnnokkkaaOSheetSamex10p
namespace Go.Proofs.Ytbdpnecnnokkkaa.PSheetSame
open Go.RowKit Go.Proofs.YtbdpnecnnokkkaaW.PrintWords Go.Proofs.YtbdpnecnnokkkaaW.PrintLast Go.Proofs.YtbdpnecnnokkkaaW.PrintMore
attribute [local go_sem] max2_int min2_int max_two min_two max_three min_three max_four min_four   -- for this text's walks alone
set_option linter.unusedVariables false
set_option linter.unusedSimpArgs false
attribute [local go_sem high] eqA52
set_option maxHeartbeats 80000000 in
set_option maxRecDepth 100000 in
theorem runnelref17_Same.calls.leaf3 : runnelref17_Same.calls.pre.2.2.2.1 := by
 intro l0_0 l1_0 l0_1 l1_1 ad277 ad278 A0_1 A1_1 A277_1 A277_2 A277_3 A277_4 A278_1 A278_2 A278_3 A278_4 r a0_2 a1_2 x5_2 _ _ _ _ _ _ _ _ c0_0 _ c0_1 _ c1_0 _ c1_1 _ gb274 gb275 _ _ _ _ _ HJ2 _ HK2 HC22 c277_1 _ c277_2 _ c277_3 _ c277_4 _ c278_1 _ c278_2 _ c278_3 _ c278_4 _ gb279 NB274_279 NB279_274 NB275_279 NB279_275 _ _ _ _ _ _ _ _ _ _ _ _ _ _ _ _ _ _ _ _ _ _ _ _ _ _ _ _ _ _ _ _ _ _ _ _ gb280 NB280_279 NB279_280 _ _ _ _ _ _ _ _ _ _ _ _ _ _ _ _ _ _ _ _ _ _ _ _ _ _ _ _ _ _ _ _ _ _ _ _ _ _ _ _ _ _ _ _ _ _ _ _ _ _ _ _ _ _ _ _ _ _ _ _ _ _ _ _ _ _ _ _ _ _ _ _ _ _ _ _ w _ _ _ GE274 _ GE275 _ _ _ _ _ _ _ _ _ _ _ _ HR277_3 _ _ _ _ _ _ _ _ _ _ _ _ _ HR278_3 _ _ GE279 _ GE280 _ _ _ _ _ _ _ _ _ wr _ _ _ _ _ _ _ _ _ _ _ _ _ _ _ _ _ _ _ _ _ _ _ _ _ _ _ _ _ _ _ _ _ _ _ _ _ _ _ _ _ _ _ _ _ _ _ _ _ _ _ _ _ _ _ _ _ _ _ _ _ _ _ _ _ _ _ _ hHeld BK274 BK275 BK279 BK280 HB _ _ _ _ _ _ _ _ _ _ _ _ _ _ _ _ _ _ _ _ _ _ _ _ _ _ _ _ _ _ _ _ _ _ _ _ _ _ _ _ _ _ _ _ _ _ _ _ _ _ _ _ _ _ _ _ _ _ _ _ _ _ _ _ _ _ _ _ _ _ _ _ _ _ _ _ _ _ _ _ _ _ _ _ _ _ _ _ _ _ _ _ _ _ _ _ _ _ _ _ _ _ _ _ _ _ _ _ _ _ _ _ _ _ _ _ _ _ _ _ _ _ _ _ _ _ _ _ _ _ _ _ _ _ _ _ _ _ _ _ _ _ _ _ _ _ _ _ _ _ _ _ _ _ _ _ _ _ _ _ _ _ _ _ _ _ _ _ _ _ _ _ _ _ _ _ _ _ _ _ _ _ _ _ _ _ _ _ _ _ _ _ _ _ _ _ _ _ _ _ _ _ _ _ _ _ _ _ _ _ _ _ _ _ _ _ _ _ _ _ _ _ _ _ _ _ _ _ _ _ _ _ _ _ _ _ _ _ _ _ _ _ _ _ _ _ _ _ _ _ _ _ _ _ _ _ _ _ _ _ _ _ _ _ _ _ _ _ _ _ _ _ _ _ _ _ _ _ _ _ _ _ _ _ _ _ _ _ _ _ _ _ _ _ _ _ _ _ _ _ _ _ _ _ _ _ _ _ _ _ _ _ _ _ _ _ _ _ _ _ _ _ _ _ _ _ _ _ _ _ _ _ _ _ _ _ _ _ _ _ _ _ _ _ _ _ _ _ _ _ _ _ _ _ _ _ _ _ _ _ _ _ _ _ _ _ _ _ _ _ _ _ _ _ _ _ _ _ _ _ _ _ _ hcut _ _ _ _ _ _ _ _ _ _ _ _ _ _ _ _ _ _ _ _ _ _ _ _ _ _ _ _ _ _ _ _ _ _ _ _ _ _ _ _ _ _ _ _ _ _ _ _ _ _
 clear HC22
 obtain ⟨kq, x114_21, rfl, HA, HJ21, BK274, BK275, BK279, BK280, HB⟩ := hcut
 cases kq with
 | zero => exact absurd HA.out (by simp [runnelref17_Same.j2])
 | succ kj21 =>
  have H := HA.out
  clear HA
  simp only [runnelref17_Same.j2] at H
  by_cases c121 : x114_21 = true
  ·
   subst c121
   have H1 : (some false) = some r := by rw [if_pos rfl] at H; exact H
   clear H
   have H := H1
   clear H1
   obtain rfl := Option.some.inj H
   go_wp2
   go_ret
   exact ⟨by first | rfl | (simp [errW_none, errW_some] <;> rfl) | (simp [*, errW_none, errW_some] <;> rfl), by repeat (first | (with_reducible first | exact HB.out | apply c1 | apply c2 | apply c3 | refine c4 ?_ GE274.out | refine c4 ?_ GE275.out | refine c4 ?_ GE279.out | refine c4 ?_ GE280.out) | exact HB.out)⟩
  ·
   replace c121 := Bool.eq_false_iff.mpr c121
   subst c121
   have H1 : (runnelref17_Same.l1 kj21 x5_2 0 l0_0 l0_1 a0_2 l1_0 l1_1 a1_2 ((rd_T44 l0_0 x5_2).f0) ((rd_T44 l0_0 x5_2).f1) ((rd_T44 l0_0 x5_2).f2) ((rd_T44 l0_0 x5_2).f3) ((rd_T44 l0_0 x5_2).f4) ((rd_T44 l0_0 x5_2).f5) ((rd_T44 l0_0 x5_2).f6) ((rd_T44 l0_0 x5_2).f7) ((rd_T44 l0_0 x5_2).f8) ((rd_T44 l1_0 x5_2).f0) ((rd_T44 l1_0 x5_2).f1) ((rd_T44 l1_0 x5_2).f2) ((rd_T44 l1_0 x5_2).f3) ((rd_T44 l1_0 x5_2).f4) ((rd_T44 l1_0 x5_2).f5) ((rd_T44 l1_0 x5_2).f6) ((rd_T44 l1_0 x5_2).f7) ((rd_T44 l1_0 x5_2).f8)) = some r := by rw [if_neg (show ¬ (false = true) by decide)] at H; exact H
   clear H
   have H := H1
   clear H1
   have H' := am H
   clear H
   go_wp2
   go_loopg [8] kj21 (fun kq v8 w' => ∃ (x8_4 : Int), v8 = .int .i64 x8_4 ∧ Aside0 (runnelref17_Same.l1 kq x5_2 x8_4 l0_0 l0_1 a0_2 l1_0 l1_1 a1_2 ((rd_T44 l0_0 x5_2).f0) ((rd_T44 l0_0 x5_2).f1) ((rd_T44 l0_0 x5_2).f2) ((rd_T44 l0_0 x5_2).f3) ((rd_T44 l0_0 x5_2).f4) ((rd_T44 l0_0 x5_2).f5) ((rd_T44 l0_0 x5_2).f6) ((rd_T44 l0_0 x5_2).f7) ((rd_T44 l0_0 x5_2).f8) ((rd_T44 l1_0 x5_2).f0) ((rd_T44 l1_0 x5_2).f1) ((rd_T44 l1_0 x5_2).f2) ((rd_T44 l1_0 x5_2).f3) ((rd_T44 l1_0 x5_2).f4) ((rd_T44 l1_0 x5_2).f5) ((rd_T44 l1_0 x5_2).f6) ((rd_T44 l1_0 x5_2).f7) ((rd_T44 l1_0 x5_2).f8) = some r) ∧ Aside0 (kq ≤ kj21) ∧ Aside0 (w'.heap[gb274]? = some (.cells #[(.slice (some ad277) l0_0.length c0_0), (.slice A0_1 l0_1.length c0_1), .int .i64 a0_2] 25 (0, 0))) ∧ Aside0 (w'.heap[gb275]? = some (.cells #[(.slice (some ad278) l1_0.length c1_0), (.slice A1_1 l1_1.length c1_1), .int .i64 a1_2] 25 (0, 0))) ∧ Aside0 (w'.heap[gb279]? = some (.cells #[.int .i64 ((rd_T44 l0_0 x5_2).f0), (.slice A277_1 ((rd_T44 l0_0 x5_2).f1).length c277_1), (.slice A277_2 ((rd_T44 l0_0 x5_2).f2).length c277_2), (.slice A277_3 ((rd_T44 l0_0 x5_2).f3).length c277_3), (.slice A277_4 ((rd_T44 l0_0 x5_2).f4).length c277_4), .int .i64 ((rd_T44 l0_0 x5_2).f5), .int .i64 ((rd_T44 l0_0 x5_2).f6), .int .i64 ((rd_T44 l0_0 x5_2).f7), .int .i64 ((rd_T44 l0_0 x5_2).f8)] 44 (0, 0))) ∧ Aside0 (w'.heap[gb280]? = some (.cells #[.int .i64 ((rd_T44 l1_0 x5_2).f0), (.slice A278_1 ((rd_T44 l1_0 x5_2).f1).length c278_1), (.slice A278_2 ((rd_T44 l1_0 x5_2).f2).length c278_2), (.slice A278_3 ((rd_T44 l1_0 x5_2).f3).length c278_3), (.slice A278_4 ((rd_T44 l1_0 x5_2).f4).length c278_4), .int .i64 ((rd_T44 l1_0 x5_2).f5), .int .i64 ((rd_T44 l1_0 x5_2).f6), .int .i64 ((rd_T44 l1_0 x5_2).f7), .int .i64 ((rd_T44 l1_0 x5_2).f8)] 44 (0, 0))) ∧ Aside0 (Below w.heap.size w w'))
   case atStart => exact ⟨(0), (by first | rfl | (simp; done) | (simp [*]; done)), H', ⟨Nat.le_refl _⟩, ⟨by (with_reducible repeat (first | refine b1 ?_ _ | refine b2 ?_ | refine b3 ?_ _)); exact BK274.out⟩, ⟨by (with_reducible repeat (first | refine b1 ?_ _ | refine b2 ?_ | refine b3 ?_ _)); exact BK275.out⟩, ⟨by (with_reducible repeat (first | refine b1 ?_ _ | refine b2 ?_ | refine b3 ?_ _)); exact BK279.out⟩, ⟨by (with_reducible repeat (first | refine b1 ?_ _ | refine b2 ?_ | refine b3 ?_ _)); exact BK280.out⟩, ⟨by repeat (first | (with_reducible first | exact HB.out | apply c1 | apply c2 | apply c3 | refine c4 ?_ GE274.out | refine c4 ?_ GE275.out | refine c4 ?_ GE279.out | refine c4 ?_ GE280.out) | exact HB.out)⟩⟩
   case round =>
    clear H'
    try clear c121
    obtain ⟨x8_4, rfl, HA, HK4, BK274, BK275, BK279, BK280, HB⟩ := hrel
    cases gk with
    | zero => exact absurd HA.out (by simp [runnelref17_Same.l1])
    | succ k4 =>
     have H := HA.out
     clear HA
     simp only [runnelref17_Same.l1] at H
     by_cases c122 : x8_4 < (((rd_T44 l0_0 x5_2).f3).length : Int)
     ·
      rw [if_pos c122] at H
      have c122b0 : decide (x8_4 < (((rd_T44 l0_0 x5_2).f3).length : Int)) = true := decide_eq_true c122
      clear c122
      by_cases c123 : 0 ≤ x8_4
      ·
       rw [if_pos c123] at H
       have c123b0 : decide (0 ≤ x8_4) = true := decide_eq_true c123
       clear c123
       by_cases c124 : x8_4 < (((rd_T44 l1_0 x5_2).f3).length : Int)
       ·
        rw [if_pos c124] at H
        have c124b0 : decide (x8_4 < (((rd_T44 l1_0 x5_2).f3).length : Int)) = true := decide_eq_true c124
        clear c124
        by_cases c125 : ((rd_L4 ((rd_T44 l0_0 x5_2).f3) x8_4).length : Int) = ((rd_L4 ((rd_T44 l1_0 x5_2).f3) x8_4).length : Int)
        ·
         rw [if_pos c125] at H
         have c125b0 : (((rd_L4 ((rd_T44 l0_0 x5_2).f3) x8_4).length : Int) == ((rd_L4 ((rd_T44 l1_0 x5_2).f3) x8_4).length : Int)) = true := beq_iff_eq.mpr c125
         have c125b1 : (((rd_L4 ((rd_T44 l0_0 x5_2).f3) x8_4).length : Int) != ((rd_L4 ((rd_T44 l1_0 x5_2).f3) x8_4).length : Int)) = false := bne_eq_false_iff_eq.mpr c125
         have c125b2 : ((rd_L4 ((rd_T44 l0_0 x5_2).f3) x8_4).length == (rd_L4 ((rd_T44 l1_0 x5_2).f3) x8_4).length) = true := by first | simpa using c125 | (simp at c125 ⊢; omega)
         clear c125
         have H' := am H
         clear H
         have hnb126 := NB279_274.out
         have hnc126 := NB274_279.out
         have hnb127 := NB279_275.out
         have hnc127 := NB275_279.out
         have hnb128 := NB279_280.out
         have hnc128 := NB280_279.out
         have hcz129_0 : wr.cell? ⟨gb279, 0, none⟩ = some (.int .i64 ((rd_T44 l0_0 x5_2).f0)) := (b4 BK279.out 0).trans rfl
         have hcz129_1 : wr.cell? ⟨gb279, 1, none⟩ = some (.slice A277_1 ((rd_T44 l0_0 x5_2).f1).length c277_1) := (b4 BK279.out 1).trans rfl
         have hcz129_2 : wr.cell? ⟨gb279, 2, none⟩ = some (.slice A277_2 ((rd_T44 l0_0 x5_2).f2).length c277_2) := (b4 BK279.out 2).trans rfl
         have hcz129_3 : wr.cell? ⟨gb279, 3, none⟩ = some (.slice A277_3 ((rd_T44 l0_0 x5_2).f3).length c277_3) := (b4 BK279.out 3).trans rfl
         have hcz129_4 : wr.cell? ⟨gb279, 4, none⟩ = some (.slice A277_4 ((rd_T44 l0_0 x5_2).f4).length c277_4) := (b4 BK279.out 4).trans rfl
         have hcz129_5 : wr.cell? ⟨gb279, 5, none⟩ = some (.int .i64 ((rd_T44 l0_0 x5_2).f5)) := (b4 BK279.out 5).trans rfl
         have hcz129_6 : wr.cell? ⟨gb279, 6, none⟩ = some (.int .i64 ((rd_T44 l0_0 x5_2).f6)) := (b4 BK279.out 6).trans rfl
         have hcz129_7 : wr.cell? ⟨gb279, 7, none⟩ = some (.int .i64 ((rd_T44 l0_0 x5_2).f7)) := (b4 BK279.out 7).trans rfl
         have hcz129_8 : wr.cell? ⟨gb279, 8, none⟩ = some (.int .i64 ((rd_T44 l0_0 x5_2).f8)) := (b4 BK279.out 8).trans rfl
         try go_wp2
         have n0_ := am (b2 BK274.out)
         have n1_ := am (b2 BK275.out)
         have n2_ := am (b2 BK279.out)
         have n3_ := am (b2 BK280.out)
         have n4_ := am (c3 HB.out)
         clear BK274
         clear BK275
         clear BK279
         clear BK280
         clear HB
         have BK274 := n0_
         have BK275 := n1_
         have BK279 := n2_
         have BK280 := n3_
         have HB := n4_
         clear n0_ n1_ n2_ n3_ n4_
         have p284 : 0 ≤ (x8_4 : Int) := of_decide_eq_true (by first | (with_reducible assumption) | assumption)
         have q284 : x8_4 < (((rd_T44 l0_0 x5_2).f3).length : Int) := of_decide_eq_true (by first | (with_reducible assumption) | assumption)
         obtain ⟨ad284, A284_0, c284_0, e284, hx284_0, hl284_0, hi284_0⟩ := at_L4 HR277_3.out x8_4 p284 q284
         have hw284_0 := hx284_0
         cases e284
         replace hx284_0 := (HB.out.cell (bl w _ hx284_0)).trans hx284_0
         have HR284_0 := am hi284_0
         have HC284_0 := am hl284_0
         clear hi284_0 hl284_0
         replace p284 := eq_true p284
         replace q284 := eq_true q284
         have p285 : 0 ≤ (x8_4 : Int) := of_decide_eq_true (by first | (with_reducible assumption) | assumption)
         have q285 : x8_4 < (((rd_T44 l1_0 x5_2).f3).length : Int) := of_decide_eq_true (by first | (with_reducible assumption) | assumption)
         obtain ⟨ad285, A285_0, c285_0, e285, hx285_0, hl285_0, hi285_0⟩ := at_L4 HR278_3.out x8_4 p285 q285
         have hw285_0 := hx285_0
         cases e285
         replace hx285_0 := (HB.out.cell (bl w _ hx285_0)).trans hx285_0
         have HR285_0 := am hi285_0
         have HC285_0 := am hl285_0
         clear hi285_0 hl285_0
         replace p285 := eq_true p285
         replace q285 := eq_true q285
         refine start_ (n := 13) (S := fun w' => w'.cell? ⟨gb279, 0, none⟩ = some (.int .i64 ((rd_T44 l0_0 x5_2).f0)) ∧ w'.cell? ⟨gb279, 1, none⟩ = some (.slice A277_1 ((rd_T44 l0_0 x5_2).f1).length c277_1) ∧ w'.cell? ⟨gb279, 2, none⟩ = some (.slice A277_2 ((rd_T44 l0_0 x5_2).f2).length c277_2) ∧ w'.cell? ⟨gb279, 3, none⟩ = some (.slice (some ad284) ((rd_T44 l0_0 x5_2).f3).length c277_3) ∧ w'.cell? ⟨gb279, 4, none⟩ = some (.slice A277_4 ((rd_T44 l0_0 x5_2).f4).length c277_4) ∧ w'.cell? ⟨gb279, 5, none⟩ = some (.int .i64 ((rd_T44 l0_0 x5_2).f5)) ∧ w'.cell? ⟨gb279, 6, none⟩ = some (.int .i64 ((rd_T44 l0_0 x5_2).f6)) ∧ w'.cell? ⟨gb279, 7, none⟩ = some (.int .i64 ((rd_T44 l0_0 x5_2).f7)) ∧ w'.cell? ⟨gb279, 8, none⟩ = some (.int .i64 ((rd_T44 l0_0 x5_2).f8)) ∧ w'.cell? ⟨gb280, 0, none⟩ = some (.int .i64 ((rd_T44 l1_0 x5_2).f0)) ∧ w'.cell? ⟨gb280, 1, none⟩ = some (.slice A278_1 ((rd_T44 l1_0 x5_2).f1).length c278_1) ∧ w'.cell? ⟨gb280, 2, none⟩ = some (.slice A278_2 ((rd_T44 l1_0 x5_2).f2).length c278_2) ∧ w'.cell? ⟨gb280, 3, none⟩ = some (.slice (some ad285) ((rd_T44 l1_0 x5_2).f3).length c278_3) ∧ w'.cell? ⟨gb280, 4, none⟩ = some (.slice A278_4 ((rd_T44 l1_0 x5_2).f4).length c278_4) ∧ w'.cell? ⟨gb280, 5, none⟩ = some (.int .i64 ((rd_T44 l1_0 x5_2).f5)) ∧ w'.cell? ⟨gb280, 6, none⟩ = some (.int .i64 ((rd_T44 l1_0 x5_2).f6)) ∧ w'.cell? ⟨gb280, 7, none⟩ = some (.int .i64 ((rd_T44 l1_0 x5_2).f7)) ∧ w'.cell? ⟨gb280, 8, none⟩ = some (.int .i64 ((rd_T44 l1_0 x5_2).f8)) ∧ w'.cell? (ad284.add (x8_4).toNat) = some (.slice A284_0 (rd_L4 ((rd_T44 l0_0 x5_2).f3) x8_4).length c284_0) ∧ w'.cell? (ad285.add (x8_4).toNat) = some (.slice A285_0 (rd_L4 ((rd_T44 l1_0 x5_2).f3) x8_4).length c285_0)) (ds := []) #[false, false, false, false, false, false, false, false, false, false, false, false, false] (by kernel_rfl) rfl rfl ⟨(b4 BK279.out 0).trans rfl, (b4 BK279.out 1).trans rfl, (b4 BK279.out 2).trans rfl, (b4 BK279.out 3).trans rfl, (b4 BK279.out 4).trans rfl, (b4 BK279.out 5).trans rfl, (b4 BK279.out 6).trans rfl, (b4 BK279.out 7).trans rfl, (b4 BK279.out 8).trans rfl, (b4 BK280.out 0).trans rfl, (b4 BK280.out 1).trans rfl, (b4 BK280.out 2).trans rfl, (b4 BK280.out 3).trans rfl, (b4 BK280.out 4).trans rfl, (b4 BK280.out 5).trans rfl, (b4 BK280.out 6).trans rfl, (b4 BK280.out 7).trans rfl, (b4 BK280.out 8).trans rfl, ((HB.out.cell (bl w _ hw284_0)).trans hw284_0), ((HB.out.cell (bl w _ hw285_0)).trans hw285_0)⟩ (fun hHeld => ?_); refine with_tabW runnelref17_Same.tab12 runnelref17_Same.bits12 (fun HT_ HW_ => ?_)
         generalize wr.drew = w130 at BK274 BK275 BK279 BK280 HB HR284_0 HR285_0 hx284_0 hx285_0 hHeld ⊢
         refine pure_ (i := 0) (N := some 122) (v := ?_) (a' := ?_) #[true, false, false, false, false, false, false, false, false, false, false, false, false] rfl rfl (any_of HT_.out (by kernel_rfl)) (fun _ _ _ h => h) (Or.inl ⟨by rfl, ?_⟩) ?_ ?_
         rotate_left
         ·
          intro w'
          go_simp
          with_reducible rfl
         rotate_left
         ·
          simp only [Act.put, List.setIfInBounds_toArray, List.set_cons_zero, List.set_cons_succ, i64_w, i32_w]
          rfl
         refine pure_ (i := 2) (N := some 124) (v := ?_) (a' := ?_) #[true, false, true, false, false, false, false, false, false, false, false, false, false] rfl rfl (any_of HT_.out (by kernel_rfl)) (fun _ _ _ h => h) (Or.inl ⟨by rfl, ?_⟩) ?_ ?_
         rotate_left
         ·
          intro w'
          go_simp
          with_reducible rfl
         rotate_left
         ·
          simp only [Act.put, List.setIfInBounds_toArray, List.set_cons_zero, List.set_cons_succ, i64_w, i32_w]
          rfl
         refine pure_ (i := 6) (N := some 128) (v := ?_) (a' := ?_) #[true, false, true, false, false, false, true, false, false, false, false, false, false] rfl rfl (any_of HT_.out (by kernel_rfl)) (fun _ _ _ h => h) (Or.inl ⟨by rfl, ?_⟩) ?_ ?_
         rotate_left
         ·
          intro w'
          go_simp
          with_reducible rfl
         rotate_left
         ·
          simp only [Act.put, List.setIfInBounds_toArray, List.set_cons_zero, List.set_cons_succ, i64_w, i32_w]
          rfl
         refine pure_ (i := 8) (N := some 130) (v := ?_) (a' := ?_) #[true, false, true, false, false, false, true, false, true, false, false, false, false] rfl rfl (any_of HT_.out (by kernel_rfl)) (fun _ _ _ h => h) (Or.inl ⟨by rfl, ?_⟩) ?_ ?_
         rotate_left
         ·
          intro w'
          go_simp
          with_reducible rfl
         rotate_left
         ·
          simp only [Act.put, List.setIfInBounds_toArray, List.set_cons_zero, List.set_cons_succ, i64_w, i32_w]
          rfl
         refine take_ (i := 1) (N := some 123) (v := ?_) (a' := ?_) #[true, true, true, false, false, false, true, false, true, false, false, false, false] rfl rfl (take_ofW HT_.out HW_.out (by kernel_rfl)) (fun _ _ _ h => h) (Or.inl ⟨by rfl, ?_⟩) hHeld ?_ ?_
         rotate_left
         ·
          rintro w' ⟨s0, s1, s2, s3, s4, s5, s6, s7, s8, s9, s10, s11, s12, s13, s14, s15, s16, s17, s18, s19⟩
          go_simp
          with_reducible rfl
         rotate_left
         ·
          simp only [Act.put, List.setIfInBounds_toArray, List.set_cons_zero, List.set_cons_succ, i64_w, i32_w]
          rfl
         refine pure_ (i := 3) (N := some 125) (v := ?_) (a' := ?_) #[true, true, true, true, false, false, true, false, true, false, false, false, false] rfl rfl (any_of HT_.out (by kernel_rfl)) (fun _ _ _ h => h) (Or.inl ⟨by rfl, ?_⟩) ?_ ?_
         rotate_left
         ·
          intro w'
          go_simp
          with_reducible rfl
         rotate_left
         ·
          simp only [Act.put, List.setIfInBounds_toArray, List.set_cons_zero, List.set_cons_succ, i64_w, i32_w]
          rfl
         refine take_ (i := 4) (N := some 126) (v := ?_) (a' := ?_) #[true, true, true, true, true, false, true, false, true, false, false, false, false] rfl rfl (take_ofW HT_.out HW_.out (by kernel_rfl)) (fun _ _ _ h => h) (Or.inl ⟨by rfl, ?_⟩) hHeld ?_ ?_
         rotate_left
         ·
          rintro w' ⟨s0, s1, s2, s3, s4, s5, s6, s7, s8, s9, s10, s11, s12, s13, s14, s15, s16, s17, s18, s19⟩
          go_simp
          with_reducible rfl
         rotate_left
         ·
          simp only [Act.put, List.setIfInBounds_toArray, List.set_cons_zero, List.set_cons_succ, i64_w, i32_w]
          rfl
         refine pure_ (i := 5) (N := some 127) (v := ?_) (a' := ?_) #[true, true, true, true, true, true, true, false, true, false, false, false, false] rfl rfl (any_of HT_.out (by kernel_rfl)) (fun _ _ _ h => h) (Or.inl ⟨by rfl, ?_⟩) ?_ ?_
         rotate_left
         ·
          intro w'
          go_simp
          with_reducible rfl
         rotate_left
         ·
          simp only [Act.put, List.setIfInBounds_toArray, List.set_cons_zero, List.set_cons_succ, i64_w, i32_w]
          rfl
         refine take_ (i := 7) (N := some 129) (v := ?_) (a' := ?_) #[true, true, true, true, true, true, true, true, true, false, false, false, false] rfl rfl (take_ofW HT_.out HW_.out (by kernel_rfl)) (fun _ _ _ h => h) (Or.inl ⟨by rfl, ?_⟩) hHeld ?_ ?_
         rotate_left
         ·
          rintro w' ⟨s0, s1, s2, s3, s4, s5, s6, s7, s8, s9, s10, s11, s12, s13, s14, s15, s16, s17, s18, s19⟩
          go_simp
          with_reducible rfl
         rotate_left
         ·
          simp only [Act.put, List.setIfInBounds_toArray, List.set_cons_zero, List.set_cons_succ, i64_w, i32_w]
          rfl
         refine pure_ (i := 9) (N := some 131) (v := ?_) (a' := ?_) #[true, true, true, true, true, true, true, true, true, true, false, false, false] rfl rfl (any_of HT_.out (by kernel_rfl)) (fun _ _ _ h => h) (Or.inl ⟨by rfl, ?_⟩) ?_ ?_
         rotate_left
         ·
          intro w'
          go_simp
          with_reducible rfl
         rotate_left
         ·
          simp only [Act.put, List.setIfInBounds_toArray, List.set_cons_zero, List.set_cons_succ, i64_w, i32_w]
          rfl
         refine take_ (i := 10) (N := some 132) (v := ?_) (a' := ?_) #[true, true, true, true, true, true, true, true, true, true, true, false, false] rfl rfl (take_ofW HT_.out HW_.out (by kernel_rfl)) (fun _ _ _ h => h) (Or.inl ⟨by rfl, ?_⟩) hHeld ?_ ?_
         rotate_left
         ·
          rintro w' ⟨s0, s1, s2, s3, s4, s5, s6, s7, s8, s9, s10, s11, s12, s13, s14, s15, s16, s17, s18, s19⟩
          go_simp
          with_reducible rfl
         rotate_left
         ·
          simp only [Act.put, List.setIfInBounds_toArray, List.set_cons_zero, List.set_cons_succ, i64_w, i32_w]
          rfl
         refine pure_ (i := 11) (N := some 133) (v := ?_) (a' := ?_) #[true, true, true, true, true, true, true, true, true, true, true, true, false] rfl rfl (any_of HT_.out (by kernel_rfl)) (fun _ _ _ h => h) (Or.inl ⟨by rfl, ?_⟩) ?_ ?_
         rotate_left
         ·
          intro w'
          go_simp
          with_reducible rfl
         rotate_left
         ·
          simp only [Act.put, List.setIfInBounds_toArray, List.set_cons_zero, List.set_cons_succ, i64_w, i32_w]
          rfl
         refine pure_ (i := 12) (N := some 134) (v := ?_) (a' := ?_) #[true, true, true, true, true, true, true, true, true, true, true, true, true] rfl rfl (any_of HT_.out (by kernel_rfl)) (fun _ _ _ h => h) (Or.inl ⟨by rfl, ?_⟩) ?_ ?_
         rotate_left
         ·
          intro w'
          go_simp
          with_reducible rfl
         rotate_left
         ·
          simp only [Act.put, List.setIfInBounds_toArray, List.set_cons_zero, List.set_cons_succ, i64_w, i32_w]
          rfl
         refine done_ (done_of HT_.out (by kernel_rfl)) ?_
         try go_wp2
         go_loopg [9] k4 (fun kq v9 w' => ∃ (x9_5 : Int), v9 = .int .i64 x9_5 ∧ Aside0 (runnelref17_Same.l2 kq x5_2 x8_4 x9_5 l0_0 l0_1 a0_2 l1_0 l1_1 a1_2 ((rd_T44 l0_0 x5_2).f0) ((rd_T44 l0_0 x5_2).f1) ((rd_T44 l0_0 x5_2).f2) ((rd_T44 l0_0 x5_2).f3) ((rd_T44 l0_0 x5_2).f4) ((rd_T44 l0_0 x5_2).f5) ((rd_T44 l0_0 x5_2).f6) ((rd_T44 l0_0 x5_2).f7) ((rd_T44 l0_0 x5_2).f8) ((rd_T44 l1_0 x5_2).f0) ((rd_T44 l1_0 x5_2).f1) ((rd_T44 l1_0 x5_2).f2) ((rd_T44 l1_0 x5_2).f3) ((rd_T44 l1_0 x5_2).f4) ((rd_T44 l1_0 x5_2).f5) ((rd_T44 l1_0 x5_2).f6) ((rd_T44 l1_0 x5_2).f7) ((rd_T44 l1_0 x5_2).f8) = some r) ∧ Aside0 (kq ≤ k4) ∧ Aside0 (w'.heap[gb274]? = some (.cells #[(.slice (some ad277) l0_0.length c0_0), (.slice A0_1 l0_1.length c0_1), .int .i64 a0_2] 25 (0, 0))) ∧ Aside0 (w'.heap[gb275]? = some (.cells #[(.slice (some ad278) l1_0.length c1_0), (.slice A1_1 l1_1.length c1_1), .int .i64 a1_2] 25 (0, 0))) ∧ Aside0 (w'.heap[gb279]? = some (.cells #[.int .i64 ((rd_T44 l0_0 x5_2).f0), (.slice A277_1 ((rd_T44 l0_0 x5_2).f1).length c277_1), (.slice A277_2 ((rd_T44 l0_0 x5_2).f2).length c277_2), (.slice (some ad284) ((rd_T44 l0_0 x5_2).f3).length c277_3), (.slice A277_4 ((rd_T44 l0_0 x5_2).f4).length c277_4), .int .i64 ((rd_T44 l0_0 x5_2).f5), .int .i64 ((rd_T44 l0_0 x5_2).f6), .int .i64 ((rd_T44 l0_0 x5_2).f7), .int .i64 ((rd_T44 l0_0 x5_2).f8)] 44 (0, 0))) ∧ Aside0 (w'.heap[gb280]? = some (.cells #[.int .i64 ((rd_T44 l1_0 x5_2).f0), (.slice A278_1 ((rd_T44 l1_0 x5_2).f1).length c278_1), (.slice A278_2 ((rd_T44 l1_0 x5_2).f2).length c278_2), (.slice (some ad285) ((rd_T44 l1_0 x5_2).f3).length c278_3), (.slice A278_4 ((rd_T44 l1_0 x5_2).f4).length c278_4), .int .i64 ((rd_T44 l1_0 x5_2).f5), .int .i64 ((rd_T44 l1_0 x5_2).f6), .int .i64 ((rd_T44 l1_0 x5_2).f7), .int .i64 ((rd_T44 l1_0 x5_2).f8)] 44 (0, 0))) ∧ Aside0 (Below w.heap.size w w'))
         case atStart => exact ⟨(0), (by first | rfl | (simp; done) | (simp [*]; done)), H', ⟨Nat.le_refl _⟩, ⟨by (with_reducible repeat (first | refine b1 ?_ _ | refine b2 ?_ | refine b3 ?_ _)); exact BK274.out⟩, ⟨by (with_reducible repeat (first | refine b1 ?_ _ | refine b2 ?_ | refine b3 ?_ _)); exact BK275.out⟩, ⟨by (with_reducible repeat (first | refine b1 ?_ _ | refine b2 ?_ | refine b3 ?_ _)); exact BK279.out⟩, ⟨by (with_reducible repeat (first | refine b1 ?_ _ | refine b2 ?_ | refine b3 ?_ _)); exact BK280.out⟩, ⟨by repeat (first | (with_reducible first | exact HB.out | apply c1 | apply c2 | apply c3 | refine c4 ?_ GE274.out | refine c4 ?_ GE275.out | refine c4 ?_ GE279.out | refine c4 ?_ GE280.out) | exact HB.out)⟩⟩
         case round =>
          clear H'
          (try clear c121); (try clear c122); (try clear c122b0); (try clear c123); (try clear c123b0); (try clear c124); (try clear c124b0); (try clear c125); (try clear c125b0); (try clear c125b1); (try clear c125b2); (try clear hcz129_0); (try clear hcz129_1); (try clear hcz129_2); (try clear hcz129_3); (try clear hcz129_4); (try clear hcz129_5); (try clear hcz129_6); (try clear hcz129_7); (try clear hcz129_8); (try clear hfz129_0); (try clear hfz129_1); (try clear hfz129_2); (try clear hfz129_3); (try clear hfz129_4); (try clear hfz129_5); (try clear hfz129_6); (try clear hfz129_7); (try clear hfz129_8); (try clear hx284_0); (try clear hx285_0); (try clear p284); (try clear p285); (try clear q284); (try clear q285)
          obtain ⟨x9_5, rfl, HA, HK5, BK274, BK275, BK279, BK280, HB⟩ := hrel
          cases gk with
          | zero => exact absurd HA.out (by simp [runnelref17_Same.l2])
          | succ k5 =>
           have H := HA.out
           clear HA
           simp only [runnelref17_Same.l2] at H
           by_cases c131 : 0 ≤ x8_4
           ·
            rw [if_pos c131] at H
            have c131b0 : decide (0 ≤ x8_4) = true := decide_eq_true c131
            clear c131
            by_cases c132 : x8_4 < (((rd_T44 l0_0 x5_2).f3).length : Int)
            ·
             rw [if_pos c132] at H
             have c132b0 : decide (x8_4 < (((rd_T44 l0_0 x5_2).f3).length : Int)) = true := decide_eq_true c132
             clear c132
             by_cases c133 : x9_5 < ((rd_L4 ((rd_T44 l0_0 x5_2).f3) x8_4).length : Int)
             ·
              rw [if_pos c133] at H
              have c133b0 : decide (x9_5 < ((rd_L4 ((rd_T44 l0_0 x5_2).f3) x8_4).length : Int)) = true := decide_eq_true c133
              clear c133
              by_cases c134 : 0 ≤ x9_5
              ·
               rw [if_pos c134] at H
               have c134b0 : decide (0 ≤ x9_5) = true := decide_eq_true c134
               clear c134
               by_cases c135 : x8_4 < (((rd_T44 l1_0 x5_2).f3).length : Int)
               ·
                rw [if_pos c135] at H
                have c135b0 : decide (x8_4 < (((rd_T44 l1_0 x5_2).f3).length : Int)) = true := decide_eq_true c135
                clear c135
                by_cases c136 : x9_5 < ((rd_L4 ((rd_T44 l1_0 x5_2).f3) x8_4).length : Int)
                ·
                 rw [if_pos c136] at H
                 have c136b0 : decide (x9_5 < ((rd_L4 ((rd_T44 l1_0 x5_2).f3) x8_4).length : Int)) = true := decide_eq_true c136
                 clear c136
                 by_cases c137 : (!(((rd_T52 (rd_L4 ((rd_T44 l0_0 x5_2).f3) x8_4) x9_5).f0) == ((rd_T52 (rd_L4 ((rd_T44 l1_0 x5_2).f3) x8_4) x9_5).f0)) || (!(((rd_T52 (rd_L4 ((rd_T44 l0_0 x5_2).f3) x8_4) x9_5).f1) == ((rd_T52 (rd_L4 ((rd_T44 l1_0 x5_2).f3) x8_4) x9_5).f1)) || (!((((rd_T52 (rd_L4 ((rd_T44 l0_0 x5_2).f3) x8_4) x9_5).f2).toList) == (((rd_T52 (rd_L4 ((rd_T44 l1_0 x5_2).f3) x8_4) x9_5).f2).toList))))) = true
                 ·
                  rw [if_pos c137] at H
                  have c137b0 : (!(((rd_T52 (rd_L4 ((rd_T44 l0_0 x5_2).f3) x8_4) x9_5).f0) == ((rd_T52 (rd_L4 ((rd_T44 l1_0 x5_2).f3) x8_4) x9_5).f0)) || (!(((rd_T52 (rd_L4 ((rd_T44 l0_0 x5_2).f3) x8_4) x9_5).f1) == ((rd_T52 (rd_L4 ((rd_T44 l1_0 x5_2).f3) x8_4) x9_5).f1)) || (!((((rd_T52 (rd_L4 ((rd_T44 l0_0 x5_2).f3) x8_4) x9_5).f2).toList) == (((rd_T52 (rd_L4 ((rd_T44 l1_0 x5_2).f3) x8_4) x9_5).f2).toList))))) = true := c137
                  clear c137
                  obtain rfl := Option.some.inj H
                  have hnb138 := NB279_274.out
                  have hnc138 := NB274_279.out
                  have hnb139 := NB279_275.out
                  have hnc139 := NB275_279.out
                  have hnb140 := NB279_280.out
                  have hnc140 := NB280_279.out
                  have hcz141_0 : wr.cell? ⟨gb279, 0, none⟩ = some (.int .i64 ((rd_T44 l0_0 x5_2).f0)) := (b4 BK279.out 0).trans rfl
                  have hcz141_1 : wr.cell? ⟨gb279, 1, none⟩ = some (.slice A277_1 ((rd_T44 l0_0 x5_2).f1).length c277_1) := (b4 BK279.out 1).trans rfl
                  have hcz141_2 : wr.cell? ⟨gb279, 2, none⟩ = some (.slice A277_2 ((rd_T44 l0_0 x5_2).f2).length c277_2) := (b4 BK279.out 2).trans rfl
                  have hcz141_3 : wr.cell? ⟨gb279, 3, none⟩ = some (.slice (some ad284) ((rd_T44 l0_0 x5_2).f3).length c277_3) := (b4 BK279.out 3).trans rfl
                  have hcz141_4 : wr.cell? ⟨gb279, 4, none⟩ = some (.slice A277_4 ((rd_T44 l0_0 x5_2).f4).length c277_4) := (b4 BK279.out 4).trans rfl
                  have hcz141_5 : wr.cell? ⟨gb279, 5, none⟩ = some (.int .i64 ((rd_T44 l0_0 x5_2).f5)) := (b4 BK279.out 5).trans rfl
                  have hcz141_6 : wr.cell? ⟨gb279, 6, none⟩ = some (.int .i64 ((rd_T44 l0_0 x5_2).f6)) := (b4 BK279.out 6).trans rfl
                  have hcz141_7 : wr.cell? ⟨gb279, 7, none⟩ = some (.int .i64 ((rd_T44 l0_0 x5_2).f7)) := (b4 BK279.out 7).trans rfl
                  have hcz141_8 : wr.cell? ⟨gb279, 8, none⟩ = some (.int .i64 ((rd_T44 l0_0 x5_2).f8)) := (b4 BK279.out 8).trans rfl
                  have p286 : 0 ≤ (x8_4 : Int) := of_decide_eq_true (by first | (with_reducible assumption) | assumption)
                  have q286 : x8_4 < (((rd_T44 l0_0 x5_2).f3).length : Int) := of_decide_eq_true (by first | (with_reducible assumption) | assumption)
                  obtain ⟨ad286, A286_0, c286_0, e286, hx286_0, hl286_0, hi286_0⟩ := at_L4 HR277_3.out x8_4 p286 q286
                  obtain rfl : ad284 = ad286 := (by injection e286)
                  replace hx286_0 := (HB.out.cell (bl w _ hx286_0)).trans hx286_0
                  have HR286_0 := am hi286_0
                  have HC286_0 := am hl286_0
                  clear hi286_0 hl286_0
                  replace p286 := eq_true p286
                  replace q286 := eq_true q286
                  try go_wp2
                  have n0_ := am (b2 BK274.out)
                  have n1_ := am (b2 BK275.out)
                  have n2_ := am (b2 BK279.out)
                  have n3_ := am (b2 BK280.out)
                  have n4_ := am (c3 HB.out)
                  clear BK274
                  clear BK275
                  clear BK279
                  clear BK280
                  clear HB
                  have BK274 := n0_
                  have BK275 := n1_
                  have BK279 := n2_
                  have BK280 := n3_
                  have HB := n4_
                  clear n0_ n1_ n2_ n3_ n4_
                  have p287 : 0 ≤ (x8_4 : Int) := of_decide_eq_true (by first | (with_reducible assumption) | assumption)
                  have q287 : x8_4 < (((rd_T44 l0_0 x5_2).f3).length : Int) := of_decide_eq_true (by first | (with_reducible assumption) | assumption)
                  obtain ⟨ad287, A287_0, c287_0, e287, hx287_0, hl287_0, hi287_0⟩ := at_L4 HR277_3.out x8_4 p287 q287
                  have hw287_0 := hx287_0
                  obtain rfl : ad284 = ad287 := (by injection e287)
                  replace hx287_0 := (HB.out.cell (bl w _ hx287_0)).trans hx287_0
                  have HR287_0 := am hi287_0
                  have HC287_0 := am hl287_0
                  clear hi287_0 hl287_0
                  replace p287 := eq_true p287
                  replace q287 := eq_true q287
                  have p288 : 0 ≤ (x9_5 : Int) := of_decide_eq_true (by first | (with_reducible assumption) | assumption)
                  have q288 : x9_5 < ((rd_L4 ((rd_T44 l0_0 x5_2).f3) x8_4).length : Int) := of_decide_eq_true (by first | (with_reducible assumption) | assumption)
                  obtain ⟨ad288, e288, hx288_0, hx288_1, hx288_2⟩ := at_T52 HR287_0.out x9_5 p288 q288
                  have hw288_2 := hx288_2
                  have hw288_1 := hx288_1
                  have hw288_0 := hx288_0
                  cases e288
                  replace hx288_0 := (HB.out.cell (bl w _ hx288_0)).trans hx288_0
                  replace hx288_1 := (HB.out.cell (bl w _ hx288_1)).trans hx288_1
                  replace hx288_2 := (HB.out.cell (bl w _ hx288_2)).trans hx288_2
                  replace p288 := eq_true p288
                  replace q288 := eq_true q288
                  have p289 : 0 ≤ (x8_4 : Int) := of_decide_eq_true (by first | (with_reducible assumption) | assumption)
                  have q289 : x8_4 < (((rd_T44 l1_0 x5_2).f3).length : Int) := of_decide_eq_true (by first | (with_reducible assumption) | assumption)
                  obtain ⟨ad289, A289_0, c289_0, e289, hx289_0, hl289_0, hi289_0⟩ := at_L4 HR278_3.out x8_4 p289 q289
                  have hw289_0 := hx289_0
                  obtain rfl : ad285 = ad289 := (by injection e289)
                  replace hx289_0 := (HB.out.cell (bl w _ hx289_0)).trans hx289_0
                  have HR289_0 := am hi289_0
                  have HC289_0 := am hl289_0
                  clear hi289_0 hl289_0
                  replace p289 := eq_true p289
                  replace q289 := eq_true q289
                  have p290 : 0 ≤ (x9_5 : Int) := of_decide_eq_true (by first | (with_reducible assumption) | assumption)
                  have q290 : x9_5 < ((rd_L4 ((rd_T44 l1_0 x5_2).f3) x8_4).length : Int) := of_decide_eq_true (by first | (with_reducible assumption) | assumption)
                  obtain ⟨ad290, e290, hx290_0, hx290_1, hx290_2⟩ := at_T52 HR289_0.out x9_5 p290 q290
                  have hw290_2 := hx290_2
                  have hw290_1 := hx290_1
                  have hw290_0 := hx290_0
                  cases e290
                  replace hx290_0 := (HB.out.cell (bl w _ hx290_0)).trans hx290_0
                  replace hx290_1 := (HB.out.cell (bl w _ hx290_1)).trans hx290_1
                  replace hx290_2 := (HB.out.cell (bl w _ hx290_2)).trans hx290_2
                  replace p290 := eq_true p290
                  replace q290 := eq_true q290
                  refine start_ (n := 17) (S := fun w' => w'.cell? ⟨gb279, 0, none⟩ = some (.int .i64 ((rd_T44 l0_0 x5_2).f0)) ∧ w'.cell? ⟨gb279, 1, none⟩ = some (.slice A277_1 ((rd_T44 l0_0 x5_2).f1).length c277_1) ∧ w'.cell? ⟨gb279, 2, none⟩ = some (.slice A277_2 ((rd_T44 l0_0 x5_2).f2).length c277_2) ∧ w'.cell? ⟨gb279, 3, none⟩ = some (.slice (some ad284) ((rd_T44 l0_0 x5_2).f3).length c277_3) ∧ w'.cell? ⟨gb279, 4, none⟩ = some (.slice A277_4 ((rd_T44 l0_0 x5_2).f4).length c277_4) ∧ w'.cell? ⟨gb279, 5, none⟩ = some (.int .i64 ((rd_T44 l0_0 x5_2).f5)) ∧ w'.cell? ⟨gb279, 6, none⟩ = some (.int .i64 ((rd_T44 l0_0 x5_2).f6)) ∧ w'.cell? ⟨gb279, 7, none⟩ = some (.int .i64 ((rd_T44 l0_0 x5_2).f7)) ∧ w'.cell? ⟨gb279, 8, none⟩ = some (.int .i64 ((rd_T44 l0_0 x5_2).f8)) ∧ w'.cell? ⟨gb280, 0, none⟩ = some (.int .i64 ((rd_T44 l1_0 x5_2).f0)) ∧ w'.cell? ⟨gb280, 1, none⟩ = some (.slice A278_1 ((rd_T44 l1_0 x5_2).f1).length c278_1) ∧ w'.cell? ⟨gb280, 2, none⟩ = some (.slice A278_2 ((rd_T44 l1_0 x5_2).f2).length c278_2) ∧ w'.cell? ⟨gb280, 3, none⟩ = some (.slice (some ad285) ((rd_T44 l1_0 x5_2).f3).length c278_3) ∧ w'.cell? ⟨gb280, 4, none⟩ = some (.slice A278_4 ((rd_T44 l1_0 x5_2).f4).length c278_4) ∧ w'.cell? ⟨gb280, 5, none⟩ = some (.int .i64 ((rd_T44 l1_0 x5_2).f5)) ∧ w'.cell? ⟨gb280, 6, none⟩ = some (.int .i64 ((rd_T44 l1_0 x5_2).f6)) ∧ w'.cell? ⟨gb280, 7, none⟩ = some (.int .i64 ((rd_T44 l1_0 x5_2).f7)) ∧ w'.cell? ⟨gb280, 8, none⟩ = some (.int .i64 ((rd_T44 l1_0 x5_2).f8)) ∧ w'.cell? (ad284.add (x8_4).toNat) = some (.slice (some ad288) (rd_L4 ((rd_T44 l0_0 x5_2).f3) x8_4).length c287_0) ∧ w'.cell? (ad288.add ((x9_5).toNat * 3)) = some (.int .i64 ((rd_T52 (rd_L4 ((rd_T44 l0_0 x5_2).f3) x8_4) x9_5).f0)) ∧ w'.cell? ⟨(ad288.add ((x9_5).toNat * 3)).block, (ad288.add ((x9_5).toNat * 3)).off + 1, none⟩ = some (.int .i64 ((rd_T52 (rd_L4 ((rd_T44 l0_0 x5_2).f3) x8_4) x9_5).f1)) ∧ w'.cell? ⟨(ad288.add ((x9_5).toNat * 3)).block, (ad288.add ((x9_5).toNat * 3)).off + 2, none⟩ = some (.string ((rd_T52 (rd_L4 ((rd_T44 l0_0 x5_2).f3) x8_4) x9_5).f2)) ∧ w'.cell? (ad285.add (x8_4).toNat) = some (.slice (some ad290) (rd_L4 ((rd_T44 l1_0 x5_2).f3) x8_4).length c289_0) ∧ w'.cell? (ad290.add ((x9_5).toNat * 3)) = some (.int .i64 ((rd_T52 (rd_L4 ((rd_T44 l1_0 x5_2).f3) x8_4) x9_5).f0)) ∧ w'.cell? ⟨(ad290.add ((x9_5).toNat * 3)).block, (ad290.add ((x9_5).toNat * 3)).off + 1, none⟩ = some (.int .i64 ((rd_T52 (rd_L4 ((rd_T44 l1_0 x5_2).f3) x8_4) x9_5).f1)) ∧ w'.cell? ⟨(ad290.add ((x9_5).toNat * 3)).block, (ad290.add ((x9_5).toNat * 3)).off + 2, none⟩ = some (.string ((rd_T52 (rd_L4 ((rd_T44 l1_0 x5_2).f3) x8_4) x9_5).f2))) (ds := []) #[false, false, false, false, false, false, false, false, false, false, false, false, false, false, false, false, false] (by kernel_rfl) rfl rfl ⟨(b4 BK279.out 0).trans rfl, (b4 BK279.out 1).trans rfl, (b4 BK279.out 2).trans rfl, (b4 BK279.out 3).trans rfl, (b4 BK279.out 4).trans rfl, (b4 BK279.out 5).trans rfl, (b4 BK279.out 6).trans rfl, (b4 BK279.out 7).trans rfl, (b4 BK279.out 8).trans rfl, (b4 BK280.out 0).trans rfl, (b4 BK280.out 1).trans rfl, (b4 BK280.out 2).trans rfl, (b4 BK280.out 3).trans rfl, (b4 BK280.out 4).trans rfl, (b4 BK280.out 5).trans rfl, (b4 BK280.out 6).trans rfl, (b4 BK280.out 7).trans rfl, (b4 BK280.out 8).trans rfl, ((HB.out.cell (bl w _ hw287_0)).trans hw287_0), ((HB.out.cell (bl w _ hw288_0)).trans hw288_0), ((HB.out.cell (bl w _ hw288_1)).trans hw288_1), ((HB.out.cell (bl w _ hw288_2)).trans hw288_2), ((HB.out.cell (bl w _ hw289_0)).trans hw289_0), ((HB.out.cell (bl w _ hw290_0)).trans hw290_0), ((HB.out.cell (bl w _ hw290_1)).trans hw290_1), ((HB.out.cell (bl w _ hw290_2)).trans hw290_2)⟩ (fun hHeld => ?_); refine with_tabW runnelref17_Same.tab17 runnelref17_Same.bits17 (fun HT_ HW_ => ?_)
                  generalize wr.drew = w142 at BK274 BK275 BK279 BK280 HB HR287_0 HR289_0 hx287_0 hx288_0 hx288_1 hx288_2 hx289_0 hx290_0 hx290_1 hx290_2 hHeld ⊢
                  refine pure_ (i := 0) (N := some 145) (v := ?_) (a' := ?_) #[true, false, false, false, false, false, false, false, false, false, false, false, false, false, false, false, false] rfl rfl (any_of HT_.out (by kernel_rfl)) (fun _ _ _ h => h) (Or.inl ⟨by rfl, ?_⟩) ?_ ?_
                  rotate_left
                  ·
                   intro w'
                   go_simp
                   with_reducible rfl
                  rotate_left
                  ·
                   simp only [Act.put, List.setIfInBounds_toArray, List.set_cons_zero, List.set_cons_succ, i64_w, i32_w]
                   rfl
                  refine pure_ (i := 2) (N := some 147) (v := ?_) (a' := ?_) #[true, false, true, false, false, false, false, false, false, false, false, false, false, false, false, false, false] rfl rfl (any_of HT_.out (by kernel_rfl)) (fun _ _ _ h => h) (Or.inl ⟨by rfl, ?_⟩) ?_ ?_
                  rotate_left
                  ·
                   intro w'
                   go_simp
                   with_reducible rfl
                  rotate_left
                  ·
                   simp only [Act.put, List.setIfInBounds_toArray, List.set_cons_zero, List.set_cons_succ, i64_w, i32_w]
                   rfl
                  refine pure_ (i := 5) (N := some 150) (v := ?_) (a' := ?_) #[true, false, true, false, false, true, false, false, false, false, false, false, false, false, false, false, false] rfl rfl (any_of HT_.out (by kernel_rfl)) (fun _ _ _ h => h) (Or.inl ⟨by rfl, ?_⟩) ?_ ?_
                  rotate_left
                  ·
                   intro w'
                   go_simp
                   with_reducible rfl
                  rotate_left
                  ·
                   simp only [Act.put, List.setIfInBounds_toArray, List.set_cons_zero, List.set_cons_succ, i64_w, i32_w]
                   rfl
                  refine pure_ (i := 8) (N := some 153) (v := ?_) (a' := ?_) #[true, false, true, false, false, true, false, false, true, false, false, false, false, false, false, false, false] rfl rfl (any_of HT_.out (by kernel_rfl)) (fun _ _ _ h => h) (Or.inl ⟨by rfl, ?_⟩) ?_ ?_
                  rotate_left
                  ·
                   intro w'
                   go_simp
                   with_reducible rfl
                  rotate_left
                  ·
                   simp only [Act.put, List.setIfInBounds_toArray, List.set_cons_zero, List.set_cons_succ, i64_w, i32_w]
                   rfl
                  refine pure_ (i := 10) (N := some 155) (v := ?_) (a' := ?_) #[true, false, true, false, false, true, false, false, true, false, true, false, false, false, false, false, false] rfl rfl (any_of HT_.out (by kernel_rfl)) (fun _ _ _ h => h) (Or.inl ⟨by rfl, ?_⟩) ?_ ?_
                  rotate_left
                  ·
                   intro w'
                   go_simp
                   with_reducible rfl
                  rotate_left
                  ·
                   simp only [Act.put, List.setIfInBounds_toArray, List.set_cons_zero, List.set_cons_succ, i64_w, i32_w]
                   rfl
                  refine pure_ (i := 13) (N := some 158) (v := ?_) (a' := ?_) #[true, false, true, false, false, true, false, false, true, false, true, false, false, true, false, false, false] rfl rfl (any_of HT_.out (by kernel_rfl)) (fun _ _ _ h => h) (Or.inl ⟨by rfl, ?_⟩) ?_ ?_
                  rotate_left
                  ·
                   intro w'
                   go_simp
                   with_reducible rfl
                  rotate_left
                  ·
                   simp only [Act.put, List.setIfInBounds_toArray, List.set_cons_zero, List.set_cons_succ, i64_w, i32_w]
                   rfl
                  refine take_ (i := 1) (N := some 146) (v := ?_) (a' := ?_) #[true, true, true, false, false, true, false, false, true, false, true, false, false, true, false, false, false] rfl rfl (take_ofW HT_.out HW_.out (by kernel_rfl)) (fun _ _ _ h => h) (Or.inl ⟨by rfl, ?_⟩) hHeld ?_ ?_
                  rotate_left
                  ·
                   rintro w' ⟨s0, s1, s2, s3, s4, s5, s6, s7, s8, s9, s10, s11, s12, s13, s14, s15, s16, s17, s18, s19, s20, s21, s22, s23, s24, s25⟩
                   go_simp
                   with_reducible rfl
                  rotate_left
                  ·
                   simp only [Act.put, List.setIfInBounds_toArray, List.set_cons_zero, List.set_cons_succ, i64_w, i32_w]
                   rfl
                  refine pure_ (i := 3) (N := some 148) (v := ?_) (a' := ?_) #[true, true, true, true, false, true, false, false, true, false, true, false, false, true, false, false, false] rfl rfl (any_of HT_.out (by kernel_rfl)) (fun _ _ _ h => h) (Or.inl ⟨by rfl, ?_⟩) ?_ ?_
                  rotate_left
                  ·
                   intro w'
                   go_simp
                   with_reducible rfl
                  rotate_left
                  ·
                   simp only [Act.put, List.setIfInBounds_toArray, List.set_cons_zero, List.set_cons_succ, i64_w, i32_w]
                   rfl
                  refine take_ (i := 4) (N := some 149) (v := ?_) (a' := ?_) #[true, true, true, true, true, true, false, false, true, false, true, false, false, true, false, false, false] rfl rfl (take_ofW HT_.out HW_.out (by kernel_rfl)) (fun _ _ _ h => h) (Or.inl ⟨by rfl, ?_⟩) hHeld ?_ ?_
                  rotate_left
                  ·
                   rintro w' ⟨s0, s1, s2, s3, s4, s5, s6, s7, s8, s9, s10, s11, s12, s13, s14, s15, s16, s17, s18, s19, s20, s21, s22, s23, s24, s25⟩
                   go_simp
                   with_reducible rfl
                  rotate_left
                  ·
                   simp only [Act.put, List.setIfInBounds_toArray, List.set_cons_zero, List.set_cons_succ, i64_w, i32_w]
                   rfl
                  refine pure_ (i := 6) (N := some 151) (v := ?_) (a' := ?_) #[true, true, true, true, true, true, true, false, true, false, true, false, false, true, false, false, false] rfl rfl (any_of HT_.out (by kernel_rfl)) (fun _ _ _ h => h) (Or.inl ⟨by rfl, ?_⟩) ?_ ?_
                  rotate_left
                  ·
                   intro w'
                   go_simp
                   with_reducible rfl
                  rotate_left
                  ·
                   simp only [Act.put, List.setIfInBounds_toArray, List.set_cons_zero, List.set_cons_succ, i64_w, i32_w]
                   rfl
                  refine take_ (i := 7) (N := some 152) (v := ?_) (a' := ?_) #[true, true, true, true, true, true, true, true, true, false, true, false, false, true, false, false, false] rfl rfl (take_ofW HT_.out HW_.out (by kernel_rfl)) (fun _ _ _ h => h) (Or.inl ⟨by rfl, ?_⟩) hHeld ?_ ?_
                  rotate_left
                  ·
                   rintro w' ⟨s0, s1, s2, s3, s4, s5, s6, s7, s8, s9, s10, s11, s12, s13, s14, s15, s16, s17, s18, s19, s20, s21, s22, s23, s24, s25⟩
                   go_simp
                   with_reducible rfl
                  rotate_left
                  ·
                   simp only [Act.put, List.setIfInBounds_toArray, List.set_cons_zero, List.set_cons_succ, i64_w, i32_w]
                   rfl
                  refine take_ (i := 9) (N := some 154) (v := ?_) (a' := ?_) #[true, true, true, true, true, true, true, true, true, true, true, false, false, true, false, false, false] rfl rfl (take_ofW HT_.out HW_.out (by kernel_rfl)) (fun _ _ _ h => h) (Or.inl ⟨by rfl, ?_⟩) hHeld ?_ ?_
                  rotate_left
                  ·
                   rintro w' ⟨s0, s1, s2, s3, s4, s5, s6, s7, s8, s9, s10, s11, s12, s13, s14, s15, s16, s17, s18, s19, s20, s21, s22, s23, s24, s25⟩
                   go_simp
                   with_reducible rfl
                  rotate_left
                  ·
                   simp only [Act.put, List.setIfInBounds_toArray, List.set_cons_zero, List.set_cons_succ, i64_w, i32_w]
                   rfl
                  refine pure_ (i := 11) (N := some 156) (v := ?_) (a' := ?_) #[true, true, true, true, true, true, true, true, true, true, true, true, false, true, false, false, false] rfl rfl (any_of HT_.out (by kernel_rfl)) (fun _ _ _ h => h) (Or.inl ⟨by rfl, ?_⟩) ?_ ?_
                  rotate_left
                  ·
                   intro w'
                   go_simp
                   with_reducible rfl
                  rotate_left
                  ·
                   simp only [Act.put, List.setIfInBounds_toArray, List.set_cons_zero, List.set_cons_succ, i64_w, i32_w]
                   rfl
                  refine take_ (i := 12) (N := some 157) (v := ?_) (a' := ?_) #[true, true, true, true, true, true, true, true, true, true, true, true, true, true, false, false, false] rfl rfl (take_ofW HT_.out HW_.out (by kernel_rfl)) (fun _ _ _ h => h) (Or.inl ⟨by rfl, ?_⟩) hHeld ?_ ?_
                  rotate_left
                  ·
                   rintro w' ⟨s0, s1, s2, s3, s4, s5, s6, s7, s8, s9, s10, s11, s12, s13, s14, s15, s16, s17, s18, s19, s20, s21, s22, s23, s24, s25⟩
                   go_simp
                   with_reducible rfl
                  rotate_left
                  ·
                   simp only [Act.put, List.setIfInBounds_toArray, List.set_cons_zero, List.set_cons_succ, i64_w, i32_w]
                   rfl
                  refine pure_ (i := 14) (N := some 159) (v := ?_) (a' := ?_) #[true, true, true, true, true, true, true, true, true, true, true, true, true, true, true, false, false] rfl rfl (any_of HT_.out (by kernel_rfl)) (fun _ _ _ h => h) (Or.inl ⟨by rfl, ?_⟩) ?_ ?_
                  rotate_left
                  ·
                   intro w'
                   go_simp
                   with_reducible rfl
                  rotate_left
                  ·
                   simp only [Act.put, List.setIfInBounds_toArray, List.set_cons_zero, List.set_cons_succ, i64_w, i32_w]
                   rfl
                  refine take_ (i := 15) (N := some 160) (v := ?_) (a' := ?_) #[true, true, true, true, true, true, true, true, true, true, true, true, true, true, true, true, false] rfl rfl (take_ofW HT_.out HW_.out (by kernel_rfl)) (fun _ _ _ h => h) (Or.inl ⟨by rfl, ?_⟩) hHeld ?_ ?_
                  rotate_left
                  ·
                   rintro w' ⟨s0, s1, s2, s3, s4, s5, s6, s7, s8, s9, s10, s11, s12, s13, s14, s15, s16, s17, s18, s19, s20, s21, s22, s23, s24, s25⟩
                   go_simp
                   with_reducible rfl
                  rotate_left
                  ·
                   simp only [Act.put, List.setIfInBounds_toArray, List.set_cons_zero, List.set_cons_succ, i64_w, i32_w]
                   rfl
                  refine pure_ (i := 16) (N := some 161) (v := ?_) (a' := ?_) #[true, true, true, true, true, true, true, true, true, true, true, true, true, true, true, true, true] rfl rfl (any_of HT_.out (by kernel_rfl)) (fun _ _ _ h => h) (Or.inl ⟨by rfl, ?_⟩) ?_ ?_
                  rotate_left
                  ·
                   intro w'
                   go_simp
                   with_reducible rfl
                  rotate_left
                  ·
                   simp only [Act.put, List.setIfInBounds_toArray, List.set_cons_zero, List.set_cons_succ, i64_w, i32_w]
                   rfl
                  refine done_ (done_of HT_.out (by kernel_rfl)) ?_
                  try go_wp2
                  go_ret
                  exact ⟨by first | rfl | (simp [errW_none, errW_some] <;> rfl) | (simp [*, errW_none, errW_some] <;> rfl), by repeat (first | (with_reducible first | exact HB.out | apply c1 | apply c2 | apply c3 | refine c4 ?_ GE274.out | refine c4 ?_ GE275.out | refine c4 ?_ GE279.out | refine c4 ?_ GE280.out) | exact HB.out)⟩
                 ·
                  rw [if_neg c137] at H
                  have c137b0 : (!(((rd_T52 (rd_L4 ((rd_T44 l0_0 x5_2).f3) x8_4) x9_5).f0) == ((rd_T52 (rd_L4 ((rd_T44 l1_0 x5_2).f3) x8_4) x9_5).f0)) || (!(((rd_T52 (rd_L4 ((rd_T44 l0_0 x5_2).f3) x8_4) x9_5).f1) == ((rd_T52 (rd_L4 ((rd_T44 l1_0 x5_2).f3) x8_4) x9_5).f1)) || (!((((rd_T52 (rd_L4 ((rd_T44 l0_0 x5_2).f3) x8_4) x9_5).f2).toList) == (((rd_T52 (rd_L4 ((rd_T44 l1_0 x5_2).f3) x8_4) x9_5).f2).toList))))) = false := by simpa using c137
                  clear c137
                  have H' := am H
                  clear H
                  have hnb143 := NB279_274.out
                  have hnc143 := NB274_279.out
                  have hnb144 := NB279_275.out
                  have hnc144 := NB275_279.out
                  have hnb145 := NB279_280.out
                  have hnc145 := NB280_279.out
                  have hcz146_0 : wr.cell? ⟨gb279, 0, none⟩ = some (.int .i64 ((rd_T44 l0_0 x5_2).f0)) := (b4 BK279.out 0).trans rfl
                  have hcz146_1 : wr.cell? ⟨gb279, 1, none⟩ = some (.slice A277_1 ((rd_T44 l0_0 x5_2).f1).length c277_1) := (b4 BK279.out 1).trans rfl
                  have hcz146_2 : wr.cell? ⟨gb279, 2, none⟩ = some (.slice A277_2 ((rd_T44 l0_0 x5_2).f2).length c277_2) := (b4 BK279.out 2).trans rfl
                  have hcz146_3 : wr.cell? ⟨gb279, 3, none⟩ = some (.slice (some ad284) ((rd_T44 l0_0 x5_2).f3).length c277_3) := (b4 BK279.out 3).trans rfl
                  have hcz146_4 : wr.cell? ⟨gb279, 4, none⟩ = some (.slice A277_4 ((rd_T44 l0_0 x5_2).f4).length c277_4) := (b4 BK279.out 4).trans rfl
                  have hcz146_5 : wr.cell? ⟨gb279, 5, none⟩ = some (.int .i64 ((rd_T44 l0_0 x5_2).f5)) := (b4 BK279.out 5).trans rfl
                  have hcz146_6 : wr.cell? ⟨gb279, 6, none⟩ = some (.int .i64 ((rd_T44 l0_0 x5_2).f6)) := (b4 BK279.out 6).trans rfl
                  have hcz146_7 : wr.cell? ⟨gb279, 7, none⟩ = some (.int .i64 ((rd_T44 l0_0 x5_2).f7)) := (b4 BK279.out 7).trans rfl
                  have hcz146_8 : wr.cell? ⟨gb279, 8, none⟩ = some (.int .i64 ((rd_T44 l0_0 x5_2).f8)) := (b4 BK279.out 8).trans rfl
                  have p286 : 0 ≤ (x8_4 : Int) := of_decide_eq_true (by first | (with_reducible assumption) | assumption)
                  have q286 : x8_4 < (((rd_T44 l0_0 x5_2).f3).length : Int) := of_decide_eq_true (by first | (with_reducible assumption) | assumption)
                  obtain ⟨ad286, A286_0, c286_0, e286, hx286_0, hl286_0, hi286_0⟩ := at_L4 HR277_3.out x8_4 p286 q286
                  obtain rfl : ad284 = ad286 := (by injection e286)
                  replace hx286_0 := (HB.out.cell (bl w _ hx286_0)).trans hx286_0
                  have HR286_0 := am hi286_0
                  have HC286_0 := am hl286_0
                  clear hi286_0 hl286_0
                  replace p286 := eq_true p286
                  replace q286 := eq_true q286
                  try go_wp2
                  have n0_ := am (b2 BK274.out)
                  have n1_ := am (b2 BK275.out)
                  have n2_ := am (b2 BK279.out)
                  have n3_ := am (b2 BK280.out)
                  have n4_ := am (c3 HB.out)
                  clear BK274
                  clear BK275
                  clear BK279
                  clear BK280
                  clear HB
                  have BK274 := n0_
                  have BK275 := n1_
                  have BK279 := n2_
                  have BK280 := n3_
                  have HB := n4_
                  clear n0_ n1_ n2_ n3_ n4_
                  have p287 : 0 ≤ (x8_4 : Int) := of_decide_eq_true (by first | (with_reducible assumption) | assumption)
                  have q287 : x8_4 < (((rd_T44 l0_0 x5_2).f3).length : Int) := of_decide_eq_true (by first | (with_reducible assumption) | assumption)
                  obtain ⟨ad287, A287_0, c287_0, e287, hx287_0, hl287_0, hi287_0⟩ := at_L4 HR277_3.out x8_4 p287 q287
                  have hw287_0 := hx287_0
                  obtain rfl : ad284 = ad287 := (by injection e287)
                  replace hx287_0 := (HB.out.cell (bl w _ hx287_0)).trans hx287_0
                  have HR287_0 := am hi287_0
                  have HC287_0 := am hl287_0
                  clear hi287_0 hl287_0
                  replace p287 := eq_true p287
                  replace q287 := eq_true q287
                  have p288 : 0 ≤ (x9_5 : Int) := of_decide_eq_true (by first | (with_reducible assumption) | assumption)
                  have q288 : x9_5 < ((rd_L4 ((rd_T44 l0_0 x5_2).f3) x8_4).length : Int) := of_decide_eq_true (by first | (with_reducible assumption) | assumption)
                  obtain ⟨ad288, e288, hx288_0, hx288_1, hx288_2⟩ := at_T52 HR287_0.out x9_5 p288 q288
                  have hw288_2 := hx288_2
                  have hw288_1 := hx288_1
                  have hw288_0 := hx288_0
                  cases e288
                  replace hx288_0 := (HB.out.cell (bl w _ hx288_0)).trans hx288_0
                  replace hx288_1 := (HB.out.cell (bl w _ hx288_1)).trans hx288_1
                  replace hx288_2 := (HB.out.cell (bl w _ hx288_2)).trans hx288_2
                  replace p288 := eq_true p288
                  replace q288 := eq_true q288
                  have p289 : 0 ≤ (x8_4 : Int) := of_decide_eq_true (by first | (with_reducible assumption) | assumption)
                  have q289 : x8_4 < (((rd_T44 l1_0 x5_2).f3).length : Int) := of_decide_eq_true (by first | (with_reducible assumption) | assumption)
                  obtain ⟨ad289, A289_0, c289_0, e289, hx289_0, hl289_0, hi289_0⟩ := at_L4 HR278_3.out x8_4 p289 q289
                  have hw289_0 := hx289_0
                  obtain rfl : ad285 = ad289 := (by injection e289)
                  replace hx289_0 := (HB.out.cell (bl w _ hx289_0)).trans hx289_0
                  have HR289_0 := am hi289_0
                  have HC289_0 := am hl289_0
                  clear hi289_0 hl289_0
                  replace p289 := eq_true p289
                  replace q289 := eq_true q289
                  have p290 : 0 ≤ (x9_5 : Int) := of_decide_eq_true (by first | (with_reducible assumption) | assumption)
                  have q290 : x9_5 < ((rd_L4 ((rd_T44 l1_0 x5_2).f3) x8_4).length : Int) := of_decide_eq_true (by first | (with_reducible assumption) | assumption)
                  obtain ⟨ad290, e290, hx290_0, hx290_1, hx290_2⟩ := at_T52 HR289_0.out x9_5 p290 q290
                  have hw290_2 := hx290_2
                  have hw290_1 := hx290_1
                  have hw290_0 := hx290_0
                  cases e290
                  replace hx290_0 := (HB.out.cell (bl w _ hx290_0)).trans hx290_0
                  replace hx290_1 := (HB.out.cell (bl w _ hx290_1)).trans hx290_1
                  replace hx290_2 := (HB.out.cell (bl w _ hx290_2)).trans hx290_2
                  replace p290 := eq_true p290
                  replace q290 := eq_true q290
                  refine start_ (n := 17) (S := fun w' => w'.cell? ⟨gb279, 0, none⟩ = some (.int .i64 ((rd_T44 l0_0 x5_2).f0)) ∧ w'.cell? ⟨gb279, 1, none⟩ = some (.slice A277_1 ((rd_T44 l0_0 x5_2).f1).length c277_1) ∧ w'.cell? ⟨gb279, 2, none⟩ = some (.slice A277_2 ((rd_T44 l0_0 x5_2).f2).length c277_2) ∧ w'.cell? ⟨gb279, 3, none⟩ = some (.slice (some ad284) ((rd_T44 l0_0 x5_2).f3).length c277_3) ∧ w'.cell? ⟨gb279, 4, none⟩ = some (.slice A277_4 ((rd_T44 l0_0 x5_2).f4).length c277_4) ∧ w'.cell? ⟨gb279, 5, none⟩ = some (.int .i64 ((rd_T44 l0_0 x5_2).f5)) ∧ w'.cell? ⟨gb279, 6, none⟩ = some (.int .i64 ((rd_T44 l0_0 x5_2).f6)) ∧ w'.cell? ⟨gb279, 7, none⟩ = some (.int .i64 ((rd_T44 l0_0 x5_2).f7)) ∧ w'.cell? ⟨gb279, 8, none⟩ = some (.int .i64 ((rd_T44 l0_0 x5_2).f8)) ∧ w'.cell? ⟨gb280, 0, none⟩ = some (.int .i64 ((rd_T44 l1_0 x5_2).f0)) ∧ w'.cell? ⟨gb280, 1, none⟩ = some (.slice A278_1 ((rd_T44 l1_0 x5_2).f1).length c278_1) ∧ w'.cell? ⟨gb280, 2, none⟩ = some (.slice A278_2 ((rd_T44 l1_0 x5_2).f2).length c278_2) ∧ w'.cell? ⟨gb280, 3, none⟩ = some (.slice (some ad285) ((rd_T44 l1_0 x5_2).f3).length c278_3) ∧ w'.cell? ⟨gb280, 4, none⟩ = some (.slice A278_4 ((rd_T44 l1_0 x5_2).f4).length c278_4) ∧ w'.cell? ⟨gb280, 5, none⟩ = some (.int .i64 ((rd_T44 l1_0 x5_2).f5)) ∧ w'.cell? ⟨gb280, 6, none⟩ = some (.int .i64 ((rd_T44 l1_0 x5_2).f6)) ∧ w'.cell? ⟨gb280, 7, none⟩ = some (.int .i64 ((rd_T44 l1_0 x5_2).f7)) ∧ w'.cell? ⟨gb280, 8, none⟩ = some (.int .i64 ((rd_T44 l1_0 x5_2).f8)) ∧ w'.cell? (ad284.add (x8_4).toNat) = some (.slice (some ad288) (rd_L4 ((rd_T44 l0_0 x5_2).f3) x8_4).length c287_0) ∧ w'.cell? (ad288.add ((x9_5).toNat * 3)) = some (.int .i64 ((rd_T52 (rd_L4 ((rd_T44 l0_0 x5_2).f3) x8_4) x9_5).f0)) ∧ w'.cell? ⟨(ad288.add ((x9_5).toNat * 3)).block, (ad288.add ((x9_5).toNat * 3)).off + 1, none⟩ = some (.int .i64 ((rd_T52 (rd_L4 ((rd_T44 l0_0 x5_2).f3) x8_4) x9_5).f1)) ∧ w'.cell? ⟨(ad288.add ((x9_5).toNat * 3)).block, (ad288.add ((x9_5).toNat * 3)).off + 2, none⟩ = some (.string ((rd_T52 (rd_L4 ((rd_T44 l0_0 x5_2).f3) x8_4) x9_5).f2)) ∧ w'.cell? (ad285.add (x8_4).toNat) = some (.slice (some ad290) (rd_L4 ((rd_T44 l1_0 x5_2).f3) x8_4).length c289_0) ∧ w'.cell? (ad290.add ((x9_5).toNat * 3)) = some (.int .i64 ((rd_T52 (rd_L4 ((rd_T44 l1_0 x5_2).f3) x8_4) x9_5).f0)) ∧ w'.cell? ⟨(ad290.add ((x9_5).toNat * 3)).block, (ad290.add ((x9_5).toNat * 3)).off + 1, none⟩ = some (.int .i64 ((rd_T52 (rd_L4 ((rd_T44 l1_0 x5_2).f3) x8_4) x9_5).f1)) ∧ w'.cell? ⟨(ad290.add ((x9_5).toNat * 3)).block, (ad290.add ((x9_5).toNat * 3)).off + 2, none⟩ = some (.string ((rd_T52 (rd_L4 ((rd_T44 l1_0 x5_2).f3) x8_4) x9_5).f2))) (ds := []) #[false, false, false, false, false, false, false, false, false, false, false, false, false, false, false, false, false] (by kernel_rfl) rfl rfl ⟨(b4 BK279.out 0).trans rfl, (b4 BK279.out 1).trans rfl, (b4 BK279.out 2).trans rfl, (b4 BK279.out 3).trans rfl, (b4 BK279.out 4).trans rfl, (b4 BK279.out 5).trans rfl, (b4 BK279.out 6).trans rfl, (b4 BK279.out 7).trans rfl, (b4 BK279.out 8).trans rfl, (b4 BK280.out 0).trans rfl, (b4 BK280.out 1).trans rfl, (b4 BK280.out 2).trans rfl, (b4 BK280.out 3).trans rfl, (b4 BK280.out 4).trans rfl, (b4 BK280.out 5).trans rfl, (b4 BK280.out 6).trans rfl, (b4 BK280.out 7).trans rfl, (b4 BK280.out 8).trans rfl, ((HB.out.cell (bl w _ hw287_0)).trans hw287_0), ((HB.out.cell (bl w _ hw288_0)).trans hw288_0), ((HB.out.cell (bl w _ hw288_1)).trans hw288_1), ((HB.out.cell (bl w _ hw288_2)).trans hw288_2), ((HB.out.cell (bl w _ hw289_0)).trans hw289_0), ((HB.out.cell (bl w _ hw290_0)).trans hw290_0), ((HB.out.cell (bl w _ hw290_1)).trans hw290_1), ((HB.out.cell (bl w _ hw290_2)).trans hw290_2)⟩ (fun hHeld => ?_); refine with_tabW runnelref17_Same.tab17 runnelref17_Same.bits17 (fun HT_ HW_ => ?_)
                  generalize wr.drew = w147 at BK274 BK275 BK279 BK280 HB HR287_0 HR289_0 hx287_0 hx288_0 hx288_1 hx288_2 hx289_0 hx290_0 hx290_1 hx290_2 hHeld ⊢
                  refine pure_ (i := 0) (N := some 145) (v := ?_) (a' := ?_) #[true, false, false, false, false, false, false, false, false, false, false, false, false, false, false, false, false] rfl rfl (any_of HT_.out (by kernel_rfl)) (fun _ _ _ h => h) (Or.inl ⟨by rfl, ?_⟩) ?_ ?_
                  rotate_left
                  ·
                   intro w'
                   go_simp
                   with_reducible rfl
                  rotate_left
                  ·
                   simp only [Act.put, List.setIfInBounds_toArray, List.set_cons_zero, List.set_cons_succ, i64_w, i32_w]
                   rfl
                  refine pure_ (i := 2) (N := some 147) (v := ?_) (a' := ?_) #[true, false, true, false, false, false, false, false, false, false, false, false, false, false, false, false, false] rfl rfl (any_of HT_.out (by kernel_rfl)) (fun _ _ _ h => h) (Or.inl ⟨by rfl, ?_⟩) ?_ ?_
                  rotate_left
                  ·
                   intro w'
                   go_simp
                   with_reducible rfl
                  rotate_left
                  ·
                   simp only [Act.put, List.setIfInBounds_toArray, List.set_cons_zero, List.set_cons_succ, i64_w, i32_w]
                   rfl
                  refine pure_ (i := 5) (N := some 150) (v := ?_) (a' := ?_) #[true, false, true, false, false, true, false, false, false, false, false, false, false, false, false, false, false] rfl rfl (any_of HT_.out (by kernel_rfl)) (fun _ _ _ h => h) (Or.inl ⟨by rfl, ?_⟩) ?_ ?_
                  rotate_left
                  ·
                   intro w'
                   go_simp
                   with_reducible rfl
                  rotate_left
                  ·
                   simp only [Act.put, List.setIfInBounds_toArray, List.set_cons_zero, List.set_cons_succ, i64_w, i32_w]
                   rfl
                  refine pure_ (i := 8) (N := some 153) (v := ?_) (a' := ?_) #[true, false, true, false, false, true, false, false, true, false, false, false, false, false, false, false, false] rfl rfl (any_of HT_.out (by kernel_rfl)) (fun _ _ _ h => h) (Or.inl ⟨by rfl, ?_⟩) ?_ ?_
                  rotate_left
                  ·
                   intro w'
                   go_simp
                   with_reducible rfl
                  rotate_left
                  ·
                   simp only [Act.put, List.setIfInBounds_toArray, List.set_cons_zero, List.set_cons_succ, i64_w, i32_w]
                   rfl
                  refine pure_ (i := 10) (N := some 155) (v := ?_) (a' := ?_) #[true, false, true, false, false, true, false, false, true, false, true, false, false, false, false, false, false] rfl rfl (any_of HT_.out (by kernel_rfl)) (fun _ _ _ h => h) (Or.inl ⟨by rfl, ?_⟩) ?_ ?_
                  rotate_left
                  ·
                   intro w'
                   go_simp
                   with_reducible rfl
                  rotate_left
                  ·
                   simp only [Act.put, List.setIfInBounds_toArray, List.set_cons_zero, List.set_cons_succ, i64_w, i32_w]
                   rfl
                  refine pure_ (i := 13) (N := some 158) (v := ?_) (a' := ?_) #[true, false, true, false, false, true, false, false, true, false, true, false, false, true, false, false, false] rfl rfl (any_of HT_.out (by kernel_rfl)) (fun _ _ _ h => h) (Or.inl ⟨by rfl, ?_⟩) ?_ ?_
                  rotate_left
                  ·
                   intro w'
                   go_simp
                   with_reducible rfl
                  rotate_left
                  ·
                   simp only [Act.put, List.setIfInBounds_toArray, List.set_cons_zero, List.set_cons_succ, i64_w, i32_w]
                   rfl
                  refine take_ (i := 1) (N := some 146) (v := ?_) (a' := ?_) #[true, true, true, false, false, true, false, false, true, false, true, false, false, true, false, false, false] rfl rfl (take_ofW HT_.out HW_.out (by kernel_rfl)) (fun _ _ _ h => h) (Or.inl ⟨by rfl, ?_⟩) hHeld ?_ ?_
                  rotate_left
                  ·
                   rintro w' ⟨s0, s1, s2, s3, s4, s5, s6, s7, s8, s9, s10, s11, s12, s13, s14, s15, s16, s17, s18, s19, s20, s21, s22, s23, s24, s25⟩
                   go_simp
                   with_reducible rfl
                  rotate_left
                  ·
                   simp only [Act.put, List.setIfInBounds_toArray, List.set_cons_zero, List.set_cons_succ, i64_w, i32_w]
                   rfl
                  refine pure_ (i := 3) (N := some 148) (v := ?_) (a' := ?_) #[true, true, true, true, false, true, false, false, true, false, true, false, false, true, false, false, false] rfl rfl (any_of HT_.out (by kernel_rfl)) (fun _ _ _ h => h) (Or.inl ⟨by rfl, ?_⟩) ?_ ?_
                  rotate_left
                  ·
                   intro w'
                   go_simp
                   with_reducible rfl
                  rotate_left
                  ·
                   simp only [Act.put, List.setIfInBounds_toArray, List.set_cons_zero, List.set_cons_succ, i64_w, i32_w]
                   rfl
                  refine take_ (i := 4) (N := some 149) (v := ?_) (a' := ?_) #[true, true, true, true, true, true, false, false, true, false, true, false, false, true, false, false, false] rfl rfl (take_ofW HT_.out HW_.out (by kernel_rfl)) (fun _ _ _ h => h) (Or.inl ⟨by rfl, ?_⟩) hHeld ?_ ?_
                  rotate_left
                  ·
                   rintro w' ⟨s0, s1, s2, s3, s4, s5, s6, s7, s8, s9, s10, s11, s12, s13, s14, s15, s16, s17, s18, s19, s20, s21, s22, s23, s24, s25⟩
                   go_simp
                   with_reducible rfl
                  rotate_left
                  ·
                   simp only [Act.put, List.setIfInBounds_toArray, List.set_cons_zero, List.set_cons_succ, i64_w, i32_w]
                   rfl
                  refine pure_ (i := 6) (N := some 151) (v := ?_) (a' := ?_) #[true, true, true, true, true, true, true, false, true, false, true, false, false, true, false, false, false] rfl rfl (any_of HT_.out (by kernel_rfl)) (fun _ _ _ h => h) (Or.inl ⟨by rfl, ?_⟩) ?_ ?_
                  rotate_left
                  ·
                   intro w'
                   go_simp
                   with_reducible rfl
                  rotate_left
                  ·
                   simp only [Act.put, List.setIfInBounds_toArray, List.set_cons_zero, List.set_cons_succ, i64_w, i32_w]
                   rfl
                  refine take_ (i := 7) (N := some 152) (v := ?_) (a' := ?_) #[true, true, true, true, true, true, true, true, true, false, true, false, false, true, false, false, false] rfl rfl (take_ofW HT_.out HW_.out (by kernel_rfl)) (fun _ _ _ h => h) (Or.inl ⟨by rfl, ?_⟩) hHeld ?_ ?_
                  rotate_left
                  ·
                   rintro w' ⟨s0, s1, s2, s3, s4, s5, s6, s7, s8, s9, s10, s11, s12, s13, s14, s15, s16, s17, s18, s19, s20, s21, s22, s23, s24, s25⟩
                   go_simp
                   with_reducible rfl
                  rotate_left
                  ·
                   simp only [Act.put, List.setIfInBounds_toArray, List.set_cons_zero, List.set_cons_succ, i64_w, i32_w]
                   rfl
                  refine take_ (i := 9) (N := some 154) (v := ?_) (a' := ?_) #[true, true, true, true, true, true, true, true, true, true, true, false, false, true, false, false, false] rfl rfl (take_ofW HT_.out HW_.out (by kernel_rfl)) (fun _ _ _ h => h) (Or.inl ⟨by rfl, ?_⟩) hHeld ?_ ?_
                  rotate_left
                  ·
                   rintro w' ⟨s0, s1, s2, s3, s4, s5, s6, s7, s8, s9, s10, s11, s12, s13, s14, s15, s16, s17, s18, s19, s20, s21, s22, s23, s24, s25⟩
                   go_simp
                   with_reducible rfl
                  rotate_left
                  ·
                   simp only [Act.put, List.setIfInBounds_toArray, List.set_cons_zero, List.set_cons_succ, i64_w, i32_w]
                   rfl
                  refine pure_ (i := 11) (N := some 156) (v := ?_) (a' := ?_) #[true, true, true, true, true, true, true, true, true, true, true, true, false, true, false, false, false] rfl rfl (any_of HT_.out (by kernel_rfl)) (fun _ _ _ h => h) (Or.inl ⟨by rfl, ?_⟩) ?_ ?_
                  rotate_left
                  ·
                   intro w'
                   go_simp
                   with_reducible rfl
                  rotate_left
                  ·
                   simp only [Act.put, List.setIfInBounds_toArray, List.set_cons_zero, List.set_cons_succ, i64_w, i32_w]
                   rfl
                  refine take_ (i := 12) (N := some 157) (v := ?_) (a' := ?_) #[true, true, true, true, true, true, true, true, true, true, true, true, true, true, false, false, false] rfl rfl (take_ofW HT_.out HW_.out (by kernel_rfl)) (fun _ _ _ h => h) (Or.inl ⟨by rfl, ?_⟩) hHeld ?_ ?_
                  rotate_left
                  ·
                   rintro w' ⟨s0, s1, s2, s3, s4, s5, s6, s7, s8, s9, s10, s11, s12, s13, s14, s15, s16, s17, s18, s19, s20, s21, s22, s23, s24, s25⟩
                   go_simp
                   with_reducible rfl
                  rotate_left
                  ·
                   simp only [Act.put, List.setIfInBounds_toArray, List.set_cons_zero, List.set_cons_succ, i64_w, i32_w]
                   rfl
                  refine pure_ (i := 14) (N := some 159) (v := ?_) (a' := ?_) #[true, true, true, true, true, true, true, true, true, true, true, true, true, true, true, false, false] rfl rfl (any_of HT_.out (by kernel_rfl)) (fun _ _ _ h => h) (Or.inl ⟨by rfl, ?_⟩) ?_ ?_
                  rotate_left
                  ·
                   intro w'
                   go_simp
                   with_reducible rfl
                  rotate_left
                  ·
                   simp only [Act.put, List.setIfInBounds_toArray, List.set_cons_zero, List.set_cons_succ, i64_w, i32_w]
                   rfl
                  refine take_ (i := 15) (N := some 160) (v := ?_) (a' := ?_) #[true, true, true, true, true, true, true, true, true, true, true, true, true, true, true, true, false] rfl rfl (take_ofW HT_.out HW_.out (by kernel_rfl)) (fun _ _ _ h => h) (Or.inl ⟨by rfl, ?_⟩) hHeld ?_ ?_
                  rotate_left
                  ·
                   rintro w' ⟨s0, s1, s2, s3, s4, s5, s6, s7, s8, s9, s10, s11, s12, s13, s14, s15, s16, s17, s18, s19, s20, s21, s22, s23, s24, s25⟩
                   go_simp
                   with_reducible rfl
                  rotate_left
                  ·
                   simp only [Act.put, List.setIfInBounds_toArray, List.set_cons_zero, List.set_cons_succ, i64_w, i32_w]
                   rfl
                  refine pure_ (i := 16) (N := some 161) (v := ?_) (a' := ?_) #[true, true, true, true, true, true, true, true, true, true, true, true, true, true, true, true, true] rfl rfl (any_of HT_.out (by kernel_rfl)) (fun _ _ _ h => h) (Or.inl ⟨by rfl, ?_⟩) ?_ ?_
                  rotate_left
                  ·
                   intro w'
                   go_simp
                   with_reducible rfl
                  rotate_left
                  ·
                   simp only [Act.put, List.setIfInBounds_toArray, List.set_cons_zero, List.set_cons_succ, i64_w, i32_w]
                   rfl
                  refine done_ (done_of HT_.out (by kernel_rfl)) ?_
                  try go_wp2
                  go_roundg k5
                  case measure => have := HJ2.out; have := HK2.out; have := HJ21.out; have := HK4.out; have := HK5.out; omega
                  case rel => exact ⟨(wrap64 (x9_5 + 1)), (by first | rfl | (simp; done) | (simp [*]; done)), H', ⟨by have := HJ2.out; have := HK2.out; have := HJ21.out; have := HK4.out; have := HK5.out; omega⟩, ⟨by (with_reducible repeat (first | refine b1 ?_ _ | refine b2 ?_ | refine b3 ?_ _)); exact BK274.out⟩, ⟨by (with_reducible repeat (first | refine b1 ?_ _ | refine b2 ?_ | refine b3 ?_ _)); exact BK275.out⟩, ⟨by (with_reducible repeat (first | refine b1 ?_ _ | refine b2 ?_ | refine b3 ?_ _)); exact BK279.out⟩, ⟨by (with_reducible repeat (first | refine b1 ?_ _ | refine b2 ?_ | refine b3 ?_ _)); exact BK280.out⟩, ⟨by repeat (first | (with_reducible first | exact HB.out | apply c1 | apply c2 | apply c3 | refine c4 ?_ GE274.out | refine c4 ?_ GE275.out | refine c4 ?_ GE279.out | refine c4 ?_ GE280.out) | exact HB.out)⟩⟩
                ·
                 rw [if_neg c136] at H
                 exact absurd H (by simp)
               ·
                rw [if_neg c135] at H
                exact absurd H (by simp)
              ·
               rw [if_neg c134] at H
               exact absurd H (by simp)
             ·
              rw [if_neg c133] at H
              have c133b0 : decide (x9_5 < ((rd_L4 ((rd_T44 l0_0 x5_2).f3) x8_4).length : Int)) = false := decide_eq_false c133
              clear c133
              have H' := am H
              clear H
              have hnb148 := NB279_274.out
              have hnc148 := NB274_279.out
              have hnb149 := NB279_275.out
              have hnc149 := NB275_279.out
              have hnb150 := NB279_280.out
              have hnc150 := NB280_279.out
              have hcz151_0 : wr.cell? ⟨gb279, 0, none⟩ = some (.int .i64 ((rd_T44 l0_0 x5_2).f0)) := (b4 BK279.out 0).trans rfl
              have hcz151_1 : wr.cell? ⟨gb279, 1, none⟩ = some (.slice A277_1 ((rd_T44 l0_0 x5_2).f1).length c277_1) := (b4 BK279.out 1).trans rfl
              have hcz151_2 : wr.cell? ⟨gb279, 2, none⟩ = some (.slice A277_2 ((rd_T44 l0_0 x5_2).f2).length c277_2) := (b4 BK279.out 2).trans rfl
              have hcz151_3 : wr.cell? ⟨gb279, 3, none⟩ = some (.slice (some ad284) ((rd_T44 l0_0 x5_2).f3).length c277_3) := (b4 BK279.out 3).trans rfl
              have hcz151_4 : wr.cell? ⟨gb279, 4, none⟩ = some (.slice A277_4 ((rd_T44 l0_0 x5_2).f4).length c277_4) := (b4 BK279.out 4).trans rfl
              have hcz151_5 : wr.cell? ⟨gb279, 5, none⟩ = some (.int .i64 ((rd_T44 l0_0 x5_2).f5)) := (b4 BK279.out 5).trans rfl
              have hcz151_6 : wr.cell? ⟨gb279, 6, none⟩ = some (.int .i64 ((rd_T44 l0_0 x5_2).f6)) := (b4 BK279.out 6).trans rfl
              have hcz151_7 : wr.cell? ⟨gb279, 7, none⟩ = some (.int .i64 ((rd_T44 l0_0 x5_2).f7)) := (b4 BK279.out 7).trans rfl
              have hcz151_8 : wr.cell? ⟨gb279, 8, none⟩ = some (.int .i64 ((rd_T44 l0_0 x5_2).f8)) := (b4 BK279.out 8).trans rfl
              have p286 : 0 ≤ (x8_4 : Int) := of_decide_eq_true (by first | (with_reducible assumption) | assumption)
              have q286 : x8_4 < (((rd_T44 l0_0 x5_2).f3).length : Int) := of_decide_eq_true (by first | (with_reducible assumption) | assumption)
              obtain ⟨ad286, A286_0, c286_0, e286, hx286_0, hl286_0, hi286_0⟩ := at_L4 HR277_3.out x8_4 p286 q286
              obtain rfl : ad284 = ad286 := (by injection e286)
              replace hx286_0 := (HB.out.cell (bl w _ hx286_0)).trans hx286_0
              have HR286_0 := am hi286_0
              have HC286_0 := am hl286_0
              clear hi286_0 hl286_0
              replace p286 := eq_true p286
              replace q286 := eq_true q286
              go_wp2
              go_roundg k5
              case measure => have := HJ2.out; have := HK2.out; have := HJ21.out; have := HK4.out; have := HK5.out; omega
              case rel => exact ⟨(wrap64 (x8_4 + 1)), (by first | rfl | (simp; done) | (simp [*]; done)), H', ⟨by have := HJ2.out; have := HK2.out; have := HJ21.out; have := HK4.out; have := HK5.out; omega⟩, ⟨by (with_reducible repeat (first | refine b1 ?_ _ | refine b2 ?_ | refine b3 ?_ _)); exact BK274.out⟩, ⟨by (with_reducible repeat (first | refine b1 ?_ _ | refine b2 ?_ | refine b3 ?_ _)); exact BK275.out⟩, ⟨by (with_reducible repeat (first | refine b1 ?_ _ | refine b2 ?_ | refine b3 ?_ _)); exact BK279.out⟩, ⟨by (with_reducible repeat (first | refine b1 ?_ _ | refine b2 ?_ | refine b3 ?_ _)); exact BK280.out⟩, ⟨by repeat (first | (with_reducible first | exact HB.out | apply c1 | apply c2 | apply c3 | refine c4 ?_ GE274.out | refine c4 ?_ GE275.out | refine c4 ?_ GE279.out | refine c4 ?_ GE280.out) | exact HB.out)⟩⟩
            ·
             rw [if_neg c132] at H
             exact absurd H (by simp)
           ·
            rw [if_neg c131] at H
            exact absurd H (by simp)
        ·
         rw [if_neg c125] at H
         have c125b0 : (((rd_L4 ((rd_T44 l0_0 x5_2).f3) x8_4).length : Int) == ((rd_L4 ((rd_T44 l1_0 x5_2).f3) x8_4).length : Int)) = false := beq_eq_false_iff_ne.mpr c125
         have c125b1 : (((rd_L4 ((rd_T44 l0_0 x5_2).f3) x8_4).length : Int) != ((rd_L4 ((rd_T44 l1_0 x5_2).f3) x8_4).length : Int)) = true := bne_iff_ne.mpr c125
         have c125b2 : ((rd_L4 ((rd_T44 l0_0 x5_2).f3) x8_4).length == (rd_L4 ((rd_T44 l1_0 x5_2).f3) x8_4).length) = false := by first | simpa using c125 | (simp at c125 ⊢; omega)
         obtain rfl := Option.some.inj H
         have hnb152 := NB279_274.out
         have hnc152 := NB274_279.out
         have hnb153 := NB279_275.out
         have hnc153 := NB275_279.out
         have hnb154 := NB279_280.out
         have hnc154 := NB280_279.out
         have hcz155_0 : wr.cell? ⟨gb279, 0, none⟩ = some (.int .i64 ((rd_T44 l0_0 x5_2).f0)) := (b4 BK279.out 0).trans rfl
         have hcz155_1 : wr.cell? ⟨gb279, 1, none⟩ = some (.slice A277_1 ((rd_T44 l0_0 x5_2).f1).length c277_1) := (b4 BK279.out 1).trans rfl
         have hcz155_2 : wr.cell? ⟨gb279, 2, none⟩ = some (.slice A277_2 ((rd_T44 l0_0 x5_2).f2).length c277_2) := (b4 BK279.out 2).trans rfl
         have hcz155_3 : wr.cell? ⟨gb279, 3, none⟩ = some (.slice A277_3 ((rd_T44 l0_0 x5_2).f3).length c277_3) := (b4 BK279.out 3).trans rfl
         have hcz155_4 : wr.cell? ⟨gb279, 4, none⟩ = some (.slice A277_4 ((rd_T44 l0_0 x5_2).f4).length c277_4) := (b4 BK279.out 4).trans rfl
         have hcz155_5 : wr.cell? ⟨gb279, 5, none⟩ = some (.int .i64 ((rd_T44 l0_0 x5_2).f5)) := (b4 BK279.out 5).trans rfl
         have hcz155_6 : wr.cell? ⟨gb279, 6, none⟩ = some (.int .i64 ((rd_T44 l0_0 x5_2).f6)) := (b4 BK279.out 6).trans rfl
         have hcz155_7 : wr.cell? ⟨gb279, 7, none⟩ = some (.int .i64 ((rd_T44 l0_0 x5_2).f7)) := (b4 BK279.out 7).trans rfl
         have hcz155_8 : wr.cell? ⟨gb279, 8, none⟩ = some (.int .i64 ((rd_T44 l0_0 x5_2).f8)) := (b4 BK279.out 8).trans rfl
         try go_wp2
         have n0_ := am (b2 BK274.out)
         have n1_ := am (b2 BK275.out)
         have n2_ := am (b2 BK279.out)
         have n3_ := am (b2 BK280.out)
         have n4_ := am (c3 HB.out)
         clear BK274
         clear BK275
         clear BK279
         clear BK280
         clear HB
         have BK274 := n0_
         have BK275 := n1_
         have BK279 := n2_
         have BK280 := n3_
         have HB := n4_
         clear n0_ n1_ n2_ n3_ n4_
         have p284 : 0 ≤ (x8_4 : Int) := of_decide_eq_true (by first | (with_reducible assumption) | assumption)
         have q284 : x8_4 < (((rd_T44 l0_0 x5_2).f3).length : Int) := of_decide_eq_true (by first | (with_reducible assumption) | assumption)
         obtain ⟨ad284, A284_0, c284_0, e284, hx284_0, hl284_0, hi284_0⟩ := at_L4 HR277_3.out x8_4 p284 q284
         have hw284_0 := hx284_0
         cases e284
         replace hx284_0 := (HB.out.cell (bl w _ hx284_0)).trans hx284_0
         have HR284_0 := am hi284_0
         have HC284_0 := am hl284_0
         clear hi284_0 hl284_0
         replace p284 := eq_true p284
         replace q284 := eq_true q284
         have p285 : 0 ≤ (x8_4 : Int) := of_decide_eq_true (by first | (with_reducible assumption) | assumption)
         have q285 : x8_4 < (((rd_T44 l1_0 x5_2).f3).length : Int) := of_decide_eq_true (by first | (with_reducible assumption) | assumption)
         obtain ⟨ad285, A285_0, c285_0, e285, hx285_0, hl285_0, hi285_0⟩ := at_L4 HR278_3.out x8_4 p285 q285
         have hw285_0 := hx285_0
         cases e285
         replace hx285_0 := (HB.out.cell (bl w _ hx285_0)).trans hx285_0
         have HR285_0 := am hi285_0
         have HC285_0 := am hl285_0
         clear hi285_0 hl285_0
         replace p285 := eq_true p285
         replace q285 := eq_true q285
         refine start_ (n := 13) (S := fun w' => w'.cell? ⟨gb279, 0, none⟩ = some (.int .i64 ((rd_T44 l0_0 x5_2).f0)) ∧ w'.cell? ⟨gb279, 1, none⟩ = some (.slice A277_1 ((rd_T44 l0_0 x5_2).f1).length c277_1) ∧ w'.cell? ⟨gb279, 2, none⟩ = some (.slice A277_2 ((rd_T44 l0_0 x5_2).f2).length c277_2) ∧ w'.cell? ⟨gb279, 3, none⟩ = some (.slice (some ad284) ((rd_T44 l0_0 x5_2).f3).length c277_3) ∧ w'.cell? ⟨gb279, 4, none⟩ = some (.slice A277_4 ((rd_T44 l0_0 x5_2).f4).length c277_4) ∧ w'.cell? ⟨gb279, 5, none⟩ = some (.int .i64 ((rd_T44 l0_0 x5_2).f5)) ∧ w'.cell? ⟨gb279, 6, none⟩ = some (.int .i64 ((rd_T44 l0_0 x5_2).f6)) ∧ w'.cell? ⟨gb279, 7, none⟩ = some (.int .i64 ((rd_T44 l0_0 x5_2).f7)) ∧ w'.cell? ⟨gb279, 8, none⟩ = some (.int .i64 ((rd_T44 l0_0 x5_2).f8)) ∧ w'.cell? ⟨gb280, 0, none⟩ = some (.int .i64 ((rd_T44 l1_0 x5_2).f0)) ∧ w'.cell? ⟨gb280, 1, none⟩ = some (.slice A278_1 ((rd_T44 l1_0 x5_2).f1).length c278_1) ∧ w'.cell? ⟨gb280, 2, none⟩ = some (.slice A278_2 ((rd_T44 l1_0 x5_2).f2).length c278_2) ∧ w'.cell? ⟨gb280, 3, none⟩ = some (.slice (some ad285) ((rd_T44 l1_0 x5_2).f3).length c278_3) ∧ w'.cell? ⟨gb280, 4, none⟩ = some (.slice A278_4 ((rd_T44 l1_0 x5_2).f4).length c278_4) ∧ w'.cell? ⟨gb280, 5, none⟩ = some (.int .i64 ((rd_T44 l1_0 x5_2).f5)) ∧ w'.cell? ⟨gb280, 6, none⟩ = some (.int .i64 ((rd_T44 l1_0 x5_2).f6)) ∧ w'.cell? ⟨gb280, 7, none⟩ = some (.int .i64 ((rd_T44 l1_0 x5_2).f7)) ∧ w'.cell? ⟨gb280, 8, none⟩ = some (.int .i64 ((rd_T44 l1_0 x5_2).f8)) ∧ w'.cell? (ad284.add (x8_4).toNat) = some (.slice A284_0 (rd_L4 ((rd_T44 l0_0 x5_2).f3) x8_4).length c284_0) ∧ w'.cell? (ad285.add (x8_4).toNat) = some (.slice A285_0 (rd_L4 ((rd_T44 l1_0 x5_2).f3) x8_4).length c285_0)) (ds := []) #[false, false, false, false, false, false, false, false, false, false, false, false, false] (by kernel_rfl) rfl rfl ⟨(b4 BK279.out 0).trans rfl, (b4 BK279.out 1).trans rfl, (b4 BK279.out 2).trans rfl, (b4 BK279.out 3).trans rfl, (b4 BK279.out 4).trans rfl, (b4 BK279.out 5).trans rfl, (b4 BK279.out 6).trans rfl, (b4 BK279.out 7).trans rfl, (b4 BK279.out 8).trans rfl, (b4 BK280.out 0).trans rfl, (b4 BK280.out 1).trans rfl, (b4 BK280.out 2).trans rfl, (b4 BK280.out 3).trans rfl, (b4 BK280.out 4).trans rfl, (b4 BK280.out 5).trans rfl, (b4 BK280.out 6).trans rfl, (b4 BK280.out 7).trans rfl, (b4 BK280.out 8).trans rfl, ((HB.out.cell (bl w _ hw284_0)).trans hw284_0), ((HB.out.cell (bl w _ hw285_0)).trans hw285_0)⟩ (fun hHeld => ?_); refine with_tabW runnelref17_Same.tab12 runnelref17_Same.bits12 (fun HT_ HW_ => ?_)
         generalize wr.drew = w156 at BK274 BK275 BK279 BK280 HB HR284_0 HR285_0 hx284_0 hx285_0 hHeld ⊢
         refine pure_ (i := 0) (N := some 122) (v := ?_) (a' := ?_) #[true, false, false, false, false, false, false, false, false, false, false, false, false] rfl rfl (any_of HT_.out (by kernel_rfl)) (fun _ _ _ h => h) (Or.inl ⟨by rfl, ?_⟩) ?_ ?_
         rotate_left
         ·
          intro w'
          go_simp
          with_reducible rfl
         rotate_left
         ·
          simp only [Act.put, List.setIfInBounds_toArray, List.set_cons_zero, List.set_cons_succ, i64_w, i32_w]
          rfl
         refine pure_ (i := 2) (N := some 124) (v := ?_) (a' := ?_) #[true, false, true, false, false, false, false, false, false, false, false, false, false] rfl rfl (any_of HT_.out (by kernel_rfl)) (fun _ _ _ h => h) (Or.inl ⟨by rfl, ?_⟩) ?_ ?_
         rotate_left
         ·
          intro w'
          go_simp
          with_reducible rfl
         rotate_left
         ·
          simp only [Act.put, List.setIfInBounds_toArray, List.set_cons_zero, List.set_cons_succ, i64_w, i32_w]
          rfl
         refine pure_ (i := 6) (N := some 128) (v := ?_) (a' := ?_) #[true, false, true, false, false, false, true, false, false, false, false, false, false] rfl rfl (any_of HT_.out (by kernel_rfl)) (fun _ _ _ h => h) (Or.inl ⟨by rfl, ?_⟩) ?_ ?_
         rotate_left
         ·
          intro w'
          go_simp
          with_reducible rfl
         rotate_left
         ·
          simp only [Act.put, List.setIfInBounds_toArray, List.set_cons_zero, List.set_cons_succ, i64_w, i32_w]
          rfl
         refine pure_ (i := 8) (N := some 130) (v := ?_) (a' := ?_) #[true, false, true, false, false, false, true, false, true, false, false, false, false] rfl rfl (any_of HT_.out (by kernel_rfl)) (fun _ _ _ h => h) (Or.inl ⟨by rfl, ?_⟩) ?_ ?_
         rotate_left
         ·
          intro w'
          go_simp
          with_reducible rfl
         rotate_left
         ·
          simp only [Act.put, List.setIfInBounds_toArray, List.set_cons_zero, List.set_cons_succ, i64_w, i32_w]
          rfl
         refine take_ (i := 1) (N := some 123) (v := ?_) (a' := ?_) #[true, true, true, false, false, false, true, false, true, false, false, false, false] rfl rfl (take_ofW HT_.out HW_.out (by kernel_rfl)) (fun _ _ _ h => h) (Or.inl ⟨by rfl, ?_⟩) hHeld ?_ ?_
         rotate_left
         ·
          rintro w' ⟨s0, s1, s2, s3, s4, s5, s6, s7, s8, s9, s10, s11, s12, s13, s14, s15, s16, s17, s18, s19⟩
          go_simp
          with_reducible rfl
         rotate_left
         ·
          simp only [Act.put, List.setIfInBounds_toArray, List.set_cons_zero, List.set_cons_succ, i64_w, i32_w]
          rfl
         refine pure_ (i := 3) (N := some 125) (v := ?_) (a' := ?_) #[true, true, true, true, false, false, true, false, true, false, false, false, false] rfl rfl (any_of HT_.out (by kernel_rfl)) (fun _ _ _ h => h) (Or.inl ⟨by rfl, ?_⟩) ?_ ?_
         rotate_left
         ·
          intro w'
          go_simp
          with_reducible rfl
         rotate_left
         ·
          simp only [Act.put, List.setIfInBounds_toArray, List.set_cons_zero, List.set_cons_succ, i64_w, i32_w]
          rfl
         refine take_ (i := 4) (N := some 126) (v := ?_) (a' := ?_) #[true, true, true, true, true, false, true, false, true, false, false, false, false] rfl rfl (take_ofW HT_.out HW_.out (by kernel_rfl)) (fun _ _ _ h => h) (Or.inl ⟨by rfl, ?_⟩) hHeld ?_ ?_
         rotate_left
         ·
          rintro w' ⟨s0, s1, s2, s3, s4, s5, s6, s7, s8, s9, s10, s11, s12, s13, s14, s15, s16, s17, s18, s19⟩
          go_simp
          with_reducible rfl
         rotate_left
         ·
          simp only [Act.put, List.setIfInBounds_toArray, List.set_cons_zero, List.set_cons_succ, i64_w, i32_w]
          rfl
         refine pure_ (i := 5) (N := some 127) (v := ?_) (a' := ?_) #[true, true, true, true, true, true, true, false, true, false, false, false, false] rfl rfl (any_of HT_.out (by kernel_rfl)) (fun _ _ _ h => h) (Or.inl ⟨by rfl, ?_⟩) ?_ ?_
         rotate_left
         ·
          intro w'
          go_simp
          with_reducible rfl
         rotate_left
         ·
          simp only [Act.put, List.setIfInBounds_toArray, List.set_cons_zero, List.set_cons_succ, i64_w, i32_w]
          rfl
         refine take_ (i := 7) (N := some 129) (v := ?_) (a' := ?_) #[true, true, true, true, true, true, true, true, true, false, false, false, false] rfl rfl (take_ofW HT_.out HW_.out (by kernel_rfl)) (fun _ _ _ h => h) (Or.inl ⟨by rfl, ?_⟩) hHeld ?_ ?_
         rotate_left
         ·
          rintro w' ⟨s0, s1, s2, s3, s4, s5, s6, s7, s8, s9, s10, s11, s12, s13, s14, s15, s16, s17, s18, s19⟩
          go_simp
          with_reducible rfl
         rotate_left
         ·
          simp only [Act.put, List.setIfInBounds_toArray, List.set_cons_zero, List.set_cons_succ, i64_w, i32_w]
          rfl
         refine pure_ (i := 9) (N := some 131) (v := ?_) (a' := ?_) #[true, true, true, true, true, true, true, true, true, true, false, false, false] rfl rfl (any_of HT_.out (by kernel_rfl)) (fun _ _ _ h => h) (Or.inl ⟨by rfl, ?_⟩) ?_ ?_
         rotate_left
         ·
          intro w'
          go_simp
          with_reducible rfl
         rotate_left
         ·
          simp only [Act.put, List.setIfInBounds_toArray, List.set_cons_zero, List.set_cons_succ, i64_w, i32_w]
          rfl
         refine take_ (i := 10) (N := some 132) (v := ?_) (a' := ?_) #[true, true, true, true, true, true, true, true, true, true, true, false, false] rfl rfl (take_ofW HT_.out HW_.out (by kernel_rfl)) (fun _ _ _ h => h) (Or.inl ⟨by rfl, ?_⟩) hHeld ?_ ?_
         rotate_left
         ·
          rintro w' ⟨s0, s1, s2, s3, s4, s5, s6, s7, s8, s9, s10, s11, s12, s13, s14, s15, s16, s17, s18, s19⟩
          go_simp
          with_reducible rfl
         rotate_left
         ·
          simp only [Act.put, List.setIfInBounds_toArray, List.set_cons_zero, List.set_cons_succ, i64_w, i32_w]
          rfl
         refine pure_ (i := 11) (N := some 133) (v := ?_) (a' := ?_) #[true, true, true, true, true, true, true, true, true, true, true, true, false] rfl rfl (any_of HT_.out (by kernel_rfl)) (fun _ _ _ h => h) (Or.inl ⟨by rfl, ?_⟩) ?_ ?_
         rotate_left
         ·
          intro w'
          go_simp
          with_reducible rfl
         rotate_left
         ·
          simp only [Act.put, List.setIfInBounds_toArray, List.set_cons_zero, List.set_cons_succ, i64_w, i32_w]
          rfl
         refine pure_ (i := 12) (N := some 134) (v := ?_) (a' := ?_) #[true, true, true, true, true, true, true, true, true, true, true, true, true] rfl rfl (any_of HT_.out (by kernel_rfl)) (fun _ _ _ h => h) (Or.inl ⟨by rfl, ?_⟩) ?_ ?_
         rotate_left
         ·
          intro w'
          go_simp
          with_reducible rfl
         rotate_left
         ·
          simp only [Act.put, List.setIfInBounds_toArray, List.set_cons_zero, List.set_cons_succ, i64_w, i32_w]
          rfl
         refine done_ (done_of HT_.out (by kernel_rfl)) ?_
         try go_wp2
         go_ret
         exact ⟨by first | rfl | (simp [errW_none, errW_some] <;> rfl) | (simp [*, errW_none, errW_some] <;> rfl), by repeat (first | (with_reducible first | exact HB.out | apply c1 | apply c2 | apply c3 | refine c4 ?_ GE274.out | refine c4 ?_ GE275.out | refine c4 ?_ GE279.out | refine c4 ?_ GE280.out) | exact HB.out)⟩
       ·
        rw [if_neg c124] at H
        exact absurd H (by simp)
      ·
       rw [if_neg c123] at H
       exact absurd H (by simp)
     ·
      rw [if_neg c122] at H
      have c122b0 : decide (x8_4 < (((rd_T44 l0_0 x5_2).f3).length : Int)) = false := decide_eq_false c122
      clear c122
      have H' := am H
      clear H
      have hnb157 := NB279_274.out
      have hnc157 := NB274_279.out
      have hnb158 := NB279_275.out
      have hnc158 := NB275_279.out
      have hnb159 := NB279_280.out
      have hnc159 := NB280_279.out
      have hcz160_0 : wr.cell? ⟨gb279, 0, none⟩ = some (.int .i64 ((rd_T44 l0_0 x5_2).f0)) := (b4 BK279.out 0).trans rfl
      have hcz160_1 : wr.cell? ⟨gb279, 1, none⟩ = some (.slice A277_1 ((rd_T44 l0_0 x5_2).f1).length c277_1) := (b4 BK279.out 1).trans rfl
      have hcz160_2 : wr.cell? ⟨gb279, 2, none⟩ = some (.slice A277_2 ((rd_T44 l0_0 x5_2).f2).length c277_2) := (b4 BK279.out 2).trans rfl
      have hcz160_3 : wr.cell? ⟨gb279, 3, none⟩ = some (.slice A277_3 ((rd_T44 l0_0 x5_2).f3).length c277_3) := (b4 BK279.out 3).trans rfl
      have hcz160_4 : wr.cell? ⟨gb279, 4, none⟩ = some (.slice A277_4 ((rd_T44 l0_0 x5_2).f4).length c277_4) := (b4 BK279.out 4).trans rfl
      have hcz160_5 : wr.cell? ⟨gb279, 5, none⟩ = some (.int .i64 ((rd_T44 l0_0 x5_2).f5)) := (b4 BK279.out 5).trans rfl
      have hcz160_6 : wr.cell? ⟨gb279, 6, none⟩ = some (.int .i64 ((rd_T44 l0_0 x5_2).f6)) := (b4 BK279.out 6).trans rfl
      have hcz160_7 : wr.cell? ⟨gb279, 7, none⟩ = some (.int .i64 ((rd_T44 l0_0 x5_2).f7)) := (b4 BK279.out 7).trans rfl
      have hcz160_8 : wr.cell? ⟨gb279, 8, none⟩ = some (.int .i64 ((rd_T44 l0_0 x5_2).f8)) := (b4 BK279.out 8).trans rfl
      go_wp2
      go_roundg k4
      case measure => have := HJ2.out; have := HK2.out; have := HJ21.out; have := HK4.out; omega
      case rel => exact ⟨(wrap64 (x5_2 + 1)), (by first | rfl | (simp; done) | (simp [*]; done)), H', ⟨by have := HJ2.out; have := HK2.out; have := HJ21.out; have := HK4.out; omega⟩, ⟨by (with_reducible repeat (first | refine b1 ?_ _ | refine b2 ?_ | refine b3 ?_ _)); exact BK274.out⟩, ⟨by (with_reducible repeat (first | refine b1 ?_ _ | refine b2 ?_ | refine b3 ?_ _)); exact BK275.out⟩, ⟨by repeat (first | (with_reducible first | exact HB.out | apply c1 | apply c2 | apply c3 | refine c4 ?_ GE274.out | refine c4 ?_ GE275.out | refine c4 ?_ GE279.out | refine c4 ?_ GE280.out) | exact HB.out)⟩⟩
end Go.Proofs.Ytbdpnecnnokkkaa.PSheetSame
