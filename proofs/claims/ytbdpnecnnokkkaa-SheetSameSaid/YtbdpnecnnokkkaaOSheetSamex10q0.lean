import Derived.Test.YtbdpnecnnokkkaaOSheetSamex0
import Derived.Test.YtbdpnecnnokkkaaOSheetSamex1
import Derived.Test.YtbdpnecnnokkkaaOSheetSamex9
import Derived.Test.YtbdpnecnnokkkaaShort
import Derived.Test.YtbdpnecnnokkkaaOSheetSamex10p
namespace Go.Proofs.Ytbdpnecnnokkkaa.PSheetSame
open Go.RowKit Go.Proofs.YtbdpnecnnokkkaaW.PrintWords Go.Proofs.YtbdpnecnnokkkaaW.PrintLast Go.Proofs.YtbdpnecnnokkkaaW.PrintMore
attribute [local go_sem] max2_int min2_int max_two min_two max_three min_three max_four min_four   -- for this text's walks alone
set_option linter.unusedVariables false
set_option linter.unusedSimpArgs false
attribute [local go_sem high] eqA52
set_option maxHeartbeats 80000000 in
set_option maxRecDepth 100000 in
theorem runnelref17_Same.calls.leaf0 : runnelref17_Same.calls.pre.1 := by
 intro l0_0 l1_0 l0_1 l1_1 A0_0 A0_1 A1_0 A1_1 r a0_2 a1_2 k HC3 c0_0 _ c0_1 HC0_1 c1_0 _ c1_1 HC1_1 gb274 gb275 NB274_275 NB275_274 _ _ HR0_1 _ HR1_1 _ GE274 _ GE275 _ w5 BK274 HB BK275 _ _ _ _ _ _ _ _ _ _ _ _
 have H := HC3.out
 clear HC3
 by_cases c6 : a0_2 = a1_2
 ·
  rw [if_pos c6] at H
  have c6b0 : (a0_2 == a1_2) = true := beq_iff_eq.mpr c6
  have c6b1 : (a0_2 != a1_2) = false := bne_eq_false_iff_eq.mpr c6
  clear c6
  (first | rw [c6b0] | (simp only [i64_w, i32_w]; rw [c6b0]) | skip)
  replace H := Option.bind_eq_some_iff.mp H
  obtain ⟨t276, A70, H⟩ := H
  replace H : (if t276 = true then (runnelref17_Same.j0 k ((l0_0.length : Int) != (l1_0.length : Int)) l0_0 l0_1 a0_2 l1_0 l1_1 a1_2) else (runnelref17_Same.j0 k true l0_0 l0_1 a0_2 l1_0 l1_1 a1_2)) = some r := H
  have A7 := am A70
  clear A70
  by_cases c8 : t276 = true
  ·
   subst c8
   have H1 : (runnelref17_Same.j0 k ((l0_0.length : Int) != (l1_0.length : Int)) l0_0 l0_1 a0_2 l1_0 l1_1 a1_2) = some r := by rw [if_pos rfl] at H; exact H
   clear H
   have H := H1
   clear H1
   have H' := am H
   clear H
   have hnb9 := NB274_275.out
   have hnc9 := NB275_274.out
   have hcz10_0 : w5.cell? ⟨gb274, 0, none⟩ = some (.slice A0_0 l0_0.length c0_0) := (b4 BK274.out 0).trans rfl
   have hcz10_1 : w5.cell? ⟨gb274, 1, none⟩ = some (.slice A0_1 l0_1.length c0_1) := (b4 BK274.out 1).trans rfl
   have hcz10_2 : w5.cell? ⟨gb274, 2, none⟩ = some (.int .i64 a0_2) := (b4 BK274.out 2).trans rfl
   have hcz11_0 : w5.cell? ⟨gb275, 0, none⟩ = some (.slice A1_0 l1_0.length c1_0) := (b4 BK275.out 0).trans rfl
   have hcz11_1 : w5.cell? ⟨gb275, 1, none⟩ = some (.slice A1_1 l1_1.length c1_1) := (b4 BK275.out 1).trans rfl
   have hcz11_2 : w5.cell? ⟨gb275, 2, none⟩ = some (.int .i64 a1_2) := (b4 BK275.out 2).trans rfl
   go_wp2_with (first | (go_at_call 24; (with_reducible refine (runnelref16_Same.calls k _ _ l0_1 _ _ l1_1 true _ ?side1 ?side2 ?side3 ?side4 A7.out).mono ?_); (case side1 => repeat (first | exact (d1 HR0_1.out HB.out) | (with_reducible refine d2 ?_ _) | (with_reducible refine d3 ?_ _) | (with_reducible refine d4 ?_))); (case side2 => exact HC0_1.out); (case side3 => repeat (first | exact (d1 HR1_1.out HB.out) | (with_reducible refine d2 ?_ _) | (with_reducible refine d3 ?_ _) | (with_reducible refine d4 ?_))); (case side4 => exact HC1_1.out); rintro e w' ⟨rfl, ⟨nd, rfl⟩⟩))
   go_meet
   case rel => exact ⟨_, (((l0_0.length : Int) != (l1_0.length : Int))), (by first | rfl | (simp; done) | (simp [*]; done)), H', ⟨by first | omega | exact Nat.le_refl _⟩, ⟨by (with_reducible repeat (first | refine b1 ?_ _ | refine b2 ?_ | refine b3 ?_ _)); exact BK274.out⟩, ⟨by (with_reducible repeat (first | refine b1 ?_ _ | refine b2 ?_ | refine b3 ?_ _)); exact BK275.out⟩, ⟨by repeat (first | (with_reducible first | exact HB.out | apply c1 | apply c2 | apply c3 | refine c4 ?_ GE274.out | refine c4 ?_ GE275.out) | exact HB.out)⟩⟩
  ·
   replace c8 := Bool.eq_false_iff.mpr c8
   subst c8
   have H1 : (runnelref17_Same.j0 k true l0_0 l0_1 a0_2 l1_0 l1_1 a1_2) = some r := by rw [if_neg (show ¬ (false = true) by decide)] at H; exact H
   clear H
   have H := H1
   clear H1
   have H' := am H
   clear H
   have hnb12 := NB274_275.out
   have hnc12 := NB275_274.out
   have hcz13_0 : w5.cell? ⟨gb274, 0, none⟩ = some (.slice A0_0 l0_0.length c0_0) := (b4 BK274.out 0).trans rfl
   have hcz13_1 : w5.cell? ⟨gb274, 1, none⟩ = some (.slice A0_1 l0_1.length c0_1) := (b4 BK274.out 1).trans rfl
   have hcz13_2 : w5.cell? ⟨gb274, 2, none⟩ = some (.int .i64 a0_2) := (b4 BK274.out 2).trans rfl
   have hcz14_0 : w5.cell? ⟨gb275, 0, none⟩ = some (.slice A1_0 l1_0.length c1_0) := (b4 BK275.out 0).trans rfl
   have hcz14_1 : w5.cell? ⟨gb275, 1, none⟩ = some (.slice A1_1 l1_1.length c1_1) := (b4 BK275.out 1).trans rfl
   have hcz14_2 : w5.cell? ⟨gb275, 2, none⟩ = some (.int .i64 a1_2) := (b4 BK275.out 2).trans rfl
   go_wp2_with (first | (go_at_call 24; (with_reducible refine (runnelref16_Same.calls k _ _ l0_1 _ _ l1_1 false _ ?side1 ?side2 ?side3 ?side4 A7.out).mono ?_); (case side1 => repeat (first | exact (d1 HR0_1.out HB.out) | (with_reducible refine d2 ?_ _) | (with_reducible refine d3 ?_ _) | (with_reducible refine d4 ?_))); (case side2 => exact HC0_1.out); (case side3 => repeat (first | exact (d1 HR1_1.out HB.out) | (with_reducible refine d2 ?_ _) | (with_reducible refine d3 ?_ _) | (with_reducible refine d4 ?_))); (case side4 => exact HC1_1.out); rintro e w' ⟨rfl, ⟨nd, rfl⟩⟩))
   go_meet
   case rel => exact ⟨_, (true), (by first | rfl | (simp; done) | (simp [*]; done)), H', ⟨by first | omega | exact Nat.le_refl _⟩, ⟨by (with_reducible repeat (first | refine b1 ?_ _ | refine b2 ?_ | refine b3 ?_ _)); exact BK274.out⟩, ⟨by (with_reducible repeat (first | refine b1 ?_ _ | refine b2 ?_ | refine b3 ?_ _)); exact BK275.out⟩, ⟨by repeat (first | (with_reducible first | exact HB.out | apply c1 | apply c2 | apply c3 | refine c4 ?_ GE274.out | refine c4 ?_ GE275.out) | exact HB.out)⟩⟩
 ·
  rw [if_neg c6] at H
  have c6b0 : (a0_2 == a1_2) = false := beq_eq_false_iff_ne.mpr c6
  have c6b1 : (a0_2 != a1_2) = true := bne_iff_ne.mpr c6
  (first | rw [c6b0] | (simp only [i64_w, i32_w]; rw [c6b0]) | skip)
  have H' := am H
  clear H
  have hnb15 := NB274_275.out
  have hnc15 := NB275_274.out
  have hcz16_0 : w5.cell? ⟨gb274, 0, none⟩ = some (.slice A0_0 l0_0.length c0_0) := (b4 BK274.out 0).trans rfl
  have hcz16_1 : w5.cell? ⟨gb274, 1, none⟩ = some (.slice A0_1 l0_1.length c0_1) := (b4 BK274.out 1).trans rfl
  have hcz16_2 : w5.cell? ⟨gb274, 2, none⟩ = some (.int .i64 a0_2) := (b4 BK274.out 2).trans rfl
  have hcz17_0 : w5.cell? ⟨gb275, 0, none⟩ = some (.slice A1_0 l1_0.length c1_0) := (b4 BK275.out 0).trans rfl
  have hcz17_1 : w5.cell? ⟨gb275, 1, none⟩ = some (.slice A1_1 l1_1.length c1_1) := (b4 BK275.out 1).trans rfl
  have hcz17_2 : w5.cell? ⟨gb275, 2, none⟩ = some (.int .i64 a1_2) := (b4 BK275.out 2).trans rfl
  go_wp2
  go_meet
  case rel => exact ⟨_, (true), (by first | rfl | (simp; done) | (simp [*]; done)), H', ⟨by first | omega | exact Nat.le_refl _⟩, ⟨by (with_reducible repeat (first | refine b1 ?_ _ | refine b2 ?_ | refine b3 ?_ _)); exact BK274.out⟩, ⟨by (with_reducible repeat (first | refine b1 ?_ _ | refine b2 ?_ | refine b3 ?_ _)); exact BK275.out⟩, ⟨by repeat (first | (with_reducible first | exact HB.out | apply c1 | apply c2 | apply c3 | refine c4 ?_ GE274.out | refine c4 ?_ GE275.out) | exact HB.out)⟩⟩
end Go.Proofs.Ytbdpnecnnokkkaa.PSheetSame
