import Derived.Test.YtbdpnecnnokkkaaOSheetSamex0
import Derived.Test.YtbdpnecnnokkkaaOSheetSamex1
import Derived.Test.YtbdpnecnnokkkaaOSheetSamex9
import Derived.Test.YtbdpnecnnokkkaaShort
import Derived.Test.YtbdpnecnnokkkaaOSheetSamex10p
namespace Go.Proofs.Ytbdpnecnnokkkaa.PSheetSame
open Go.RowKit Go.Proofs.YtbdpnecnnokkkaaW.PrintWords Go.Proofs.YtbdpnecnnokkkaaW.PrintLast Go.Proofs.YtbdpnecnnokkkaaW.PrintMore
attribute [local go_sem] max2_int min2_int max_two min_two max_three min_three max_four min_four   -- for this text's walks alone
set_option linter.unusedVariables false
set_option linter.unusedSimpArgs false
attribute [local go_sem high] eqA52
set_option maxHeartbeats 80000000 in
set_option maxRecDepth 100000 in
theorem runnelref17_Same.calls.leaf2 : runnelref17_Same.calls.pre.2.2.1 := by
 intro l0_0 l1_0 l0_1 l1_1 _ _ _ _ A277_1 A277_2 A277_3 A277_4 A278_1 A278_2 A278_3 A278_4 r a0_2 a1_2 x5_2 _ _ _ _ _ _ _ _ _ _ _ _ _ _ _ _ _ _ _ _ _ _ _ HJ2 k2 HK2 HC22 c277_1 HC277_1 c277_2 HC277_2 c277_3 _ c277_4 HC277_4 c278_1 HC278_1 c278_2 HC278_2 c278_3 _ c278_4 HC278_4 gb279 NB274_279 NB279_274 NB275_279 NB279_275 _ _ _ _ _ _ _ _ _ _ _ _ _ _ _ _ _ _ _ _ _ _ _ _ _ _ _ _ _ _ _ _ _ _ _ _ gb280 NB280_279 NB279_280 NB274_280 NB280_274 NB275_280 NB280_275 _ _ _ _ _ _ _ _ _ _ _ _ _ _ _ _ _ _ _ _ _ _ _ _ _ _ _ _ _ _ _ _ _ _ _ _ _ _ _ _ _ _ _ _ _ _ _ _ _ _ _ _ _ _ _ _ _ _ _ _ _ _ _ _ _ _ _ _ _ _ _ _ _ _ _ _ GE274 _ GE275 _ _ _ _ _ _ _ _ _ _ HR277_1 HR277_2 _ HR277_4 _ _ _ _ _ _ _ _ _ _ HR278_1 HR278_2 _ HR278_4 _ GE279 _ GE280 _ _ _ _ _ _ _ _ _ _ _ _ _ _ _ _ _ _ _ _ _ _ _ _ _ _ _ _ _ _ _ _ _ _ _ _ _ _ _ _ _ _ _ _ _ _ _ _ _ _ _ _ _ _ _ _ _ _ _ _ _ _ _ _ _ _ _ _ _ _ _ _ _ _ _ _ _ w30z _ BK274 BK275 BK279 BK280 HB _ _ _ _ _ _ _ _ _ _ _ _ _ _ _ _ _ _ _ _ _ _ _ _ _ _ _ _ _ _ _ _ _ _ _ _ _ _ _ _ _ _ _ _ _ _ _ _ _ _ _ _ _ _ _ _ _ _ _ _ _ _ _ _ _ _ _ _ _ _ _ _ _ _ _ _ _ _ _ _ _ _ _ _ _ _ _ _ _ _ _ _ _ _ _ _ _ _ _ _ _ _ _ _ _ _ _ _ _ _ _ _ _ _ _ _ _ _ _ _ _ _ _ _ _ _ _ _ _ _ _ _ _ _ _ _ _ _ _ _ _ _ _ _ _ _ _ _ _ _ _ _ _ _ _ _ _ _ _ _ _ _ _ _ _ _ _ _ _ _ _ _ _ _ _ _ _ _ _ _ _ _ _ _ _ _ _ _ _ _ _ _ _ _ _ _ _ _ _ _ _ _ _ _ _ _ _ _ _ _ _ _ _ _ _ _ _ _ _ _ _ _ _ _ _ _ _ _ _ _ _ _ _ _ _ _ _ _ _ _ _ _ _ _ _ _ _ _ _ _ _ _ _ _ _ _ _ _ _ _ _ _ _ _ _ _ _ _ _ _ _ _ _ _ _ _ _ _ _ _ _ _ _ _ _ _ _ _ _ _ _ _ _ _ _ _ _ _ _ _ _ _ _ _ _ _
 have H := HC22.out
 clear HC22
 by_cases c47 : ((rd_T44 l0_0 x5_2).f0) = ((rd_T44 l1_0 x5_2).f0)
 ·
  rw [if_pos c47] at H
  have c47b0 : (((rd_T44 l0_0 x5_2).f0) == ((rd_T44 l1_0 x5_2).f0)) = true := beq_iff_eq.mpr c47
  have c47b1 : (((rd_T44 l0_0 x5_2).f0) != ((rd_T44 l1_0 x5_2).f0)) = false := bne_eq_false_iff_eq.mpr c47
  clear c47
  (first | rw [c47b0] | (simp only [i64_w, i32_w]; rw [c47b0]) | skip)
  by_cases c48 : ((rd_T44 l0_0 x5_2).f5) = ((rd_T44 l1_0 x5_2).f5)
  ·
   rw [if_pos c48] at H
   have c48b0 : (((rd_T44 l0_0 x5_2).f5) == ((rd_T44 l1_0 x5_2).f5)) = true := beq_iff_eq.mpr c48
   have c48b1 : (((rd_T44 l0_0 x5_2).f5) != ((rd_T44 l1_0 x5_2).f5)) = false := bne_eq_false_iff_eq.mpr c48
   clear c48
   by_cases c49 : ((rd_T44 l0_0 x5_2).f6) = ((rd_T44 l1_0 x5_2).f6)
   ·
    rw [if_pos c49] at H
    have c49b0 : (((rd_T44 l0_0 x5_2).f6) == ((rd_T44 l1_0 x5_2).f6)) = true := beq_iff_eq.mpr c49
    have c49b1 : (((rd_T44 l0_0 x5_2).f6) != ((rd_T44 l1_0 x5_2).f6)) = false := bne_eq_false_iff_eq.mpr c49
    clear c49
    by_cases c50 : ((rd_T44 l0_0 x5_2).f7) = ((rd_T44 l1_0 x5_2).f7)
    ·
     rw [if_pos c50] at H
     have c50b0 : (((rd_T44 l0_0 x5_2).f7) == ((rd_T44 l1_0 x5_2).f7)) = true := beq_iff_eq.mpr c50
     have c50b1 : (((rd_T44 l0_0 x5_2).f7) != ((rd_T44 l1_0 x5_2).f7)) = false := bne_eq_false_iff_eq.mpr c50
     clear c50
     by_cases c51 : ((rd_T44 l0_0 x5_2).f8) = ((rd_T44 l1_0 x5_2).f8)
     ·
      rw [if_pos c51] at H
      have c51b0 : (((rd_T44 l0_0 x5_2).f8) == ((rd_T44 l1_0 x5_2).f8)) = true := beq_iff_eq.mpr c51
      have c51b1 : (((rd_T44 l0_0 x5_2).f8) != ((rd_T44 l1_0 x5_2).f8)) = false := bne_eq_false_iff_eq.mpr c51
      clear c51
      replace H := Option.bind_eq_some_iff.mp H
      obtain ⟨t281, A520, H⟩ := H
      replace H : (if t281 = true then ((runnelref16_Same.f k2 ((rd_T44 l0_0 x5_2).f2) ((rd_T44 l1_0 x5_2).f2)).bind fun t282 => (if t282 = true then ((runnelref16_Same.f k2 ((rd_T44 l0_0 x5_2).f4) ((rd_T44 l1_0 x5_2).f4)).bind fun t283 => (if t283 = true then (runnelref17_Same.j2 k2 x5_2 ((((rd_T44 l0_0 x5_2).f3).length : Int) != (((rd_T44 l1_0 x5_2).f3).length : Int)) l0_0 l0_1 a0_2 l1_0 l1_1 a1_2 ((rd_T44 l0_0 x5_2).f0) ((rd_T44 l0_0 x5_2).f1) ((rd_T44 l0_0 x5_2).f2) ((rd_T44 l0_0 x5_2).f3) ((rd_T44 l0_0 x5_2).f4) ((rd_T44 l0_0 x5_2).f5) ((rd_T44 l0_0 x5_2).f6) ((rd_T44 l0_0 x5_2).f7) ((rd_T44 l0_0 x5_2).f8) ((rd_T44 l1_0 x5_2).f0) ((rd_T44 l1_0 x5_2).f1) ((rd_T44 l1_0 x5_2).f2) ((rd_T44 l1_0 x5_2).f3) ((rd_T44 l1_0 x5_2).f4) ((rd_T44 l1_0 x5_2).f5) ((rd_T44 l1_0 x5_2).f6) ((rd_T44 l1_0 x5_2).f7) ((rd_T44 l1_0 x5_2).f8)) else (runnelref17_Same.j2 k2 x5_2 true l0_0 l0_1 a0_2 l1_0 l1_1 a1_2 ((rd_T44 l0_0 x5_2).f0) ((rd_T44 l0_0 x5_2).f1) ((rd_T44 l0_0 x5_2).f2) ((rd_T44 l0_0 x5_2).f3) ((rd_T44 l0_0 x5_2).f4) ((rd_T44 l0_0 x5_2).f5) ((rd_T44 l0_0 x5_2).f6) ((rd_T44 l0_0 x5_2).f7) ((rd_T44 l0_0 x5_2).f8) ((rd_T44 l1_0 x5_2).f0) ((rd_T44 l1_0 x5_2).f1) ((rd_T44 l1_0 x5_2).f2) ((rd_T44 l1_0 x5_2).f3) ((rd_T44 l1_0 x5_2).f4) ((rd_T44 l1_0 x5_2).f5) ((rd_T44 l1_0 x5_2).f6) ((rd_T44 l1_0 x5_2).f7) ((rd_T44 l1_0 x5_2).f8)))) else (runnelref17_Same.j2 k2 x5_2 true l0_0 l0_1 a0_2 l1_0 l1_1 a1_2 ((rd_T44 l0_0 x5_2).f0) ((rd_T44 l0_0 x5_2).f1) ((rd_T44 l0_0 x5_2).f2) ((rd_T44 l0_0 x5_2).f3) ((rd_T44 l0_0 x5_2).f4) ((rd_T44 l0_0 x5_2).f5) ((rd_T44 l0_0 x5_2).f6) ((rd_T44 l0_0 x5_2).f7) ((rd_T44 l0_0 x5_2).f8) ((rd_T44 l1_0 x5_2).f0) ((rd_T44 l1_0 x5_2).f1) ((rd_T44 l1_0 x5_2).f2) ((rd_T44 l1_0 x5_2).f3) ((rd_T44 l1_0 x5_2).f4) ((rd_T44 l1_0 x5_2).f5) ((rd_T44 l1_0 x5_2).f6) ((rd_T44 l1_0 x5_2).f7) ((rd_T44 l1_0 x5_2).f8)))) else (runnelref17_Same.j2 k2 x5_2 true l0_0 l0_1 a0_2 l1_0 l1_1 a1_2 ((rd_T44 l0_0 x5_2).f0) ((rd_T44 l0_0 x5_2).f1) ((rd_T44 l0_0 x5_2).f2) ((rd_T44 l0_0 x5_2).f3) ((rd_T44 l0_0 x5_2).f4) ((rd_T44 l0_0 x5_2).f5) ((rd_T44 l0_0 x5_2).f6) ((rd_T44 l0_0 x5_2).f7) ((rd_T44 l0_0 x5_2).f8) ((rd_T44 l1_0 x5_2).f0) ((rd_T44 l1_0 x5_2).f1) ((rd_T44 l1_0 x5_2).f2) ((rd_T44 l1_0 x5_2).f3) ((rd_T44 l1_0 x5_2).f4) ((rd_T44 l1_0 x5_2).f5) ((rd_T44 l1_0 x5_2).f6) ((rd_T44 l1_0 x5_2).f7) ((rd_T44 l1_0 x5_2).f8))) = some r := H
      have A52 := am A520
      clear A520
      by_cases c53 : t281 = true
      ·
       subst c53
       have H1 : ((runnelref16_Same.f k2 ((rd_T44 l0_0 x5_2).f2) ((rd_T44 l1_0 x5_2).f2)).bind fun t282 => (if t282 = true then ((runnelref16_Same.f k2 ((rd_T44 l0_0 x5_2).f4) ((rd_T44 l1_0 x5_2).f4)).bind fun t283 => (if t283 = true then (runnelref17_Same.j2 k2 x5_2 ((((rd_T44 l0_0 x5_2).f3).length : Int) != (((rd_T44 l1_0 x5_2).f3).length : Int)) l0_0 l0_1 a0_2 l1_0 l1_1 a1_2 ((rd_T44 l0_0 x5_2).f0) ((rd_T44 l0_0 x5_2).f1) ((rd_T44 l0_0 x5_2).f2) ((rd_T44 l0_0 x5_2).f3) ((rd_T44 l0_0 x5_2).f4) ((rd_T44 l0_0 x5_2).f5) ((rd_T44 l0_0 x5_2).f6) ((rd_T44 l0_0 x5_2).f7) ((rd_T44 l0_0 x5_2).f8) ((rd_T44 l1_0 x5_2).f0) ((rd_T44 l1_0 x5_2).f1) ((rd_T44 l1_0 x5_2).f2) ((rd_T44 l1_0 x5_2).f3) ((rd_T44 l1_0 x5_2).f4) ((rd_T44 l1_0 x5_2).f5) ((rd_T44 l1_0 x5_2).f6) ((rd_T44 l1_0 x5_2).f7) ((rd_T44 l1_0 x5_2).f8)) else (runnelref17_Same.j2 k2 x5_2 true l0_0 l0_1 a0_2 l1_0 l1_1 a1_2 ((rd_T44 l0_0 x5_2).f0) ((rd_T44 l0_0 x5_2).f1) ((rd_T44 l0_0 x5_2).f2) ((rd_T44 l0_0 x5_2).f3) ((rd_T44 l0_0 x5_2).f4) ((rd_T44 l0_0 x5_2).f5) ((rd_T44 l0_0 x5_2).f6) ((rd_T44 l0_0 x5_2).f7) ((rd_T44 l0_0 x5_2).f8) ((rd_T44 l1_0 x5_2).f0) ((rd_T44 l1_0 x5_2).f1) ((rd_T44 l1_0 x5_2).f2) ((rd_T44 l1_0 x5_2).f3) ((rd_T44 l1_0 x5_2).f4) ((rd_T44 l1_0 x5_2).f5) ((rd_T44 l1_0 x5_2).f6) ((rd_T44 l1_0 x5_2).f7) ((rd_T44 l1_0 x5_2).f8)))) else (runnelref17_Same.j2 k2 x5_2 true l0_0 l0_1 a0_2 l1_0 l1_1 a1_2 ((rd_T44 l0_0 x5_2).f0) ((rd_T44 l0_0 x5_2).f1) ((rd_T44 l0_0 x5_2).f2) ((rd_T44 l0_0 x5_2).f3) ((rd_T44 l0_0 x5_2).f4) ((rd_T44 l0_0 x5_2).f5) ((rd_T44 l0_0 x5_2).f6) ((rd_T44 l0_0 x5_2).f7) ((rd_T44 l0_0 x5_2).f8) ((rd_T44 l1_0 x5_2).f0) ((rd_T44 l1_0 x5_2).f1) ((rd_T44 l1_0 x5_2).f2) ((rd_T44 l1_0 x5_2).f3) ((rd_T44 l1_0 x5_2).f4) ((rd_T44 l1_0 x5_2).f5) ((rd_T44 l1_0 x5_2).f6) ((rd_T44 l1_0 x5_2).f7) ((rd_T44 l1_0 x5_2).f8)))) = some r := by rw [if_pos rfl] at H; exact H
       clear H
       have H := H1
       clear H1
       replace H := Option.bind_eq_some_iff.mp H
       obtain ⟨t282, A540, H⟩ := H
       replace H : (if t282 = true then ((runnelref16_Same.f k2 ((rd_T44 l0_0 x5_2).f4) ((rd_T44 l1_0 x5_2).f4)).bind fun t283 => (if t283 = true then (runnelref17_Same.j2 k2 x5_2 ((((rd_T44 l0_0 x5_2).f3).length : Int) != (((rd_T44 l1_0 x5_2).f3).length : Int)) l0_0 l0_1 a0_2 l1_0 l1_1 a1_2 ((rd_T44 l0_0 x5_2).f0) ((rd_T44 l0_0 x5_2).f1) ((rd_T44 l0_0 x5_2).f2) ((rd_T44 l0_0 x5_2).f3) ((rd_T44 l0_0 x5_2).f4) ((rd_T44 l0_0 x5_2).f5) ((rd_T44 l0_0 x5_2).f6) ((rd_T44 l0_0 x5_2).f7) ((rd_T44 l0_0 x5_2).f8) ((rd_T44 l1_0 x5_2).f0) ((rd_T44 l1_0 x5_2).f1) ((rd_T44 l1_0 x5_2).f2) ((rd_T44 l1_0 x5_2).f3) ((rd_T44 l1_0 x5_2).f4) ((rd_T44 l1_0 x5_2).f5) ((rd_T44 l1_0 x5_2).f6) ((rd_T44 l1_0 x5_2).f7) ((rd_T44 l1_0 x5_2).f8)) else (runnelref17_Same.j2 k2 x5_2 true l0_0 l0_1 a0_2 l1_0 l1_1 a1_2 ((rd_T44 l0_0 x5_2).f0) ((rd_T44 l0_0 x5_2).f1) ((rd_T44 l0_0 x5_2).f2) ((rd_T44 l0_0 x5_2).f3) ((rd_T44 l0_0 x5_2).f4) ((rd_T44 l0_0 x5_2).f5) ((rd_T44 l0_0 x5_2).f6) ((rd_T44 l0_0 x5_2).f7) ((rd_T44 l0_0 x5_2).f8) ((rd_T44 l1_0 x5_2).f0) ((rd_T44 l1_0 x5_2).f1) ((rd_T44 l1_0 x5_2).f2) ((rd_T44 l1_0 x5_2).f3) ((rd_T44 l1_0 x5_2).f4) ((rd_T44 l1_0 x5_2).f5) ((rd_T44 l1_0 x5_2).f6) ((rd_T44 l1_0 x5_2).f7) ((rd_T44 l1_0 x5_2).f8)))) else (runnelref17_Same.j2 k2 x5_2 true l0_0 l0_1 a0_2 l1_0 l1_1 a1_2 ((rd_T44 l0_0 x5_2).f0) ((rd_T44 l0_0 x5_2).f1) ((rd_T44 l0_0 x5_2).f2) ((rd_T44 l0_0 x5_2).f3) ((rd_T44 l0_0 x5_2).f4) ((rd_T44 l0_0 x5_2).f5) ((rd_T44 l0_0 x5_2).f6) ((rd_T44 l0_0 x5_2).f7) ((rd_T44 l0_0 x5_2).f8) ((rd_T44 l1_0 x5_2).f0) ((rd_T44 l1_0 x5_2).f1) ((rd_T44 l1_0 x5_2).f2) ((rd_T44 l1_0 x5_2).f3) ((rd_T44 l1_0 x5_2).f4) ((rd_T44 l1_0 x5_2).f5) ((rd_T44 l1_0 x5_2).f6) ((rd_T44 l1_0 x5_2).f7) ((rd_T44 l1_0 x5_2).f8))) = some r := H
       have A54 := am A540
       clear A540
       by_cases c55 : t282 = true
       ·
        subst c55
        have H1 : ((runnelref16_Same.f k2 ((rd_T44 l0_0 x5_2).f4) ((rd_T44 l1_0 x5_2).f4)).bind fun t283 => (if t283 = true then (runnelref17_Same.j2 k2 x5_2 ((((rd_T44 l0_0 x5_2).f3).length : Int) != (((rd_T44 l1_0 x5_2).f3).length : Int)) l0_0 l0_1 a0_2 l1_0 l1_1 a1_2 ((rd_T44 l0_0 x5_2).f0) ((rd_T44 l0_0 x5_2).f1) ((rd_T44 l0_0 x5_2).f2) ((rd_T44 l0_0 x5_2).f3) ((rd_T44 l0_0 x5_2).f4) ((rd_T44 l0_0 x5_2).f5) ((rd_T44 l0_0 x5_2).f6) ((rd_T44 l0_0 x5_2).f7) ((rd_T44 l0_0 x5_2).f8) ((rd_T44 l1_0 x5_2).f0) ((rd_T44 l1_0 x5_2).f1) ((rd_T44 l1_0 x5_2).f2) ((rd_T44 l1_0 x5_2).f3) ((rd_T44 l1_0 x5_2).f4) ((rd_T44 l1_0 x5_2).f5) ((rd_T44 l1_0 x5_2).f6) ((rd_T44 l1_0 x5_2).f7) ((rd_T44 l1_0 x5_2).f8)) else (runnelref17_Same.j2 k2 x5_2 true l0_0 l0_1 a0_2 l1_0 l1_1 a1_2 ((rd_T44 l0_0 x5_2).f0) ((rd_T44 l0_0 x5_2).f1) ((rd_T44 l0_0 x5_2).f2) ((rd_T44 l0_0 x5_2).f3) ((rd_T44 l0_0 x5_2).f4) ((rd_T44 l0_0 x5_2).f5) ((rd_T44 l0_0 x5_2).f6) ((rd_T44 l0_0 x5_2).f7) ((rd_T44 l0_0 x5_2).f8) ((rd_T44 l1_0 x5_2).f0) ((rd_T44 l1_0 x5_2).f1) ((rd_T44 l1_0 x5_2).f2) ((rd_T44 l1_0 x5_2).f3) ((rd_T44 l1_0 x5_2).f4) ((rd_T44 l1_0 x5_2).f5) ((rd_T44 l1_0 x5_2).f6) ((rd_T44 l1_0 x5_2).f7) ((rd_T44 l1_0 x5_2).f8)))) = some r := by rw [if_pos rfl] at H; exact H
        clear H
        have H := H1
        clear H1
        replace H := Option.bind_eq_some_iff.mp H
        obtain ⟨t283, A560, H⟩ := H
        replace H : (if t283 = true then (runnelref17_Same.j2 k2 x5_2 ((((rd_T44 l0_0 x5_2).f3).length : Int) != (((rd_T44 l1_0 x5_2).f3).length : Int)) l0_0 l0_1 a0_2 l1_0 l1_1 a1_2 ((rd_T44 l0_0 x5_2).f0) ((rd_T44 l0_0 x5_2).f1) ((rd_T44 l0_0 x5_2).f2) ((rd_T44 l0_0 x5_2).f3) ((rd_T44 l0_0 x5_2).f4) ((rd_T44 l0_0 x5_2).f5) ((rd_T44 l0_0 x5_2).f6) ((rd_T44 l0_0 x5_2).f7) ((rd_T44 l0_0 x5_2).f8) ((rd_T44 l1_0 x5_2).f0) ((rd_T44 l1_0 x5_2).f1) ((rd_T44 l1_0 x5_2).f2) ((rd_T44 l1_0 x5_2).f3) ((rd_T44 l1_0 x5_2).f4) ((rd_T44 l1_0 x5_2).f5) ((rd_T44 l1_0 x5_2).f6) ((rd_T44 l1_0 x5_2).f7) ((rd_T44 l1_0 x5_2).f8)) else (runnelref17_Same.j2 k2 x5_2 true l0_0 l0_1 a0_2 l1_0 l1_1 a1_2 ((rd_T44 l0_0 x5_2).f0) ((rd_T44 l0_0 x5_2).f1) ((rd_T44 l0_0 x5_2).f2) ((rd_T44 l0_0 x5_2).f3) ((rd_T44 l0_0 x5_2).f4) ((rd_T44 l0_0 x5_2).f5) ((rd_T44 l0_0 x5_2).f6) ((rd_T44 l0_0 x5_2).f7) ((rd_T44 l0_0 x5_2).f8) ((rd_T44 l1_0 x5_2).f0) ((rd_T44 l1_0 x5_2).f1) ((rd_T44 l1_0 x5_2).f2) ((rd_T44 l1_0 x5_2).f3) ((rd_T44 l1_0 x5_2).f4) ((rd_T44 l1_0 x5_2).f5) ((rd_T44 l1_0 x5_2).f6) ((rd_T44 l1_0 x5_2).f7) ((rd_T44 l1_0 x5_2).f8))) = some r := H
        have A56 := am A560
        clear A560
        by_cases c57 : t283 = true
        ·
         subst c57
         have H1 : (runnelref17_Same.j2 k2 x5_2 ((((rd_T44 l0_0 x5_2).f3).length : Int) != (((rd_T44 l1_0 x5_2).f3).length : Int)) l0_0 l0_1 a0_2 l1_0 l1_1 a1_2 ((rd_T44 l0_0 x5_2).f0) ((rd_T44 l0_0 x5_2).f1) ((rd_T44 l0_0 x5_2).f2) ((rd_T44 l0_0 x5_2).f3) ((rd_T44 l0_0 x5_2).f4) ((rd_T44 l0_0 x5_2).f5) ((rd_T44 l0_0 x5_2).f6) ((rd_T44 l0_0 x5_2).f7) ((rd_T44 l0_0 x5_2).f8) ((rd_T44 l1_0 x5_2).f0) ((rd_T44 l1_0 x5_2).f1) ((rd_T44 l1_0 x5_2).f2) ((rd_T44 l1_0 x5_2).f3) ((rd_T44 l1_0 x5_2).f4) ((rd_T44 l1_0 x5_2).f5) ((rd_T44 l1_0 x5_2).f6) ((rd_T44 l1_0 x5_2).f7) ((rd_T44 l1_0 x5_2).f8)) = some r := by rw [if_pos rfl] at H; exact H
         clear H
         have H := H1
         clear H1
         have H' := am H
         clear H
         have hnb58 := NB279_274.out
         have hnc58 := NB274_279.out
         have hnb59 := NB279_275.out
         have hnc59 := NB275_279.out
         have hnb60 := NB279_280.out
         have hnc60 := NB280_279.out
         have hcz61_0 : w30z.cell? ⟨gb279, 0, none⟩ = some (.int .i64 ((rd_T44 l0_0 x5_2).f0)) := (b4 BK279.out 0).trans rfl
         have hcz61_1 : w30z.cell? ⟨gb279, 1, none⟩ = some (.slice A277_1 ((rd_T44 l0_0 x5_2).f1).length c277_1) := (b4 BK279.out 1).trans rfl
         have hcz61_2 : w30z.cell? ⟨gb279, 2, none⟩ = some (.slice A277_2 ((rd_T44 l0_0 x5_2).f2).length c277_2) := (b4 BK279.out 2).trans rfl
         have hcz61_3 : w30z.cell? ⟨gb279, 3, none⟩ = some (.slice A277_3 ((rd_T44 l0_0 x5_2).f3).length c277_3) := (b4 BK279.out 3).trans rfl
         have hcz61_4 : w30z.cell? ⟨gb279, 4, none⟩ = some (.slice A277_4 ((rd_T44 l0_0 x5_2).f4).length c277_4) := (b4 BK279.out 4).trans rfl
         have hcz61_5 : w30z.cell? ⟨gb279, 5, none⟩ = some (.int .i64 ((rd_T44 l0_0 x5_2).f5)) := (b4 BK279.out 5).trans rfl
         have hcz61_6 : w30z.cell? ⟨gb279, 6, none⟩ = some (.int .i64 ((rd_T44 l0_0 x5_2).f6)) := (b4 BK279.out 6).trans rfl
         have hcz61_7 : w30z.cell? ⟨gb279, 7, none⟩ = some (.int .i64 ((rd_T44 l0_0 x5_2).f7)) := (b4 BK279.out 7).trans rfl
         have hcz61_8 : w30z.cell? ⟨gb279, 8, none⟩ = some (.int .i64 ((rd_T44 l0_0 x5_2).f8)) := (b4 BK279.out 8).trans rfl
         have hnb62 := NB280_274.out
         have hnc62 := NB274_280.out
         have hnb63 := NB280_275.out
         have hnc63 := NB275_280.out
         have hcz64_0 : w30z.cell? ⟨gb280, 0, none⟩ = some (.int .i64 ((rd_T44 l1_0 x5_2).f0)) := (b4 BK280.out 0).trans rfl
         have hcz64_1 : w30z.cell? ⟨gb280, 1, none⟩ = some (.slice A278_1 ((rd_T44 l1_0 x5_2).f1).length c278_1) := (b4 BK280.out 1).trans rfl
         have hcz64_2 : w30z.cell? ⟨gb280, 2, none⟩ = some (.slice A278_2 ((rd_T44 l1_0 x5_2).f2).length c278_2) := (b4 BK280.out 2).trans rfl
         have hcz64_3 : w30z.cell? ⟨gb280, 3, none⟩ = some (.slice A278_3 ((rd_T44 l1_0 x5_2).f3).length c278_3) := (b4 BK280.out 3).trans rfl
         have hcz64_4 : w30z.cell? ⟨gb280, 4, none⟩ = some (.slice A278_4 ((rd_T44 l1_0 x5_2).f4).length c278_4) := (b4 BK280.out 4).trans rfl
         have hcz64_5 : w30z.cell? ⟨gb280, 5, none⟩ = some (.int .i64 ((rd_T44 l1_0 x5_2).f5)) := (b4 BK280.out 5).trans rfl
         have hcz64_6 : w30z.cell? ⟨gb280, 6, none⟩ = some (.int .i64 ((rd_T44 l1_0 x5_2).f6)) := (b4 BK280.out 6).trans rfl
         have hcz64_7 : w30z.cell? ⟨gb280, 7, none⟩ = some (.int .i64 ((rd_T44 l1_0 x5_2).f7)) := (b4 BK280.out 7).trans rfl
         have hcz64_8 : w30z.cell? ⟨gb280, 8, none⟩ = some (.int .i64 ((rd_T44 l1_0 x5_2).f8)) := (b4 BK280.out 8).trans rfl
         go_wp2_with (first | (go_at_call 24; (with_reducible refine (runnelref16_Same.calls k2 _ _ ((rd_T44 l0_0 x5_2).f1) _ _ ((rd_T44 l1_0 x5_2).f1) true _ ?side1 ?side2 ?side3 ?side4 A52.out).mono ?_); (case side1 => exact d1 HR277_1.out (by repeat (first | (with_reducible first | exact HB.out | apply c1 | apply c2 | apply c3 | refine c4 ?_ GE274.out | refine c4 ?_ GE275.out | refine c4 ?_ GE279.out | refine c4 ?_ GE280.out) | exact HB.out))); (case side2 => exact HC277_1.out); (case side3 => exact d1 HR278_1.out (by repeat (first | (with_reducible first | exact HB.out | apply c1 | apply c2 | apply c3 | refine c4 ?_ GE274.out | refine c4 ?_ GE275.out | refine c4 ?_ GE279.out | refine c4 ?_ GE280.out) | exact HB.out))); (case side4 => exact HC278_1.out); rintro e w' ⟨rfl, ⟨nd, rfl⟩⟩) | (go_at_call 24; (with_reducible refine (runnelref16_Same.calls k2 _ _ ((rd_T44 l0_0 x5_2).f2) _ _ ((rd_T44 l1_0 x5_2).f2) true _ ?side1 ?side2 ?side3 ?side4 A54.out).mono ?_); (case side1 => exact d1 HR277_2.out (by repeat (first | (with_reducible first | exact HB.out | apply c1 | apply c2 | apply c3 | refine c4 ?_ GE274.out | refine c4 ?_ GE275.out | refine c4 ?_ GE279.out | refine c4 ?_ GE280.out) | exact HB.out))); (case side2 => exact HC277_2.out); (case side3 => exact d1 HR278_2.out (by repeat (first | (with_reducible first | exact HB.out | apply c1 | apply c2 | apply c3 | refine c4 ?_ GE274.out | refine c4 ?_ GE275.out | refine c4 ?_ GE279.out | refine c4 ?_ GE280.out) | exact HB.out))); (case side4 => exact HC278_2.out); rintro e w' ⟨rfl, ⟨nd, rfl⟩⟩) | (go_at_call 24; (with_reducible refine (runnelref16_Same.calls k2 _ _ ((rd_T44 l0_0 x5_2).f4) _ _ ((rd_T44 l1_0 x5_2).f4) true _ ?side1 ?side2 ?side3 ?side4 A56.out).mono ?_); (case side1 => exact d1 HR277_4.out (by repeat (first | (with_reducible first | exact HB.out | apply c1 | apply c2 | apply c3 | refine c4 ?_ GE274.out | refine c4 ?_ GE275.out | refine c4 ?_ GE279.out | refine c4 ?_ GE280.out) | exact HB.out))); (case side2 => exact HC277_4.out); (case side3 => exact d1 HR278_4.out (by repeat (first | (with_reducible first | exact HB.out | apply c1 | apply c2 | apply c3 | refine c4 ?_ GE274.out | refine c4 ?_ GE275.out | refine c4 ?_ GE279.out | refine c4 ?_ GE280.out) | exact HB.out))); (case side4 => exact HC278_4.out); rintro e w' ⟨rfl, ⟨nd, rfl⟩⟩))
         go_meet
         case rel => exact ⟨_, (((((rd_T44 l0_0 x5_2).f3).length : Int) != (((rd_T44 l1_0 x5_2).f3).length : Int))), (by first | rfl | (simp; done) | (simp [*]; done)), H', ⟨by have := HJ2.out; have := HK2.out; first | omega | exact Nat.le_refl _⟩, ⟨by (with_reducible repeat (first | refine b1 ?_ _ | refine b2 ?_ | refine b3 ?_ _)); exact BK274.out⟩, ⟨by (with_reducible repeat (first | refine b1 ?_ _ | refine b2 ?_ | refine b3 ?_ _)); exact BK275.out⟩, ⟨by (with_reducible repeat (first | refine b1 ?_ _ | refine b2 ?_ | refine b3 ?_ _)); exact BK279.out⟩, ⟨by (with_reducible repeat (first | refine b1 ?_ _ | refine b2 ?_ | refine b3 ?_ _)); exact BK280.out⟩, ⟨by repeat (first | (with_reducible first | exact HB.out | apply c1 | apply c2 | apply c3 | refine c4 ?_ GE274.out | refine c4 ?_ GE275.out | refine c4 ?_ GE279.out | refine c4 ?_ GE280.out) | exact HB.out)⟩⟩
        ·
         replace c57 := Bool.eq_false_iff.mpr c57
         subst c57
         have H1 : (runnelref17_Same.j2 k2 x5_2 true l0_0 l0_1 a0_2 l1_0 l1_1 a1_2 ((rd_T44 l0_0 x5_2).f0) ((rd_T44 l0_0 x5_2).f1) ((rd_T44 l0_0 x5_2).f2) ((rd_T44 l0_0 x5_2).f3) ((rd_T44 l0_0 x5_2).f4) ((rd_T44 l0_0 x5_2).f5) ((rd_T44 l0_0 x5_2).f6) ((rd_T44 l0_0 x5_2).f7) ((rd_T44 l0_0 x5_2).f8) ((rd_T44 l1_0 x5_2).f0) ((rd_T44 l1_0 x5_2).f1) ((rd_T44 l1_0 x5_2).f2) ((rd_T44 l1_0 x5_2).f3) ((rd_T44 l1_0 x5_2).f4) ((rd_T44 l1_0 x5_2).f5) ((rd_T44 l1_0 x5_2).f6) ((rd_T44 l1_0 x5_2).f7) ((rd_T44 l1_0 x5_2).f8)) = some r := by rw [if_neg (show ¬ (false = true) by decide)] at H; exact H
         clear H
         have H := H1
         clear H1
         have H' := am H
         clear H
         have hnb65 := NB279_274.out
         have hnc65 := NB274_279.out
         have hnb66 := NB279_275.out
         have hnc66 := NB275_279.out
         have hnb67 := NB279_280.out
         have hnc67 := NB280_279.out
         have hcz68_0 : w30z.cell? ⟨gb279, 0, none⟩ = some (.int .i64 ((rd_T44 l0_0 x5_2).f0)) := (b4 BK279.out 0).trans rfl
         have hcz68_1 : w30z.cell? ⟨gb279, 1, none⟩ = some (.slice A277_1 ((rd_T44 l0_0 x5_2).f1).length c277_1) := (b4 BK279.out 1).trans rfl
         have hcz68_2 : w30z.cell? ⟨gb279, 2, none⟩ = some (.slice A277_2 ((rd_T44 l0_0 x5_2).f2).length c277_2) := (b4 BK279.out 2).trans rfl
         have hcz68_3 : w30z.cell? ⟨gb279, 3, none⟩ = some (.slice A277_3 ((rd_T44 l0_0 x5_2).f3).length c277_3) := (b4 BK279.out 3).trans rfl
         have hcz68_4 : w30z.cell? ⟨gb279, 4, none⟩ = some (.slice A277_4 ((rd_T44 l0_0 x5_2).f4).length c277_4) := (b4 BK279.out 4).trans rfl
         have hcz68_5 : w30z.cell? ⟨gb279, 5, none⟩ = some (.int .i64 ((rd_T44 l0_0 x5_2).f5)) := (b4 BK279.out 5).trans rfl
         have hcz68_6 : w30z.cell? ⟨gb279, 6, none⟩ = some (.int .i64 ((rd_T44 l0_0 x5_2).f6)) := (b4 BK279.out 6).trans rfl
         have hcz68_7 : w30z.cell? ⟨gb279, 7, none⟩ = some (.int .i64 ((rd_T44 l0_0 x5_2).f7)) := (b4 BK279.out 7).trans rfl
         have hcz68_8 : w30z.cell? ⟨gb279, 8, none⟩ = some (.int .i64 ((rd_T44 l0_0 x5_2).f8)) := (b4 BK279.out 8).trans rfl
         have hnb69 := NB280_274.out
         have hnc69 := NB274_280.out
         have hnb70 := NB280_275.out
         have hnc70 := NB275_280.out
         have hcz71_0 : w30z.cell? ⟨gb280, 0, none⟩ = some (.int .i64 ((rd_T44 l1_0 x5_2).f0)) := (b4 BK280.out 0).trans rfl
         have hcz71_1 : w30z.cell? ⟨gb280, 1, none⟩ = some (.slice A278_1 ((rd_T44 l1_0 x5_2).f1).length c278_1) := (b4 BK280.out 1).trans rfl
         have hcz71_2 : w30z.cell? ⟨gb280, 2, none⟩ = some (.slice A278_2 ((rd_T44 l1_0 x5_2).f2).length c278_2) := (b4 BK280.out 2).trans rfl
         have hcz71_3 : w30z.cell? ⟨gb280, 3, none⟩ = some (.slice A278_3 ((rd_T44 l1_0 x5_2).f3).length c278_3) := (b4 BK280.out 3).trans rfl
         have hcz71_4 : w30z.cell? ⟨gb280, 4, none⟩ = some (.slice A278_4 ((rd_T44 l1_0 x5_2).f4).length c278_4) := (b4 BK280.out 4).trans rfl
         have hcz71_5 : w30z.cell? ⟨gb280, 5, none⟩ = some (.int .i64 ((rd_T44 l1_0 x5_2).f5)) := (b4 BK280.out 5).trans rfl
         have hcz71_6 : w30z.cell? ⟨gb280, 6, none⟩ = some (.int .i64 ((rd_T44 l1_0 x5_2).f6)) := (b4 BK280.out 6).trans rfl
         have hcz71_7 : w30z.cell? ⟨gb280, 7, none⟩ = some (.int .i64 ((rd_T44 l1_0 x5_2).f7)) := (b4 BK280.out 7).trans rfl
         have hcz71_8 : w30z.cell? ⟨gb280, 8, none⟩ = some (.int .i64 ((rd_T44 l1_0 x5_2).f8)) := (b4 BK280.out 8).trans rfl
         go_wp2_with (first | (go_at_call 24; (with_reducible refine (runnelref16_Same.calls k2 _ _ ((rd_T44 l0_0 x5_2).f1) _ _ ((rd_T44 l1_0 x5_2).f1) true _ ?side1 ?side2 ?side3 ?side4 A52.out).mono ?_); (case side1 => exact d1 HR277_1.out (by repeat (first | (with_reducible first | exact HB.out | apply c1 | apply c2 | apply c3 | refine c4 ?_ GE274.out | refine c4 ?_ GE275.out | refine c4 ?_ GE279.out | refine c4 ?_ GE280.out) | exact HB.out))); (case side2 => exact HC277_1.out); (case side3 => exact d1 HR278_1.out (by repeat (first | (with_reducible first | exact HB.out | apply c1 | apply c2 | apply c3 | refine c4 ?_ GE274.out | refine c4 ?_ GE275.out | refine c4 ?_ GE279.out | refine c4 ?_ GE280.out) | exact HB.out))); (case side4 => exact HC278_1.out); rintro e w' ⟨rfl, ⟨nd, rfl⟩⟩) | (go_at_call 24; (with_reducible refine (runnelref16_Same.calls k2 _ _ ((rd_T44 l0_0 x5_2).f2) _ _ ((rd_T44 l1_0 x5_2).f2) true _ ?side1 ?side2 ?side3 ?side4 A54.out).mono ?_); (case side1 => exact d1 HR277_2.out (by repeat (first | (with_reducible first | exact HB.out | apply c1 | apply c2 | apply c3 | refine c4 ?_ GE274.out | refine c4 ?_ GE275.out | refine c4 ?_ GE279.out | refine c4 ?_ GE280.out) | exact HB.out))); (case side2 => exact HC277_2.out); (case side3 => exact d1 HR278_2.out (by repeat (first | (with_reducible first | exact HB.out | apply c1 | apply c2 | apply c3 | refine c4 ?_ GE274.out | refine c4 ?_ GE275.out | refine c4 ?_ GE279.out | refine c4 ?_ GE280.out) | exact HB.out))); (case side4 => exact HC278_2.out); rintro e w' ⟨rfl, ⟨nd, rfl⟩⟩) | (go_at_call 24; (with_reducible refine (runnelref16_Same.calls k2 _ _ ((rd_T44 l0_0 x5_2).f4) _ _ ((rd_T44 l1_0 x5_2).f4) false _ ?side1 ?side2 ?side3 ?side4 A56.out).mono ?_); (case side1 => exact d1 HR277_4.out (by repeat (first | (with_reducible first | exact HB.out | apply c1 | apply c2 | apply c3 | refine c4 ?_ GE274.out | refine c4 ?_ GE275.out | refine c4 ?_ GE279.out | refine c4 ?_ GE280.out) | exact HB.out))); (case side2 => exact HC277_4.out); (case side3 => exact d1 HR278_4.out (by repeat (first | (with_reducible first | exact HB.out | apply c1 | apply c2 | apply c3 | refine c4 ?_ GE274.out | refine c4 ?_ GE275.out | refine c4 ?_ GE279.out | refine c4 ?_ GE280.out) | exact HB.out))); (case side4 => exact HC278_4.out); rintro e w' ⟨rfl, ⟨nd, rfl⟩⟩))
         go_meet
         case rel => exact ⟨_, (true), (by first | rfl | (simp; done) | (simp [*]; done)), H', ⟨by have := HJ2.out; have := HK2.out; first | omega | exact Nat.le_refl _⟩, ⟨by (with_reducible repeat (first | refine b1 ?_ _ | refine b2 ?_ | refine b3 ?_ _)); exact BK274.out⟩, ⟨by (with_reducible repeat (first | refine b1 ?_ _ | refine b2 ?_ | refine b3 ?_ _)); exact BK275.out⟩, ⟨by (with_reducible repeat (first | refine b1 ?_ _ | refine b2 ?_ | refine b3 ?_ _)); exact BK279.out⟩, ⟨by (with_reducible repeat (first | refine b1 ?_ _ | refine b2 ?_ | refine b3 ?_ _)); exact BK280.out⟩, ⟨by repeat (first | (with_reducible first | exact HB.out | apply c1 | apply c2 | apply c3 | refine c4 ?_ GE274.out | refine c4 ?_ GE275.out | refine c4 ?_ GE279.out | refine c4 ?_ GE280.out) | exact HB.out)⟩⟩
       ·
        replace c55 := Bool.eq_false_iff.mpr c55
        subst c55
        have H1 : (runnelref17_Same.j2 k2 x5_2 true l0_0 l0_1 a0_2 l1_0 l1_1 a1_2 ((rd_T44 l0_0 x5_2).f0) ((rd_T44 l0_0 x5_2).f1) ((rd_T44 l0_0 x5_2).f2) ((rd_T44 l0_0 x5_2).f3) ((rd_T44 l0_0 x5_2).f4) ((rd_T44 l0_0 x5_2).f5) ((rd_T44 l0_0 x5_2).f6) ((rd_T44 l0_0 x5_2).f7) ((rd_T44 l0_0 x5_2).f8) ((rd_T44 l1_0 x5_2).f0) ((rd_T44 l1_0 x5_2).f1) ((rd_T44 l1_0 x5_2).f2) ((rd_T44 l1_0 x5_2).f3) ((rd_T44 l1_0 x5_2).f4) ((rd_T44 l1_0 x5_2).f5) ((rd_T44 l1_0 x5_2).f6) ((rd_T44 l1_0 x5_2).f7) ((rd_T44 l1_0 x5_2).f8)) = some r := by rw [if_neg (show ¬ (false = true) by decide)] at H; exact H
        clear H
        have H := H1
        clear H1
        have H' := am H
        clear H
        have hnb72 := NB279_274.out
        have hnc72 := NB274_279.out
        have hnb73 := NB279_275.out
        have hnc73 := NB275_279.out
        have hnb74 := NB279_280.out
        have hnc74 := NB280_279.out
        have hcz75_0 : w30z.cell? ⟨gb279, 0, none⟩ = some (.int .i64 ((rd_T44 l0_0 x5_2).f0)) := (b4 BK279.out 0).trans rfl
        have hcz75_1 : w30z.cell? ⟨gb279, 1, none⟩ = some (.slice A277_1 ((rd_T44 l0_0 x5_2).f1).length c277_1) := (b4 BK279.out 1).trans rfl
        have hcz75_2 : w30z.cell? ⟨gb279, 2, none⟩ = some (.slice A277_2 ((rd_T44 l0_0 x5_2).f2).length c277_2) := (b4 BK279.out 2).trans rfl
        have hcz75_3 : w30z.cell? ⟨gb279, 3, none⟩ = some (.slice A277_3 ((rd_T44 l0_0 x5_2).f3).length c277_3) := (b4 BK279.out 3).trans rfl
        have hcz75_4 : w30z.cell? ⟨gb279, 4, none⟩ = some (.slice A277_4 ((rd_T44 l0_0 x5_2).f4).length c277_4) := (b4 BK279.out 4).trans rfl
        have hcz75_5 : w30z.cell? ⟨gb279, 5, none⟩ = some (.int .i64 ((rd_T44 l0_0 x5_2).f5)) := (b4 BK279.out 5).trans rfl
        have hcz75_6 : w30z.cell? ⟨gb279, 6, none⟩ = some (.int .i64 ((rd_T44 l0_0 x5_2).f6)) := (b4 BK279.out 6).trans rfl
        have hcz75_7 : w30z.cell? ⟨gb279, 7, none⟩ = some (.int .i64 ((rd_T44 l0_0 x5_2).f7)) := (b4 BK279.out 7).trans rfl
        have hcz75_8 : w30z.cell? ⟨gb279, 8, none⟩ = some (.int .i64 ((rd_T44 l0_0 x5_2).f8)) := (b4 BK279.out 8).trans rfl
        have hnb76 := NB280_274.out
        have hnc76 := NB274_280.out
        have hnb77 := NB280_275.out
        have hnc77 := NB275_280.out
        have hcz78_0 : w30z.cell? ⟨gb280, 0, none⟩ = some (.int .i64 ((rd_T44 l1_0 x5_2).f0)) := (b4 BK280.out 0).trans rfl
        have hcz78_1 : w30z.cell? ⟨gb280, 1, none⟩ = some (.slice A278_1 ((rd_T44 l1_0 x5_2).f1).length c278_1) := (b4 BK280.out 1).trans rfl
        have hcz78_2 : w30z.cell? ⟨gb280, 2, none⟩ = some (.slice A278_2 ((rd_T44 l1_0 x5_2).f2).length c278_2) := (b4 BK280.out 2).trans rfl
        have hcz78_3 : w30z.cell? ⟨gb280, 3, none⟩ = some (.slice A278_3 ((rd_T44 l1_0 x5_2).f3).length c278_3) := (b4 BK280.out 3).trans rfl
        have hcz78_4 : w30z.cell? ⟨gb280, 4, none⟩ = some (.slice A278_4 ((rd_T44 l1_0 x5_2).f4).length c278_4) := (b4 BK280.out 4).trans rfl
        have hcz78_5 : w30z.cell? ⟨gb280, 5, none⟩ = some (.int .i64 ((rd_T44 l1_0 x5_2).f5)) := (b4 BK280.out 5).trans rfl
        have hcz78_6 : w30z.cell? ⟨gb280, 6, none⟩ = some (.int .i64 ((rd_T44 l1_0 x5_2).f6)) := (b4 BK280.out 6).trans rfl
        have hcz78_7 : w30z.cell? ⟨gb280, 7, none⟩ = some (.int .i64 ((rd_T44 l1_0 x5_2).f7)) := (b4 BK280.out 7).trans rfl
        have hcz78_8 : w30z.cell? ⟨gb280, 8, none⟩ = some (.int .i64 ((rd_T44 l1_0 x5_2).f8)) := (b4 BK280.out 8).trans rfl
        go_wp2_with (first | (go_at_call 24; (with_reducible refine (runnelref16_Same.calls k2 _ _ ((rd_T44 l0_0 x5_2).f1) _ _ ((rd_T44 l1_0 x5_2).f1) true _ ?side1 ?side2 ?side3 ?side4 A52.out).mono ?_); (case side1 => exact d1 HR277_1.out (by repeat (first | (with_reducible first | exact HB.out | apply c1 | apply c2 | apply c3 | refine c4 ?_ GE274.out | refine c4 ?_ GE275.out | refine c4 ?_ GE279.out | refine c4 ?_ GE280.out) | exact HB.out))); (case side2 => exact HC277_1.out); (case side3 => exact d1 HR278_1.out (by repeat (first | (with_reducible first | exact HB.out | apply c1 | apply c2 | apply c3 | refine c4 ?_ GE274.out | refine c4 ?_ GE275.out | refine c4 ?_ GE279.out | refine c4 ?_ GE280.out) | exact HB.out))); (case side4 => exact HC278_1.out); rintro e w' ⟨rfl, ⟨nd, rfl⟩⟩) | (go_at_call 24; (with_reducible refine (runnelref16_Same.calls k2 _ _ ((rd_T44 l0_0 x5_2).f2) _ _ ((rd_T44 l1_0 x5_2).f2) false _ ?side1 ?side2 ?side3 ?side4 A54.out).mono ?_); (case side1 => exact d1 HR277_2.out (by repeat (first | (with_reducible first | exact HB.out | apply c1 | apply c2 | apply c3 | refine c4 ?_ GE274.out | refine c4 ?_ GE275.out | refine c4 ?_ GE279.out | refine c4 ?_ GE280.out) | exact HB.out))); (case side2 => exact HC277_2.out); (case side3 => exact d1 HR278_2.out (by repeat (first | (with_reducible first | exact HB.out | apply c1 | apply c2 | apply c3 | refine c4 ?_ GE274.out | refine c4 ?_ GE275.out | refine c4 ?_ GE279.out | refine c4 ?_ GE280.out) | exact HB.out))); (case side4 => exact HC278_2.out); rintro e w' ⟨rfl, ⟨nd, rfl⟩⟩))
        go_meet
        case rel => exact ⟨_, (true), (by first | rfl | (simp; done) | (simp [*]; done)), H', ⟨by have := HJ2.out; have := HK2.out; first | omega | exact Nat.le_refl _⟩, ⟨by (with_reducible repeat (first | refine b1 ?_ _ | refine b2 ?_ | refine b3 ?_ _)); exact BK274.out⟩, ⟨by (with_reducible repeat (first | refine b1 ?_ _ | refine b2 ?_ | refine b3 ?_ _)); exact BK275.out⟩, ⟨by (with_reducible repeat (first | refine b1 ?_ _ | refine b2 ?_ | refine b3 ?_ _)); exact BK279.out⟩, ⟨by (with_reducible repeat (first | refine b1 ?_ _ | refine b2 ?_ | refine b3 ?_ _)); exact BK280.out⟩, ⟨by repeat (first | (with_reducible first | exact HB.out | apply c1 | apply c2 | apply c3 | refine c4 ?_ GE274.out | refine c4 ?_ GE275.out | refine c4 ?_ GE279.out | refine c4 ?_ GE280.out) | exact HB.out)⟩⟩
      ·
       replace c53 := Bool.eq_false_iff.mpr c53
       subst c53
       have H1 : (runnelref17_Same.j2 k2 x5_2 true l0_0 l0_1 a0_2 l1_0 l1_1 a1_2 ((rd_T44 l0_0 x5_2).f0) ((rd_T44 l0_0 x5_2).f1) ((rd_T44 l0_0 x5_2).f2) ((rd_T44 l0_0 x5_2).f3) ((rd_T44 l0_0 x5_2).f4) ((rd_T44 l0_0 x5_2).f5) ((rd_T44 l0_0 x5_2).f6) ((rd_T44 l0_0 x5_2).f7) ((rd_T44 l0_0 x5_2).f8) ((rd_T44 l1_0 x5_2).f0) ((rd_T44 l1_0 x5_2).f1) ((rd_T44 l1_0 x5_2).f2) ((rd_T44 l1_0 x5_2).f3) ((rd_T44 l1_0 x5_2).f4) ((rd_T44 l1_0 x5_2).f5) ((rd_T44 l1_0 x5_2).f6) ((rd_T44 l1_0 x5_2).f7) ((rd_T44 l1_0 x5_2).f8)) = some r := by rw [if_neg (show ¬ (false = true) by decide)] at H; exact H
       clear H
       have H := H1
       clear H1
       have H' := am H
       clear H
       have hnb79 := NB279_274.out
       have hnc79 := NB274_279.out
       have hnb80 := NB279_275.out
       have hnc80 := NB275_279.out
       have hnb81 := NB279_280.out
       have hnc81 := NB280_279.out
       have hcz82_0 : w30z.cell? ⟨gb279, 0, none⟩ = some (.int .i64 ((rd_T44 l0_0 x5_2).f0)) := (b4 BK279.out 0).trans rfl
       have hcz82_1 : w30z.cell? ⟨gb279, 1, none⟩ = some (.slice A277_1 ((rd_T44 l0_0 x5_2).f1).length c277_1) := (b4 BK279.out 1).trans rfl
       have hcz82_2 : w30z.cell? ⟨gb279, 2, none⟩ = some (.slice A277_2 ((rd_T44 l0_0 x5_2).f2).length c277_2) := (b4 BK279.out 2).trans rfl
       have hcz82_3 : w30z.cell? ⟨gb279, 3, none⟩ = some (.slice A277_3 ((rd_T44 l0_0 x5_2).f3).length c277_3) := (b4 BK279.out 3).trans rfl
       have hcz82_4 : w30z.cell? ⟨gb279, 4, none⟩ = some (.slice A277_4 ((rd_T44 l0_0 x5_2).f4).length c277_4) := (b4 BK279.out 4).trans rfl
       have hcz82_5 : w30z.cell? ⟨gb279, 5, none⟩ = some (.int .i64 ((rd_T44 l0_0 x5_2).f5)) := (b4 BK279.out 5).trans rfl
       have hcz82_6 : w30z.cell? ⟨gb279, 6, none⟩ = some (.int .i64 ((rd_T44 l0_0 x5_2).f6)) := (b4 BK279.out 6).trans rfl
       have hcz82_7 : w30z.cell? ⟨gb279, 7, none⟩ = some (.int .i64 ((rd_T44 l0_0 x5_2).f7)) := (b4 BK279.out 7).trans rfl
       have hcz82_8 : w30z.cell? ⟨gb279, 8, none⟩ = some (.int .i64 ((rd_T44 l0_0 x5_2).f8)) := (b4 BK279.out 8).trans rfl
       have hnb83 := NB280_274.out
       have hnc83 := NB274_280.out
       have hnb84 := NB280_275.out
       have hnc84 := NB275_280.out
       have hcz85_0 : w30z.cell? ⟨gb280, 0, none⟩ = some (.int .i64 ((rd_T44 l1_0 x5_2).f0)) := (b4 BK280.out 0).trans rfl
       have hcz85_1 : w30z.cell? ⟨gb280, 1, none⟩ = some (.slice A278_1 ((rd_T44 l1_0 x5_2).f1).length c278_1) := (b4 BK280.out 1).trans rfl
       have hcz85_2 : w30z.cell? ⟨gb280, 2, none⟩ = some (.slice A278_2 ((rd_T44 l1_0 x5_2).f2).length c278_2) := (b4 BK280.out 2).trans rfl
       have hcz85_3 : w30z.cell? ⟨gb280, 3, none⟩ = some (.slice A278_3 ((rd_T44 l1_0 x5_2).f3).length c278_3) := (b4 BK280.out 3).trans rfl
       have hcz85_4 : w30z.cell? ⟨gb280, 4, none⟩ = some (.slice A278_4 ((rd_T44 l1_0 x5_2).f4).length c278_4) := (b4 BK280.out 4).trans rfl
       have hcz85_5 : w30z.cell? ⟨gb280, 5, none⟩ = some (.int .i64 ((rd_T44 l1_0 x5_2).f5)) := (b4 BK280.out 5).trans rfl
       have hcz85_6 : w30z.cell? ⟨gb280, 6, none⟩ = some (.int .i64 ((rd_T44 l1_0 x5_2).f6)) := (b4 BK280.out 6).trans rfl
       have hcz85_7 : w30z.cell? ⟨gb280, 7, none⟩ = some (.int .i64 ((rd_T44 l1_0 x5_2).f7)) := (b4 BK280.out 7).trans rfl
       have hcz85_8 : w30z.cell? ⟨gb280, 8, none⟩ = some (.int .i64 ((rd_T44 l1_0 x5_2).f8)) := (b4 BK280.out 8).trans rfl
       go_wp2_with (first | (go_at_call 24; (with_reducible refine (runnelref16_Same.calls k2 _ _ ((rd_T44 l0_0 x5_2).f1) _ _ ((rd_T44 l1_0 x5_2).f1) false _ ?side1 ?side2 ?side3 ?side4 A52.out).mono ?_); (case side1 => exact d1 HR277_1.out (by repeat (first | (with_reducible first | exact HB.out | apply c1 | apply c2 | apply c3 | refine c4 ?_ GE274.out | refine c4 ?_ GE275.out | refine c4 ?_ GE279.out | refine c4 ?_ GE280.out) | exact HB.out))); (case side2 => exact HC277_1.out); (case side3 => exact d1 HR278_1.out (by repeat (first | (with_reducible first | exact HB.out | apply c1 | apply c2 | apply c3 | refine c4 ?_ GE274.out | refine c4 ?_ GE275.out | refine c4 ?_ GE279.out | refine c4 ?_ GE280.out) | exact HB.out))); (case side4 => exact HC278_1.out); rintro e w' ⟨rfl, ⟨nd, rfl⟩⟩))
       go_meet
       case rel => exact ⟨_, (true), (by first | rfl | (simp; done) | (simp [*]; done)), H', ⟨by have := HJ2.out; have := HK2.out; first | omega | exact Nat.le_refl _⟩, ⟨by (with_reducible repeat (first | refine b1 ?_ _ | refine b2 ?_ | refine b3 ?_ _)); exact BK274.out⟩, ⟨by (with_reducible repeat (first | refine b1 ?_ _ | refine b2 ?_ | refine b3 ?_ _)); exact BK275.out⟩, ⟨by (with_reducible repeat (first | refine b1 ?_ _ | refine b2 ?_ | refine b3 ?_ _)); exact BK279.out⟩, ⟨by (with_reducible repeat (first | refine b1 ?_ _ | refine b2 ?_ | refine b3 ?_ _)); exact BK280.out⟩, ⟨by repeat (first | (with_reducible first | exact HB.out | apply c1 | apply c2 | apply c3 | refine c4 ?_ GE274.out | refine c4 ?_ GE275.out | refine c4 ?_ GE279.out | refine c4 ?_ GE280.out) | exact HB.out)⟩⟩
     ·
      rw [if_neg c51] at H
      have c51b0 : (((rd_T44 l0_0 x5_2).f8) == ((rd_T44 l1_0 x5_2).f8)) = false := beq_eq_false_iff_ne.mpr c51
      have c51b1 : (((rd_T44 l0_0 x5_2).f8) != ((rd_T44 l1_0 x5_2).f8)) = true := bne_iff_ne.mpr c51
      have H' := am H
      clear H
      have hnb86 := NB279_274.out
      have hnc86 := NB274_279.out
      have hnb87 := NB279_275.out
      have hnc87 := NB275_279.out
      have hnb88 := NB279_280.out
      have hnc88 := NB280_279.out
      have hcz89_0 : w30z.cell? ⟨gb279, 0, none⟩ = some (.int .i64 ((rd_T44 l0_0 x5_2).f0)) := (b4 BK279.out 0).trans rfl
      have hcz89_1 : w30z.cell? ⟨gb279, 1, none⟩ = some (.slice A277_1 ((rd_T44 l0_0 x5_2).f1).length c277_1) := (b4 BK279.out 1).trans rfl
      have hcz89_2 : w30z.cell? ⟨gb279, 2, none⟩ = some (.slice A277_2 ((rd_T44 l0_0 x5_2).f2).length c277_2) := (b4 BK279.out 2).trans rfl
      have hcz89_3 : w30z.cell? ⟨gb279, 3, none⟩ = some (.slice A277_3 ((rd_T44 l0_0 x5_2).f3).length c277_3) := (b4 BK279.out 3).trans rfl
      have hcz89_4 : w30z.cell? ⟨gb279, 4, none⟩ = some (.slice A277_4 ((rd_T44 l0_0 x5_2).f4).length c277_4) := (b4 BK279.out 4).trans rfl
      have hcz89_5 : w30z.cell? ⟨gb279, 5, none⟩ = some (.int .i64 ((rd_T44 l0_0 x5_2).f5)) := (b4 BK279.out 5).trans rfl
      have hcz89_6 : w30z.cell? ⟨gb279, 6, none⟩ = some (.int .i64 ((rd_T44 l0_0 x5_2).f6)) := (b4 BK279.out 6).trans rfl
      have hcz89_7 : w30z.cell? ⟨gb279, 7, none⟩ = some (.int .i64 ((rd_T44 l0_0 x5_2).f7)) := (b4 BK279.out 7).trans rfl
      have hcz89_8 : w30z.cell? ⟨gb279, 8, none⟩ = some (.int .i64 ((rd_T44 l0_0 x5_2).f8)) := (b4 BK279.out 8).trans rfl
      have hnb90 := NB280_274.out
      have hnc90 := NB274_280.out
      have hnb91 := NB280_275.out
      have hnc91 := NB275_280.out
      have hcz92_0 : w30z.cell? ⟨gb280, 0, none⟩ = some (.int .i64 ((rd_T44 l1_0 x5_2).f0)) := (b4 BK280.out 0).trans rfl
      have hcz92_1 : w30z.cell? ⟨gb280, 1, none⟩ = some (.slice A278_1 ((rd_T44 l1_0 x5_2).f1).length c278_1) := (b4 BK280.out 1).trans rfl
      have hcz92_2 : w30z.cell? ⟨gb280, 2, none⟩ = some (.slice A278_2 ((rd_T44 l1_0 x5_2).f2).length c278_2) := (b4 BK280.out 2).trans rfl
      have hcz92_3 : w30z.cell? ⟨gb280, 3, none⟩ = some (.slice A278_3 ((rd_T44 l1_0 x5_2).f3).length c278_3) := (b4 BK280.out 3).trans rfl
      have hcz92_4 : w30z.cell? ⟨gb280, 4, none⟩ = some (.slice A278_4 ((rd_T44 l1_0 x5_2).f4).length c278_4) := (b4 BK280.out 4).trans rfl
      have hcz92_5 : w30z.cell? ⟨gb280, 5, none⟩ = some (.int .i64 ((rd_T44 l1_0 x5_2).f5)) := (b4 BK280.out 5).trans rfl
      have hcz92_6 : w30z.cell? ⟨gb280, 6, none⟩ = some (.int .i64 ((rd_T44 l1_0 x5_2).f6)) := (b4 BK280.out 6).trans rfl
      have hcz92_7 : w30z.cell? ⟨gb280, 7, none⟩ = some (.int .i64 ((rd_T44 l1_0 x5_2).f7)) := (b4 BK280.out 7).trans rfl
      have hcz92_8 : w30z.cell? ⟨gb280, 8, none⟩ = some (.int .i64 ((rd_T44 l1_0 x5_2).f8)) := (b4 BK280.out 8).trans rfl
      go_wp2
      go_meet
      case rel => exact ⟨_, (true), (by first | rfl | (simp; done) | (simp [*]; done)), H', ⟨by have := HJ2.out; have := HK2.out; first | omega | exact Nat.le_refl _⟩, ⟨by (with_reducible repeat (first | refine b1 ?_ _ | refine b2 ?_ | refine b3 ?_ _)); exact BK274.out⟩, ⟨by (with_reducible repeat (first | refine b1 ?_ _ | refine b2 ?_ | refine b3 ?_ _)); exact BK275.out⟩, ⟨by (with_reducible repeat (first | refine b1 ?_ _ | refine b2 ?_ | refine b3 ?_ _)); exact BK279.out⟩, ⟨by (with_reducible repeat (first | refine b1 ?_ _ | refine b2 ?_ | refine b3 ?_ _)); exact BK280.out⟩, ⟨by repeat (first | (with_reducible first | exact HB.out | apply c1 | apply c2 | apply c3 | refine c4 ?_ GE274.out | refine c4 ?_ GE275.out | refine c4 ?_ GE279.out | refine c4 ?_ GE280.out) | exact HB.out)⟩⟩
    ·
     rw [if_neg c50] at H
     have c50b0 : (((rd_T44 l0_0 x5_2).f7) == ((rd_T44 l1_0 x5_2).f7)) = false := beq_eq_false_iff_ne.mpr c50
     have c50b1 : (((rd_T44 l0_0 x5_2).f7) != ((rd_T44 l1_0 x5_2).f7)) = true := bne_iff_ne.mpr c50
     have H' := am H
     clear H
     have hnb93 := NB279_274.out
     have hnc93 := NB274_279.out
     have hnb94 := NB279_275.out
     have hnc94 := NB275_279.out
     have hnb95 := NB279_280.out
     have hnc95 := NB280_279.out
     have hcz96_0 : w30z.cell? ⟨gb279, 0, none⟩ = some (.int .i64 ((rd_T44 l0_0 x5_2).f0)) := (b4 BK279.out 0).trans rfl
     have hcz96_1 : w30z.cell? ⟨gb279, 1, none⟩ = some (.slice A277_1 ((rd_T44 l0_0 x5_2).f1).length c277_1) := (b4 BK279.out 1).trans rfl
     have hcz96_2 : w30z.cell? ⟨gb279, 2, none⟩ = some (.slice A277_2 ((rd_T44 l0_0 x5_2).f2).length c277_2) := (b4 BK279.out 2).trans rfl
     have hcz96_3 : w30z.cell? ⟨gb279, 3, none⟩ = some (.slice A277_3 ((rd_T44 l0_0 x5_2).f3).length c277_3) := (b4 BK279.out 3).trans rfl
     have hcz96_4 : w30z.cell? ⟨gb279, 4, none⟩ = some (.slice A277_4 ((rd_T44 l0_0 x5_2).f4).length c277_4) := (b4 BK279.out 4).trans rfl
     have hcz96_5 : w30z.cell? ⟨gb279, 5, none⟩ = some (.int .i64 ((rd_T44 l0_0 x5_2).f5)) := (b4 BK279.out 5).trans rfl
     have hcz96_6 : w30z.cell? ⟨gb279, 6, none⟩ = some (.int .i64 ((rd_T44 l0_0 x5_2).f6)) := (b4 BK279.out 6).trans rfl
     have hcz96_7 : w30z.cell? ⟨gb279, 7, none⟩ = some (.int .i64 ((rd_T44 l0_0 x5_2).f7)) := (b4 BK279.out 7).trans rfl
     have hcz96_8 : w30z.cell? ⟨gb279, 8, none⟩ = some (.int .i64 ((rd_T44 l0_0 x5_2).f8)) := (b4 BK279.out 8).trans rfl
     have hnb97 := NB280_274.out
     have hnc97 := NB274_280.out
     have hnb98 := NB280_275.out
     have hnc98 := NB275_280.out
     have hcz99_0 : w30z.cell? ⟨gb280, 0, none⟩ = some (.int .i64 ((rd_T44 l1_0 x5_2).f0)) := (b4 BK280.out 0).trans rfl
     have hcz99_1 : w30z.cell? ⟨gb280, 1, none⟩ = some (.slice A278_1 ((rd_T44 l1_0 x5_2).f1).length c278_1) := (b4 BK280.out 1).trans rfl
     have hcz99_2 : w30z.cell? ⟨gb280, 2, none⟩ = some (.slice A278_2 ((rd_T44 l1_0 x5_2).f2).length c278_2) := (b4 BK280.out 2).trans rfl
     have hcz99_3 : w30z.cell? ⟨gb280, 3, none⟩ = some (.slice A278_3 ((rd_T44 l1_0 x5_2).f3).length c278_3) := (b4 BK280.out 3).trans rfl
     have hcz99_4 : w30z.cell? ⟨gb280, 4, none⟩ = some (.slice A278_4 ((rd_T44 l1_0 x5_2).f4).length c278_4) := (b4 BK280.out 4).trans rfl
     have hcz99_5 : w30z.cell? ⟨gb280, 5, none⟩ = some (.int .i64 ((rd_T44 l1_0 x5_2).f5)) := (b4 BK280.out 5).trans rfl
     have hcz99_6 : w30z.cell? ⟨gb280, 6, none⟩ = some (.int .i64 ((rd_T44 l1_0 x5_2).f6)) := (b4 BK280.out 6).trans rfl
     have hcz99_7 : w30z.cell? ⟨gb280, 7, none⟩ = some (.int .i64 ((rd_T44 l1_0 x5_2).f7)) := (b4 BK280.out 7).trans rfl
     have hcz99_8 : w30z.cell? ⟨gb280, 8, none⟩ = some (.int .i64 ((rd_T44 l1_0 x5_2).f8)) := (b4 BK280.out 8).trans rfl
     go_wp2
     go_meet
     case rel => exact ⟨_, (true), (by first | rfl | (simp; done) | (simp [*]; done)), H', ⟨by have := HJ2.out; have := HK2.out; first | omega | exact Nat.le_refl _⟩, ⟨by (with_reducible repeat (first | refine b1 ?_ _ | refine b2 ?_ | refine b3 ?_ _)); exact BK274.out⟩, ⟨by (with_reducible repeat (first | refine b1 ?_ _ | refine b2 ?_ | refine b3 ?_ _)); exact BK275.out⟩, ⟨by (with_reducible repeat (first | refine b1 ?_ _ | refine b2 ?_ | refine b3 ?_ _)); exact BK279.out⟩, ⟨by (with_reducible repeat (first | refine b1 ?_ _ | refine b2 ?_ | refine b3 ?_ _)); exact BK280.out⟩, ⟨by repeat (first | (with_reducible first | exact HB.out | apply c1 | apply c2 | apply c3 | refine c4 ?_ GE274.out | refine c4 ?_ GE275.out | refine c4 ?_ GE279.out | refine c4 ?_ GE280.out) | exact HB.out)⟩⟩
   ·
    rw [if_neg c49] at H
    have c49b0 : (((rd_T44 l0_0 x5_2).f6) == ((rd_T44 l1_0 x5_2).f6)) = false := beq_eq_false_iff_ne.mpr c49
    have c49b1 : (((rd_T44 l0_0 x5_2).f6) != ((rd_T44 l1_0 x5_2).f6)) = true := bne_iff_ne.mpr c49
    have H' := am H
    clear H
    have hnb100 := NB279_274.out
    have hnc100 := NB274_279.out
    have hnb101 := NB279_275.out
    have hnc101 := NB275_279.out
    have hnb102 := NB279_280.out
    have hnc102 := NB280_279.out
    have hcz103_0 : w30z.cell? ⟨gb279, 0, none⟩ = some (.int .i64 ((rd_T44 l0_0 x5_2).f0)) := (b4 BK279.out 0).trans rfl
    have hcz103_1 : w30z.cell? ⟨gb279, 1, none⟩ = some (.slice A277_1 ((rd_T44 l0_0 x5_2).f1).length c277_1) := (b4 BK279.out 1).trans rfl
    have hcz103_2 : w30z.cell? ⟨gb279, 2, none⟩ = some (.slice A277_2 ((rd_T44 l0_0 x5_2).f2).length c277_2) := (b4 BK279.out 2).trans rfl
    have hcz103_3 : w30z.cell? ⟨gb279, 3, none⟩ = some (.slice A277_3 ((rd_T44 l0_0 x5_2).f3).length c277_3) := (b4 BK279.out 3).trans rfl
    have hcz103_4 : w30z.cell? ⟨gb279, 4, none⟩ = some (.slice A277_4 ((rd_T44 l0_0 x5_2).f4).length c277_4) := (b4 BK279.out 4).trans rfl
    have hcz103_5 : w30z.cell? ⟨gb279, 5, none⟩ = some (.int .i64 ((rd_T44 l0_0 x5_2).f5)) := (b4 BK279.out 5).trans rfl
    have hcz103_6 : w30z.cell? ⟨gb279, 6, none⟩ = some (.int .i64 ((rd_T44 l0_0 x5_2).f6)) := (b4 BK279.out 6).trans rfl
    have hcz103_7 : w30z.cell? ⟨gb279, 7, none⟩ = some (.int .i64 ((rd_T44 l0_0 x5_2).f7)) := (b4 BK279.out 7).trans rfl
    have hcz103_8 : w30z.cell? ⟨gb279, 8, none⟩ = some (.int .i64 ((rd_T44 l0_0 x5_2).f8)) := (b4 BK279.out 8).trans rfl
    have hnb104 := NB280_274.out
    have hnc104 := NB274_280.out
    have hnb105 := NB280_275.out
    have hnc105 := NB275_280.out
    have hcz106_0 : w30z.cell? ⟨gb280, 0, none⟩ = some (.int .i64 ((rd_T44 l1_0 x5_2).f0)) := (b4 BK280.out 0).trans rfl
    have hcz106_1 : w30z.cell? ⟨gb280, 1, none⟩ = some (.slice A278_1 ((rd_T44 l1_0 x5_2).f1).length c278_1) := (b4 BK280.out 1).trans rfl
    have hcz106_2 : w30z.cell? ⟨gb280, 2, none⟩ = some (.slice A278_2 ((rd_T44 l1_0 x5_2).f2).length c278_2) := (b4 BK280.out 2).trans rfl
    have hcz106_3 : w30z.cell? ⟨gb280, 3, none⟩ = some (.slice A278_3 ((rd_T44 l1_0 x5_2).f3).length c278_3) := (b4 BK280.out 3).trans rfl
    have hcz106_4 : w30z.cell? ⟨gb280, 4, none⟩ = some (.slice A278_4 ((rd_T44 l1_0 x5_2).f4).length c278_4) := (b4 BK280.out 4).trans rfl
    have hcz106_5 : w30z.cell? ⟨gb280, 5, none⟩ = some (.int .i64 ((rd_T44 l1_0 x5_2).f5)) := (b4 BK280.out 5).trans rfl
    have hcz106_6 : w30z.cell? ⟨gb280, 6, none⟩ = some (.int .i64 ((rd_T44 l1_0 x5_2).f6)) := (b4 BK280.out 6).trans rfl
    have hcz106_7 : w30z.cell? ⟨gb280, 7, none⟩ = some (.int .i64 ((rd_T44 l1_0 x5_2).f7)) := (b4 BK280.out 7).trans rfl
    have hcz106_8 : w30z.cell? ⟨gb280, 8, none⟩ = some (.int .i64 ((rd_T44 l1_0 x5_2).f8)) := (b4 BK280.out 8).trans rfl
    go_wp2
    go_meet
    case rel => exact ⟨_, (true), (by first | rfl | (simp; done) | (simp [*]; done)), H', ⟨by have := HJ2.out; have := HK2.out; first | omega | exact Nat.le_refl _⟩, ⟨by (with_reducible repeat (first | refine b1 ?_ _ | refine b2 ?_ | refine b3 ?_ _)); exact BK274.out⟩, ⟨by (with_reducible repeat (first | refine b1 ?_ _ | refine b2 ?_ | refine b3 ?_ _)); exact BK275.out⟩, ⟨by (with_reducible repeat (first | refine b1 ?_ _ | refine b2 ?_ | refine b3 ?_ _)); exact BK279.out⟩, ⟨by (with_reducible repeat (first | refine b1 ?_ _ | refine b2 ?_ | refine b3 ?_ _)); exact BK280.out⟩, ⟨by repeat (first | (with_reducible first | exact HB.out | apply c1 | apply c2 | apply c3 | refine c4 ?_ GE274.out | refine c4 ?_ GE275.out | refine c4 ?_ GE279.out | refine c4 ?_ GE280.out) | exact HB.out)⟩⟩
  ·
   rw [if_neg c48] at H
   have c48b0 : (((rd_T44 l0_0 x5_2).f5) == ((rd_T44 l1_0 x5_2).f5)) = false := beq_eq_false_iff_ne.mpr c48
   have c48b1 : (((rd_T44 l0_0 x5_2).f5) != ((rd_T44 l1_0 x5_2).f5)) = true := bne_iff_ne.mpr c48
   have H' := am H
   clear H
   have hnb107 := NB279_274.out
   have hnc107 := NB274_279.out
   have hnb108 := NB279_275.out
   have hnc108 := NB275_279.out
   have hnb109 := NB279_280.out
   have hnc109 := NB280_279.out
   have hcz110_0 : w30z.cell? ⟨gb279, 0, none⟩ = some (.int .i64 ((rd_T44 l0_0 x5_2).f0)) := (b4 BK279.out 0).trans rfl
   have hcz110_1 : w30z.cell? ⟨gb279, 1, none⟩ = some (.slice A277_1 ((rd_T44 l0_0 x5_2).f1).length c277_1) := (b4 BK279.out 1).trans rfl
   have hcz110_2 : w30z.cell? ⟨gb279, 2, none⟩ = some (.slice A277_2 ((rd_T44 l0_0 x5_2).f2).length c277_2) := (b4 BK279.out 2).trans rfl
   have hcz110_3 : w30z.cell? ⟨gb279, 3, none⟩ = some (.slice A277_3 ((rd_T44 l0_0 x5_2).f3).length c277_3) := (b4 BK279.out 3).trans rfl
   have hcz110_4 : w30z.cell? ⟨gb279, 4, none⟩ = some (.slice A277_4 ((rd_T44 l0_0 x5_2).f4).length c277_4) := (b4 BK279.out 4).trans rfl
   have hcz110_5 : w30z.cell? ⟨gb279, 5, none⟩ = some (.int .i64 ((rd_T44 l0_0 x5_2).f5)) := (b4 BK279.out 5).trans rfl
   have hcz110_6 : w30z.cell? ⟨gb279, 6, none⟩ = some (.int .i64 ((rd_T44 l0_0 x5_2).f6)) := (b4 BK279.out 6).trans rfl
   have hcz110_7 : w30z.cell? ⟨gb279, 7, none⟩ = some (.int .i64 ((rd_T44 l0_0 x5_2).f7)) := (b4 BK279.out 7).trans rfl
   have hcz110_8 : w30z.cell? ⟨gb279, 8, none⟩ = some (.int .i64 ((rd_T44 l0_0 x5_2).f8)) := (b4 BK279.out 8).trans rfl
   have hnb111 := NB280_274.out
   have hnc111 := NB274_280.out
   have hnb112 := NB280_275.out
   have hnc112 := NB275_280.out
   have hcz113_0 : w30z.cell? ⟨gb280, 0, none⟩ = some (.int .i64 ((rd_T44 l1_0 x5_2).f0)) := (b4 BK280.out 0).trans rfl
   have hcz113_1 : w30z.cell? ⟨gb280, 1, none⟩ = some (.slice A278_1 ((rd_T44 l1_0 x5_2).f1).length c278_1) := (b4 BK280.out 1).trans rfl
   have hcz113_2 : w30z.cell? ⟨gb280, 2, none⟩ = some (.slice A278_2 ((rd_T44 l1_0 x5_2).f2).length c278_2) := (b4 BK280.out 2).trans rfl
   have hcz113_3 : w30z.cell? ⟨gb280, 3, none⟩ = some (.slice A278_3 ((rd_T44 l1_0 x5_2).f3).length c278_3) := (b4 BK280.out 3).trans rfl
   have hcz113_4 : w30z.cell? ⟨gb280, 4, none⟩ = some (.slice A278_4 ((rd_T44 l1_0 x5_2).f4).length c278_4) := (b4 BK280.out 4).trans rfl
   have hcz113_5 : w30z.cell? ⟨gb280, 5, none⟩ = some (.int .i64 ((rd_T44 l1_0 x5_2).f5)) := (b4 BK280.out 5).trans rfl
   have hcz113_6 : w30z.cell? ⟨gb280, 6, none⟩ = some (.int .i64 ((rd_T44 l1_0 x5_2).f6)) := (b4 BK280.out 6).trans rfl
   have hcz113_7 : w30z.cell? ⟨gb280, 7, none⟩ = some (.int .i64 ((rd_T44 l1_0 x5_2).f7)) := (b4 BK280.out 7).trans rfl
   have hcz113_8 : w30z.cell? ⟨gb280, 8, none⟩ = some (.int .i64 ((rd_T44 l1_0 x5_2).f8)) := (b4 BK280.out 8).trans rfl
   go_wp2
   go_meet
   case rel => exact ⟨_, (true), (by first | rfl | (simp; done) | (simp [*]; done)), H', ⟨by have := HJ2.out; have := HK2.out; first | omega | exact Nat.le_refl _⟩, ⟨by (with_reducible repeat (first | refine b1 ?_ _ | refine b2 ?_ | refine b3 ?_ _)); exact BK274.out⟩, ⟨by (with_reducible repeat (first | refine b1 ?_ _ | refine b2 ?_ | refine b3 ?_ _)); exact BK275.out⟩, ⟨by (with_reducible repeat (first | refine b1 ?_ _ | refine b2 ?_ | refine b3 ?_ _)); exact BK279.out⟩, ⟨by (with_reducible repeat (first | refine b1 ?_ _ | refine b2 ?_ | refine b3 ?_ _)); exact BK280.out⟩, ⟨by repeat (first | (with_reducible first | exact HB.out | apply c1 | apply c2 | apply c3 | refine c4 ?_ GE274.out | refine c4 ?_ GE275.out | refine c4 ?_ GE279.out | refine c4 ?_ GE280.out) | exact HB.out)⟩⟩
 ·
  rw [if_neg c47] at H
  have c47b0 : (((rd_T44 l0_0 x5_2).f0) == ((rd_T44 l1_0 x5_2).f0)) = false := beq_eq_false_iff_ne.mpr c47
  have c47b1 : (((rd_T44 l0_0 x5_2).f0) != ((rd_T44 l1_0 x5_2).f0)) = true := bne_iff_ne.mpr c47
  (first | rw [c47b0] | (simp only [i64_w, i32_w]; rw [c47b0]) | skip)
  have H' := am H
  clear H
  have hnb114 := NB279_274.out
  have hnc114 := NB274_279.out
  have hnb115 := NB279_275.out
  have hnc115 := NB275_279.out
  have hnb116 := NB279_280.out
  have hnc116 := NB280_279.out
  have hcz117_0 : w30z.cell? ⟨gb279, 0, none⟩ = some (.int .i64 ((rd_T44 l0_0 x5_2).f0)) := (b4 BK279.out 0).trans rfl
  have hcz117_1 : w30z.cell? ⟨gb279, 1, none⟩ = some (.slice A277_1 ((rd_T44 l0_0 x5_2).f1).length c277_1) := (b4 BK279.out 1).trans rfl
  have hcz117_2 : w30z.cell? ⟨gb279, 2, none⟩ = some (.slice A277_2 ((rd_T44 l0_0 x5_2).f2).length c277_2) := (b4 BK279.out 2).trans rfl
  have hcz117_3 : w30z.cell? ⟨gb279, 3, none⟩ = some (.slice A277_3 ((rd_T44 l0_0 x5_2).f3).length c277_3) := (b4 BK279.out 3).trans rfl
  have hcz117_4 : w30z.cell? ⟨gb279, 4, none⟩ = some (.slice A277_4 ((rd_T44 l0_0 x5_2).f4).length c277_4) := (b4 BK279.out 4).trans rfl
  have hcz117_5 : w30z.cell? ⟨gb279, 5, none⟩ = some (.int .i64 ((rd_T44 l0_0 x5_2).f5)) := (b4 BK279.out 5).trans rfl
  have hcz117_6 : w30z.cell? ⟨gb279, 6, none⟩ = some (.int .i64 ((rd_T44 l0_0 x5_2).f6)) := (b4 BK279.out 6).trans rfl
  have hcz117_7 : w30z.cell? ⟨gb279, 7, none⟩ = some (.int .i64 ((rd_T44 l0_0 x5_2).f7)) := (b4 BK279.out 7).trans rfl
  have hcz117_8 : w30z.cell? ⟨gb279, 8, none⟩ = some (.int .i64 ((rd_T44 l0_0 x5_2).f8)) := (b4 BK279.out 8).trans rfl
  have hnb118 := NB280_274.out
  have hnc118 := NB274_280.out
  have hnb119 := NB280_275.out
  have hnc119 := NB275_280.out
  have hcz120_0 : w30z.cell? ⟨gb280, 0, none⟩ = some (.int .i64 ((rd_T44 l1_0 x5_2).f0)) := (b4 BK280.out 0).trans rfl
  have hcz120_1 : w30z.cell? ⟨gb280, 1, none⟩ = some (.slice A278_1 ((rd_T44 l1_0 x5_2).f1).length c278_1) := (b4 BK280.out 1).trans rfl
  have hcz120_2 : w30z.cell? ⟨gb280, 2, none⟩ = some (.slice A278_2 ((rd_T44 l1_0 x5_2).f2).length c278_2) := (b4 BK280.out 2).trans rfl
  have hcz120_3 : w30z.cell? ⟨gb280, 3, none⟩ = some (.slice A278_3 ((rd_T44 l1_0 x5_2).f3).length c278_3) := (b4 BK280.out 3).trans rfl
  have hcz120_4 : w30z.cell? ⟨gb280, 4, none⟩ = some (.slice A278_4 ((rd_T44 l1_0 x5_2).f4).length c278_4) := (b4 BK280.out 4).trans rfl
  have hcz120_5 : w30z.cell? ⟨gb280, 5, none⟩ = some (.int .i64 ((rd_T44 l1_0 x5_2).f5)) := (b4 BK280.out 5).trans rfl
  have hcz120_6 : w30z.cell? ⟨gb280, 6, none⟩ = some (.int .i64 ((rd_T44 l1_0 x5_2).f6)) := (b4 BK280.out 6).trans rfl
  have hcz120_7 : w30z.cell? ⟨gb280, 7, none⟩ = some (.int .i64 ((rd_T44 l1_0 x5_2).f7)) := (b4 BK280.out 7).trans rfl
  have hcz120_8 : w30z.cell? ⟨gb280, 8, none⟩ = some (.int .i64 ((rd_T44 l1_0 x5_2).f8)) := (b4 BK280.out 8).trans rfl
  go_wp2
  go_meet
  case rel => exact ⟨_, (true), (by first | rfl | (simp; done) | (simp [*]; done)), H', ⟨by have := HJ2.out; have := HK2.out; first | omega | exact Nat.le_refl _⟩, ⟨by (with_reducible repeat (first | refine b1 ?_ _ | refine b2 ?_ | refine b3 ?_ _)); exact BK274.out⟩, ⟨by (with_reducible repeat (first | refine b1 ?_ _ | refine b2 ?_ | refine b3 ?_ _)); exact BK275.out⟩, ⟨by (with_reducible repeat (first | refine b1 ?_ _ | refine b2 ?_ | refine b3 ?_ _)); exact BK279.out⟩, ⟨by (with_reducible repeat (first | refine b1 ?_ _ | refine b2 ?_ | refine b3 ?_ _)); exact BK280.out⟩, ⟨by repeat (first | (with_reducible first | exact HB.out | apply c1 | apply c2 | apply c3 | refine c4 ?_ GE274.out | refine c4 ?_ GE275.out | refine c4 ?_ GE279.out | refine c4 ?_ GE280.out) | exact HB.out)⟩⟩
end Go.Proofs.Ytbdpnecnnokkkaa.PSheetSame
