import Derived.Test.YtbdpnecnnokkkaaOSheetDecodesx0
import Derived.Test.YtbdpnecnnokkkaaOSheetDecodesx1
import Derived.Test.YtbdpnecnnokkkaaOSheetDecodesx5
import Derived.Test.YtbdpnecnnokkkaaShort
import Derived.Test.YtbdpnecnnokkkaaOSheetDecodesx6p
namespace Go.Proofs.Ytbdpnecnnokkkaa.PSheetDecodes
open Go.RowKit Go.Proofs.YtbdpnecnnokkkaaW.PrintWords Go.Proofs.YtbdpnecnnokkkaaW.PrintLast Go.Proofs.YtbdpnecnnokkkaaW.PrintMore
attribute [local go_sem] max2_int min2_int max_two min_two max_three min_three max_four min_four   -- for this text's walks alone
set_option linter.unusedVariables false
set_option linter.unusedSimpArgs false
attribute [local go_sem high] eqA52
set_option maxHeartbeats 8000000 in
set_option maxRecDepth 100000 in
theorem runnelref17_Same.calls.leaf0 : runnelref17_Same.calls.pre.1 := by
 intro l0_0 l1_0 l0_1 l1_1 _ _ _ _ _ _ _ _ _ _ _ _ r a0_2 a1_2 x5_2 _ _ _ _ _ _ _ _ _ HC0_0 _ HC0_1 _ HC1_0 _ HC1_1 _ _ NB245_246 NB246_245 _ _ _ HJ2 k2 HK2 HC22 _ HC248_1 _ HC248_2 _ HC248_3 _ HC248_4 _ HC249_1 _ HC249_2 _ HC249_3 _ HC249_4 _ NB245_250 NB250_245 NB246_250 NB250_246 _ _ _ _ _ _ _ _ _ _ _ _ _ _ _ _ _ _ _ _ _ _ _ _ _ _ _ _ _ _ _ _ _ _ _ _ _ NB251_250 NB250_251 NB245_251 NB251_245 NB246_251 NB251_246 _ _ _ _ _ _ _ _ _ _ _ _ _ _ _ _ _ _ _ _ _ _ _ _ _ _ _ _ _ _ _ _ _ _ _ _ _ _ _ _ _ _ _ _ _ _ _ _ _ _ _ _ _ _ _ _ _ _ _ _ _ _ _ _ _ _ _ _ _ _ _ _ _ HR0_1 HR1_1 GW245 GE245 GW246 GE246 _ _ _ _ _ _ _ _ _ HR0_0 HR248_1 HR248_2 HR248_3 HR248_4 _ _ _ _ _ _ _ _ _ HR1_0 HR249_1 HR249_2 HR249_3 HR249_4 GW250 GE250 GW251 GE251 _ _ _ _ _ _ _ _ _ _ _ _ _ _ _ _ _ _ _ _ _ _ _ _ _ _ _ _ _ _ _ _ _ _ _ _ _ _ _ _ _ _ _ _ _ _ _ _ _ _ _ _ _ _ _ _ _ _ _ _ _ _ _ _ _ _ _ _ _ _ _ _ _ _ _ _ _ _ _ BK250 BK245 BK246 BK251 HB _ _ _ _ _ _ _ _ _ _ _ _ _ _ _ _ _ _ _ _ _ _ _ _ _ _ _ _ _ _ _ _ _ _ _ _ _ _ _ _ _ _ _ _ _ _ _ _ _ _ _ _ _ _ _ _ _ _ _ _ _ _ _ _ _ _ _ _ _ _ _ _ _ _ _ _ _ _ _ _ _ _ _ _ _ _ _ _ _ _ _ _ _ _ _ _ _ _ _ _ _ _ _ _ _ _ _ _ _ _ _ _ _ _ _ _ _ _ _ _ _ _ _ _ _ _ _ _ _ _ _ _ _ _ _ _ _ _ _ _ _ _ _ _ _ _ _ _ _ _ _ _ _ _ _ _ _ _ _ _ _ _ _ _ _ _ _ _ _ _ _ _ _ _ _ _ _ _ _ _ _ _ _ _ _ _ _ _ _ _ _ _ _ _ _ _ _ _ _ _ _ _ _ _ _ _ _ _ _ _ _ _ _ _ _ _ _ _ _ _ _ _ _ _ _ _ _ _ _ _ _ _ _ _ _ _ _ _ _ _ _ _ _ _ _ _ _ _ _ _ _ _ _ _ _ _ _ _ _ _ _ _ _ _ _ _ _ _ _ _ _ _ _ _ _ _ _ _ _ _ _ _ _ _ _ _ _ _ _ _ _ _ _ _ _ _ _ _ _ _ _ _ _ _ _ _
 have H := HC22.out
 clear HC22
 by_cases c47 : ((rd_T44 l0_0 x5_2).f0) = ((rd_T44 l1_0 x5_2).f0)
 ·
  rw [if_pos c47] at H
  have c47b0 : (((rd_T44 l0_0 x5_2).f0) == ((rd_T44 l1_0 x5_2).f0)) = true := beq_iff_eq.mpr c47
  have c47b1 : (((rd_T44 l0_0 x5_2).f0) != ((rd_T44 l1_0 x5_2).f0)) = false := bne_eq_false_iff_eq.mpr c47
  clear c47
  (first | rw [c47b0] | (simp only [i64_w, i32_w]; rw [c47b0]) | skip)
  by_cases c48 : ((rd_T44 l0_0 x5_2).f5) = ((rd_T44 l1_0 x5_2).f5)
  ·
   rw [if_pos c48] at H
   have c48b0 : (((rd_T44 l0_0 x5_2).f5) == ((rd_T44 l1_0 x5_2).f5)) = true := beq_iff_eq.mpr c48
   have c48b1 : (((rd_T44 l0_0 x5_2).f5) != ((rd_T44 l1_0 x5_2).f5)) = false := bne_eq_false_iff_eq.mpr c48
   clear c48
   by_cases c49 : ((rd_T44 l0_0 x5_2).f6) = ((rd_T44 l1_0 x5_2).f6)
   ·
    rw [if_pos c49] at H
    have c49b0 : (((rd_T44 l0_0 x5_2).f6) == ((rd_T44 l1_0 x5_2).f6)) = true := beq_iff_eq.mpr c49
    have c49b1 : (((rd_T44 l0_0 x5_2).f6) != ((rd_T44 l1_0 x5_2).f6)) = false := bne_eq_false_iff_eq.mpr c49
    clear c49
    by_cases c50 : ((rd_T44 l0_0 x5_2).f7) = ((rd_T44 l1_0 x5_2).f7)
    ·
     rw [if_pos c50] at H
     have c50b0 : (((rd_T44 l0_0 x5_2).f7) == ((rd_T44 l1_0 x5_2).f7)) = true := beq_iff_eq.mpr c50
     have c50b1 : (((rd_T44 l0_0 x5_2).f7) != ((rd_T44 l1_0 x5_2).f7)) = false := bne_eq_false_iff_eq.mpr c50
     clear c50
     by_cases c51 : ((rd_T44 l0_0 x5_2).f8) = ((rd_T44 l1_0 x5_2).f8)
     ·
      rw [if_pos c51] at H
      have c51b0 : (((rd_T44 l0_0 x5_2).f8) == ((rd_T44 l1_0 x5_2).f8)) = true := beq_iff_eq.mpr c51
      have c51b1 : (((rd_T44 l0_0 x5_2).f8) != ((rd_T44 l1_0 x5_2).f8)) = false := bne_eq_false_iff_eq.mpr c51
      clear c51
      replace H := Option.bind_eq_some_iff.mp H
      obtain ⟨t252, A520, H⟩ := H
      replace H : (if t252 = true then ((runnelref16_Same.f k2 ((rd_T44 l0_0 x5_2).f2) ((rd_T44 l1_0 x5_2).f2)).bind fun t253 => (if t253 = true then ((runnelref16_Same.f k2 ((rd_T44 l0_0 x5_2).f4) ((rd_T44 l1_0 x5_2).f4)).bind fun t254 => (if t254 = true then (runnelref17_Same.j2 k2 x5_2 ((((rd_T44 l0_0 x5_2).f3).length : Int) != (((rd_T44 l1_0 x5_2).f3).length : Int)) l0_0 l0_1 a0_2 l1_0 l1_1 a1_2 ((rd_T44 l0_0 x5_2).f0) ((rd_T44 l0_0 x5_2).f1) ((rd_T44 l0_0 x5_2).f2) ((rd_T44 l0_0 x5_2).f3) ((rd_T44 l0_0 x5_2).f4) ((rd_T44 l0_0 x5_2).f5) ((rd_T44 l0_0 x5_2).f6) ((rd_T44 l0_0 x5_2).f7) ((rd_T44 l0_0 x5_2).f8) ((rd_T44 l1_0 x5_2).f0) ((rd_T44 l1_0 x5_2).f1) ((rd_T44 l1_0 x5_2).f2) ((rd_T44 l1_0 x5_2).f3) ((rd_T44 l1_0 x5_2).f4) ((rd_T44 l1_0 x5_2).f5) ((rd_T44 l1_0 x5_2).f6) ((rd_T44 l1_0 x5_2).f7) ((rd_T44 l1_0 x5_2).f8)) else (runnelref17_Same.j2 k2 x5_2 true l0_0 l0_1 a0_2 l1_0 l1_1 a1_2 ((rd_T44 l0_0 x5_2).f0) ((rd_T44 l0_0 x5_2).f1) ((rd_T44 l0_0 x5_2).f2) ((rd_T44 l0_0 x5_2).f3) ((rd_T44 l0_0 x5_2).f4) ((rd_T44 l0_0 x5_2).f5) ((rd_T44 l0_0 x5_2).f6) ((rd_T44 l0_0 x5_2).f7) ((rd_T44 l0_0 x5_2).f8) ((rd_T44 l1_0 x5_2).f0) ((rd_T44 l1_0 x5_2).f1) ((rd_T44 l1_0 x5_2).f2) ((rd_T44 l1_0 x5_2).f3) ((rd_T44 l1_0 x5_2).f4) ((rd_T44 l1_0 x5_2).f5) ((rd_T44 l1_0 x5_2).f6) ((rd_T44 l1_0 x5_2).f7) ((rd_T44 l1_0 x5_2).f8)))) else (runnelref17_Same.j2 k2 x5_2 true l0_0 l0_1 a0_2 l1_0 l1_1 a1_2 ((rd_T44 l0_0 x5_2).f0) ((rd_T44 l0_0 x5_2).f1) ((rd_T44 l0_0 x5_2).f2) ((rd_T44 l0_0 x5_2).f3) ((rd_T44 l0_0 x5_2).f4) ((rd_T44 l0_0 x5_2).f5) ((rd_T44 l0_0 x5_2).f6) ((rd_T44 l0_0 x5_2).f7) ((rd_T44 l0_0 x5_2).f8) ((rd_T44 l1_0 x5_2).f0) ((rd_T44 l1_0 x5_2).f1) ((rd_T44 l1_0 x5_2).f2) ((rd_T44 l1_0 x5_2).f3) ((rd_T44 l1_0 x5_2).f4) ((rd_T44 l1_0 x5_2).f5) ((rd_T44 l1_0 x5_2).f6) ((rd_T44 l1_0 x5_2).f7) ((rd_T44 l1_0 x5_2).f8)))) else (runnelref17_Same.j2 k2 x5_2 true l0_0 l0_1 a0_2 l1_0 l1_1 a1_2 ((rd_T44 l0_0 x5_2).f0) ((rd_T44 l0_0 x5_2).f1) ((rd_T44 l0_0 x5_2).f2) ((rd_T44 l0_0 x5_2).f3) ((rd_T44 l0_0 x5_2).f4) ((rd_T44 l0_0 x5_2).f5) ((rd_T44 l0_0 x5_2).f6) ((rd_T44 l0_0 x5_2).f7) ((rd_T44 l0_0 x5_2).f8) ((rd_T44 l1_0 x5_2).f0) ((rd_T44 l1_0 x5_2).f1) ((rd_T44 l1_0 x5_2).f2) ((rd_T44 l1_0 x5_2).f3) ((rd_T44 l1_0 x5_2).f4) ((rd_T44 l1_0 x5_2).f5) ((rd_T44 l1_0 x5_2).f6) ((rd_T44 l1_0 x5_2).f7) ((rd_T44 l1_0 x5_2).f8))) = some r := H
      have A52 := Aside0.mk A520
      clear A520
      by_cases c53 : t252 = true
      ·
       subst c53
       have H1 : ((runnelref16_Same.f k2 ((rd_T44 l0_0 x5_2).f2) ((rd_T44 l1_0 x5_2).f2)).bind fun t253 => (if t253 = true then ((runnelref16_Same.f k2 ((rd_T44 l0_0 x5_2).f4) ((rd_T44 l1_0 x5_2).f4)).bind fun t254 => (if t254 = true then (runnelref17_Same.j2 k2 x5_2 ((((rd_T44 l0_0 x5_2).f3).length : Int) != (((rd_T44 l1_0 x5_2).f3).length : Int)) l0_0 l0_1 a0_2 l1_0 l1_1 a1_2 ((rd_T44 l0_0 x5_2).f0) ((rd_T44 l0_0 x5_2).f1) ((rd_T44 l0_0 x5_2).f2) ((rd_T44 l0_0 x5_2).f3) ((rd_T44 l0_0 x5_2).f4) ((rd_T44 l0_0 x5_2).f5) ((rd_T44 l0_0 x5_2).f6) ((rd_T44 l0_0 x5_2).f7) ((rd_T44 l0_0 x5_2).f8) ((rd_T44 l1_0 x5_2).f0) ((rd_T44 l1_0 x5_2).f1) ((rd_T44 l1_0 x5_2).f2) ((rd_T44 l1_0 x5_2).f3) ((rd_T44 l1_0 x5_2).f4) ((rd_T44 l1_0 x5_2).f5) ((rd_T44 l1_0 x5_2).f6) ((rd_T44 l1_0 x5_2).f7) ((rd_T44 l1_0 x5_2).f8)) else (runnelref17_Same.j2 k2 x5_2 true l0_0 l0_1 a0_2 l1_0 l1_1 a1_2 ((rd_T44 l0_0 x5_2).f0) ((rd_T44 l0_0 x5_2).f1) ((rd_T44 l0_0 x5_2).f2) ((rd_T44 l0_0 x5_2).f3) ((rd_T44 l0_0 x5_2).f4) ((rd_T44 l0_0 x5_2).f5) ((rd_T44 l0_0 x5_2).f6) ((rd_T44 l0_0 x5_2).f7) ((rd_T44 l0_0 x5_2).f8) ((rd_T44 l1_0 x5_2).f0) ((rd_T44 l1_0 x5_2).f1) ((rd_T44 l1_0 x5_2).f2) ((rd_T44 l1_0 x5_2).f3) ((rd_T44 l1_0 x5_2).f4) ((rd_T44 l1_0 x5_2).f5) ((rd_T44 l1_0 x5_2).f6) ((rd_T44 l1_0 x5_2).f7) ((rd_T44 l1_0 x5_2).f8)))) else (runnelref17_Same.j2 k2 x5_2 true l0_0 l0_1 a0_2 l1_0 l1_1 a1_2 ((rd_T44 l0_0 x5_2).f0) ((rd_T44 l0_0 x5_2).f1) ((rd_T44 l0_0 x5_2).f2) ((rd_T44 l0_0 x5_2).f3) ((rd_T44 l0_0 x5_2).f4) ((rd_T44 l0_0 x5_2).f5) ((rd_T44 l0_0 x5_2).f6) ((rd_T44 l0_0 x5_2).f7) ((rd_T44 l0_0 x5_2).f8) ((rd_T44 l1_0 x5_2).f0) ((rd_T44 l1_0 x5_2).f1) ((rd_T44 l1_0 x5_2).f2) ((rd_T44 l1_0 x5_2).f3) ((rd_T44 l1_0 x5_2).f4) ((rd_T44 l1_0 x5_2).f5) ((rd_T44 l1_0 x5_2).f6) ((rd_T44 l1_0 x5_2).f7) ((rd_T44 l1_0 x5_2).f8)))) = some r := by rw [if_pos rfl] at H; exact H
       clear H
       have H := H1
       clear H1
       replace H := Option.bind_eq_some_iff.mp H
       obtain ⟨t253, A540, H⟩ := H
       replace H : (if t253 = true then ((runnelref16_Same.f k2 ((rd_T44 l0_0 x5_2).f4) ((rd_T44 l1_0 x5_2).f4)).bind fun t254 => (if t254 = true then (runnelref17_Same.j2 k2 x5_2 ((((rd_T44 l0_0 x5_2).f3).length : Int) != (((rd_T44 l1_0 x5_2).f3).length : Int)) l0_0 l0_1 a0_2 l1_0 l1_1 a1_2 ((rd_T44 l0_0 x5_2).f0) ((rd_T44 l0_0 x5_2).f1) ((rd_T44 l0_0 x5_2).f2) ((rd_T44 l0_0 x5_2).f3) ((rd_T44 l0_0 x5_2).f4) ((rd_T44 l0_0 x5_2).f5) ((rd_T44 l0_0 x5_2).f6) ((rd_T44 l0_0 x5_2).f7) ((rd_T44 l0_0 x5_2).f8) ((rd_T44 l1_0 x5_2).f0) ((rd_T44 l1_0 x5_2).f1) ((rd_T44 l1_0 x5_2).f2) ((rd_T44 l1_0 x5_2).f3) ((rd_T44 l1_0 x5_2).f4) ((rd_T44 l1_0 x5_2).f5) ((rd_T44 l1_0 x5_2).f6) ((rd_T44 l1_0 x5_2).f7) ((rd_T44 l1_0 x5_2).f8)) else (runnelref17_Same.j2 k2 x5_2 true l0_0 l0_1 a0_2 l1_0 l1_1 a1_2 ((rd_T44 l0_0 x5_2).f0) ((rd_T44 l0_0 x5_2).f1) ((rd_T44 l0_0 x5_2).f2) ((rd_T44 l0_0 x5_2).f3) ((rd_T44 l0_0 x5_2).f4) ((rd_T44 l0_0 x5_2).f5) ((rd_T44 l0_0 x5_2).f6) ((rd_T44 l0_0 x5_2).f7) ((rd_T44 l0_0 x5_2).f8) ((rd_T44 l1_0 x5_2).f0) ((rd_T44 l1_0 x5_2).f1) ((rd_T44 l1_0 x5_2).f2) ((rd_T44 l1_0 x5_2).f3) ((rd_T44 l1_0 x5_2).f4) ((rd_T44 l1_0 x5_2).f5) ((rd_T44 l1_0 x5_2).f6) ((rd_T44 l1_0 x5_2).f7) ((rd_T44 l1_0 x5_2).f8)))) else (runnelref17_Same.j2 k2 x5_2 true l0_0 l0_1 a0_2 l1_0 l1_1 a1_2 ((rd_T44 l0_0 x5_2).f0) ((rd_T44 l0_0 x5_2).f1) ((rd_T44 l0_0 x5_2).f2) ((rd_T44 l0_0 x5_2).f3) ((rd_T44 l0_0 x5_2).f4) ((rd_T44 l0_0 x5_2).f5) ((rd_T44 l0_0 x5_2).f6) ((rd_T44 l0_0 x5_2).f7) ((rd_T44 l0_0 x5_2).f8) ((rd_T44 l1_0 x5_2).f0) ((rd_T44 l1_0 x5_2).f1) ((rd_T44 l1_0 x5_2).f2) ((rd_T44 l1_0 x5_2).f3) ((rd_T44 l1_0 x5_2).f4) ((rd_T44 l1_0 x5_2).f5) ((rd_T44 l1_0 x5_2).f6) ((rd_T44 l1_0 x5_2).f7) ((rd_T44 l1_0 x5_2).f8))) = some r := H
       have A54 := Aside0.mk A540
       clear A540
       by_cases c55 : t253 = true
       ·
        subst c55
        have H1 : ((runnelref16_Same.f k2 ((rd_T44 l0_0 x5_2).f4) ((rd_T44 l1_0 x5_2).f4)).bind fun t254 => (if t254 = true then (runnelref17_Same.j2 k2 x5_2 ((((rd_T44 l0_0 x5_2).f3).length : Int) != (((rd_T44 l1_0 x5_2).f3).length : Int)) l0_0 l0_1 a0_2 l1_0 l1_1 a1_2 ((rd_T44 l0_0 x5_2).f0) ((rd_T44 l0_0 x5_2).f1) ((rd_T44 l0_0 x5_2).f2) ((rd_T44 l0_0 x5_2).f3) ((rd_T44 l0_0 x5_2).f4) ((rd_T44 l0_0 x5_2).f5) ((rd_T44 l0_0 x5_2).f6) ((rd_T44 l0_0 x5_2).f7) ((rd_T44 l0_0 x5_2).f8) ((rd_T44 l1_0 x5_2).f0) ((rd_T44 l1_0 x5_2).f1) ((rd_T44 l1_0 x5_2).f2) ((rd_T44 l1_0 x5_2).f3) ((rd_T44 l1_0 x5_2).f4) ((rd_T44 l1_0 x5_2).f5) ((rd_T44 l1_0 x5_2).f6) ((rd_T44 l1_0 x5_2).f7) ((rd_T44 l1_0 x5_2).f8)) else (runnelref17_Same.j2 k2 x5_2 true l0_0 l0_1 a0_2 l1_0 l1_1 a1_2 ((rd_T44 l0_0 x5_2).f0) ((rd_T44 l0_0 x5_2).f1) ((rd_T44 l0_0 x5_2).f2) ((rd_T44 l0_0 x5_2).f3) ((rd_T44 l0_0 x5_2).f4) ((rd_T44 l0_0 x5_2).f5) ((rd_T44 l0_0 x5_2).f6) ((rd_T44 l0_0 x5_2).f7) ((rd_T44 l0_0 x5_2).f8) ((rd_T44 l1_0 x5_2).f0) ((rd_T44 l1_0 x5_2).f1) ((rd_T44 l1_0 x5_2).f2) ((rd_T44 l1_0 x5_2).f3) ((rd_T44 l1_0 x5_2).f4) ((rd_T44 l1_0 x5_2).f5) ((rd_T44 l1_0 x5_2).f6) ((rd_T44 l1_0 x5_2).f7) ((rd_T44 l1_0 x5_2).f8)))) = some r := by rw [if_pos rfl] at H; exact H
        clear H
        have H := H1
        clear H1
        replace H := Option.bind_eq_some_iff.mp H
        obtain ⟨t254, A560, H⟩ := H
        replace H : (if t254 = true then (runnelref17_Same.j2 k2 x5_2 ((((rd_T44 l0_0 x5_2).f3).length : Int) != (((rd_T44 l1_0 x5_2).f3).length : Int)) l0_0 l0_1 a0_2 l1_0 l1_1 a1_2 ((rd_T44 l0_0 x5_2).f0) ((rd_T44 l0_0 x5_2).f1) ((rd_T44 l0_0 x5_2).f2) ((rd_T44 l0_0 x5_2).f3) ((rd_T44 l0_0 x5_2).f4) ((rd_T44 l0_0 x5_2).f5) ((rd_T44 l0_0 x5_2).f6) ((rd_T44 l0_0 x5_2).f7) ((rd_T44 l0_0 x5_2).f8) ((rd_T44 l1_0 x5_2).f0) ((rd_T44 l1_0 x5_2).f1) ((rd_T44 l1_0 x5_2).f2) ((rd_T44 l1_0 x5_2).f3) ((rd_T44 l1_0 x5_2).f4) ((rd_T44 l1_0 x5_2).f5) ((rd_T44 l1_0 x5_2).f6) ((rd_T44 l1_0 x5_2).f7) ((rd_T44 l1_0 x5_2).f8)) else (runnelref17_Same.j2 k2 x5_2 true l0_0 l0_1 a0_2 l1_0 l1_1 a1_2 ((rd_T44 l0_0 x5_2).f0) ((rd_T44 l0_0 x5_2).f1) ((rd_T44 l0_0 x5_2).f2) ((rd_T44 l0_0 x5_2).f3) ((rd_T44 l0_0 x5_2).f4) ((rd_T44 l0_0 x5_2).f5) ((rd_T44 l0_0 x5_2).f6) ((rd_T44 l0_0 x5_2).f7) ((rd_T44 l0_0 x5_2).f8) ((rd_T44 l1_0 x5_2).f0) ((rd_T44 l1_0 x5_2).f1) ((rd_T44 l1_0 x5_2).f2) ((rd_T44 l1_0 x5_2).f3) ((rd_T44 l1_0 x5_2).f4) ((rd_T44 l1_0 x5_2).f5) ((rd_T44 l1_0 x5_2).f6) ((rd_T44 l1_0 x5_2).f7) ((rd_T44 l1_0 x5_2).f8))) = some r := H
        have A56 := Aside0.mk A560
        clear A560
        by_cases c57 : t254 = true
        ·
         subst c57
         have H1 : (runnelref17_Same.j2 k2 x5_2 ((((rd_T44 l0_0 x5_2).f3).length : Int) != (((rd_T44 l1_0 x5_2).f3).length : Int)) l0_0 l0_1 a0_2 l1_0 l1_1 a1_2 ((rd_T44 l0_0 x5_2).f0) ((rd_T44 l0_0 x5_2).f1) ((rd_T44 l0_0 x5_2).f2) ((rd_T44 l0_0 x5_2).f3) ((rd_T44 l0_0 x5_2).f4) ((rd_T44 l0_0 x5_2).f5) ((rd_T44 l0_0 x5_2).f6) ((rd_T44 l0_0 x5_2).f7) ((rd_T44 l0_0 x5_2).f8) ((rd_T44 l1_0 x5_2).f0) ((rd_T44 l1_0 x5_2).f1) ((rd_T44 l1_0 x5_2).f2) ((rd_T44 l1_0 x5_2).f3) ((rd_T44 l1_0 x5_2).f4) ((rd_T44 l1_0 x5_2).f5) ((rd_T44 l1_0 x5_2).f6) ((rd_T44 l1_0 x5_2).f7) ((rd_T44 l1_0 x5_2).f8)) = some r := by rw [if_pos rfl] at H; exact H
         clear H
         have H := H1
         clear H1
         have H' := Aside0.mk H
         clear H
         have hnb58 := NB250_245.out
         have hnc58 := NB245_250.out
         have hnb59 := NB250_246.out
         have hnc59 := NB246_250.out
         have hnb60 := NB250_251.out
         have hnc60 := NB251_250.out
         obtain ⟨hcz61_0, hcz61_1, hcz61_2, hcz61_3, hcz61_4, hcz61_5, hcz61_6, hcz61_7, hcz61_8⟩ := cells9 BK250.out
         obtain ⟨hfz61_0, hfz61_1, hfz61_2, hfz61_3, hfz61_4, hfz61_5, hfz61_6, hfz61_7, hfz61_8⟩ := frz9 BK250.out
         have hnb62 := NB251_245.out
         have hnc62 := NB245_251.out
         have hnb63 := NB251_246.out
         have hnc63 := NB246_251.out
         obtain ⟨hcz64_0, hcz64_1, hcz64_2, hcz64_3, hcz64_4, hcz64_5, hcz64_6, hcz64_7, hcz64_8⟩ := cells9 BK251.out
         obtain ⟨hfz64_0, hfz64_1, hfz64_2, hfz64_3, hfz64_4, hfz64_5, hfz64_6, hfz64_7, hfz64_8⟩ := frz9 BK251.out
         go_wp2_with (first | (go_at_call 24; (with_reducible refine (runnelref16_Same.calls k2 _ _ ((rd_T44 l0_0 x5_2).f1) _ _ ((rd_T44 l1_0 x5_2).f1) true _ ?side1 ?side2 ?side3 ?side4 A52.out).mono ?_); (case side1 => exact Kd.C_below HR248_1.out bl); (case side2 => exact HC248_1.out); (case side3 => exact Kd.C_below HR249_1.out bl); (case side4 => exact HC249_1.out); rintro e w' ⟨rfl, ⟨nd, rfl⟩⟩) | (go_at_call 24; (with_reducible refine (runnelref16_Same.calls k2 _ _ ((rd_T44 l0_0 x5_2).f2) _ _ ((rd_T44 l1_0 x5_2).f2) true _ ?side1 ?side2 ?side3 ?side4 A54.out).mono ?_); (case side1 => exact Kd.C_below HR248_2.out bl); (case side2 => exact HC248_2.out); (case side3 => exact Kd.C_below HR249_2.out bl); (case side4 => exact HC249_2.out); rintro e w' ⟨rfl, ⟨nd, rfl⟩⟩) | (go_at_call 24; (with_reducible refine (runnelref16_Same.calls k2 _ _ ((rd_T44 l0_0 x5_2).f4) _ _ ((rd_T44 l1_0 x5_2).f4) true _ ?side1 ?side2 ?side3 ?side4 A56.out).mono ?_); (case side1 => exact Kd.C_below HR248_4.out bl); (case side2 => exact HC248_4.out); (case side3 => exact Kd.C_below HR249_4.out bl); (case side4 => exact HC249_4.out); rintro e w' ⟨rfl, ⟨nd, rfl⟩⟩))
         go_meet
         case rel => exact ⟨_, (((((rd_T44 l0_0 x5_2).f3).length : Int) != (((rd_T44 l1_0 x5_2).f3).length : Int))), (by first | rfl | (simp; done) | (simp [*]; done)), H', ⟨by have := HJ2.out; have := HK2.out; first | omega | exact Nat.le_refl _⟩, ⟨by (with_reducible repeat (first | refine blk_drewN ?_ _ | refine blk_drew ?_ | refine blk_alloc ?_ _)); exact BK245.out⟩, ⟨by (with_reducible repeat (first | refine blk_drewN ?_ _ | refine blk_drew ?_ | refine blk_alloc ?_ _)); exact BK246.out⟩, ⟨by refine E_in ?_; (with_reducible repeat (first | refine E_drewN ?_ _ | refine E_drew ?_ | refine E_alloc ?_ _)); exact ⟨_, BK250.out, by first | (with_reducible rfl) | simp only [List.setIfInBounds_toArray, List.set_cons_zero, List.set_cons_succ]⟩⟩, ⟨by refine E_in ?_; (with_reducible repeat (first | refine E_drewN ?_ _ | refine E_drew ?_ | refine E_alloc ?_ _)); exact ⟨_, BK251.out, by first | (with_reducible rfl) | simp only [List.setIfInBounds_toArray, List.set_cons_zero, List.set_cons_succ]⟩⟩, ⟨bl⟩⟩
        ·
         replace c57 := Bool.eq_false_iff.mpr c57
         subst c57
         have H1 : (runnelref17_Same.j2 k2 x5_2 true l0_0 l0_1 a0_2 l1_0 l1_1 a1_2 ((rd_T44 l0_0 x5_2).f0) ((rd_T44 l0_0 x5_2).f1) ((rd_T44 l0_0 x5_2).f2) ((rd_T44 l0_0 x5_2).f3) ((rd_T44 l0_0 x5_2).f4) ((rd_T44 l0_0 x5_2).f5) ((rd_T44 l0_0 x5_2).f6) ((rd_T44 l0_0 x5_2).f7) ((rd_T44 l0_0 x5_2).f8) ((rd_T44 l1_0 x5_2).f0) ((rd_T44 l1_0 x5_2).f1) ((rd_T44 l1_0 x5_2).f2) ((rd_T44 l1_0 x5_2).f3) ((rd_T44 l1_0 x5_2).f4) ((rd_T44 l1_0 x5_2).f5) ((rd_T44 l1_0 x5_2).f6) ((rd_T44 l1_0 x5_2).f7) ((rd_T44 l1_0 x5_2).f8)) = some r := by rw [if_neg (show ¬ (false = true) by decide)] at H; exact H
         clear H
         have H := H1
         clear H1
         have H' := Aside0.mk H
         clear H
         have hnb65 := NB250_245.out
         have hnc65 := NB245_250.out
         have hnb66 := NB250_246.out
         have hnc66 := NB246_250.out
         have hnb67 := NB250_251.out
         have hnc67 := NB251_250.out
         obtain ⟨hcz68_0, hcz68_1, hcz68_2, hcz68_3, hcz68_4, hcz68_5, hcz68_6, hcz68_7, hcz68_8⟩ := cells9 BK250.out
         obtain ⟨hfz68_0, hfz68_1, hfz68_2, hfz68_3, hfz68_4, hfz68_5, hfz68_6, hfz68_7, hfz68_8⟩ := frz9 BK250.out
         have hnb69 := NB251_245.out
         have hnc69 := NB245_251.out
         have hnb70 := NB251_246.out
         have hnc70 := NB246_251.out
         obtain ⟨hcz71_0, hcz71_1, hcz71_2, hcz71_3, hcz71_4, hcz71_5, hcz71_6, hcz71_7, hcz71_8⟩ := cells9 BK251.out
         obtain ⟨hfz71_0, hfz71_1, hfz71_2, hfz71_3, hfz71_4, hfz71_5, hfz71_6, hfz71_7, hfz71_8⟩ := frz9 BK251.out
         go_wp2_with (first | (go_at_call 24; (with_reducible refine (runnelref16_Same.calls k2 _ _ ((rd_T44 l0_0 x5_2).f1) _ _ ((rd_T44 l1_0 x5_2).f1) true _ ?side1 ?side2 ?side3 ?side4 A52.out).mono ?_); (case side1 => exact Kd.C_below HR248_1.out bl); (case side2 => exact HC248_1.out); (case side3 => exact Kd.C_below HR249_1.out bl); (case side4 => exact HC249_1.out); rintro e w' ⟨rfl, ⟨nd, rfl⟩⟩) | (go_at_call 24; (with_reducible refine (runnelref16_Same.calls k2 _ _ ((rd_T44 l0_0 x5_2).f2) _ _ ((rd_T44 l1_0 x5_2).f2) true _ ?side1 ?side2 ?side3 ?side4 A54.out).mono ?_); (case side1 => exact Kd.C_below HR248_2.out bl); (case side2 => exact HC248_2.out); (case side3 => exact Kd.C_below HR249_2.out bl); (case side4 => exact HC249_2.out); rintro e w' ⟨rfl, ⟨nd, rfl⟩⟩) | (go_at_call 24; (with_reducible refine (runnelref16_Same.calls k2 _ _ ((rd_T44 l0_0 x5_2).f4) _ _ ((rd_T44 l1_0 x5_2).f4) false _ ?side1 ?side2 ?side3 ?side4 A56.out).mono ?_); (case side1 => exact Kd.C_below HR248_4.out bl); (case side2 => exact HC248_4.out); (case side3 => exact Kd.C_below HR249_4.out bl); (case side4 => exact HC249_4.out); rintro e w' ⟨rfl, ⟨nd, rfl⟩⟩))
         go_meet
         case rel => exact ⟨_, (true), (by first | rfl | (simp; done) | (simp [*]; done)), H', ⟨by have := HJ2.out; have := HK2.out; first | omega | exact Nat.le_refl _⟩, ⟨by (with_reducible repeat (first | refine blk_drewN ?_ _ | refine blk_drew ?_ | refine blk_alloc ?_ _)); exact BK245.out⟩, ⟨by (with_reducible repeat (first | refine blk_drewN ?_ _ | refine blk_drew ?_ | refine blk_alloc ?_ _)); exact BK246.out⟩, ⟨by refine E_in ?_; (with_reducible repeat (first | refine E_drewN ?_ _ | refine E_drew ?_ | refine E_alloc ?_ _)); exact ⟨_, BK250.out, by first | (with_reducible rfl) | simp only [List.setIfInBounds_toArray, List.set_cons_zero, List.set_cons_succ]⟩⟩, ⟨by refine E_in ?_; (with_reducible repeat (first | refine E_drewN ?_ _ | refine E_drew ?_ | refine E_alloc ?_ _)); exact ⟨_, BK251.out, by first | (with_reducible rfl) | simp only [List.setIfInBounds_toArray, List.set_cons_zero, List.set_cons_succ]⟩⟩, ⟨bl⟩⟩
       ·
        replace c55 := Bool.eq_false_iff.mpr c55
        subst c55
        have H1 : (runnelref17_Same.j2 k2 x5_2 true l0_0 l0_1 a0_2 l1_0 l1_1 a1_2 ((rd_T44 l0_0 x5_2).f0) ((rd_T44 l0_0 x5_2).f1) ((rd_T44 l0_0 x5_2).f2) ((rd_T44 l0_0 x5_2).f3) ((rd_T44 l0_0 x5_2).f4) ((rd_T44 l0_0 x5_2).f5) ((rd_T44 l0_0 x5_2).f6) ((rd_T44 l0_0 x5_2).f7) ((rd_T44 l0_0 x5_2).f8) ((rd_T44 l1_0 x5_2).f0) ((rd_T44 l1_0 x5_2).f1) ((rd_T44 l1_0 x5_2).f2) ((rd_T44 l1_0 x5_2).f3) ((rd_T44 l1_0 x5_2).f4) ((rd_T44 l1_0 x5_2).f5) ((rd_T44 l1_0 x5_2).f6) ((rd_T44 l1_0 x5_2).f7) ((rd_T44 l1_0 x5_2).f8)) = some r := by rw [if_neg (show ¬ (false = true) by decide)] at H; exact H
        clear H
        have H := H1
        clear H1
        have H' := Aside0.mk H
        clear H
        have hnb72 := NB250_245.out
        have hnc72 := NB245_250.out
        have hnb73 := NB250_246.out
        have hnc73 := NB246_250.out
        have hnb74 := NB250_251.out
        have hnc74 := NB251_250.out
        obtain ⟨hcz75_0, hcz75_1, hcz75_2, hcz75_3, hcz75_4, hcz75_5, hcz75_6, hcz75_7, hcz75_8⟩ := cells9 BK250.out
        obtain ⟨hfz75_0, hfz75_1, hfz75_2, hfz75_3, hfz75_4, hfz75_5, hfz75_6, hfz75_7, hfz75_8⟩ := frz9 BK250.out
        have hnb76 := NB251_245.out
        have hnc76 := NB245_251.out
        have hnb77 := NB251_246.out
        have hnc77 := NB246_251.out
        obtain ⟨hcz78_0, hcz78_1, hcz78_2, hcz78_3, hcz78_4, hcz78_5, hcz78_6, hcz78_7, hcz78_8⟩ := cells9 BK251.out
        obtain ⟨hfz78_0, hfz78_1, hfz78_2, hfz78_3, hfz78_4, hfz78_5, hfz78_6, hfz78_7, hfz78_8⟩ := frz9 BK251.out
        go_wp2_with (first | (go_at_call 24; (with_reducible refine (runnelref16_Same.calls k2 _ _ ((rd_T44 l0_0 x5_2).f1) _ _ ((rd_T44 l1_0 x5_2).f1) true _ ?side1 ?side2 ?side3 ?side4 A52.out).mono ?_); (case side1 => exact Kd.C_below HR248_1.out bl); (case side2 => exact HC248_1.out); (case side3 => exact Kd.C_below HR249_1.out bl); (case side4 => exact HC249_1.out); rintro e w' ⟨rfl, ⟨nd, rfl⟩⟩) | (go_at_call 24; (with_reducible refine (runnelref16_Same.calls k2 _ _ ((rd_T44 l0_0 x5_2).f2) _ _ ((rd_T44 l1_0 x5_2).f2) false _ ?side1 ?side2 ?side3 ?side4 A54.out).mono ?_); (case side1 => exact Kd.C_below HR248_2.out bl); (case side2 => exact HC248_2.out); (case side3 => exact Kd.C_below HR249_2.out bl); (case side4 => exact HC249_2.out); rintro e w' ⟨rfl, ⟨nd, rfl⟩⟩))
        go_meet
        case rel => exact ⟨_, (true), (by first | rfl | (simp; done) | (simp [*]; done)), H', ⟨by have := HJ2.out; have := HK2.out; first | omega | exact Nat.le_refl _⟩, ⟨by (with_reducible repeat (first | refine blk_drewN ?_ _ | refine blk_drew ?_ | refine blk_alloc ?_ _)); exact BK245.out⟩, ⟨by (with_reducible repeat (first | refine blk_drewN ?_ _ | refine blk_drew ?_ | refine blk_alloc ?_ _)); exact BK246.out⟩, ⟨by refine E_in ?_; (with_reducible repeat (first | refine E_drewN ?_ _ | refine E_drew ?_ | refine E_alloc ?_ _)); exact ⟨_, BK250.out, by first | (with_reducible rfl) | simp only [List.setIfInBounds_toArray, List.set_cons_zero, List.set_cons_succ]⟩⟩, ⟨by refine E_in ?_; (with_reducible repeat (first | refine E_drewN ?_ _ | refine E_drew ?_ | refine E_alloc ?_ _)); exact ⟨_, BK251.out, by first | (with_reducible rfl) | simp only [List.setIfInBounds_toArray, List.set_cons_zero, List.set_cons_succ]⟩⟩, ⟨bl⟩⟩
      ·
       replace c53 := Bool.eq_false_iff.mpr c53
       subst c53
       have H1 : (runnelref17_Same.j2 k2 x5_2 true l0_0 l0_1 a0_2 l1_0 l1_1 a1_2 ((rd_T44 l0_0 x5_2).f0) ((rd_T44 l0_0 x5_2).f1) ((rd_T44 l0_0 x5_2).f2) ((rd_T44 l0_0 x5_2).f3) ((rd_T44 l0_0 x5_2).f4) ((rd_T44 l0_0 x5_2).f5) ((rd_T44 l0_0 x5_2).f6) ((rd_T44 l0_0 x5_2).f7) ((rd_T44 l0_0 x5_2).f8) ((rd_T44 l1_0 x5_2).f0) ((rd_T44 l1_0 x5_2).f1) ((rd_T44 l1_0 x5_2).f2) ((rd_T44 l1_0 x5_2).f3) ((rd_T44 l1_0 x5_2).f4) ((rd_T44 l1_0 x5_2).f5) ((rd_T44 l1_0 x5_2).f6) ((rd_T44 l1_0 x5_2).f7) ((rd_T44 l1_0 x5_2).f8)) = some r := by rw [if_neg (show ¬ (false = true) by decide)] at H; exact H
       clear H
       have H := H1
       clear H1
       have H' := Aside0.mk H
       clear H
       have hnb79 := NB250_245.out
       have hnc79 := NB245_250.out
       have hnb80 := NB250_246.out
       have hnc80 := NB246_250.out
       have hnb81 := NB250_251.out
       have hnc81 := NB251_250.out
       obtain ⟨hcz82_0, hcz82_1, hcz82_2, hcz82_3, hcz82_4, hcz82_5, hcz82_6, hcz82_7, hcz82_8⟩ := cells9 BK250.out
       obtain ⟨hfz82_0, hfz82_1, hfz82_2, hfz82_3, hfz82_4, hfz82_5, hfz82_6, hfz82_7, hfz82_8⟩ := frz9 BK250.out
       have hnb83 := NB251_245.out
       have hnc83 := NB245_251.out
       have hnb84 := NB251_246.out
       have hnc84 := NB246_251.out
       obtain ⟨hcz85_0, hcz85_1, hcz85_2, hcz85_3, hcz85_4, hcz85_5, hcz85_6, hcz85_7, hcz85_8⟩ := cells9 BK251.out
       obtain ⟨hfz85_0, hfz85_1, hfz85_2, hfz85_3, hfz85_4, hfz85_5, hfz85_6, hfz85_7, hfz85_8⟩ := frz9 BK251.out
       go_wp2_with (first | (go_at_call 24; (with_reducible refine (runnelref16_Same.calls k2 _ _ ((rd_T44 l0_0 x5_2).f1) _ _ ((rd_T44 l1_0 x5_2).f1) false _ ?side1 ?side2 ?side3 ?side4 A52.out).mono ?_); (case side1 => exact Kd.C_below HR248_1.out bl); (case side2 => exact HC248_1.out); (case side3 => exact Kd.C_below HR249_1.out bl); (case side4 => exact HC249_1.out); rintro e w' ⟨rfl, ⟨nd, rfl⟩⟩))
       go_meet
       case rel => exact ⟨_, (true), (by first | rfl | (simp; done) | (simp [*]; done)), H', ⟨by have := HJ2.out; have := HK2.out; first | omega | exact Nat.le_refl _⟩, ⟨by (with_reducible repeat (first | refine blk_drewN ?_ _ | refine blk_drew ?_ | refine blk_alloc ?_ _)); exact BK245.out⟩, ⟨by (with_reducible repeat (first | refine blk_drewN ?_ _ | refine blk_drew ?_ | refine blk_alloc ?_ _)); exact BK246.out⟩, ⟨by refine E_in ?_; (with_reducible repeat (first | refine E_drewN ?_ _ | refine E_drew ?_ | refine E_alloc ?_ _)); exact ⟨_, BK250.out, by first | (with_reducible rfl) | simp only [List.setIfInBounds_toArray, List.set_cons_zero, List.set_cons_succ]⟩⟩, ⟨by refine E_in ?_; (with_reducible repeat (first | refine E_drewN ?_ _ | refine E_drew ?_ | refine E_alloc ?_ _)); exact ⟨_, BK251.out, by first | (with_reducible rfl) | simp only [List.setIfInBounds_toArray, List.set_cons_zero, List.set_cons_succ]⟩⟩, ⟨bl⟩⟩
     ·
      rw [if_neg c51] at H
      have c51b0 : (((rd_T44 l0_0 x5_2).f8) == ((rd_T44 l1_0 x5_2).f8)) = false := beq_eq_false_iff_ne.mpr c51
      have c51b1 : (((rd_T44 l0_0 x5_2).f8) != ((rd_T44 l1_0 x5_2).f8)) = true := bne_iff_ne.mpr c51
      have H' := Aside0.mk H
      clear H
      have hnb86 := NB250_245.out
      have hnc86 := NB245_250.out
      have hnb87 := NB250_246.out
      have hnc87 := NB246_250.out
      have hnb88 := NB250_251.out
      have hnc88 := NB251_250.out
      obtain ⟨hcz89_0, hcz89_1, hcz89_2, hcz89_3, hcz89_4, hcz89_5, hcz89_6, hcz89_7, hcz89_8⟩ := cells9 BK250.out
      obtain ⟨hfz89_0, hfz89_1, hfz89_2, hfz89_3, hfz89_4, hfz89_5, hfz89_6, hfz89_7, hfz89_8⟩ := frz9 BK250.out
      have hnb90 := NB251_245.out
      have hnc90 := NB245_251.out
      have hnb91 := NB251_246.out
      have hnc91 := NB246_251.out
      obtain ⟨hcz92_0, hcz92_1, hcz92_2, hcz92_3, hcz92_4, hcz92_5, hcz92_6, hcz92_7, hcz92_8⟩ := cells9 BK251.out
      obtain ⟨hfz92_0, hfz92_1, hfz92_2, hfz92_3, hfz92_4, hfz92_5, hfz92_6, hfz92_7, hfz92_8⟩ := frz9 BK251.out
      go_wp2
      go_meet
      case rel => exact ⟨_, (true), (by first | rfl | (simp; done) | (simp [*]; done)), H', ⟨by have := HJ2.out; have := HK2.out; first | omega | exact Nat.le_refl _⟩, ⟨by (with_reducible repeat (first | refine blk_drewN ?_ _ | refine blk_drew ?_ | refine blk_alloc ?_ _)); exact BK245.out⟩, ⟨by (with_reducible repeat (first | refine blk_drewN ?_ _ | refine blk_drew ?_ | refine blk_alloc ?_ _)); exact BK246.out⟩, ⟨by refine E_in ?_; (with_reducible repeat (first | refine E_drewN ?_ _ | refine E_drew ?_ | refine E_alloc ?_ _)); exact ⟨_, BK250.out, by first | (with_reducible rfl) | simp only [List.setIfInBounds_toArray, List.set_cons_zero, List.set_cons_succ]⟩⟩, ⟨by refine E_in ?_; (with_reducible repeat (first | refine E_drewN ?_ _ | refine E_drew ?_ | refine E_alloc ?_ _)); exact ⟨_, BK251.out, by first | (with_reducible rfl) | simp only [List.setIfInBounds_toArray, List.set_cons_zero, List.set_cons_succ]⟩⟩, ⟨bl⟩⟩
    ·
     rw [if_neg c50] at H
     have c50b0 : (((rd_T44 l0_0 x5_2).f7) == ((rd_T44 l1_0 x5_2).f7)) = false := beq_eq_false_iff_ne.mpr c50
     have c50b1 : (((rd_T44 l0_0 x5_2).f7) != ((rd_T44 l1_0 x5_2).f7)) = true := bne_iff_ne.mpr c50
     have H' := Aside0.mk H
     clear H
     have hnb93 := NB250_245.out
     have hnc93 := NB245_250.out
     have hnb94 := NB250_246.out
     have hnc94 := NB246_250.out
     have hnb95 := NB250_251.out
     have hnc95 := NB251_250.out
     obtain ⟨hcz96_0, hcz96_1, hcz96_2, hcz96_3, hcz96_4, hcz96_5, hcz96_6, hcz96_7, hcz96_8⟩ := cells9 BK250.out
     obtain ⟨hfz96_0, hfz96_1, hfz96_2, hfz96_3, hfz96_4, hfz96_5, hfz96_6, hfz96_7, hfz96_8⟩ := frz9 BK250.out
     have hnb97 := NB251_245.out
     have hnc97 := NB245_251.out
     have hnb98 := NB251_246.out
     have hnc98 := NB246_251.out
     obtain ⟨hcz99_0, hcz99_1, hcz99_2, hcz99_3, hcz99_4, hcz99_5, hcz99_6, hcz99_7, hcz99_8⟩ := cells9 BK251.out
     obtain ⟨hfz99_0, hfz99_1, hfz99_2, hfz99_3, hfz99_4, hfz99_5, hfz99_6, hfz99_7, hfz99_8⟩ := frz9 BK251.out
     go_wp2
     go_meet
     case rel => exact ⟨_, (true), (by first | rfl | (simp; done) | (simp [*]; done)), H', ⟨by have := HJ2.out; have := HK2.out; first | omega | exact Nat.le_refl _⟩, ⟨by (with_reducible repeat (first | refine blk_drewN ?_ _ | refine blk_drew ?_ | refine blk_alloc ?_ _)); exact BK245.out⟩, ⟨by (with_reducible repeat (first | refine blk_drewN ?_ _ | refine blk_drew ?_ | refine blk_alloc ?_ _)); exact BK246.out⟩, ⟨by refine E_in ?_; (with_reducible repeat (first | refine E_drewN ?_ _ | refine E_drew ?_ | refine E_alloc ?_ _)); exact ⟨_, BK250.out, by first | (with_reducible rfl) | simp only [List.setIfInBounds_toArray, List.set_cons_zero, List.set_cons_succ]⟩⟩, ⟨by refine E_in ?_; (with_reducible repeat (first | refine E_drewN ?_ _ | refine E_drew ?_ | refine E_alloc ?_ _)); exact ⟨_, BK251.out, by first | (with_reducible rfl) | simp only [List.setIfInBounds_toArray, List.set_cons_zero, List.set_cons_succ]⟩⟩, ⟨bl⟩⟩
   ·
    rw [if_neg c49] at H
    have c49b0 : (((rd_T44 l0_0 x5_2).f6) == ((rd_T44 l1_0 x5_2).f6)) = false := beq_eq_false_iff_ne.mpr c49
    have c49b1 : (((rd_T44 l0_0 x5_2).f6) != ((rd_T44 l1_0 x5_2).f6)) = true := bne_iff_ne.mpr c49
    have H' := Aside0.mk H
    clear H
    have hnb100 := NB250_245.out
    have hnc100 := NB245_250.out
    have hnb101 := NB250_246.out
    have hnc101 := NB246_250.out
    have hnb102 := NB250_251.out
    have hnc102 := NB251_250.out
    obtain ⟨hcz103_0, hcz103_1, hcz103_2, hcz103_3, hcz103_4, hcz103_5, hcz103_6, hcz103_7, hcz103_8⟩ := cells9 BK250.out
    obtain ⟨hfz103_0, hfz103_1, hfz103_2, hfz103_3, hfz103_4, hfz103_5, hfz103_6, hfz103_7, hfz103_8⟩ := frz9 BK250.out
    have hnb104 := NB251_245.out
    have hnc104 := NB245_251.out
    have hnb105 := NB251_246.out
    have hnc105 := NB246_251.out
    obtain ⟨hcz106_0, hcz106_1, hcz106_2, hcz106_3, hcz106_4, hcz106_5, hcz106_6, hcz106_7, hcz106_8⟩ := cells9 BK251.out
    obtain ⟨hfz106_0, hfz106_1, hfz106_2, hfz106_3, hfz106_4, hfz106_5, hfz106_6, hfz106_7, hfz106_8⟩ := frz9 BK251.out
    go_wp2
    go_meet
    case rel => exact ⟨_, (true), (by first | rfl | (simp; done) | (simp [*]; done)), H', ⟨by have := HJ2.out; have := HK2.out; first | omega | exact Nat.le_refl _⟩, ⟨by (with_reducible repeat (first | refine blk_drewN ?_ _ | refine blk_drew ?_ | refine blk_alloc ?_ _)); exact BK245.out⟩, ⟨by (with_reducible repeat (first | refine blk_drewN ?_ _ | refine blk_drew ?_ | refine blk_alloc ?_ _)); exact BK246.out⟩, ⟨by refine E_in ?_; (with_reducible repeat (first | refine E_drewN ?_ _ | refine E_drew ?_ | refine E_alloc ?_ _)); exact ⟨_, BK250.out, by first | (with_reducible rfl) | simp only [List.setIfInBounds_toArray, List.set_cons_zero, List.set_cons_succ]⟩⟩, ⟨by refine E_in ?_; (with_reducible repeat (first | refine E_drewN ?_ _ | refine E_drew ?_ | refine E_alloc ?_ _)); exact ⟨_, BK251.out, by first | (with_reducible rfl) | simp only [List.setIfInBounds_toArray, List.set_cons_zero, List.set_cons_succ]⟩⟩, ⟨bl⟩⟩
  ·
   rw [if_neg c48] at H
   have c48b0 : (((rd_T44 l0_0 x5_2).f5) == ((rd_T44 l1_0 x5_2).f5)) = false := beq_eq_false_iff_ne.mpr c48
   have c48b1 : (((rd_T44 l0_0 x5_2).f5) != ((rd_T44 l1_0 x5_2).f5)) = true := bne_iff_ne.mpr c48
   have H' := Aside0.mk H
   clear H
   have hnb107 := NB250_245.out
   have hnc107 := NB245_250.out
   have hnb108 := NB250_246.out
   have hnc108 := NB246_250.out
   have hnb109 := NB250_251.out
   have hnc109 := NB251_250.out
   obtain ⟨hcz110_0, hcz110_1, hcz110_2, hcz110_3, hcz110_4, hcz110_5, hcz110_6, hcz110_7, hcz110_8⟩ := cells9 BK250.out
   obtain ⟨hfz110_0, hfz110_1, hfz110_2, hfz110_3, hfz110_4, hfz110_5, hfz110_6, hfz110_7, hfz110_8⟩ := frz9 BK250.out
   have hnb111 := NB251_245.out
   have hnc111 := NB245_251.out
   have hnb112 := NB251_246.out
   have hnc112 := NB246_251.out
   obtain ⟨hcz113_0, hcz113_1, hcz113_2, hcz113_3, hcz113_4, hcz113_5, hcz113_6, hcz113_7, hcz113_8⟩ := cells9 BK251.out
   obtain ⟨hfz113_0, hfz113_1, hfz113_2, hfz113_3, hfz113_4, hfz113_5, hfz113_6, hfz113_7, hfz113_8⟩ := frz9 BK251.out
   go_wp2
   go_meet
   case rel => exact ⟨_, (true), (by first | rfl | (simp; done) | (simp [*]; done)), H', ⟨by have := HJ2.out; have := HK2.out; first | omega | exact Nat.le_refl _⟩, ⟨by (with_reducible repeat (first | refine blk_drewN ?_ _ | refine blk_drew ?_ | refine blk_alloc ?_ _)); exact BK245.out⟩, ⟨by (with_reducible repeat (first | refine blk_drewN ?_ _ | refine blk_drew ?_ | refine blk_alloc ?_ _)); exact BK246.out⟩, ⟨by refine E_in ?_; (with_reducible repeat (first | refine E_drewN ?_ _ | refine E_drew ?_ | refine E_alloc ?_ _)); exact ⟨_, BK250.out, by first | (with_reducible rfl) | simp only [List.setIfInBounds_toArray, List.set_cons_zero, List.set_cons_succ]⟩⟩, ⟨by refine E_in ?_; (with_reducible repeat (first | refine E_drewN ?_ _ | refine E_drew ?_ | refine E_alloc ?_ _)); exact ⟨_, BK251.out, by first | (with_reducible rfl) | simp only [List.setIfInBounds_toArray, List.set_cons_zero, List.set_cons_succ]⟩⟩, ⟨bl⟩⟩
 ·
  rw [if_neg c47] at H
  have c47b0 : (((rd_T44 l0_0 x5_2).f0) == ((rd_T44 l1_0 x5_2).f0)) = false := beq_eq_false_iff_ne.mpr c47
  have c47b1 : (((rd_T44 l0_0 x5_2).f0) != ((rd_T44 l1_0 x5_2).f0)) = true := bne_iff_ne.mpr c47
  (first | rw [c47b0] | (simp only [i64_w, i32_w]; rw [c47b0]) | skip)
  have H' := Aside0.mk H
  clear H
  have hnb114 := NB250_245.out
  have hnc114 := NB245_250.out
  have hnb115 := NB250_246.out
  have hnc115 := NB246_250.out
  have hnb116 := NB250_251.out
  have hnc116 := NB251_250.out
  obtain ⟨hcz117_0, hcz117_1, hcz117_2, hcz117_3, hcz117_4, hcz117_5, hcz117_6, hcz117_7, hcz117_8⟩ := cells9 BK250.out
  obtain ⟨hfz117_0, hfz117_1, hfz117_2, hfz117_3, hfz117_4, hfz117_5, hfz117_6, hfz117_7, hfz117_8⟩ := frz9 BK250.out
  have hnb118 := NB251_245.out
  have hnc118 := NB245_251.out
  have hnb119 := NB251_246.out
  have hnc119 := NB246_251.out
  obtain ⟨hcz120_0, hcz120_1, hcz120_2, hcz120_3, hcz120_4, hcz120_5, hcz120_6, hcz120_7, hcz120_8⟩ := cells9 BK251.out
  obtain ⟨hfz120_0, hfz120_1, hfz120_2, hfz120_3, hfz120_4, hfz120_5, hfz120_6, hfz120_7, hfz120_8⟩ := frz9 BK251.out
  go_wp2
  go_meet
  case rel => exact ⟨_, (true), (by first | rfl | (simp; done) | (simp [*]; done)), H', ⟨by have := HJ2.out; have := HK2.out; first | omega | exact Nat.le_refl _⟩, ⟨by (with_reducible repeat (first | refine blk_drewN ?_ _ | refine blk_drew ?_ | refine blk_alloc ?_ _)); exact BK245.out⟩, ⟨by (with_reducible repeat (first | refine blk_drewN ?_ _ | refine blk_drew ?_ | refine blk_alloc ?_ _)); exact BK246.out⟩, ⟨by refine E_in ?_; (with_reducible repeat (first | refine E_drewN ?_ _ | refine E_drew ?_ | refine E_alloc ?_ _)); exact ⟨_, BK250.out, by first | (with_reducible rfl) | simp only [List.setIfInBounds_toArray, List.set_cons_zero, List.set_cons_succ]⟩⟩, ⟨by refine E_in ?_; (with_reducible repeat (first | refine E_drewN ?_ _ | refine E_drew ?_ | refine E_alloc ?_ _)); exact ⟨_, BK251.out, by first | (with_reducible rfl) | simp only [List.setIfInBounds_toArray, List.set_cons_zero, List.set_cons_succ]⟩⟩, ⟨bl⟩⟩
end Go.Proofs.Ytbdpnecnnokkkaa.PSheetDecodes
