/- One piece of the machine's side of the law, written by a program over the translation; Lean checks it. -/
import Derived.Test.YtpplklickfioiaaOWireDecodesx0
import Derived.Test.YtpplklickfioiaaOWireDecodesx11
import Derived.Test.YtpplklickfioiaaOWireDecodesx12
import Derived.Test.YtpplklickfioiaaShort
namespace Go.Proofs.Ytpplklickfioiaa.PWireDecodes
open Go.RowKit Go.Proofs.YtpplklickfioiaaW.PrintWords Go.Proofs.YtpplklickfioiaaW.PrintLast Go.Proofs.YtpplklickfioiaaW.PrintMore
attribute [local go_sem] max2_int min2_int max_two min_two max_three min_three max_four min_four   -- for this text's walks alone
set_option linter.unusedVariables false
set_option linter.unusedSimpArgs false

/-! ### runnelref03_Get: function 43 -/
mutual
def runnelref03_Get.l0 : Nat → List Int → Int → Int → List (S103) → Int → Option ((List (S103)) × Int × Int)
 | 0, _, _, _, _, _ => none
 | k + 1, x0, x7, x8, x10, x11 => if x11 < (wrap64 (x7)) then (if x8 ≥ (x0.length : Int) then (runnelref03_Get.j1 k x0 x7 x8 x10 x11 true) else (if 0 ≤ x8 then (if x8 < (x0.length : Int) then (runnelref03_Get.j1 k x0 x7 x8 x10 x11 (decide ((rd x0 x8) > 1))) else (none)) else (none))) else (some (x10, x8, 0))
def runnelref03_Get.j1 : Nat → List Int → Int → Int → List (S103) → Int → Bool → Option ((List (S103)) × Int × Int)
 | 0, _, _, _, _, _, _ => none
 | k + 1, x0, x7, x8, x10, x11, x47 => if x47 = true then (some (([] : List (S103)), 0, 6)) else (if 0 ≤ x8 then (if x8 < (x0.length : Int) then (if (wrap64 (rd x0 x8)) = 0 then ((runnelref01_GetInt.f k x0 (wrap64 (x8 + 1))).bind fun bt446 => (if bt446.2.2 = 0 then (if x10.length < 4398046511104 then (runnelref03_Get.l0 k x0 x7 bt446.2.1 (x10 ++ [(⟨wrap64 (rd x0 x8), bt446.1, (⟨#[]⟩ : ByteArray)⟩ : S103)]) (wrap64 (x11 + 1))) else (none)) else (some (([] : List (S103)), 0, 6)))) else ((runnelref01_GetText.f k x0 (wrap64 (x8 + 1)) 4096).bind fun bt452 => (if bt452.2.2 = 0 then (if x10.length < 4398046511104 then (runnelref03_Get.l0 k x0 x7 bt452.2.1 (x10 ++ [(⟨wrap64 (rd x0 x8), 0, bt452.1⟩ : S103)]) (wrap64 (x11 + 1))) else (none)) else (some (([] : List (S103)), 0, 6))))) else (none)) else (none))
end
def runnelref03_Get.f (k : Nat) (l0 : List Int) (a1 : Int) : Option ((List (S103)) × Int × Int) := (runnelref01_Get.f k l0 a1).bind fun bt440 => (if bt440.2.2 = 0 then (if bt440.1 > 16 then (some (([] : List (S103)), 0, 6)) else (runnelref03_Get.l0 k l0 bt440.1 bt440.2.1 ([] : List (S103)) 0)) else (some (([] : List (S103)), 0, bt440.2.2)))
theorem runnelref03_Get.mono_l : ∀ k, (∀ y0 y1 y2 y3 y4, LeO (runnelref03_Get.l0 k y0 y1 y2 y3 y4) (runnelref03_Get.l0 (k + 1) y0 y1 y2 y3 y4)) ∧ (∀ y0 y1 y2 y3 y4 y5, LeO (runnelref03_Get.j1 k y0 y1 y2 y3 y4 y5) (runnelref03_Get.j1 (k + 1) y0 y1 y2 y3 y4 y5))
 | 0 => ⟨fun _ _ _ _ _ r h => by simp [runnelref03_Get.l0] at h, fun _ _ _ _ _ _ r h => by simp [runnelref03_Get.j1] at h⟩
 | k + 1 => by
  obtain ⟨ih0, ih1⟩ := runnelref03_Get.mono_l k
  refine ⟨?_, ?_⟩
  ·
   intro y0 y1 y2 y3 y4
   unfold runnelref03_Get.l0
   repeat' first
   | (with_reducible exact ih0 _ _ _ _ _)
   | (with_reducible exact ih1 _ _ _ _ _ _)
   | (with_reducible exact runnelref01_Get.mono _ _ _)
   | (with_reducible exact runnelref01_GetInt.mono _ _ _)
   | (with_reducible exact runnelref01_GetText.mono _ _ _ _)
   | (with_reducible exact LeO.refl _)
   | (with_reducible exact LeO.none _)
   | (with_reducible refine LeO.ite ?_ ?_)
   | (with_reducible refine LeO.bind ?_ (fun _ => ?_))
   | exact ih0 _ _ _ _ _
   | exact ih1 _ _ _ _ _ _
   | exact runnelref01_Get.mono _ _ _
   | exact runnelref01_GetInt.mono _ _ _
   | exact runnelref01_GetText.mono _ _ _ _
   | exact LeO.none _
   | refine LeO.ite ?_ ?_
   | refine LeO.bind ?_ (fun _ => ?_)
  ·
   intro y0 y1 y2 y3 y4 y5
   unfold runnelref03_Get.j1
   repeat' first
   | (with_reducible exact ih0 _ _ _ _ _)
   | (with_reducible exact ih1 _ _ _ _ _ _)
   | (with_reducible exact runnelref01_Get.mono _ _ _)
   | (with_reducible exact runnelref01_GetInt.mono _ _ _)
   | (with_reducible exact runnelref01_GetText.mono _ _ _ _)
   | (with_reducible exact LeO.refl _)
   | (with_reducible exact LeO.none _)
   | (with_reducible refine LeO.ite ?_ ?_)
   | (with_reducible refine LeO.bind ?_ (fun _ => ?_))
   | exact ih0 _ _ _ _ _
   | exact ih1 _ _ _ _ _ _
   | exact runnelref01_Get.mono _ _ _
   | exact runnelref01_GetInt.mono _ _ _
   | exact runnelref01_GetText.mono _ _ _ _
   | exact LeO.none _
   | refine LeO.ite ?_ ?_
   | refine LeO.bind ?_ (fun _ => ?_)
theorem runnelref03_Get.mono : ∀ a0 a1 k, LeO (runnelref03_Get.f k a0 a1) (runnelref03_Get.f (k + 1) a0 a1) := by
 intro a0 a1 k
 obtain ⟨ih0, ih1⟩ := runnelref03_Get.mono_l k
 unfold runnelref03_Get.f
 repeat' first
   | (with_reducible exact ih0 _ _ _ _ _)
   | (with_reducible exact ih1 _ _ _ _ _ _)
   | (with_reducible exact runnelref01_Get.mono _ _ _)
   | (with_reducible exact runnelref01_GetInt.mono _ _ _)
   | (with_reducible exact runnelref01_GetText.mono _ _ _ _)
   | (with_reducible exact LeO.refl _)
   | (with_reducible exact LeO.none _)
   | (with_reducible refine LeO.ite ?_ ?_)
   | (with_reducible refine LeO.bind ?_ (fun _ => ?_))
   | exact ih0 _ _ _ _ _
   | exact ih1 _ _ _ _ _ _
   | exact runnelref01_Get.mono _ _ _
   | exact runnelref01_GetInt.mono _ _ _
   | exact runnelref01_GetText.mono _ _ _ _
   | exact LeO.none _
   | refine LeO.ite ?_ ?_
   | refine LeO.bind ?_ (fun _ => ?_)
set_option maxHeartbeats 8000000 in
set_option maxRecDepth 100000 in
theorem runnelref03_Get.calls (k : Nat) (A0 : Option Addr) (c0 : Nat) (l0 : List Int) (a1 : Int) (r1 : List (S103)) (r2 : Int) (r3 : Int) (w : World) (hr0 : Kd.C (Kd.int .u8) w A0 l0.length l0) (hc0 : l0.length ≤ c0) (h : runnelref03_Get.f k l0 a1 = some (r1, r2, r3)) :
  Calls Try.prog 43 #[.slice A0 l0.length c0, .int .i64 a1] w fun e w' => ∃ v0_ : Value, e = .returned (.tuple #[v0_, .int .i64 r2, .int .i64 r3]) ∧ Kd.R k103 103 w' w.heap.size (fun _ => True) v0_ r1 ∧ Below w.heap.size w w' := by
 have hu103 := Try.underlying103
 have HR0 := Aside0.mk hr0
 have HC0 := Aside0.mk hc0
 clear hr0 hc0
 have HB := Aside0.mk (Below.refl w.heap.size w)
 have H : ((runnelref01_Get.f k l0 a1).bind fun bt440 => (if bt440.2.2 = 0 then (if bt440.1 > 16 then (some (([] : List (S103)), 0, 6)) else (runnelref03_Get.l0 k l0 bt440.1 bt440.2.1 ([] : List (S103)) 0)) else (some (([] : List (S103)), 0, bt440.2.2)))) = some (r1, r2, r3) := h
 clear h
 replace H := Option.bind_eq_some_iff.mp H
 obtain ⟨⟨t440, t441, t442⟩, A30, H⟩ := H
 replace H : (if t442 = 0 then (if t440 > 16 then (some (([] : List (S103)), 0, 6)) else (runnelref03_Get.l0 k l0 t440 t441 ([] : List (S103)) 0)) else (some (([] : List (S103)), 0, t442))) = some (r1, r2, r3) := H
 have A3 := Aside0.mk A30
 clear A30
 by_cases c4 : t442 = 0
 ·
  rw [if_pos c4] at H
  have c4b0 : (t442 == 0) = true := beq_iff_eq.mpr c4
  have c4b1 : (t442 != 0) = false := bne_eq_false_iff_eq.mpr c4
  clear c4
  by_cases c5 : t440 > 16
  ·
   rw [if_pos c5] at H
   have c5b0 : decide (16 < t440) = true := decide_eq_true c5
   clear c5
   simp only [Option.some.injEq, Prod.mk.injEq] at H
   obtain ⟨rfl, rfl, rfl⟩ := H
   go_enter Try.func43, Try.ntmps43
   go_wp2_with (first | ((with_reducible refine gate_callee (f := 44) rfl ?_); refine goesL_ (some 22) rfl rfl Try.func44 (by kernel_rfl) rfl #[.slice A0 l0.length c0, .int .i64 a1] rfl mpq ?_; (with_reducible refine (runnelref01_Get.calls k _ _ l0 a1 t440 t441 t442 _ ?side1 ?side2 A3.out).mono ?_); (case side1 => repeat (first | exact HR0.out | (with_reducible refine Kd.C_alloc ?_ _) | (with_reducible refine Kd.C_drewN ?_ _) | (with_reducible refine Kd.C_drew ?_))); (case side2 => exact HC0.out); rintro e w6 ⟨rfl, hb⟩; refine ⟨_, rfl, ?_⟩; have n0_ := Aside0.mk (below_step bl hb); clear HB; have HB := n0_; clear n0_; (try clear hb); (try clear hb2); (try clear hk); (try clear hi)))
   go_ret3
   exact ⟨_, erq, nlq, by repeat (first | (with_reducible first | exact HB.out | apply below_alloc | apply pw_below_drewN | apply below_drew1) | exact HB.out)⟩
  ·
   rw [if_neg c5] at H
   have c5b0 : decide (16 < t440) = false := decide_eq_false c5
   clear c5
   have H' := Aside0.mk H
   clear H
   go_enter Try.func43, Try.ntmps43
   go_wp2_with (first | ((with_reducible refine gate_callee (f := 44) rfl ?_); refine goesL_ (some 22) rfl rfl Try.func44 (by kernel_rfl) rfl #[.slice A0 l0.length c0, .int .i64 a1] rfl mpq ?_; (with_reducible refine (runnelref01_Get.calls k _ _ l0 a1 t440 t441 t442 _ ?side1 ?side2 A3.out).mono ?_); (case side1 => repeat (first | exact HR0.out | (with_reducible refine Kd.C_alloc ?_ _) | (with_reducible refine Kd.C_drewN ?_ _) | (with_reducible refine Kd.C_drew ?_))); (case side2 => exact HC0.out); rintro e w7 ⟨rfl, hb⟩; refine ⟨_, rfl, ?_⟩; have n0_ := Aside0.mk (below_step bl hb); clear HB; have HB := n0_; clear n0_; (try clear hb); (try clear hb2); (try clear hk); (try clear hi)))
   go_loopg [8, 10, 11] k (fun kq v8 v10 v11 w' => ∃ (x8_1 : Int) (x10_1 : List (S103)) (x11_1 : Int), v8 = .int .i64 x8_1 ∧ v11 = .int .i64 x11_1 ∧ Aside0 (runnelref03_Get.l0 kq l0 t440 x8_1 x10_1 x11_1 = some (r1, r2, r3)) ∧ Aside0 (kq ≤ k) ∧ Aside0 (Kd.R k103 103 w' w.heap.size (fun _ => True) v10 x10_1) ∧ Aside0 (Below w.heap.size w w'))
   case atStart => exact ⟨(t441), (([] : List (S103))), (0), (by first | rfl | (simp; done) | (simp [*]; done)), (by first | rfl | (simp; done) | (simp [*]; done)), H', ⟨Nat.le_refl _⟩, ⟨nlq⟩, ⟨bl⟩⟩
   case round =>
    clear H'
    (try clear c4); (try clear c4b0); (try clear c4b1); (try clear c5); (try clear c5b0)
    obtain ⟨x8_1, x10_1, x11_1, rfl, rfl, HA, HK1, HO_10, HB⟩ := hrel
    cases gk with
    | zero => exact absurd HA.out (by simp [runnelref03_Get.l0])
    | succ k1 =>
     have H := HA.out
     clear HA
     simp only [runnelref03_Get.l0] at H
     by_cases c8 : x11_1 < (wrap64 (t440))
     ·
      rw [if_pos c8] at H
      have c8b0 : decide (x11_1 < (wrap64 (t440))) = true := decide_eq_true c8
      clear c8
      have HC9 := Aside0.mk H
      clear H
      go_upto_region 10 with (fail)
      go_cut [47] (fun v47 wc => ∃ (kq : Nat) (x47_8 : Bool), v47 = .bool x47_8 ∧ Aside0 (runnelref03_Get.j1 kq l0 t440 x8_1 x10_1 x11_1 x47_8 = some (r1, r2, r3)) ∧ Aside0 (kq ≤ k1) ∧ Aside0 (Kd.R k103 103 wc w.heap.size (fun _ => True) u10 x10_1) ∧ Aside0 (Below w.heap.size w wc))
      case first =>
       have H := HC9.out
       clear HC9
       by_cases c10 : x8_1 ≥ (l0.length : Int)
       ·
        rw [if_pos c10] at H
        have c10b0 : decide ((l0.length : Int) ≤ x8_1) = true := decide_eq_true c10
        clear c10
        (first | rw [c10b0] | (simp only [i64_w, i32_w]; rw [c10b0]) | skip)
        have H' := Aside0.mk H
        clear H
        go_wp2
        go_meet
        case rel => exact ⟨_, (true), (by first | rfl | (simp; done) | (simp [*]; done)), H', ⟨by have := HK1.out; first | omega | exact Nat.le_refl _⟩, ⟨by (with_reducible repeat (first | apply Kd.R_alloc | apply Kd.R_drewN | apply Kd.R_drew)); exact HO_10.out⟩, ⟨bl⟩⟩
       ·
        rw [if_neg c10] at H
        have c10b0 : decide ((l0.length : Int) ≤ x8_1) = false := decide_eq_false c10
        clear c10
        (first | rw [c10b0] | (simp only [i64_w, i32_w]; rw [c10b0]) | skip)
        by_cases c11 : 0 ≤ x8_1
        ·
         rw [if_pos c11] at H
         have c11b0 : decide (0 ≤ x8_1) = true := decide_eq_true c11
         clear c11
         by_cases c12 : x8_1 < (l0.length : Int)
         ·
          rw [if_pos c12] at H
          have c12b0 : decide (x8_1 < (l0.length : Int)) = true := decide_eq_true c12
          clear c12
          have H' := Aside0.mk H
          clear H
          have p443 : 0 ≤ (x8_1 : Int) := of_decide_eq_true (by first | (with_reducible assumption) | assumption)
          have q443 : x8_1 < (l0.length : Int) := of_decide_eq_true (by first | (with_reducible assumption) | assumption)
          obtain ⟨ad443, e443, hx443_0⟩ := Kd.at_int HR0.out x8_1 p443 q443
          cases e443
          replace hx443_0 := bc HB.out hx443_0
          replace p443 := eq_true p443
          replace q443 := eq_true q443
          go_wp2
          go_meet
          case rel => exact ⟨_, (decide ((rd l0 x8_1) > 1)), (by first | rfl | (simp; done) | (simp [*]; done)), H', ⟨by have := HK1.out; first | omega | exact Nat.le_refl _⟩, ⟨by (with_reducible repeat (first | apply Kd.R_alloc | apply Kd.R_drewN | apply Kd.R_drew)); exact HO_10.out⟩, ⟨bl⟩⟩
         ·
          rw [if_neg c12] at H
          exact absurd H (by simp)
        ·
         rw [if_neg c11] at H
         exact absurd H (by simp)
      case rest =>
       clear HC9
       (try clear c4); (try clear c4b0); (try clear c4b1); (try clear c5); (try clear c5b0); (try clear c8); (try clear c8b0)
       obtain ⟨kq, x47_8, rfl, HA, HJ8, HO_10, HB⟩ := hcut
       cases kq with
       | zero => exact absurd HA.out (by simp [runnelref03_Get.j1])
       | succ kj8 =>
        have H := HA.out
        clear HA
        simp only [runnelref03_Get.j1] at H
        by_cases c13 : x47_8 = true
        ·
         subst c13
         have H1 : (some (([] : List (S103)), 0, 6)) = some (r1, r2, r3) := by rw [if_pos rfl] at H; exact H
         clear H
         have H := H1
         clear H1
         simp only [Option.some.injEq, Prod.mk.injEq] at H
         obtain ⟨rfl, rfl, rfl⟩ := H
         go_wp2
         go_ret3
         exact ⟨_, erq, nlq, by repeat (first | (with_reducible first | exact HB.out | apply below_alloc | apply pw_below_drewN | apply below_drew1) | exact HB.out)⟩
        ·
         replace c13 := Bool.eq_false_iff.mpr c13
         subst c13
         have H1 : (if 0 ≤ x8_1 then (if x8_1 < (l0.length : Int) then (if (wrap64 (rd l0 x8_1)) = 0 then ((runnelref01_GetInt.f kj8 l0 (wrap64 (x8_1 + 1))).bind fun bt446 => (if bt446.2.2 = 0 then (if x10_1.length < 4398046511104 then (runnelref03_Get.l0 kj8 l0 t440 bt446.2.1 (x10_1 ++ [(⟨wrap64 (rd l0 x8_1), bt446.1, (⟨#[]⟩ : ByteArray)⟩ : S103)]) (wrap64 (x11_1 + 1))) else (none)) else (some (([] : List (S103)), 0, 6)))) else ((runnelref01_GetText.f kj8 l0 (wrap64 (x8_1 + 1)) 4096).bind fun bt452 => (if bt452.2.2 = 0 then (if x10_1.length < 4398046511104 then (runnelref03_Get.l0 kj8 l0 t440 bt452.2.1 (x10_1 ++ [(⟨wrap64 (rd l0 x8_1), 0, bt452.1⟩ : S103)]) (wrap64 (x11_1 + 1))) else (none)) else (some (([] : List (S103)), 0, 6))))) else (none)) else (none)) = some (r1, r2, r3) := by rw [if_neg (show ¬ (false = true) by decide)] at H; exact H
         clear H
         have H := H1
         clear H1
         by_cases c14 : 0 ≤ x8_1
         ·
          rw [if_pos c14] at H
          have c14b0 : decide (0 ≤ x8_1) = true := decide_eq_true c14
          clear c14
          by_cases c15 : x8_1 < (l0.length : Int)
          ·
           rw [if_pos c15] at H
           have c15b0 : decide (x8_1 < (l0.length : Int)) = true := decide_eq_true c15
           clear c15
           by_cases c16 : (wrap64 (rd l0 x8_1)) = 0
           ·
            rw [if_pos c16] at H
            have c16b0 : ((wrap64 (rd l0 x8_1)) == 0) = true := beq_iff_eq.mpr c16
            have c16b1 : ((wrap64 (rd l0 x8_1)) != 0) = false := bne_eq_false_iff_eq.mpr c16
            clear c16
            replace H := Option.bind_eq_some_iff.mp H
            obtain ⟨⟨t446, t447, t448⟩, A170, H⟩ := H
            replace H : (if t448 = 0 then (if x10_1.length < 4398046511104 then (runnelref03_Get.l0 kj8 l0 t440 t447 (x10_1 ++ [(⟨wrap64 (rd l0 x8_1), t446, (⟨#[]⟩ : ByteArray)⟩ : S103)]) (wrap64 (x11_1 + 1))) else (none)) else (some (([] : List (S103)), 0, 6))) = some (r1, r2, r3) := H
            have A17 := Aside0.mk A170
            clear A170
            by_cases c18 : t448 = 0
            ·
             rw [if_pos c18] at H
             have c18b0 : (t448 == 0) = true := beq_iff_eq.mpr c18
             have c18b1 : (t448 != 0) = false := bne_eq_false_iff_eq.mpr c18
             clear c18
             by_cases c19 : x10_1.length < 4398046511104
             ·
              rw [if_pos c19] at H
              have LMc19 := Aside0.mk c19
              clear c19
              obtain ⟨y449, hy449⟩ : ∃ y_ : List (S103), y_ = (x10_1 ++ [(⟨wrap64 (rd l0 x8_1), t446, (⟨#[]⟩ : ByteArray)⟩ : S103)]) := ⟨_, rfl⟩
              replace H : (runnelref03_Get.l0 kj8 l0 t440 t447 y449 (wrap64 (x11_1 + 1))) = some (r1, r2, r3) := by first | (rw [hy449]; with_reducible exact H) | (have H2_ := (Option.bind_some _ _).symm.trans H; rw [hy449]; with_reducible exact H2_) | (have H2_ := (Option.bind_some _ _).symm.trans H; with_reducible exact H2_) | with_reducible exact H | (rw [hy449]; exact H) | exact H
              have Ny449 := Aside0.mk hy449
              clear hy449
              have H' := Aside0.mk H
              clear H
              have p444 : 0 ≤ (x8_1 : Int) := of_decide_eq_true (by first | (with_reducible assumption) | assumption)
              have q444 : x8_1 < (l0.length : Int) := of_decide_eq_true (by first | (with_reducible assumption) | assumption)
              obtain ⟨ad444, e444, hx444_0⟩ := Kd.at_int HR0.out x8_1 p444 q444
              cases e444
              replace hx444_0 := bc HB.out hx444_0
              replace p444 := eq_true p444
              replace q444 := eq_true q444
              go_wp2_with (first | ((with_reducible refine gate_dst (N := 12) rfl ?_); refine box_event ?hg (N := 12) ?hd (cs := #[.int .i64 0, .int .i64 0, .string (⟨#[]⟩ : ByteArray)]) (t := 103) ?hr ?_; (case hd => rfl); (case hg => rfl); (case hr => first | (go_simp; done) | (go_simp; rfl)); intro gb445 hg w20 hbox hb; have n0_ := Aside0.mk (Kd.R_below (Kd.R_elderB (rp HO_10.out) gb445 (Nat.le_of_eq hg.symm)) hb); have n1_ := Aside0.mk (below_step bl hb); have n2_ := Aside0.mk (hbox); have n3_ := Aside0.mk ((by rw [hg]; exact (below_size bl) : w.heap.size ≤ gb445)); have n4_ := Aside0.mk ((by rw [hg]; exact (below_size bl) : w.heap.size ≤ gb445)); clear HO_10; clear HB; have HO_10 := n0_; have HB := n1_; have BK445 := n2_; have GW445 := n3_; have GE445 := n4_; clear n0_ n1_ n2_ n3_ n4_; clear hb hbox hg; obtain ⟨hcz21_0, hcz21_1, hcz21_2⟩ := cells3 BK445.out; have hfz21_0 := blk_frozen BK445.out 0; have hfz21_1 := blk_frozen BK445.out 1; have hfz21_2 := blk_frozen BK445.out 2) | ((with_reducible refine gate_callee (f := 65) rfl ?_); refine goesL_ (some 61) rfl rfl Try.func65 (by kernel_rfl) rfl #[.slice (some ad444) l0.length c0, .int .i64 (wrap64 (x8_1 + 1))] rfl mpq ?_; (with_reducible refine (runnelref01_GetInt.calls kj8 _ _ l0 (wrap64 (x8_1 + 1)) t446 t447 t448 _ ?side1 ?side2 A17.out).mono ?_); (case side1 => exact Kd.C_below HR0.out bl); (case side2 => exact HC0.out); rintro e w22 ⟨rfl, hb⟩; refine ⟨_, rfl, ?_⟩; have n0_ := Aside0.mk (Kd.R_below (rp (Kd.R_mono (Kd.R_far (p := ⟨gb445, 2, none⟩) (Kd.R_far (p := ⟨gb445, 1, none⟩) (Kd.R_far (p := ⟨gb445, 0, none⟩) (Kd.R_mono HO_10.out (fun k_ hk => (⟨hk, hk.2⟩ : _ ∧ k_ ≠ gb445))) (fun _ hk => hk.2) (.int .i64 (wrap64 (rd l0 x8_1)))) (fun _ hk => hk.2) (.int .i64 0)) (fun _ hk => hk.2) (.string (⟨#[]⟩ : ByteArray))) (fun _ h_ => h_.1))) hb); have n1_ := Aside0.mk (blk_below (g := gb445) (o := .cells #[.int .i64 (wrap64 (rd l0 x8_1)), .int .i64 0, .string (⟨#[]⟩ : ByteArray)] 103 (0, 0)) bk hb); have n2_ := Aside0.mk (below_step bl hb); clear HO_10; clear BK445; clear HB; have HO_10 := n0_; have BK445 := n1_; have HB := n2_; clear n0_ n1_ n2_; (try clear hb); (try clear hb2); (try clear hk); (try clear hi); obtain ⟨hcz23_0, hcz23_1, hcz23_2⟩ := cells3 BK445.out; have hfz23_0 := blk_frozen BK445.out 0; have hfz23_1 := blk_frozen BK445.out 1; have hfz23_2 := blk_frozen BK445.out 2) | ((with_reducible refine gate_builtin (b := .append) (xs := #[.tmp 83, .tmp 85]) rfl ?_); at_builtin; refine Kd.R_append k103 (w0 := w) w.heap.size rfl (.tmp 83) (.tmp 85) 34 103 (.agg #[(.int .i64 0), (.int .i64 0), (.string ⟨#[]⟩)]) 32 rfl Try.underlying34 info103 rfl (by decide) (by omega) u10 x10_1 (⟨wrap64 (rd l0 x8_1), t446, (⟨#[]⟩ : ByteArray)⟩ : S103) [.int .i64 (wrap64 (rd l0 x8_1)), .int .i64 t446, .string (⟨#[]⟩ : ByteArray)] (fun k_ => k_ ≠ gb445) (fun _ => False) rfl (by first | (go_simp; done) | (go_simp; rfl)) ?aP (fun _ hk => hk.elim) ?aF ?aO ?aB ?aS ?aL ?_; (case aP => exact k103_mkM _ _ _ (⟨wrap64 (rd l0 x8_1), t446, (⟨#[]⟩ : ByteArray)⟩ : S103)); (case aB => exact bl); (case aF => exact (fun k_ hk => Kd.freshB (g := gb445) (o := .cells #[.int .i64 (wrap64 (rd l0 x8_1)), .int .i64 t446, .string (⟨#[]⟩ : ByteArray)] 103 (0, 0)) bk k_ hk)); (case aO => exact (rp (Kd.R_mono (Kd.R_far (p := ⟨gb445, 1, none⟩) (Kd.R_mono HO_10.out (fun k_ hk => (⟨hk, hk.2⟩ : _ ∧ k_ ≠ gb445))) (fun _ hk => hk.2) (.int .i64 t446)) (fun _ hk => hk.1.2)))); (case aS => exact (below_size bl)); (case aL => have := LMc19.out; omega); intro v450 w24 ho hb hg hat; rw [← Ny449.out] at ho; have n0_ := Aside0.mk (blk_grown (g := gb445) (o := .cells #[.int .i64 (wrap64 (rd l0 x8_1)), .int .i64 t446, .string (⟨#[]⟩ : ByteArray)] 103 (0, 0)) bk hg (Kd.R_away HO_10.out (fun _ hk => hk.2))); have n1_ := Aside0.mk (hb); have n2_ := Aside0.mk (ho); clear BK445; clear HB; clear HO_10; have BK445 := n0_; have HB := n1_; have HO451 := n2_; clear n0_ n1_ n2_; clear ho hb hg hat))
              go_roundg kj8
              case measure => have := HK1.out; have := HJ8.out; omega
              case rel => exact ⟨(t447), (y449), (wrap64 (x11_1 + 1)), (by first | rfl | (simp; done) | (simp [*]; done)), (by first | rfl | (simp; done) | (simp [*]; done)), H', ⟨by have := HK1.out; have := HJ8.out; omega⟩, ⟨by (with_reducible repeat (first | apply Kd.R_alloc | apply Kd.R_drewN | apply Kd.R_drew)); exact Kd.R_mono HO451.out (fun _ hk => trivial)⟩, ⟨bl⟩⟩
             ·
              rw [if_neg c19] at H
              exact absurd H (by simp)
            ·
             rw [if_neg c18] at H
             have c18b0 : (t448 == 0) = false := beq_eq_false_iff_ne.mpr c18
             have c18b1 : (t448 != 0) = true := bne_iff_ne.mpr c18
             simp only [Option.some.injEq, Prod.mk.injEq] at H
             obtain ⟨rfl, rfl, rfl⟩ := H
             have p444 : 0 ≤ (x8_1 : Int) := of_decide_eq_true (by first | (with_reducible assumption) | assumption)
             have q444 : x8_1 < (l0.length : Int) := of_decide_eq_true (by first | (with_reducible assumption) | assumption)
             obtain ⟨ad444, e444, hx444_0⟩ := Kd.at_int HR0.out x8_1 p444 q444
             cases e444
             replace hx444_0 := bc HB.out hx444_0
             replace p444 := eq_true p444
             replace q444 := eq_true q444
             go_wp2_with (first | ((with_reducible refine gate_dst (N := 12) rfl ?_); refine box_event ?hg (N := 12) ?hd (cs := #[.int .i64 0, .int .i64 0, .string (⟨#[]⟩ : ByteArray)]) (t := 103) ?hr ?_; (case hd => rfl); (case hg => rfl); (case hr => first | (go_simp; done) | (go_simp; rfl)); intro gb445 hg w25 hbox hb; have n0_ := Aside0.mk (Kd.R_below (Kd.R_elderB (rp HO_10.out) gb445 (Nat.le_of_eq hg.symm)) hb); have n1_ := Aside0.mk (below_step bl hb); have n2_ := Aside0.mk (hbox); have n3_ := Aside0.mk ((by rw [hg]; exact (below_size bl) : w.heap.size ≤ gb445)); have n4_ := Aside0.mk ((by rw [hg]; exact (below_size bl) : w.heap.size ≤ gb445)); clear HO_10; clear HB; have HO_10 := n0_; have HB := n1_; have BK445 := n2_; have GW445 := n3_; have GE445 := n4_; clear n0_ n1_ n2_ n3_ n4_; clear hb hbox hg; obtain ⟨hcz26_0, hcz26_1, hcz26_2⟩ := cells3 BK445.out; have hfz26_0 := blk_frozen BK445.out 0; have hfz26_1 := blk_frozen BK445.out 1; have hfz26_2 := blk_frozen BK445.out 2) | ((with_reducible refine gate_callee (f := 65) rfl ?_); refine goesL_ (some 61) rfl rfl Try.func65 (by kernel_rfl) rfl #[.slice (some ad444) l0.length c0, .int .i64 (wrap64 (x8_1 + 1))] rfl mpq ?_; (with_reducible refine (runnelref01_GetInt.calls kj8 _ _ l0 (wrap64 (x8_1 + 1)) t446 t447 t448 _ ?side1 ?side2 A17.out).mono ?_); (case side1 => exact Kd.C_below HR0.out bl); (case side2 => exact HC0.out); rintro e w27 ⟨rfl, hb⟩; refine ⟨_, rfl, ?_⟩; have n0_ := Aside0.mk (Kd.R_below (rp (Kd.R_mono (Kd.R_far (p := ⟨gb445, 2, none⟩) (Kd.R_far (p := ⟨gb445, 1, none⟩) (Kd.R_far (p := ⟨gb445, 0, none⟩) (Kd.R_mono HO_10.out (fun k_ hk => (⟨hk, hk.2⟩ : _ ∧ k_ ≠ gb445))) (fun _ hk => hk.2) (.int .i64 (wrap64 (rd l0 x8_1)))) (fun _ hk => hk.2) (.int .i64 0)) (fun _ hk => hk.2) (.string (⟨#[]⟩ : ByteArray))) (fun _ h_ => h_.1))) hb); have n1_ := Aside0.mk (blk_below (g := gb445) (o := .cells #[.int .i64 (wrap64 (rd l0 x8_1)), .int .i64 0, .string (⟨#[]⟩ : ByteArray)] 103 (0, 0)) bk hb); have n2_ := Aside0.mk (below_step bl hb); clear HO_10; clear BK445; clear HB; have HO_10 := n0_; have BK445 := n1_; have HB := n2_; clear n0_ n1_ n2_; (try clear hb); (try clear hb2); (try clear hk); (try clear hi); obtain ⟨hcz28_0, hcz28_1, hcz28_2⟩ := cells3 BK445.out; obtain ⟨hfz28_0, hfz28_1, hfz28_2⟩ := frz3 BK445.out))
             go_ret3
             exact ⟨_, erq, nlq, by repeat (first | (with_reducible first | exact HB.out | apply below_alloc | apply pw_below_drewN | apply below_drew1 | refine below_set ?_ GE445.out) | exact HB.out)⟩
           ·
            rw [if_neg c16] at H
            have c16b0 : ((wrap64 (rd l0 x8_1)) == 0) = false := beq_eq_false_iff_ne.mpr c16
            have c16b1 : ((wrap64 (rd l0 x8_1)) != 0) = true := bne_iff_ne.mpr c16
            replace H := Option.bind_eq_some_iff.mp H
            obtain ⟨⟨t452, t453, t454⟩, A290, H⟩ := H
            replace H : (if t454 = 0 then (if x10_1.length < 4398046511104 then (runnelref03_Get.l0 kj8 l0 t440 t453 (x10_1 ++ [(⟨wrap64 (rd l0 x8_1), 0, t452⟩ : S103)]) (wrap64 (x11_1 + 1))) else (none)) else (some (([] : List (S103)), 0, 6))) = some (r1, r2, r3) := H
            have A29 := Aside0.mk A290
            clear A290
            by_cases c30 : t454 = 0
            ·
             rw [if_pos c30] at H
             have c30b0 : (t454 == 0) = true := beq_iff_eq.mpr c30
             have c30b1 : (t454 != 0) = false := bne_eq_false_iff_eq.mpr c30
             clear c30
             by_cases c31 : x10_1.length < 4398046511104
             ·
              rw [if_pos c31] at H
              have LMc31 := Aside0.mk c31
              clear c31
              obtain ⟨y455, hy455⟩ : ∃ y_ : List (S103), y_ = (x10_1 ++ [(⟨wrap64 (rd l0 x8_1), 0, t452⟩ : S103)]) := ⟨_, rfl⟩
              replace H : (runnelref03_Get.l0 kj8 l0 t440 t453 y455 (wrap64 (x11_1 + 1))) = some (r1, r2, r3) := by first | (rw [hy455]; with_reducible exact H) | (have H2_ := (Option.bind_some _ _).symm.trans H; rw [hy455]; with_reducible exact H2_) | (have H2_ := (Option.bind_some _ _).symm.trans H; with_reducible exact H2_) | with_reducible exact H | (rw [hy455]; exact H) | exact H
              have Ny455 := Aside0.mk hy455
              clear hy455
              have H' := Aside0.mk H
              clear H
              have p444 : 0 ≤ (x8_1 : Int) := of_decide_eq_true (by first | (with_reducible assumption) | assumption)
              have q444 : x8_1 < (l0.length : Int) := of_decide_eq_true (by first | (with_reducible assumption) | assumption)
              obtain ⟨ad444, e444, hx444_0⟩ := Kd.at_int HR0.out x8_1 p444 q444
              cases e444
              replace hx444_0 := bc HB.out hx444_0
              replace p444 := eq_true p444
              replace q444 := eq_true q444
              go_wp2_with (first | ((with_reducible refine gate_dst (N := 12) rfl ?_); refine box_event ?hg (N := 12) ?hd (cs := #[.int .i64 0, .int .i64 0, .string (⟨#[]⟩ : ByteArray)]) (t := 103) ?hr ?_; (case hd => rfl); (case hg => rfl); (case hr => first | (go_simp; done) | (go_simp; rfl)); intro gb445 hg w32 hbox hb; have n0_ := Aside0.mk (Kd.R_below (Kd.R_elderB (rp HO_10.out) gb445 (Nat.le_of_eq hg.symm)) hb); have n1_ := Aside0.mk (below_step bl hb); have n2_ := Aside0.mk (hbox); have n3_ := Aside0.mk ((by rw [hg]; exact (below_size bl) : w.heap.size ≤ gb445)); have n4_ := Aside0.mk ((by rw [hg]; exact (below_size bl) : w.heap.size ≤ gb445)); clear HO_10; clear HB; have HO_10 := n0_; have HB := n1_; have BK445 := n2_; have GW445 := n3_; have GE445 := n4_; clear n0_ n1_ n2_ n3_ n4_; clear hb hbox hg; obtain ⟨hcz33_0, hcz33_1, hcz33_2⟩ := cells3 BK445.out; have hfz33_0 := blk_frozen BK445.out 0; have hfz33_1 := blk_frozen BK445.out 1; have hfz33_2 := blk_frozen BK445.out 2) | ((with_reducible refine gate_callee (f := 41) rfl ?_); refine goesL_ (some 73) rfl rfl Try.func41 (by kernel_rfl) rfl #[.slice (some ad444) l0.length c0, .int .i64 (wrap64 (x8_1 + 1)), .int .i64 4096] rfl mpq ?_; (with_reducible refine (runnelref01_GetText.calls kj8 _ _ l0 (wrap64 (x8_1 + 1)) 4096 t452 t453 t454 _ ?side1 ?side2 A29.out).mono ?_); (case side1 => exact Kd.C_below HR0.out bl); (case side2 => exact HC0.out); rintro e w34 ⟨rfl, hb⟩; refine ⟨_, rfl, ?_⟩; have n0_ := Aside0.mk (Kd.R_below (rp (Kd.R_mono (Kd.R_far (p := ⟨gb445, 2, none⟩) (Kd.R_far (p := ⟨gb445, 1, none⟩) (Kd.R_far (p := ⟨gb445, 0, none⟩) (Kd.R_mono HO_10.out (fun k_ hk => (⟨hk, hk.2⟩ : _ ∧ k_ ≠ gb445))) (fun _ hk => hk.2) (.int .i64 (wrap64 (rd l0 x8_1)))) (fun _ hk => hk.2) (.int .i64 0)) (fun _ hk => hk.2) (.string (⟨#[]⟩ : ByteArray))) (fun _ h_ => h_.1))) hb); have n1_ := Aside0.mk (blk_below (g := gb445) (o := .cells #[.int .i64 (wrap64 (rd l0 x8_1)), .int .i64 0, .string (⟨#[]⟩ : ByteArray)] 103 (0, 0)) bk hb); have n2_ := Aside0.mk (below_step bl hb); clear HO_10; clear BK445; clear HB; have HO_10 := n0_; have BK445 := n1_; have HB := n2_; clear n0_ n1_ n2_; (try clear hb); (try clear hb2); (try clear hk); (try clear hi); obtain ⟨hcz35_0, hcz35_1, hcz35_2⟩ := cells3 BK445.out; have hfz35_0 := blk_frozen BK445.out 0; have hfz35_1 := blk_frozen BK445.out 1; have hfz35_2 := blk_frozen BK445.out 2) | ((with_reducible refine gate_builtin (b := .append) (xs := #[.tmp 83, .tmp 85]) rfl ?_); at_builtin; refine Kd.R_append k103 (w0 := w) w.heap.size rfl (.tmp 83) (.tmp 85) 34 103 (.agg #[(.int .i64 0), (.int .i64 0), (.string ⟨#[]⟩)]) 32 rfl Try.underlying34 info103 rfl (by decide) (by omega) u10 x10_1 (⟨wrap64 (rd l0 x8_1), 0, t452⟩ : S103) [.int .i64 (wrap64 (rd l0 x8_1)), .int .i64 0, .string t452] (fun k_ => k_ ≠ gb445) (fun _ => False) rfl (by first | (go_simp; done) | (go_simp; rfl)) ?aP (fun _ hk => hk.elim) ?aF ?aO ?aB ?aS ?aL ?_; (case aP => exact k103_mkM _ _ _ (⟨wrap64 (rd l0 x8_1), 0, t452⟩ : S103)); (case aB => exact bl); (case aF => exact (fun k_ hk => Kd.freshB (g := gb445) (o := .cells #[.int .i64 (wrap64 (rd l0 x8_1)), .int .i64 0, .string t452] 103 (0, 0)) bk k_ hk)); (case aO => exact (rp (Kd.R_mono (Kd.R_far (p := ⟨gb445, 2, none⟩) (Kd.R_mono HO_10.out (fun k_ hk => (⟨hk, hk.2⟩ : _ ∧ k_ ≠ gb445))) (fun _ hk => hk.2) (.string t452)) (fun _ hk => hk.1.2)))); (case aS => exact (below_size bl)); (case aL => have := LMc31.out; omega); intro v456 w36 ho hb hg hat; rw [← Ny455.out] at ho; have n0_ := Aside0.mk (blk_grown (g := gb445) (o := .cells #[.int .i64 (wrap64 (rd l0 x8_1)), .int .i64 0, .string t452] 103 (0, 0)) bk hg (Kd.R_away HO_10.out (fun _ hk => hk.2))); have n1_ := Aside0.mk (hb); have n2_ := Aside0.mk (ho); clear BK445; clear HB; clear HO_10; have BK445 := n0_; have HB := n1_; have HO457 := n2_; clear n0_ n1_ n2_; clear ho hb hg hat))
              go_roundg kj8
              case measure => have := HK1.out; have := HJ8.out; omega
              case rel => exact ⟨(t453), (y455), (wrap64 (x11_1 + 1)), (by first | rfl | (simp; done) | (simp [*]; done)), (by first | rfl | (simp; done) | (simp [*]; done)), H', ⟨by have := HK1.out; have := HJ8.out; omega⟩, ⟨by (with_reducible repeat (first | apply Kd.R_alloc | apply Kd.R_drewN | apply Kd.R_drew)); exact Kd.R_mono HO457.out (fun _ hk => trivial)⟩, ⟨bl⟩⟩
             ·
              rw [if_neg c31] at H
              exact absurd H (by simp)
            ·
             rw [if_neg c30] at H
             have c30b0 : (t454 == 0) = false := beq_eq_false_iff_ne.mpr c30
             have c30b1 : (t454 != 0) = true := bne_iff_ne.mpr c30
             simp only [Option.some.injEq, Prod.mk.injEq] at H
             obtain ⟨rfl, rfl, rfl⟩ := H
             have p444 : 0 ≤ (x8_1 : Int) := of_decide_eq_true (by first | (with_reducible assumption) | assumption)
             have q444 : x8_1 < (l0.length : Int) := of_decide_eq_true (by first | (with_reducible assumption) | assumption)
             obtain ⟨ad444, e444, hx444_0⟩ := Kd.at_int HR0.out x8_1 p444 q444
             cases e444
             replace hx444_0 := bc HB.out hx444_0
             replace p444 := eq_true p444
             replace q444 := eq_true q444
             go_wp2_with (first | ((with_reducible refine gate_dst (N := 12) rfl ?_); refine box_event ?hg (N := 12) ?hd (cs := #[.int .i64 0, .int .i64 0, .string (⟨#[]⟩ : ByteArray)]) (t := 103) ?hr ?_; (case hd => rfl); (case hg => rfl); (case hr => first | (go_simp; done) | (go_simp; rfl)); intro gb445 hg w37 hbox hb; have n0_ := Aside0.mk (Kd.R_below (Kd.R_elderB (rp HO_10.out) gb445 (Nat.le_of_eq hg.symm)) hb); have n1_ := Aside0.mk (below_step bl hb); have n2_ := Aside0.mk (hbox); have n3_ := Aside0.mk ((by rw [hg]; exact (below_size bl) : w.heap.size ≤ gb445)); have n4_ := Aside0.mk ((by rw [hg]; exact (below_size bl) : w.heap.size ≤ gb445)); clear HO_10; clear HB; have HO_10 := n0_; have HB := n1_; have BK445 := n2_; have GW445 := n3_; have GE445 := n4_; clear n0_ n1_ n2_ n3_ n4_; clear hb hbox hg; obtain ⟨hcz38_0, hcz38_1, hcz38_2⟩ := cells3 BK445.out; have hfz38_0 := blk_frozen BK445.out 0; have hfz38_1 := blk_frozen BK445.out 1; have hfz38_2 := blk_frozen BK445.out 2) | ((with_reducible refine gate_callee (f := 41) rfl ?_); refine goesL_ (some 73) rfl rfl Try.func41 (by kernel_rfl) rfl #[.slice (some ad444) l0.length c0, .int .i64 (wrap64 (x8_1 + 1)), .int .i64 4096] rfl mpq ?_; (with_reducible refine (runnelref01_GetText.calls kj8 _ _ l0 (wrap64 (x8_1 + 1)) 4096 t452 t453 t454 _ ?side1 ?side2 A29.out).mono ?_); (case side1 => exact Kd.C_below HR0.out bl); (case side2 => exact HC0.out); rintro e w39 ⟨rfl, hb⟩; refine ⟨_, rfl, ?_⟩; have n0_ := Aside0.mk (Kd.R_below (rp (Kd.R_mono (Kd.R_far (p := ⟨gb445, 2, none⟩) (Kd.R_far (p := ⟨gb445, 1, none⟩) (Kd.R_far (p := ⟨gb445, 0, none⟩) (Kd.R_mono HO_10.out (fun k_ hk => (⟨hk, hk.2⟩ : _ ∧ k_ ≠ gb445))) (fun _ hk => hk.2) (.int .i64 (wrap64 (rd l0 x8_1)))) (fun _ hk => hk.2) (.int .i64 0)) (fun _ hk => hk.2) (.string (⟨#[]⟩ : ByteArray))) (fun _ h_ => h_.1))) hb); have n1_ := Aside0.mk (blk_below (g := gb445) (o := .cells #[.int .i64 (wrap64 (rd l0 x8_1)), .int .i64 0, .string (⟨#[]⟩ : ByteArray)] 103 (0, 0)) bk hb); have n2_ := Aside0.mk (below_step bl hb); clear HO_10; clear BK445; clear HB; have HO_10 := n0_; have BK445 := n1_; have HB := n2_; clear n0_ n1_ n2_; (try clear hb); (try clear hb2); (try clear hk); (try clear hi); obtain ⟨hcz40_0, hcz40_1, hcz40_2⟩ := cells3 BK445.out; obtain ⟨hfz40_0, hfz40_1, hfz40_2⟩ := frz3 BK445.out))
             go_ret3
             exact ⟨_, erq, nlq, by repeat (first | (with_reducible first | exact HB.out | apply below_alloc | apply pw_below_drewN | apply below_drew1 | refine below_set ?_ GE445.out) | exact HB.out)⟩
          ·
           rw [if_neg c15] at H
           exact absurd H (by simp)
         ·
          rw [if_neg c14] at H
          exact absurd H (by simp)
     ·
      rw [if_neg c8] at H
      have c8b0 : decide (x11_1 < (wrap64 (t440))) = false := decide_eq_false c8
      clear c8
      simp only [Option.some.injEq, Prod.mk.injEq] at H
      obtain ⟨rfl, rfl, rfl⟩ := H
      go_wp2
      go_ret3
      exact ⟨_, erq, by (with_reducible repeat (first | apply Kd.R_alloc | apply Kd.R_drewN | apply Kd.R_drew)); exact HO_10.out, by repeat (first | (with_reducible first | exact HB.out | apply below_alloc | apply pw_below_drewN | apply below_drew1) | exact HB.out)⟩
 ·
  rw [if_neg c4] at H
  have c4b0 : (t442 == 0) = false := beq_eq_false_iff_ne.mpr c4
  have c4b1 : (t442 != 0) = true := bne_iff_ne.mpr c4
  simp only [Option.some.injEq, Prod.mk.injEq] at H
  obtain ⟨rfl, rfl, rfl⟩ := H
  go_enter Try.func43, Try.ntmps43
  go_wp2_with (first | ((with_reducible refine gate_callee (f := 44) rfl ?_); refine goesL_ (some 22) rfl rfl Try.func44 (by kernel_rfl) rfl #[.slice A0 l0.length c0, .int .i64 a1] rfl mpq ?_; (with_reducible refine (runnelref01_Get.calls k _ _ l0 a1 t440 t441 t442 _ ?side1 ?side2 A3.out).mono ?_); (case side1 => repeat (first | exact HR0.out | (with_reducible refine Kd.C_alloc ?_ _) | (with_reducible refine Kd.C_drewN ?_ _) | (with_reducible refine Kd.C_drew ?_))); (case side2 => exact HC0.out); rintro e w41 ⟨rfl, hb⟩; refine ⟨_, rfl, ?_⟩; have n0_ := Aside0.mk (below_step bl hb); clear HB; have HB := n0_; clear n0_; (try clear hb); (try clear hb2); (try clear hk); (try clear hi)))
  go_ret3
  exact ⟨_, erq, nlq, by repeat (first | (with_reducible first | exact HB.out | apply below_alloc | apply pw_below_drewN | apply below_drew1) | exact HB.out)⟩

end Go.Proofs.Ytpplklickfioiaa.PWireDecodes
