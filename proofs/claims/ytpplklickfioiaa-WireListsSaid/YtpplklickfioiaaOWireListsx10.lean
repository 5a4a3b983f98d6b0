/- One piece of the machine's side of the law, written by a program over the translation; Lean checks it. -/
import Derived.Test.YtpplklickfioiaaOWireListsx0
import Derived.Test.YtpplklickfioiaaOWireListsx2
import Derived.Test.YtpplklickfioiaaOWireListsx4
import Derived.Test.YtpplklickfioiaaShort
namespace Go.Proofs.Ytpplklickfioiaa.PWireLists
open Go.RowKit Go.Proofs.YtpplklickfioiaaW.PrintWords Go.Proofs.YtpplklickfioiaaW.PrintLast Go.Proofs.YtpplklickfioiaaW.PrintMore
attribute [local go_sem] max2_int min2_int max_two min_two max_three min_three max_four min_four   -- for this text's walks alone
set_option linter.unusedVariables false
set_option linter.unusedSimpArgs false

/-! ### runnelref03_Long: function 46 -/
def runnelref03_Long.l0 : Nat → List (S103) → Int → Option (Bool)
 | 0, _, _ => none
 | k + 1, x0, x3 => if x3 < (x0.length : Int) then (if 0 ≤ x3 then (if (((rd_T103 x0 x3).f2).size : Int) > 5000 then (some true) else (runnelref03_Long.l0 k x0 (wrap64 (x3 + 1)))) else (none)) else (some false)
def runnelref03_Long.f (k : Nat) (l0 : List (S103)) : Option (Bool) := if (l0.length : Int) > 30 then (some true) else (runnelref03_Long.l0 k l0 0)
theorem runnelref03_Long.mono_l : ∀ k, (∀ y0 y1, LeO (runnelref03_Long.l0 k y0 y1) (runnelref03_Long.l0 (k + 1) y0 y1))
 | 0 => fun _ _ r h => by simp [runnelref03_Long.l0] at h
 | k + 1 => by
  have ih0 := runnelref03_Long.mono_l k
  ·
   intro y0 y1
   unfold runnelref03_Long.l0
   repeat' first
   | (with_reducible exact ih0 _ _)
   | (with_reducible exact LeO.refl _)
   | (with_reducible exact LeO.none _)
   | (with_reducible refine LeO.ite ?_ ?_)
   | (with_reducible refine LeO.bind ?_ (fun _ => ?_))
   | exact ih0 _ _
   | exact LeO.none _
   | refine LeO.ite ?_ ?_
   | refine LeO.bind ?_ (fun _ => ?_)
theorem runnelref03_Long.mono : ∀ a0 k, LeO (runnelref03_Long.f k a0) (runnelref03_Long.f (k + 1) a0) := by
 intro a0 k
 have ih0 := runnelref03_Long.mono_l k
 unfold runnelref03_Long.f
 repeat' first
   | (with_reducible exact ih0 _ _)
   | (with_reducible exact LeO.refl _)
   | (with_reducible exact LeO.none _)
   | (with_reducible refine LeO.ite ?_ ?_)
   | (with_reducible refine LeO.bind ?_ (fun _ => ?_))
   | exact ih0 _ _
   | exact LeO.none _
   | refine LeO.ite ?_ ?_
   | refine LeO.bind ?_ (fun _ => ?_)
set_option maxHeartbeats 8000000 in
set_option maxRecDepth 100000 in
theorem runnelref03_Long.calls (k : Nat) (A0 : Option Addr) (c0 : Nat) (l0 : List (S103)) (r : Bool) (w : World) (hr0 : Kd.C k103 w A0 l0.length l0) (hc0 : l0.length ≤ c0) (h : runnelref03_Long.f k l0 = some r) :
  Calls Try.prog 46 #[.slice A0 l0.length c0] w fun e w' => e = .returned (.bool r) ∧ Drawn0 w w' := by
 have HR0 := Aside0.mk hr0
 have HC0 := Aside0.mk hc0
 clear hr0 hc0
 have H : (if (l0.length : Int) > 30 then (some true) else (runnelref03_Long.l0 k l0 0)) = some r := h
 clear h
 by_cases c2 : (l0.length : Int) > 30
 ·
  rw [if_pos c2] at H
  have c2b0 : decide (30 < (l0.length : Int)) = true := decide_eq_true c2
  have c2b1 : decide (30 < l0.length) = true := decide_eq_true (by omega)
  clear c2
  obtain rfl := Option.some.inj H
  go_enter Try.func46, Try.ntmps46
  go_wp2
  go_ret
  exact ⟨by first | rfl | (simp; done) | (simp [*]; done), by repeat (first | exact Drawn0.refl _ | apply Drawn0.step)⟩
 ·
  rw [if_neg c2] at H
  have c2b0 : decide (30 < (l0.length : Int)) = false := decide_eq_false c2
  have c2b1 : decide (30 < l0.length) = false := decide_eq_false (by omega)
  clear c2
  have H' := Aside0.mk H
  clear H
  go_enter Try.func46, Try.ntmps46
  go_wp2
  go_loopg [3] k (fun kq v3 w' => ∃ (x3_1 : Int), v3 = .int .i64 x3_1 ∧ Aside0 (runnelref03_Long.l0 kq l0 x3_1 = some r) ∧ Aside0 (kq ≤ k) ∧ Drawn0 w w')
  case atStart => exact ⟨(0), (by first | rfl | (simp; done) | (simp [*]; done)), H', ⟨Nat.le_refl _⟩, by repeat (first | exact Drawn0.refl _ | apply Drawn0.step)⟩
  case round =>
   clear H'
   (try clear c2); (try clear c2b0); (try clear c2b1)
   obtain ⟨x3_1, rfl, HA, HK1, ⟨m1, rfl⟩⟩ := hrel
   cases gk with
   | zero => exact absurd HA.out (by simp [runnelref03_Long.l0])
   | succ k1 =>
    have H := HA.out
    clear HA
    simp only [runnelref03_Long.l0] at H
    by_cases c3 : x3_1 < (l0.length : Int)
    ·
     rw [if_pos c3] at H
     have c3b0 : decide (x3_1 < (l0.length : Int)) = true := decide_eq_true c3
     clear c3
     by_cases c4 : 0 ≤ x3_1
     ·
      rw [if_pos c4] at H
      have c4b0 : decide (0 ≤ x3_1) = true := decide_eq_true c4
      clear c4
      by_cases c5 : (((rd_T103 l0 x3_1).f2).size : Int) > 5000
      ·
       rw [if_pos c5] at H
       have c5b0 : decide (5000 < (((rd_T103 l0 x3_1).f2).size : Int)) = true := decide_eq_true c5
       have c5b1 : decide (5000 < ((rd_T103 l0 x3_1).f2).size) = true := decide_eq_true (by omega)
       clear c5
       obtain rfl := Option.some.inj H
       have p269 : 0 ≤ (x3_1 : Int) := of_decide_eq_true (by first | (with_reducible assumption) | assumption)
       have q269 : x3_1 < (l0.length : Int) := of_decide_eq_true (by first | (with_reducible assumption) | assumption)
       obtain ⟨ad269, e269, hx269_0, hx269_1, hx269_2⟩ := at_T103 HR0.out x3_1 p269 q269
       cases e269
       replace p269 := eq_true p269
       replace q269 := eq_true q269
       go_wp2
       go_ret
       exact ⟨by first | rfl | (simp; done) | (simp [*]; done), by repeat (first | exact Drawn0.refl _ | apply Drawn0.step)⟩
      ·
       rw [if_neg c5] at H
       have c5b0 : decide (5000 < (((rd_T103 l0 x3_1).f2).size : Int)) = false := decide_eq_false c5
       have c5b1 : decide (5000 < ((rd_T103 l0 x3_1).f2).size) = false := decide_eq_false (by omega)
       clear c5
       have H' := Aside0.mk H
       clear H
       have p269 : 0 ≤ (x3_1 : Int) := of_decide_eq_true (by first | (with_reducible assumption) | assumption)
       have q269 : x3_1 < (l0.length : Int) := of_decide_eq_true (by first | (with_reducible assumption) | assumption)
       obtain ⟨ad269, e269, hx269_0, hx269_1, hx269_2⟩ := at_T103 HR0.out x3_1 p269 q269
       cases e269
       replace p269 := eq_true p269
       replace q269 := eq_true q269
       go_wp2
       go_roundg k1
       case measure => have := HK1.out; omega
       case rel => exact ⟨(wrap64 (x3_1 + 1)), (by first | rfl | (simp; done) | (simp [*]; done)), H', ⟨by have := HK1.out; omega⟩, by repeat (first | exact Drawn0.refl _ | apply Drawn0.step)⟩
     ·
      rw [if_neg c4] at H
      exact absurd H (by simp)
    ·
     rw [if_neg c3] at H
     have c3b0 : decide (x3_1 < (l0.length : Int)) = false := decide_eq_false c3
     clear c3
     obtain rfl := Option.some.inj H
     go_wp2
     go_ret
     exact ⟨by first | rfl | (simp; done) | (simp [*]; done), by repeat (first | exact Drawn0.refl _ | apply Drawn0.step)⟩

/-! ### runnelref26_Much: function 18 -/
def runnelref26_Much.l0 : Nat → List (S40) → Int → Option (Bool)
 | 0, _, _ => none
 | k + 1, x0, x3 => if x3 < (x0.length : Int) then (if 0 ≤ x3 then ((runnelref03_Long.f k ((rd_T40 x0 x3).f2.f0)).bind fun t271 => (if t271 = true then (some true) else (if (((rd_T40 x0 x3).f3).length : Int) > 30 then (some true) else (if (((rd_T40 x0 x3).f5).length : Int) > 70000 then (some true) else (runnelref26_Much.l0 k x0 (wrap64 (x3 + 1))))))) else (none)) else (some false)
def runnelref26_Much.f (k : Nat) (l0 : List (S40)) : Option (Bool) := if (l0.length : Int) > 100 then (some true) else (runnelref26_Much.l0 k l0 0)
theorem runnelref26_Much.mono_l : ∀ k, (∀ y0 y1, LeO (runnelref26_Much.l0 k y0 y1) (runnelref26_Much.l0 (k + 1) y0 y1))
 | 0 => fun _ _ r h => by simp [runnelref26_Much.l0] at h
 | k + 1 => by
  have ih0 := runnelref26_Much.mono_l k
  ·
   intro y0 y1
   unfold runnelref26_Much.l0
   repeat' first
   | (with_reducible exact ih0 _ _)
   | (with_reducible exact runnelref03_Long.mono _ _)
   | (with_reducible exact LeO.refl _)
   | (with_reducible exact LeO.none _)
   | (with_reducible refine LeO.ite ?_ ?_)
   | (with_reducible refine LeO.bind ?_ (fun _ => ?_))
   | exact ih0 _ _
   | exact runnelref03_Long.mono _ _
   | exact LeO.none _
   | refine LeO.ite ?_ ?_
   | refine LeO.bind ?_ (fun _ => ?_)
theorem runnelref26_Much.mono : ∀ a0 k, LeO (runnelref26_Much.f k a0) (runnelref26_Much.f (k + 1) a0) := by
 intro a0 k
 have ih0 := runnelref26_Much.mono_l k
 unfold runnelref26_Much.f
 repeat' first
   | (with_reducible exact ih0 _ _)
   | (with_reducible exact runnelref03_Long.mono _ _)
   | (with_reducible exact LeO.refl _)
   | (with_reducible exact LeO.none _)
   | (with_reducible refine LeO.ite ?_ ?_)
   | (with_reducible refine LeO.bind ?_ (fun _ => ?_))
   | exact ih0 _ _
   | exact runnelref03_Long.mono _ _
   | exact LeO.none _
   | refine LeO.ite ?_ ?_
   | refine LeO.bind ?_ (fun _ => ?_)
set_option maxHeartbeats 8000000 in
set_option maxRecDepth 100000 in
theorem runnelref26_Much.calls (k : Nat) (A0 : Option Addr) (c0 : Nat) (l0 : List (S40)) (r : Bool) (w : World) (hr0 : Kd.C k40 w A0 l0.length l0) (hc0 : l0.length ≤ c0) (h : runnelref26_Much.f k l0 = some r) :
  Calls Try.prog 18 #[.slice A0 l0.length c0] w fun e w' => e = .returned (.bool r) ∧ Drawn0 w w' := by
 have HR0 := Aside0.mk hr0
 have HC0 := Aside0.mk hc0
 clear hr0 hc0
 have H : (if (l0.length : Int) > 100 then (some true) else (runnelref26_Much.l0 k l0 0)) = some r := h
 clear h
 by_cases c2 : (l0.length : Int) > 100
 ·
  rw [if_pos c2] at H
  have c2b0 : decide (100 < (l0.length : Int)) = true := decide_eq_true c2
  have c2b1 : decide (100 < l0.length) = true := decide_eq_true (by omega)
  clear c2
  obtain rfl := Option.some.inj H
  go_enter Try.func18, Try.ntmps18
  go_wp2
  go_ret
  exact ⟨by first | rfl | (simp; done) | (simp [*]; done), by repeat (first | exact Drawn0.refl _ | apply Drawn0.step)⟩
 ·
  rw [if_neg c2] at H
  have c2b0 : decide (100 < (l0.length : Int)) = false := decide_eq_false c2
  have c2b1 : decide (100 < l0.length) = false := decide_eq_false (by omega)
  clear c2
  have H' := Aside0.mk H
  clear H
  go_enter Try.func18, Try.ntmps18
  go_wp2
  go_loopg [3] k (fun kq v3 w' => ∃ (x3_1 : Int), v3 = .int .i64 x3_1 ∧ Aside0 (runnelref26_Much.l0 kq l0 x3_1 = some r) ∧ Aside0 (kq ≤ k) ∧ Drawn0 w w')
  case atStart => exact ⟨(0), (by first | rfl | (simp; done) | (simp [*]; done)), H', ⟨Nat.le_refl _⟩, by repeat (first | exact Drawn0.refl _ | apply Drawn0.step)⟩
  case round =>
   clear H'
   (try clear c2); (try clear c2b0); (try clear c2b1)
   obtain ⟨x3_1, rfl, HA, HK1, ⟨m1, rfl⟩⟩ := hrel
   cases gk with
   | zero => exact absurd HA.out (by simp [runnelref26_Much.l0])
   | succ k1 =>
    have H := HA.out
    clear HA
    simp only [runnelref26_Much.l0] at H
    by_cases c3 : x3_1 < (l0.length : Int)
    ·
     rw [if_pos c3] at H
     have c3b0 : decide (x3_1 < (l0.length : Int)) = true := decide_eq_true c3
     clear c3
     by_cases c4 : 0 ≤ x3_1
     ·
      rw [if_pos c4] at H
      have c4b0 : decide (0 ≤ x3_1) = true := decide_eq_true c4
      clear c4
      replace H := Option.bind_eq_some_iff.mp H
      obtain ⟨t271, A50, H⟩ := H
      replace H : (if t271 = true then (some true) else (if (((rd_T40 l0 x3_1).f3).length : Int) > 30 then (some true) else (if (((rd_T40 l0 x3_1).f5).length : Int) > 70000 then (some true) else (runnelref26_Much.l0 k1 l0 (wrap64 (x3_1 + 1)))))) = some r := H
      have A5 := Aside0.mk A50
      clear A50
      by_cases c6 : t271 = true
      ·
       subst c6
       have H1 : (some true) = some r := by rw [if_pos rfl] at H; exact H
       clear H
       have H := H1
       clear H1
       obtain rfl := Option.some.inj H
       have p270 : 0 ≤ (x3_1 : Int) := of_decide_eq_true (by first | (with_reducible assumption) | assumption)
       have q270 : x3_1 < (l0.length : Int) := of_decide_eq_true (by first | (with_reducible assumption) | assumption)
       obtain ⟨ad270, A270_2, c270_2, A270_6, c270_6, A270_8, c270_8, e270, hx270_0, hx270_1, hx270_2, hx270_3, hx270_4, hx270_5, hx270_6, hx270_7, hx270_8, hl270_2, hi270_2, hl270_6, hi270_6, hl270_8, hi270_8⟩ := at_T40 HR0.out x3_1 p270 q270
       cases e270
       have HR270_2 := Aside0.mk hi270_2
       have HC270_2 := Aside0.mk hl270_2
       clear hi270_2 hl270_2
       have HR270_6 := Aside0.mk hi270_6
       have HC270_6 := Aside0.mk hl270_6
       clear hi270_6 hl270_6
       have HR270_8 := Aside0.mk hi270_8
       have HC270_8 := Aside0.mk hl270_8
       clear hi270_8 hl270_8
       replace p270 := eq_true p270
       replace q270 := eq_true q270
       go_wp2_with (first | ((with_reducible refine gate_callee (f := 46) rfl ?_); refine goesL_ (some 19) rfl rfl Try.func46 (by kernel_rfl) rfl #[.slice A270_2 ((rd_T40 l0 x3_1).f2.f0).length c270_2] rfl mpq ?_; (with_reducible refine (runnelref03_Long.calls k1 _ _ ((rd_T40 l0 x3_1).f2.f0) true _ ?side1 ?side2 A5.out).mono ?_); (case side1 => repeat (first | exact HR270_2.out | (with_reducible refine Kd.C_alloc ?_ _) | (with_reducible refine Kd.C_drewN ?_ _) | (with_reducible refine Kd.C_drew ?_))); (case side2 => exact HC270_2.out); rintro e w' ⟨rfl, ⟨nd, rfl⟩⟩; refine ⟨_, rfl, ?_⟩))
       go_ret
       exact ⟨by first | rfl | (simp; done) | (simp [*]; done), by repeat (first | exact Drawn0.refl _ | apply Drawn0.step)⟩
      ·
       replace c6 := Bool.eq_false_iff.mpr c6
       subst c6
       have H1 : (if (((rd_T40 l0 x3_1).f3).length : Int) > 30 then (some true) else (if (((rd_T40 l0 x3_1).f5).length : Int) > 70000 then (some true) else (runnelref26_Much.l0 k1 l0 (wrap64 (x3_1 + 1))))) = some r := by rw [if_neg (show ¬ (false = true) by decide)] at H; exact H
       clear H
       have H := H1
       clear H1
       by_cases c7 : (((rd_T40 l0 x3_1).f3).length : Int) > 30
       ·
        rw [if_pos c7] at H
        have c7b0 : decide (30 < (((rd_T40 l0 x3_1).f3).length : Int)) = true := decide_eq_true c7
        have c7b1 : decide (30 < ((rd_T40 l0 x3_1).f3).length) = true := decide_eq_true (by omega)
        clear c7
        obtain rfl := Option.some.inj H
        have p270 : 0 ≤ (x3_1 : Int) := of_decide_eq_true (by first | (with_reducible assumption) | assumption)
        have q270 : x3_1 < (l0.length : Int) := of_decide_eq_true (by first | (with_reducible assumption) | assumption)
        obtain ⟨ad270, A270_2, c270_2, A270_6, c270_6, A270_8, c270_8, e270, hx270_0, hx270_1, hx270_2, hx270_3, hx270_4, hx270_5, hx270_6, hx270_7, hx270_8, hl270_2, hi270_2, hl270_6, hi270_6, hl270_8, hi270_8⟩ := at_T40 HR0.out x3_1 p270 q270
        cases e270
        have HR270_2 := Aside0.mk hi270_2
        have HC270_2 := Aside0.mk hl270_2
        clear hi270_2 hl270_2
        have HR270_6 := Aside0.mk hi270_6
        have HC270_6 := Aside0.mk hl270_6
        clear hi270_6 hl270_6
        have HR270_8 := Aside0.mk hi270_8
        have HC270_8 := Aside0.mk hl270_8
        clear hi270_8 hl270_8
        replace p270 := eq_true p270
        replace q270 := eq_true q270
        go_wp2_with (first | ((with_reducible refine gate_callee (f := 46) rfl ?_); refine goesL_ (some 19) rfl rfl Try.func46 (by kernel_rfl) rfl #[.slice A270_2 ((rd_T40 l0 x3_1).f2.f0).length c270_2] rfl mpq ?_; (with_reducible refine (runnelref03_Long.calls k1 _ _ ((rd_T40 l0 x3_1).f2.f0) false _ ?side1 ?side2 A5.out).mono ?_); (case side1 => repeat (first | exact HR270_2.out | (with_reducible refine Kd.C_alloc ?_ _) | (with_reducible refine Kd.C_drewN ?_ _) | (with_reducible refine Kd.C_drew ?_))); (case side2 => exact HC270_2.out); rintro e w' ⟨rfl, ⟨nd, rfl⟩⟩; refine ⟨_, rfl, ?_⟩; have p272 : 0 ≤ (x3_1 : Int) := of_decide_eq_true (by first | (with_reducible assumption) | assumption); have q272 : x3_1 < (l0.length : Int) := of_decide_eq_true (by first | (with_reducible assumption) | assumption); obtain ⟨ad272, A272_2, c272_2, A272_6, c272_6, A272_8, c272_8, e272, hx272_0, hx272_1, hx272_2, hx272_3, hx272_4, hx272_5, hx272_6, hx272_7, hx272_8, hl272_2, hi272_2, hl272_6, hi272_6, hl272_8, hi272_8⟩ := at_T40 HR0.out x3_1 p272 q272; obtain rfl : ad270 = ad272 := (by injection e272); have HR272_2 := Aside0.mk hi272_2; have HC272_2 := Aside0.mk hl272_2; clear hi272_2 hl272_2; have HR272_6 := Aside0.mk hi272_6; have HC272_6 := Aside0.mk hl272_6; clear hi272_6 hl272_6; have HR272_8 := Aside0.mk hi272_8; have HC272_8 := Aside0.mk hl272_8; clear hi272_8 hl272_8; replace p272 := eq_true p272; replace q272 := eq_true q272; have ea_ := Option.some.inj (hx270_2.symm.trans hx272_2); injection ea_ with ea_ en_ ec_; subst ea_; subst ec_; clear en_; have ea_ := Option.some.inj (hx270_6.symm.trans hx272_6); injection ea_ with ea_ en_ ec_; subst ea_; subst ec_; clear en_; have ea_ := Option.some.inj (hx270_8.symm.trans hx272_8); injection ea_ with ea_ en_ ec_; subst ea_; subst ec_; clear en_))
        go_ret
        exact ⟨by first | rfl | (simp; done) | (simp [*]; done), by repeat (first | exact Drawn0.refl _ | apply Drawn0.step)⟩
       ·
        rw [if_neg c7] at H
        have c7b0 : decide (30 < (((rd_T40 l0 x3_1).f3).length : Int)) = false := decide_eq_false c7
        have c7b1 : decide (30 < ((rd_T40 l0 x3_1).f3).length) = false := decide_eq_false (by omega)
        clear c7
        by_cases c8 : (((rd_T40 l0 x3_1).f5).length : Int) > 70000
        ·
         rw [if_pos c8] at H
         have c8b0 : decide (70000 < (((rd_T40 l0 x3_1).f5).length : Int)) = true := decide_eq_true c8
         have c8b1 : decide (70000 < ((rd_T40 l0 x3_1).f5).length) = true := decide_eq_true (by omega)
         clear c8
         obtain rfl := Option.some.inj H
         have p270 : 0 ≤ (x3_1 : Int) := of_decide_eq_true (by first | (with_reducible assumption) | assumption)
         have q270 : x3_1 < (l0.length : Int) := of_decide_eq_true (by first | (with_reducible assumption) | assumption)
         obtain ⟨ad270, A270_2, c270_2, A270_6, c270_6, A270_8, c270_8, e270, hx270_0, hx270_1, hx270_2, hx270_3, hx270_4, hx270_5, hx270_6, hx270_7, hx270_8, hl270_2, hi270_2, hl270_6, hi270_6, hl270_8, hi270_8⟩ := at_T40 HR0.out x3_1 p270 q270
         cases e270
         have HR270_2 := Aside0.mk hi270_2
         have HC270_2 := Aside0.mk hl270_2
         clear hi270_2 hl270_2
         have HR270_6 := Aside0.mk hi270_6
         have HC270_6 := Aside0.mk hl270_6
         clear hi270_6 hl270_6
         have HR270_8 := Aside0.mk hi270_8
         have HC270_8 := Aside0.mk hl270_8
         clear hi270_8 hl270_8
         replace p270 := eq_true p270
         replace q270 := eq_true q270
         go_wp2_with (first | ((with_reducible refine gate_callee (f := 46) rfl ?_); refine goesL_ (some 19) rfl rfl Try.func46 (by kernel_rfl) rfl #[.slice A270_2 ((rd_T40 l0 x3_1).f2.f0).length c270_2] rfl mpq ?_; (with_reducible refine (runnelref03_Long.calls k1 _ _ ((rd_T40 l0 x3_1).f2.f0) false _ ?side1 ?side2 A5.out).mono ?_); (case side1 => repeat (first | exact HR270_2.out | (with_reducible refine Kd.C_alloc ?_ _) | (with_reducible refine Kd.C_drewN ?_ _) | (with_reducible refine Kd.C_drew ?_))); (case side2 => exact HC270_2.out); rintro e w' ⟨rfl, ⟨nd, rfl⟩⟩; refine ⟨_, rfl, ?_⟩; have p272 : 0 ≤ (x3_1 : Int) := of_decide_eq_true (by first | (with_reducible assumption) | assumption); have q272 : x3_1 < (l0.length : Int) := of_decide_eq_true (by first | (with_reducible assumption) | assumption); obtain ⟨ad272, A272_2, c272_2, A272_6, c272_6, A272_8, c272_8, e272, hx272_0, hx272_1, hx272_2, hx272_3, hx272_4, hx272_5, hx272_6, hx272_7, hx272_8, hl272_2, hi272_2, hl272_6, hi272_6, hl272_8, hi272_8⟩ := at_T40 HR0.out x3_1 p272 q272; obtain rfl : ad270 = ad272 := (by injection e272); have HR272_2 := Aside0.mk hi272_2; have HC272_2 := Aside0.mk hl272_2; clear hi272_2 hl272_2; have HR272_6 := Aside0.mk hi272_6; have HC272_6 := Aside0.mk hl272_6; clear hi272_6 hl272_6; have HR272_8 := Aside0.mk hi272_8; have HC272_8 := Aside0.mk hl272_8; clear hi272_8 hl272_8; replace p272 := eq_true p272; replace q272 := eq_true q272; have ea_ := Option.some.inj (hx270_2.symm.trans hx272_2); injection ea_ with ea_ en_ ec_; subst ea_; subst ec_; clear en_; have ea_ := Option.some.inj (hx270_6.symm.trans hx272_6); injection ea_ with ea_ en_ ec_; subst ea_; subst ec_; clear en_; have ea_ := Option.some.inj (hx270_8.symm.trans hx272_8); injection ea_ with ea_ en_ ec_; subst ea_; subst ec_; clear en_; have p273 : 0 ≤ (x3_1 : Int) := of_decide_eq_true (by first | (with_reducible assumption) | assumption); have q273 : x3_1 < (l0.length : Int) := of_decide_eq_true (by first | (with_reducible assumption) | assumption); obtain ⟨ad273, A273_2, c273_2, A273_6, c273_6, A273_8, c273_8, e273, hx273_0, hx273_1, hx273_2, hx273_3, hx273_4, hx273_5, hx273_6, hx273_7, hx273_8, hl273_2, hi273_2, hl273_6, hi273_6, hl273_8, hi273_8⟩ := at_T40 HR0.out x3_1 p273 q273; obtain rfl : ad270 = ad273 := (by injection e273); have HR273_2 := Aside0.mk hi273_2; have HC273_2 := Aside0.mk hl273_2; clear hi273_2 hl273_2; have HR273_6 := Aside0.mk hi273_6; have HC273_6 := Aside0.mk hl273_6; clear hi273_6 hl273_6; have HR273_8 := Aside0.mk hi273_8; have HC273_8 := Aside0.mk hl273_8; clear hi273_8 hl273_8; replace p273 := eq_true p273; replace q273 := eq_true q273; have ea_ := Option.some.inj (hx270_2.symm.trans hx273_2); injection ea_ with ea_ en_ ec_; subst ea_; subst ec_; clear en_; have ea_ := Option.some.inj (hx270_6.symm.trans hx273_6); injection ea_ with ea_ en_ ec_; subst ea_; subst ec_; clear en_; have ea_ := Option.some.inj (hx270_8.symm.trans hx273_8); injection ea_ with ea_ en_ ec_; subst ea_; subst ec_; clear en_))
         go_ret
         exact ⟨by first | rfl | (simp; done) | (simp [*]; done), by repeat (first | exact Drawn0.refl _ | apply Drawn0.step)⟩
        ·
         rw [if_neg c8] at H
         have c8b0 : decide (70000 < (((rd_T40 l0 x3_1).f5).length : Int)) = false := decide_eq_false c8
         have c8b1 : decide (70000 < ((rd_T40 l0 x3_1).f5).length) = false := decide_eq_false (by omega)
         clear c8
         have H' := Aside0.mk H
         clear H
         have p270 : 0 ≤ (x3_1 : Int) := of_decide_eq_true (by first | (with_reducible assumption) | assumption)
         have q270 : x3_1 < (l0.length : Int) := of_decide_eq_true (by first | (with_reducible assumption) | assumption)
         obtain ⟨ad270, A270_2, c270_2, A270_6, c270_6, A270_8, c270_8, e270, hx270_0, hx270_1, hx270_2, hx270_3, hx270_4, hx270_5, hx270_6, hx270_7, hx270_8, hl270_2, hi270_2, hl270_6, hi270_6, hl270_8, hi270_8⟩ := at_T40 HR0.out x3_1 p270 q270
         cases e270
         have HR270_2 := Aside0.mk hi270_2
         have HC270_2 := Aside0.mk hl270_2
         clear hi270_2 hl270_2
         have HR270_6 := Aside0.mk hi270_6
         have HC270_6 := Aside0.mk hl270_6
         clear hi270_6 hl270_6
         have HR270_8 := Aside0.mk hi270_8
         have HC270_8 := Aside0.mk hl270_8
         clear hi270_8 hl270_8
         replace p270 := eq_true p270
         replace q270 := eq_true q270
         go_wp2_with (first | ((with_reducible refine gate_callee (f := 46) rfl ?_); refine goesL_ (some 19) rfl rfl Try.func46 (by kernel_rfl) rfl #[.slice A270_2 ((rd_T40 l0 x3_1).f2.f0).length c270_2] rfl mpq ?_; (with_reducible refine (runnelref03_Long.calls k1 _ _ ((rd_T40 l0 x3_1).f2.f0) false _ ?side1 ?side2 A5.out).mono ?_); (case side1 => repeat (first | exact HR270_2.out | (with_reducible refine Kd.C_alloc ?_ _) | (with_reducible refine Kd.C_drewN ?_ _) | (with_reducible refine Kd.C_drew ?_))); (case side2 => exact HC270_2.out); rintro e w' ⟨rfl, ⟨nd, rfl⟩⟩; refine ⟨_, rfl, ?_⟩; have p272 : 0 ≤ (x3_1 : Int) := of_decide_eq_true (by first | (with_reducible assumption) | assumption); have q272 : x3_1 < (l0.length : Int) := of_decide_eq_true (by first | (with_reducible assumption) | assumption); obtain ⟨ad272, A272_2, c272_2, A272_6, c272_6, A272_8, c272_8, e272, hx272_0, hx272_1, hx272_2, hx272_3, hx272_4, hx272_5, hx272_6, hx272_7, hx272_8, hl272_2, hi272_2, hl272_6, hi272_6, hl272_8, hi272_8⟩ := at_T40 HR0.out x3_1 p272 q272; obtain rfl : ad270 = ad272 := (by injection e272); have HR272_2 := Aside0.mk hi272_2; have HC272_2 := Aside0.mk hl272_2; clear hi272_2 hl272_2; have HR272_6 := Aside0.mk hi272_6; have HC272_6 := Aside0.mk hl272_6; clear hi272_6 hl272_6; have HR272_8 := Aside0.mk hi272_8; have HC272_8 := Aside0.mk hl272_8; clear hi272_8 hl272_8; replace p272 := eq_true p272; replace q272 := eq_true q272; have ea_ := Option.some.inj (hx270_2.symm.trans hx272_2); injection ea_ with ea_ en_ ec_; subst ea_; subst ec_; clear en_; have ea_ := Option.some.inj (hx270_6.symm.trans hx272_6); injection ea_ with ea_ en_ ec_; subst ea_; subst ec_; clear en_; have ea_ := Option.some.inj (hx270_8.symm.trans hx272_8); injection ea_ with ea_ en_ ec_; subst ea_; subst ec_; clear en_; have p273 : 0 ≤ (x3_1 : Int) := of_decide_eq_true (by first | (with_reducible assumption) | assumption); have q273 : x3_1 < (l0.length : Int) := of_decide_eq_true (by first | (with_reducible assumption) | assumption); obtain ⟨ad273, A273_2, c273_2, A273_6, c273_6, A273_8, c273_8, e273, hx273_0, hx273_1, hx273_2, hx273_3, hx273_4, hx273_5, hx273_6, hx273_7, hx273_8, hl273_2, hi273_2, hl273_6, hi273_6, hl273_8, hi273_8⟩ := at_T40 HR0.out x3_1 p273 q273; obtain rfl : ad270 = ad273 := (by injection e273); have HR273_2 := Aside0.mk hi273_2; have HC273_2 := Aside0.mk hl273_2; clear hi273_2 hl273_2; have HR273_6 := Aside0.mk hi273_6; have HC273_6 := Aside0.mk hl273_6; clear hi273_6 hl273_6; have HR273_8 := Aside0.mk hi273_8; have HC273_8 := Aside0.mk hl273_8; clear hi273_8 hl273_8; replace p273 := eq_true p273; replace q273 := eq_true q273; have ea_ := Option.some.inj (hx270_2.symm.trans hx273_2); injection ea_ with ea_ en_ ec_; subst ea_; subst ec_; clear en_; have ea_ := Option.some.inj (hx270_6.symm.trans hx273_6); injection ea_ with ea_ en_ ec_; subst ea_; subst ec_; clear en_; have ea_ := Option.some.inj (hx270_8.symm.trans hx273_8); injection ea_ with ea_ en_ ec_; subst ea_; subst ec_; clear en_))
         go_roundg k1
         case measure => have := HK1.out; omega
         case rel => exact ⟨(wrap64 (x3_1 + 1)), (by first | rfl | (simp; done) | (simp [*]; done)), H', ⟨by have := HK1.out; omega⟩, by repeat (first | exact Drawn0.refl _ | apply Drawn0.step)⟩
     ·
      rw [if_neg c4] at H
      exact absurd H (by simp)
    ·
     rw [if_neg c3] at H
     have c3b0 : decide (x3_1 < (l0.length : Int)) = false := decide_eq_false c3
     clear c3
     obtain rfl := Option.some.inj H
     go_wp2
     go_ret
     exact ⟨by first | rfl | (simp; done) | (simp [*]; done), by repeat (first | exact Drawn0.refl _ | apply Drawn0.step)⟩

/-! ### wire_Encode: function 25 -/
def wire_Encode.l0 : Nat → List Int → List (S40) → Int → Int → Option (List Int × Int)
 | 0, _, _, _, _ => none
 | k + 1, x4, x15, x16, x17 => if x17 < x16 then (if 0 ≤ x17 then (if x17 < (x15.length : Int) then ((wire_Put.f k x4 ((rd_T40 x15 x17).f0) ((rd_T40 x15 x17).f1) ((rd_T40 x15 x17).f2.f0) ((rd_T40 x15 x17).f2.f1.f0) ((rd_T40 x15 x17).f2.f1.f1) ((rd_T40 x15 x17).f2.f2) ((rd_T40 x15 x17).f3) ((rd_T40 x15 x17).f4) ((rd_T40 x15 x17).f5)).bind fun bt279 => (if bt279.2 = 0 then (wire_Encode.l0 k bt279.1 x15 x16 (wrap64 (x17 + 1))) else (some (([] : List Int), bt279.2)))) else (none)) else (none)) else (some (x4, 0))
def wire_Encode.f (k : Nat) (l0 : List (S40)) : Option (List Int × Int) := if (l0.length : Int) > 4096 then (some (([] : List Int), 3)) else ((num_Put.f k ([] : List Int) (IntKind.u64.wrap ((l0.length : Int)))).bind fun t274 => (wire_Encode.l0 k t274 l0 (l0.length : Int) 0))
theorem wire_Encode.mono_l : ∀ k, (∀ y0 y1 y2 y3, LeO (wire_Encode.l0 k y0 y1 y2 y3) (wire_Encode.l0 (k + 1) y0 y1 y2 y3))
 | 0 => fun _ _ _ _ r h => by simp [wire_Encode.l0] at h
 | k + 1 => by
  have ih0 := wire_Encode.mono_l k
  ·
   intro y0 y1 y2 y3
   unfold wire_Encode.l0
   repeat' first
   | (with_reducible exact ih0 _ _ _ _)
   | (with_reducible exact num_Put.mono _ _ _)
   | (with_reducible exact wire_Put.mono _ _ _ _ _ _ _ _ _ _ _)
   | (with_reducible exact LeO.refl _)
   | (with_reducible exact LeO.none _)
   | (with_reducible refine LeO.ite ?_ ?_)
   | (with_reducible refine LeO.bind ?_ (fun _ => ?_))
   | exact ih0 _ _ _ _
   | exact num_Put.mono _ _ _
   | exact wire_Put.mono _ _ _ _ _ _ _ _ _ _ _
   | exact LeO.none _
   | refine LeO.ite ?_ ?_
   | refine LeO.bind ?_ (fun _ => ?_)
theorem wire_Encode.mono : ∀ a0 k, LeO (wire_Encode.f k a0) (wire_Encode.f (k + 1) a0) := by
 intro a0 k
 have ih0 := wire_Encode.mono_l k
 unfold wire_Encode.f
 repeat' first
   | (with_reducible exact ih0 _ _ _ _)
   | (with_reducible exact num_Put.mono _ _ _)
   | (with_reducible exact wire_Put.mono _ _ _ _ _ _ _ _ _ _ _)
   | (with_reducible exact LeO.refl _)
   | (with_reducible exact LeO.none _)
   | (with_reducible refine LeO.ite ?_ ?_)
   | (with_reducible refine LeO.bind ?_ (fun _ => ?_))
   | exact ih0 _ _ _ _
   | exact num_Put.mono _ _ _
   | exact wire_Put.mono _ _ _ _ _ _ _ _ _ _ _
   | exact LeO.none _
   | refine LeO.ite ?_ ?_
   | refine LeO.bind ?_ (fun _ => ?_)
set_option maxHeartbeats 8000000 in
set_option maxRecDepth 100000 in
theorem wire_Encode.calls (k : Nat) (A0 : Option Addr) (c0 : Nat) (l0 : List (S40)) (r1 : List Int) (r2 : Int) (w : World) (hr0 : Kd.C k40 w A0 l0.length l0) (hc0 : l0.length ≤ c0) (h : wire_Encode.f k l0 = some (r1, r2)) :
  Calls Try.prog 25 #[.slice A0 l0.length c0] w fun e w' => ∃ v0_ : Value, e = .returned (.tuple #[v0_, .int .i64 r2]) ∧ Kd.R (Kd.int .u8) 5 w' w.heap.size (fun _ => True) v0_ r1 ∧ Below w.heap.size w w' := by
 have hu40 := Try.underlying40
 have HR0 := Aside0.mk hr0
 have HC0 := Aside0.mk hc0
 clear hr0 hc0
 have HB := Aside0.mk (Below.refl w.heap.size w)
 have H : (if (l0.length : Int) > 4096 then (some (([] : List Int), 3)) else ((num_Put.f k ([] : List Int) (IntKind.u64.wrap ((l0.length : Int)))).bind fun t274 => (wire_Encode.l0 k t274 l0 (l0.length : Int) 0))) = some (r1, r2) := h
 clear h
 by_cases c2 : (l0.length : Int) > 4096
 ·
  rw [if_pos c2] at H
  have c2b0 : decide (4096 < (l0.length : Int)) = true := decide_eq_true c2
  have c2b1 : decide (4096 < l0.length) = true := decide_eq_true (by omega)
  clear c2
  simp only [Option.some.injEq, Prod.mk.injEq] at H
  obtain ⟨rfl, rfl⟩ := H
  go_enter Try.func25, Try.ntmps25
  go_wp2
  go_ret2
  exact ⟨_, erq, nlq, by repeat (first | (with_reducible first | exact HB.out | apply below_alloc | apply pw_below_drewN | apply below_drew1) | exact HB.out)⟩
 ·
  rw [if_neg c2] at H
  have c2b0 : decide (4096 < (l0.length : Int)) = false := decide_eq_false c2
  have c2b1 : decide (4096 < l0.length) = false := decide_eq_false (by omega)
  clear c2
  replace H := Option.bind_eq_some_iff.mp H
  obtain ⟨t274, A30, H⟩ := H
  replace H : (wire_Encode.l0 k t274 l0 (l0.length : Int) 0) = some (r1, r2) := H
  have A3 := Aside0.mk A30
  clear A30
  have H' := Aside0.mk H
  clear H
  go_enter Try.func25, Try.ntmps25
  go_wp2_with (first | ((with_reducible refine gate_callee (f := 29) rfl ?_); refine goesL_ (some 14) rfl rfl Try.func29 (by kernel_rfl) rfl #[.slice none 0 0, .int .u64 (IntKind.u64.wrap ((l0.length : Int)))] rfl mpq ?_; (refine (num_Put.calls k _ _ ([] : List Int) (IntKind.u64.wrap ((l0.length : Int))) t274 _ ?side1 ?side2 A3.out).mono ?_); (case side1 => exact Kd.C_nil _ _); (case side2 => exact Nat.le_refl _); rintro e w4 ⟨v275, rfl, ho0, hb⟩; refine ⟨_, rfl, ?_⟩; have n0_ := Aside0.mk (Kd.R_lower ho0 (below_size bl)); have n1_ := Aside0.mk (below_step bl hb); clear HB; have HO276 := n0_; have HB := n1_; clear n0_ n1_; (try clear hb); (try clear hb2); (try clear hk); (try clear hi); (try clear ho0)))
  go_loopg [4, 17] k (fun kq v4 v17 w' => ∃ (x4_1 : List Int) (x17_1 : Int), v17 = .int .i64 x17_1 ∧ Aside0 (wire_Encode.l0 kq x4_1 l0 (l0.length : Int) x17_1 = some (r1, r2)) ∧ Aside0 (kq ≤ k) ∧ Aside0 (Kd.R (Kd.int .u8) 5 w' w.heap.size (fun _ => True) v4 x4_1) ∧ Aside0 (Below w.heap.size w w'))
  case atStart => exact ⟨(t274), (0), (by first | rfl | (simp; done) | (simp [*]; done)), H', ⟨Nat.le_refl _⟩, ⟨by (with_reducible repeat (first | apply Kd.R_alloc | apply Kd.R_drewN | apply Kd.R_drew)); exact HO276.out⟩, ⟨bl⟩⟩
  case round =>
   clear H'
   (try clear c2); (try clear c2b0); (try clear c2b1)
   obtain ⟨x4_1, x17_1, rfl, HA, HK1, HO_4, HB⟩ := hrel
   cases gk with
   | zero => exact absurd HA.out (by simp [wire_Encode.l0])
   | succ k1 =>
    have H := HA.out
    clear HA
    simp only [wire_Encode.l0] at H
    by_cases c5 : x17_1 < (l0.length : Int)
    ·
     rw [if_pos c5] at H
     have c5b0 : decide (x17_1 < (l0.length : Int)) = true := decide_eq_true c5
     clear c5
     by_cases c6 : 0 ≤ x17_1
     ·
      rw [if_pos c6] at H
      have c6b0 : decide (0 ≤ x17_1) = true := decide_eq_true c6
      clear c6
      by_cases c7 : x17_1 < (l0.length : Int)
      ·
       rw [if_pos c7] at H
       have c7b0 : decide (x17_1 < (l0.length : Int)) = true := decide_eq_true c7
       clear c7
       replace H := Option.bind_eq_some_iff.mp H
       obtain ⟨⟨t279, t282⟩, A80, H⟩ := H
       replace H : (if t282 = 0 then (wire_Encode.l0 k1 t279 l0 (l0.length : Int) (wrap64 (x17_1 + 1))) else (some (([] : List Int), t282))) = some (r1, r2) := H
       have A8 := Aside0.mk A80
       clear A80
       by_cases c9 : t282 = 0
       ·
        rw [if_pos c9] at H
        have c9b0 : (t282 == 0) = true := beq_iff_eq.mpr c9
        have c9b1 : (t282 != 0) = false := bne_eq_false_iff_eq.mpr c9
        clear c9
        have H' := Aside0.mk H
        clear H
        have p277 : 0 ≤ (x17_1 : Int) := of_decide_eq_true (by first | (with_reducible assumption) | assumption)
        have q277 : x17_1 < (l0.length : Int) := of_decide_eq_true (by first | (with_reducible assumption) | assumption)
        obtain ⟨ad277, A277_2, c277_2, A277_6, c277_6, A277_8, c277_8, e277, hx277_0, hx277_1, hx277_2, hx277_3, hx277_4, hx277_5, hx277_6, hx277_7, hx277_8, hl277_2, hi277_2, hl277_6, hi277_6, hl277_8, hi277_8⟩ := at_T40 HR0.out x17_1 p277 q277
        cases e277
        replace hx277_0 := bc HB.out hx277_0
        replace hx277_1 := bc HB.out hx277_1
        replace hx277_2 := bc HB.out hx277_2
        replace hx277_3 := bc HB.out hx277_3
        replace hx277_4 := bc HB.out hx277_4
        replace hx277_5 := bc HB.out hx277_5
        replace hx277_6 := bc HB.out hx277_6
        replace hx277_7 := bc HB.out hx277_7
        replace hx277_8 := bc HB.out hx277_8
        have HR277_2 := Aside0.mk hi277_2
        have HC277_2 := Aside0.mk hl277_2
        clear hi277_2 hl277_2
        have HR277_6 := Aside0.mk hi277_6
        have HC277_6 := Aside0.mk hl277_6
        clear hi277_6 hl277_6
        have HR277_8 := Aside0.mk hi277_8
        have HC277_8 := Aside0.mk hl277_8
        clear hi277_8 hl277_8
        replace p277 := eq_true p277
        replace q277 := eq_true q277
        go_wp2_with (first | ((with_reducible refine gate_dst (N := 7) rfl ?_); refine box_event ?hg (N := 7) ?hd (cs := #[.int .i64 0, .int .i64 0, .slice none 0 0, .int .i64 0, .int .i64 0, .int .i64 0, .slice none 0 0, .int .i64 0, .slice none 0 0]) (t := 40) ?hr ?_; (case hd => rfl); (case hg => rfl); (case hr => first | (go_simp; done) | (go_simp; rfl)); intro gb278 hg w10 hbox hb; have n0_ := Aside0.mk (Kd.R_below (rp HO_4.out) hb); have n1_ := Aside0.mk (below_step bl hb); have n2_ := Aside0.mk (hbox); have n3_ := Aside0.mk ((by rw [hg]; exact (below_size bl) : w.heap.size ≤ gb278)); have n4_ := Aside0.mk ((by rw [hg]; exact (below_size bl) : w.heap.size ≤ gb278)); clear HO_4; clear HB; have HO_4 := n0_; have HB := n1_; have BK278 := n2_; have GW278 := n3_; have GE278 := n4_; clear n0_ n1_ n2_ n3_ n4_; clear hb hbox hg; obtain ⟨hcz11_0, hcz11_1, hcz11_2, hcz11_3, hcz11_4, hcz11_5, hcz11_6, hcz11_7, hcz11_8⟩ := cells9 BK278.out; obtain ⟨hfz11_0, hfz11_1, hfz11_2, hfz11_3, hfz11_4, hfz11_5, hfz11_6, hfz11_7, hfz11_8⟩ := frz9 BK278.out; obtain ⟨Ao12, co12, eo12⟩ := Kd.R_slice HO_4.out; subst eo12) | ((with_reducible refine gate_callee (f := 19) rfl ?_); refine goesL_ (some 24) rfl rfl Try.func19 (by kernel_rfl) rfl #[.slice Ao12 x4_1.length co12, .agg #[.int .i64 ((rd_T40 l0 x17_1).f0), .int .i64 ((rd_T40 l0 x17_1).f1), .slice A277_2 ((rd_T40 l0 x17_1).f2.f0).length c277_2, .int .i64 ((rd_T40 l0 x17_1).f2.f1.f0), .int .i64 ((rd_T40 l0 x17_1).f2.f1.f1), .int .i64 ((rd_T40 l0 x17_1).f2.f2), .slice A277_6 ((rd_T40 l0 x17_1).f3).length c277_6, .int .i64 ((rd_T40 l0 x17_1).f4), .slice A277_8 ((rd_T40 l0 x17_1).f5).length c277_8]] rfl mpq ?_; (with_reducible refine (wire_Put.calls k1 _ _ x4_1 ((rd_T40 l0 x17_1).f0) ((rd_T40 l0 x17_1).f1) _ _ ((rd_T40 l0 x17_1).f2.f0) ((rd_T40 l0 x17_1).f2.f1.f0) ((rd_T40 l0 x17_1).f2.f1.f1) ((rd_T40 l0 x17_1).f2.f2) _ _ ((rd_T40 l0 x17_1).f3) ((rd_T40 l0 x17_1).f4) _ _ ((rd_T40 l0 x17_1).f5) t279 t282 _ ?side1 ?side2 ?side3 ?side4 ?side5 ?side6 ?side7 ?side8 A8.out).mono ?_); (case side1 => refine (Kd.R_reads' (e := 5) (base := w.heap.size) (ok := fun k_ => True) (n := x4_1.length) (c := co12) ?_).2.2; exact (rp (Kd.R_mono (Kd.R_far (p := ⟨gb278, 8, none⟩) (Kd.R_far (p := ⟨gb278, 7, none⟩) (Kd.R_far (p := ⟨gb278, 6, none⟩) (Kd.R_far (p := ⟨gb278, 5, none⟩) (Kd.R_far (p := ⟨gb278, 4, none⟩) (Kd.R_far (p := ⟨gb278, 3, none⟩) (Kd.R_far (p := ⟨gb278, 2, none⟩) (Kd.R_far (p := ⟨gb278, 1, none⟩) (Kd.R_far (p := ⟨gb278, 0, none⟩) (Kd.R_types HO_4.out BK278.out (by decide)) (fun _ hk => hk.2) (.int .i64 ((rd_T40 l0 x17_1).f0))) (fun _ hk => hk.2) (.int .i64 ((rd_T40 l0 x17_1).f1))) (fun _ hk => hk.2) (.slice A277_2 ((rd_T40 l0 x17_1).f2.f0).length c277_2)) (fun _ hk => hk.2) (.int .i64 ((rd_T40 l0 x17_1).f2.f1.f0))) (fun _ hk => hk.2) (.int .i64 ((rd_T40 l0 x17_1).f2.f1.f1))) (fun _ hk => hk.2) (.int .i64 ((rd_T40 l0 x17_1).f2.f2))) (fun _ hk => hk.2) (.slice A277_6 ((rd_T40 l0 x17_1).f3).length c277_6)) (fun _ hk => hk.2) (.int .i64 ((rd_T40 l0 x17_1).f4))) (fun _ hk => hk.2) (.slice A277_8 ((rd_T40 l0 x17_1).f5).length c277_8)) (fun _ h_ => h_.1)))); (case side2 => exact (Kd.R_reads' HO_4.out).2.1); (case side3 => exact Kd.C_below HR277_2.out bl); (case side4 => exact HC277_2.out); (case side5 => exact Kd.C_below HR277_6.out bl); (case side6 => exact HC277_6.out); (case side7 => exact Kd.C_below HR277_8.out bl); (case side8 => exact HC277_8.out); rintro e w13 ⟨v280, rfl, ho0, hb⟩; refine ⟨_, rfl, ?_⟩; have n0_ := Aside0.mk (Kd.R_elder' (rp (Kd.R_mono (Kd.R_far (p := ⟨gb278, 8, none⟩) (Kd.R_far (p := ⟨gb278, 7, none⟩) (Kd.R_far (p := ⟨gb278, 6, none⟩) (Kd.R_far (p := ⟨gb278, 5, none⟩) (Kd.R_far (p := ⟨gb278, 4, none⟩) (Kd.R_far (p := ⟨gb278, 3, none⟩) (Kd.R_far (p := ⟨gb278, 2, none⟩) (Kd.R_far (p := ⟨gb278, 1, none⟩) (Kd.R_far (p := ⟨gb278, 0, none⟩) (Kd.R_types HO_4.out BK278.out (by decide)) (fun _ hk => hk.2) (.int .i64 ((rd_T40 l0 x17_1).f0))) (fun _ hk => hk.2) (.int .i64 ((rd_T40 l0 x17_1).f1))) (fun _ hk => hk.2) (.slice A277_2 ((rd_T40 l0 x17_1).f2.f0).length c277_2)) (fun _ hk => hk.2) (.int .i64 ((rd_T40 l0 x17_1).f2.f1.f0))) (fun _ hk => hk.2) (.int .i64 ((rd_T40 l0 x17_1).f2.f1.f1))) (fun _ hk => hk.2) (.int .i64 ((rd_T40 l0 x17_1).f2.f2))) (fun _ hk => hk.2) (.slice A277_6 ((rd_T40 l0 x17_1).f3).length c277_6)) (fun _ hk => hk.2) (.int .i64 ((rd_T40 l0 x17_1).f4))) (fun _ hk => hk.2) (.slice A277_8 ((rd_T40 l0 x17_1).f5).length c277_8)) (fun _ h_ => h_.1))) (Kd.R_base ho0) hb); have n1_ := Aside0.mk (Kd.R_lower (Kd.R_new' ho0 (Kd.R_lt (rp (Kd.R_mono (Kd.R_far (p := ⟨gb278, 8, none⟩) (Kd.R_far (p := ⟨gb278, 7, none⟩) (Kd.R_far (p := ⟨gb278, 6, none⟩) (Kd.R_far (p := ⟨gb278, 5, none⟩) (Kd.R_far (p := ⟨gb278, 4, none⟩) (Kd.R_far (p := ⟨gb278, 3, none⟩) (Kd.R_far (p := ⟨gb278, 2, none⟩) (Kd.R_far (p := ⟨gb278, 1, none⟩) (Kd.R_far (p := ⟨gb278, 0, none⟩) (Kd.R_types HO_4.out BK278.out (by decide)) (fun _ hk => hk.2) (.int .i64 ((rd_T40 l0 x17_1).f0))) (fun _ hk => hk.2) (.int .i64 ((rd_T40 l0 x17_1).f1))) (fun _ hk => hk.2) (.slice A277_2 ((rd_T40 l0 x17_1).f2.f0).length c277_2)) (fun _ hk => hk.2) (.int .i64 ((rd_T40 l0 x17_1).f2.f1.f0))) (fun _ hk => hk.2) (.int .i64 ((rd_T40 l0 x17_1).f2.f1.f1))) (fun _ hk => hk.2) (.int .i64 ((rd_T40 l0 x17_1).f2.f2))) (fun _ hk => hk.2) (.slice A277_6 ((rd_T40 l0 x17_1).f3).length c277_6)) (fun _ hk => hk.2) (.int .i64 ((rd_T40 l0 x17_1).f4))) (fun _ hk => hk.2) (.slice A277_8 ((rd_T40 l0 x17_1).f5).length c277_8)) (fun _ h_ => h_.1))))) (below_size bl)); have n2_ := Aside0.mk (blk_below (g := gb278) (o := .cells #[.int .i64 ((rd_T40 l0 x17_1).f0), .int .i64 ((rd_T40 l0 x17_1).f1), .slice A277_2 ((rd_T40 l0 x17_1).f2.f0).length c277_2, .int .i64 ((rd_T40 l0 x17_1).f2.f1.f0), .int .i64 ((rd_T40 l0 x17_1).f2.f1.f1), .int .i64 ((rd_T40 l0 x17_1).f2.f2), .slice A277_6 ((rd_T40 l0 x17_1).f3).length c277_6, .int .i64 ((rd_T40 l0 x17_1).f4), .slice A277_8 ((rd_T40 l0 x17_1).f5).length c277_8] 40 (0, 0)) bk hb); have n3_ := Aside0.mk (below_step bl hb); clear HO_4; clear BK278; clear HB; have HO_4 := n0_; have HO281 := n1_; have BK278 := n2_; have HB := n3_; clear n0_ n1_ n2_ n3_; (try clear hb); (try clear hb2); (try clear hk); (try clear hi); (try clear ho0)))
        go_roundg k1
        case measure => have := HK1.out; omega
        case rel => exact ⟨(t279), (wrap64 (x17_1 + 1)), (by first | rfl | (simp; done) | (simp [*]; done)), H', ⟨by have := HK1.out; omega⟩, ⟨by (with_reducible repeat (first | apply Kd.R_alloc | apply Kd.R_drewN | apply Kd.R_drew)); exact Kd.R_mono HO281.out (fun _ hk => trivial)⟩, ⟨bl⟩⟩
       ·
        rw [if_neg c9] at H
        have c9b0 : (t282 == 0) = false := beq_eq_false_iff_ne.mpr c9
        have c9b1 : (t282 != 0) = true := bne_iff_ne.mpr c9
        simp only [Option.some.injEq, Prod.mk.injEq] at H
        obtain ⟨rfl, rfl⟩ := H
        have p277 : 0 ≤ (x17_1 : Int) := of_decide_eq_true (by first | (with_reducible assumption) | assumption)
        have q277 : x17_1 < (l0.length : Int) := of_decide_eq_true (by first | (with_reducible assumption) | assumption)
        obtain ⟨ad277, A277_2, c277_2, A277_6, c277_6, A277_8, c277_8, e277, hx277_0, hx277_1, hx277_2, hx277_3, hx277_4, hx277_5, hx277_6, hx277_7, hx277_8, hl277_2, hi277_2, hl277_6, hi277_6, hl277_8, hi277_8⟩ := at_T40 HR0.out x17_1 p277 q277
        cases e277
        replace hx277_0 := bc HB.out hx277_0
        replace hx277_1 := bc HB.out hx277_1
        replace hx277_2 := bc HB.out hx277_2
        replace hx277_3 := bc HB.out hx277_3
        replace hx277_4 := bc HB.out hx277_4
        replace hx277_5 := bc HB.out hx277_5
        replace hx277_6 := bc HB.out hx277_6
        replace hx277_7 := bc HB.out hx277_7
        replace hx277_8 := bc HB.out hx277_8
        have HR277_2 := Aside0.mk hi277_2
        have HC277_2 := Aside0.mk hl277_2
        clear hi277_2 hl277_2
        have HR277_6 := Aside0.mk hi277_6
        have HC277_6 := Aside0.mk hl277_6
        clear hi277_6 hl277_6
        have HR277_8 := Aside0.mk hi277_8
        have HC277_8 := Aside0.mk hl277_8
        clear hi277_8 hl277_8
        replace p277 := eq_true p277
        replace q277 := eq_true q277
        go_wp2_with (first | ((with_reducible refine gate_dst (N := 7) rfl ?_); refine box_event ?hg (N := 7) ?hd (cs := #[.int .i64 0, .int .i64 0, .slice none 0 0, .int .i64 0, .int .i64 0, .int .i64 0, .slice none 0 0, .int .i64 0, .slice none 0 0]) (t := 40) ?hr ?_; (case hd => rfl); (case hg => rfl); (case hr => first | (go_simp; done) | (go_simp; rfl)); intro gb278 hg w14 hbox hb; have n0_ := Aside0.mk (Kd.R_below (rp HO_4.out) hb); have n1_ := Aside0.mk (below_step bl hb); have n2_ := Aside0.mk (hbox); have n3_ := Aside0.mk ((by rw [hg]; exact (below_size bl) : w.heap.size ≤ gb278)); have n4_ := Aside0.mk ((by rw [hg]; exact (below_size bl) : w.heap.size ≤ gb278)); clear HO_4; clear HB; have HO_4 := n0_; have HB := n1_; have BK278 := n2_; have GW278 := n3_; have GE278 := n4_; clear n0_ n1_ n2_ n3_ n4_; clear hb hbox hg; obtain ⟨hcz15_0, hcz15_1, hcz15_2, hcz15_3, hcz15_4, hcz15_5, hcz15_6, hcz15_7, hcz15_8⟩ := cells9 BK278.out; obtain ⟨hfz15_0, hfz15_1, hfz15_2, hfz15_3, hfz15_4, hfz15_5, hfz15_6, hfz15_7, hfz15_8⟩ := frz9 BK278.out; obtain ⟨Ao16, co16, eo16⟩ := Kd.R_slice HO_4.out; subst eo16) | ((with_reducible refine gate_callee (f := 19) rfl ?_); refine goesL_ (some 24) rfl rfl Try.func19 (by kernel_rfl) rfl #[.slice Ao16 x4_1.length co16, .agg #[.int .i64 ((rd_T40 l0 x17_1).f0), .int .i64 ((rd_T40 l0 x17_1).f1), .slice A277_2 ((rd_T40 l0 x17_1).f2.f0).length c277_2, .int .i64 ((rd_T40 l0 x17_1).f2.f1.f0), .int .i64 ((rd_T40 l0 x17_1).f2.f1.f1), .int .i64 ((rd_T40 l0 x17_1).f2.f2), .slice A277_6 ((rd_T40 l0 x17_1).f3).length c277_6, .int .i64 ((rd_T40 l0 x17_1).f4), .slice A277_8 ((rd_T40 l0 x17_1).f5).length c277_8]] rfl mpq ?_; (with_reducible refine (wire_Put.calls k1 _ _ x4_1 ((rd_T40 l0 x17_1).f0) ((rd_T40 l0 x17_1).f1) _ _ ((rd_T40 l0 x17_1).f2.f0) ((rd_T40 l0 x17_1).f2.f1.f0) ((rd_T40 l0 x17_1).f2.f1.f1) ((rd_T40 l0 x17_1).f2.f2) _ _ ((rd_T40 l0 x17_1).f3) ((rd_T40 l0 x17_1).f4) _ _ ((rd_T40 l0 x17_1).f5) t279 t282 _ ?side1 ?side2 ?side3 ?side4 ?side5 ?side6 ?side7 ?side8 A8.out).mono ?_); (case side1 => refine (Kd.R_reads' (e := 5) (base := w.heap.size) (ok := fun k_ => True) (n := x4_1.length) (c := co16) ?_).2.2; exact (rp (Kd.R_mono (Kd.R_far (p := ⟨gb278, 8, none⟩) (Kd.R_far (p := ⟨gb278, 7, none⟩) (Kd.R_far (p := ⟨gb278, 6, none⟩) (Kd.R_far (p := ⟨gb278, 5, none⟩) (Kd.R_far (p := ⟨gb278, 4, none⟩) (Kd.R_far (p := ⟨gb278, 3, none⟩) (Kd.R_far (p := ⟨gb278, 2, none⟩) (Kd.R_far (p := ⟨gb278, 1, none⟩) (Kd.R_far (p := ⟨gb278, 0, none⟩) (Kd.R_types HO_4.out BK278.out (by decide)) (fun _ hk => hk.2) (.int .i64 ((rd_T40 l0 x17_1).f0))) (fun _ hk => hk.2) (.int .i64 ((rd_T40 l0 x17_1).f1))) (fun _ hk => hk.2) (.slice A277_2 ((rd_T40 l0 x17_1).f2.f0).length c277_2)) (fun _ hk => hk.2) (.int .i64 ((rd_T40 l0 x17_1).f2.f1.f0))) (fun _ hk => hk.2) (.int .i64 ((rd_T40 l0 x17_1).f2.f1.f1))) (fun _ hk => hk.2) (.int .i64 ((rd_T40 l0 x17_1).f2.f2))) (fun _ hk => hk.2) (.slice A277_6 ((rd_T40 l0 x17_1).f3).length c277_6)) (fun _ hk => hk.2) (.int .i64 ((rd_T40 l0 x17_1).f4))) (fun _ hk => hk.2) (.slice A277_8 ((rd_T40 l0 x17_1).f5).length c277_8)) (fun _ h_ => h_.1)))); (case side2 => exact (Kd.R_reads' HO_4.out).2.1); (case side3 => exact Kd.C_below HR277_2.out bl); (case side4 => exact HC277_2.out); (case side5 => exact Kd.C_below HR277_6.out bl); (case side6 => exact HC277_6.out); (case side7 => exact Kd.C_below HR277_8.out bl); (case side8 => exact HC277_8.out); rintro e w17 ⟨v280, rfl, ho0, hb⟩; refine ⟨_, rfl, ?_⟩; have n0_ := Aside0.mk (Kd.R_elder' (rp (Kd.R_mono (Kd.R_far (p := ⟨gb278, 8, none⟩) (Kd.R_far (p := ⟨gb278, 7, none⟩) (Kd.R_far (p := ⟨gb278, 6, none⟩) (Kd.R_far (p := ⟨gb278, 5, none⟩) (Kd.R_far (p := ⟨gb278, 4, none⟩) (Kd.R_far (p := ⟨gb278, 3, none⟩) (Kd.R_far (p := ⟨gb278, 2, none⟩) (Kd.R_far (p := ⟨gb278, 1, none⟩) (Kd.R_far (p := ⟨gb278, 0, none⟩) (Kd.R_types HO_4.out BK278.out (by decide)) (fun _ hk => hk.2) (.int .i64 ((rd_T40 l0 x17_1).f0))) (fun _ hk => hk.2) (.int .i64 ((rd_T40 l0 x17_1).f1))) (fun _ hk => hk.2) (.slice A277_2 ((rd_T40 l0 x17_1).f2.f0).length c277_2)) (fun _ hk => hk.2) (.int .i64 ((rd_T40 l0 x17_1).f2.f1.f0))) (fun _ hk => hk.2) (.int .i64 ((rd_T40 l0 x17_1).f2.f1.f1))) (fun _ hk => hk.2) (.int .i64 ((rd_T40 l0 x17_1).f2.f2))) (fun _ hk => hk.2) (.slice A277_6 ((rd_T40 l0 x17_1).f3).length c277_6)) (fun _ hk => hk.2) (.int .i64 ((rd_T40 l0 x17_1).f4))) (fun _ hk => hk.2) (.slice A277_8 ((rd_T40 l0 x17_1).f5).length c277_8)) (fun _ h_ => h_.1))) (Kd.R_base ho0) hb); have n1_ := Aside0.mk (Kd.R_lower (Kd.R_new' ho0 (Kd.R_lt (rp (Kd.R_mono (Kd.R_far (p := ⟨gb278, 8, none⟩) (Kd.R_far (p := ⟨gb278, 7, none⟩) (Kd.R_far (p := ⟨gb278, 6, none⟩) (Kd.R_far (p := ⟨gb278, 5, none⟩) (Kd.R_far (p := ⟨gb278, 4, none⟩) (Kd.R_far (p := ⟨gb278, 3, none⟩) (Kd.R_far (p := ⟨gb278, 2, none⟩) (Kd.R_far (p := ⟨gb278, 1, none⟩) (Kd.R_far (p := ⟨gb278, 0, none⟩) (Kd.R_types HO_4.out BK278.out (by decide)) (fun _ hk => hk.2) (.int .i64 ((rd_T40 l0 x17_1).f0))) (fun _ hk => hk.2) (.int .i64 ((rd_T40 l0 x17_1).f1))) (fun _ hk => hk.2) (.slice A277_2 ((rd_T40 l0 x17_1).f2.f0).length c277_2)) (fun _ hk => hk.2) (.int .i64 ((rd_T40 l0 x17_1).f2.f1.f0))) (fun _ hk => hk.2) (.int .i64 ((rd_T40 l0 x17_1).f2.f1.f1))) (fun _ hk => hk.2) (.int .i64 ((rd_T40 l0 x17_1).f2.f2))) (fun _ hk => hk.2) (.slice A277_6 ((rd_T40 l0 x17_1).f3).length c277_6)) (fun _ hk => hk.2) (.int .i64 ((rd_T40 l0 x17_1).f4))) (fun _ hk => hk.2) (.slice A277_8 ((rd_T40 l0 x17_1).f5).length c277_8)) (fun _ h_ => h_.1))))) (below_size bl)); have n2_ := Aside0.mk (blk_below (g := gb278) (o := .cells #[.int .i64 ((rd_T40 l0 x17_1).f0), .int .i64 ((rd_T40 l0 x17_1).f1), .slice A277_2 ((rd_T40 l0 x17_1).f2.f0).length c277_2, .int .i64 ((rd_T40 l0 x17_1).f2.f1.f0), .int .i64 ((rd_T40 l0 x17_1).f2.f1.f1), .int .i64 ((rd_T40 l0 x17_1).f2.f2), .slice A277_6 ((rd_T40 l0 x17_1).f3).length c277_6, .int .i64 ((rd_T40 l0 x17_1).f4), .slice A277_8 ((rd_T40 l0 x17_1).f5).length c277_8] 40 (0, 0)) bk hb); have n3_ := Aside0.mk (below_step bl hb); clear HO_4; clear BK278; clear HB; have HO_4 := n0_; have HO281 := n1_; have BK278 := n2_; have HB := n3_; clear n0_ n1_ n2_ n3_; (try clear hb); (try clear hb2); (try clear hk); (try clear hi); (try clear ho0)))
        go_ret2
        exact ⟨_, erq, nlq, by repeat (first | (with_reducible first | exact HB.out | apply below_alloc | apply pw_below_drewN | apply below_drew1 | refine below_set ?_ GE278.out) | exact HB.out)⟩
      ·
       rw [if_neg c7] at H
       exact absurd H (by simp)
     ·
      rw [if_neg c6] at H
      exact absurd H (by simp)
    ·
     rw [if_neg c5] at H
     have c5b0 : decide (x17_1 < (l0.length : Int)) = false := decide_eq_false c5
     clear c5
     simp only [Option.some.injEq, Prod.mk.injEq] at H
     obtain ⟨rfl, rfl⟩ := H
     go_wp2
     go_ret2
     exact ⟨_, erq, by (with_reducible repeat (first | apply Kd.R_alloc | apply Kd.R_drewN | apply Kd.R_drew)); exact HO_4.out, by repeat (first | (with_reducible first | exact HB.out | apply below_alloc | apply pw_below_drewN | apply below_drew1) | exact HB.out)⟩

/-! ### runnelref03_Check: function 51 -/
mutual
def runnelref03_Check.l0 : Nat → List (S103) → Int → Option (Int)
 | 0, _, _ => none
 | k + 1, x0, x3 => if x3 < (x0.length : Int) then (if 0 ≤ x3 then (if ((rd_T103 x0 x3).f0) = 0 then (runnelref03_Check.j1 k x0 x3 false) else (runnelref03_Check.j1 k x0 x3 (((rd_T103 x0 x3).f0) != 1))) else (none)) else (some 0)
def runnelref03_Check.j1 : Nat → List (S103) → Int → Bool → Option (Int)
 | 0, _, _, _ => none
 | k + 1, x0, x3, x26 => if x26 = true then (some 8) else (if 0 ≤ x3 then (if x3 < (x0.length : Int) then (if ((rd_T103 x0 x3).f0) = 1 then (if (((rd_T103 x0 x3).f2).size : Int) > 4096 then (some 2) else (runnelref03_Check.l0 k x0 (wrap64 (x3 + 1)))) else (runnelref03_Check.l0 k x0 (wrap64 (x3 + 1)))) else (none)) else (none))
end
def runnelref03_Check.f (k : Nat) (l0 : List (S103)) : Option (Int) := if (l0.length : Int) > 16 then (some 3) else (runnelref03_Check.l0 k l0 0)
theorem runnelref03_Check.mono_l : ∀ k, (∀ y0 y1, LeO (runnelref03_Check.l0 k y0 y1) (runnelref03_Check.l0 (k + 1) y0 y1)) ∧ (∀ y0 y1 y2, LeO (runnelref03_Check.j1 k y0 y1 y2) (runnelref03_Check.j1 (k + 1) y0 y1 y2))
 | 0 => ⟨fun _ _ r h => by simp [runnelref03_Check.l0] at h, fun _ _ _ r h => by simp [runnelref03_Check.j1] at h⟩
 | k + 1 => by
  obtain ⟨ih0, ih1⟩ := runnelref03_Check.mono_l k
  refine ⟨?_, ?_⟩
  ·
   intro y0 y1
   unfold runnelref03_Check.l0
   repeat' first
   | (with_reducible exact ih0 _ _)
   | (with_reducible exact ih1 _ _ _)
   | (with_reducible exact LeO.refl _)
   | (with_reducible exact LeO.none _)
   | (with_reducible refine LeO.ite ?_ ?_)
   | (with_reducible refine LeO.bind ?_ (fun _ => ?_))
   | exact ih0 _ _
   | exact ih1 _ _ _
   | exact LeO.none _
   | refine LeO.ite ?_ ?_
   | refine LeO.bind ?_ (fun _ => ?_)
  ·
   intro y0 y1 y2
   unfold runnelref03_Check.j1
   repeat' first
   | (with_reducible exact ih0 _ _)
   | (with_reducible exact ih1 _ _ _)
   | (with_reducible exact LeO.refl _)
   | (with_reducible exact LeO.none _)
   | (with_reducible refine LeO.ite ?_ ?_)
   | (with_reducible refine LeO.bind ?_ (fun _ => ?_))
   | exact ih0 _ _
   | exact ih1 _ _ _
   | exact LeO.none _
   | refine LeO.ite ?_ ?_
   | refine LeO.bind ?_ (fun _ => ?_)
theorem runnelref03_Check.mono : ∀ a0 k, LeO (runnelref03_Check.f k a0) (runnelref03_Check.f (k + 1) a0) := by
 intro a0 k
 obtain ⟨ih0, ih1⟩ := runnelref03_Check.mono_l k
 unfold runnelref03_Check.f
 repeat' first
   | (with_reducible exact ih0 _ _)
   | (with_reducible exact ih1 _ _ _)
   | (with_reducible exact LeO.refl _)
   | (with_reducible exact LeO.none _)
   | (with_reducible refine LeO.ite ?_ ?_)
   | (with_reducible refine LeO.bind ?_ (fun _ => ?_))
   | exact ih0 _ _
   | exact ih1 _ _ _
   | exact LeO.none _
   | refine LeO.ite ?_ ?_
   | refine LeO.bind ?_ (fun _ => ?_)
set_option maxHeartbeats 8000000 in
set_option maxRecDepth 100000 in
theorem runnelref03_Check.calls (k : Nat) (A0 : Option Addr) (c0 : Nat) (l0 : List (S103)) (r : Int) (w : World) (hr0 : Kd.C k103 w A0 l0.length l0) (hc0 : l0.length ≤ c0) (h : runnelref03_Check.f k l0 = some r) :
  Calls Try.prog 51 #[.slice A0 l0.length c0] w fun e w' => e = .returned (.int .i64 r) ∧ Drawn0 w w' := by
 have HR0 := Aside0.mk hr0
 have HC0 := Aside0.mk hc0
 clear hr0 hc0
 have H : (if (l0.length : Int) > 16 then (some 3) else (runnelref03_Check.l0 k l0 0)) = some r := h
 clear h
 by_cases c2 : (l0.length : Int) > 16
 ·
  rw [if_pos c2] at H
  have c2b0 : decide (16 < (l0.length : Int)) = true := decide_eq_true c2
  have c2b1 : decide (16 < l0.length) = true := decide_eq_true (by omega)
  clear c2
  obtain rfl := Option.some.inj H
  go_enter Try.func51, Try.ntmps51
  go_wp2
  go_ret
  exact ⟨by first | rfl | (simp; done) | (simp [*]; done), by repeat (first | exact Drawn0.refl _ | apply Drawn0.step)⟩
 ·
  rw [if_neg c2] at H
  have c2b0 : decide (16 < (l0.length : Int)) = false := decide_eq_false c2
  have c2b1 : decide (16 < l0.length) = false := decide_eq_false (by omega)
  clear c2
  have H' := Aside0.mk H
  clear H
  go_enter Try.func51, Try.ntmps51
  go_wp2
  go_loopg [3] k (fun kq v3 w' => ∃ (x3_1 : Int), v3 = .int .i64 x3_1 ∧ Aside0 (runnelref03_Check.l0 kq l0 x3_1 = some r) ∧ Aside0 (kq ≤ k) ∧ Drawn0 w w')
  case atStart => exact ⟨(0), (by first | rfl | (simp; done) | (simp [*]; done)), H', ⟨Nat.le_refl _⟩, by repeat (first | exact Drawn0.refl _ | apply Drawn0.step)⟩
  case round =>
   clear H'
   (try clear c2); (try clear c2b0); (try clear c2b1)
   obtain ⟨x3_1, rfl, HA, HK1, ⟨m1, rfl⟩⟩ := hrel
   cases gk with
   | zero => exact absurd HA.out (by simp [runnelref03_Check.l0])
   | succ k1 =>
    have H := HA.out
    clear HA
    simp only [runnelref03_Check.l0] at H
    by_cases c3 : x3_1 < (l0.length : Int)
    ·
     rw [if_pos c3] at H
     have c3b0 : decide (x3_1 < (l0.length : Int)) = true := decide_eq_true c3
     clear c3
     have HC4 := Aside0.mk H
     clear H
     go_upto_region 6 with (fail)
     go_cut [26] (fun v26 wc => ∃ (kq : Nat) (x26_3 : Bool), v26 = .bool x26_3 ∧ Aside0 (runnelref03_Check.j1 kq l0 x3_1 x26_3 = some r) ∧ Aside0 (kq ≤ k1) ∧ Drawn0 w wc)
     case first =>
      have H := HC4.out
      clear HC4
      by_cases c5 : 0 ≤ x3_1
      ·
       rw [if_pos c5] at H
       have c5b0 : decide (0 ≤ x3_1) = true := decide_eq_true c5
       clear c5
       (first | rw [c5b0] | (simp only [i64_w, i32_w]; rw [c5b0]) | skip)
       by_cases c6 : ((rd_T103 l0 x3_1).f0) = 0
       ·
        rw [if_pos c6] at H
        have c6b0 : (((rd_T103 l0 x3_1).f0) == 0) = true := beq_iff_eq.mpr c6
        have c6b1 : (((rd_T103 l0 x3_1).f0) != 0) = false := bne_eq_false_iff_eq.mpr c6
        clear c6
        have H' := Aside0.mk H
        clear H
        have p283 : 0 ≤ (x3_1 : Int) := of_decide_eq_true (by first | (with_reducible assumption) | assumption)
        have q283 : x3_1 < (l0.length : Int) := of_decide_eq_true (by first | (with_reducible assumption) | assumption)
        obtain ⟨ad283, e283, hx283_0, hx283_1, hx283_2⟩ := at_T103 HR0.out x3_1 p283 q283
        cases e283
        replace p283 := eq_true p283
        replace q283 := eq_true q283
        go_wp2
        go_meet
        case rel => exact ⟨_, (false), (by first | rfl | (simp; done) | (simp [*]; done)), H', ⟨by have := HK1.out; first | omega | exact Nat.le_refl _⟩, by repeat (first | exact Drawn0.refl _ | apply Drawn0.step)⟩
       ·
        rw [if_neg c6] at H
        have c6b0 : (((rd_T103 l0 x3_1).f0) == 0) = false := beq_eq_false_iff_ne.mpr c6
        have c6b1 : (((rd_T103 l0 x3_1).f0) != 0) = true := bne_iff_ne.mpr c6
        have H' := Aside0.mk H
        clear H
        have p283 : 0 ≤ (x3_1 : Int) := of_decide_eq_true (by first | (with_reducible assumption) | assumption)
        have q283 : x3_1 < (l0.length : Int) := of_decide_eq_true (by first | (with_reducible assumption) | assumption)
        obtain ⟨ad283, e283, hx283_0, hx283_1, hx283_2⟩ := at_T103 HR0.out x3_1 p283 q283
        cases e283
        replace p283 := eq_true p283
        replace q283 := eq_true q283
        have p284 : 0 ≤ (x3_1 : Int) := of_decide_eq_true (by first | (with_reducible assumption) | assumption)
        have q284 : x3_1 < (l0.length : Int) := of_decide_eq_true (by first | (with_reducible assumption) | assumption)
        obtain ⟨ad284, e284, hx284_0, hx284_1, hx284_2⟩ := at_T103 HR0.out x3_1 p284 q284
        obtain rfl : ad283 = ad284 := (by injection e284)
        replace p284 := eq_true p284
        replace q284 := eq_true q284
        go_wp2
        go_meet
        case rel => exact ⟨_, ((((rd_T103 l0 x3_1).f0) != 1)), (by first | rfl | (simp; done) | (simp [*]; done)), H', ⟨by have := HK1.out; first | omega | exact Nat.le_refl _⟩, by repeat (first | exact Drawn0.refl _ | apply Drawn0.step)⟩
      ·
       rw [if_neg c5] at H
       exact absurd H (by simp)
     case rest =>
      clear HC4
      (try clear c2); (try clear c2b0); (try clear c2b1); (try clear c3); (try clear c3b0)
      obtain ⟨kq, x26_3, rfl, HA, HJ3, ⟨mc3, rfl⟩⟩ := hcut
      cases kq with
      | zero => exact absurd HA.out (by simp [runnelref03_Check.j1])
      | succ kj3 =>
       have H := HA.out
       clear HA
       simp only [runnelref03_Check.j1] at H
       by_cases c7 : x26_3 = true
       ·
        subst c7
        have H1 : (some 8) = some r := by rw [if_pos rfl] at H; exact H
        clear H
        have H := H1
        clear H1
        obtain rfl := Option.some.inj H
        go_wp2
        go_ret
        exact ⟨by first | rfl | (simp; done) | (simp [*]; done), by repeat (first | exact Drawn0.refl _ | apply Drawn0.step)⟩
       ·
        replace c7 := Bool.eq_false_iff.mpr c7
        subst c7
        have H1 : (if 0 ≤ x3_1 then (if x3_1 < (l0.length : Int) then (if ((rd_T103 l0 x3_1).f0) = 1 then (if (((rd_T103 l0 x3_1).f2).size : Int) > 4096 then (some 2) else (runnelref03_Check.l0 kj3 l0 (wrap64 (x3_1 + 1)))) else (runnelref03_Check.l0 kj3 l0 (wrap64 (x3_1 + 1)))) else (none)) else (none)) = some r := by rw [if_neg (show ¬ (false = true) by decide)] at H; exact H
        clear H
        have H := H1
        clear H1
        by_cases c8 : 0 ≤ x3_1
        ·
         rw [if_pos c8] at H
         have c8b0 : decide (0 ≤ x3_1) = true := decide_eq_true c8
         clear c8
         by_cases c9 : x3_1 < (l0.length : Int)
         ·
          rw [if_pos c9] at H
          have c9b0 : decide (x3_1 < (l0.length : Int)) = true := decide_eq_true c9
          clear c9
          by_cases c10 : ((rd_T103 l0 x3_1).f0) = 1
          ·
           rw [if_pos c10] at H
           have c10b0 : (((rd_T103 l0 x3_1).f0) == 1) = true := beq_iff_eq.mpr c10
           have c10b1 : (((rd_T103 l0 x3_1).f0) != 1) = false := bne_eq_false_iff_eq.mpr c10
           clear c10
           by_cases c11 : (((rd_T103 l0 x3_1).f2).size : Int) > 4096
           ·
            rw [if_pos c11] at H
            have c11b0 : decide (4096 < (((rd_T103 l0 x3_1).f2).size : Int)) = true := decide_eq_true c11
            have c11b1 : decide (4096 < ((rd_T103 l0 x3_1).f2).size) = true := decide_eq_true (by omega)
            clear c11
            obtain rfl := Option.some.inj H
            have p285 : 0 ≤ (x3_1 : Int) := of_decide_eq_true (by first | (with_reducible assumption) | assumption)
            have q285 : x3_1 < (l0.length : Int) := of_decide_eq_true (by first | (with_reducible assumption) | assumption)
            obtain ⟨ad285, e285, hx285_0, hx285_1, hx285_2⟩ := at_T103 HR0.out x3_1 p285 q285
            cases e285
            replace p285 := eq_true p285
            replace q285 := eq_true q285
            have p286 : 0 ≤ (x3_1 : Int) := of_decide_eq_true (by first | (with_reducible assumption) | assumption)
            have q286 : x3_1 < (l0.length : Int) := of_decide_eq_true (by first | (with_reducible assumption) | assumption)
            obtain ⟨ad286, e286, hx286_0, hx286_1, hx286_2⟩ := at_T103 HR0.out x3_1 p286 q286
            obtain rfl : ad285 = ad286 := (by injection e286)
            replace p286 := eq_true p286
            replace q286 := eq_true q286
            go_wp2
            go_ret
            exact ⟨by first | rfl | (simp; done) | (simp [*]; done), by repeat (first | exact Drawn0.refl _ | apply Drawn0.step)⟩
           ·
            rw [if_neg c11] at H
            have c11b0 : decide (4096 < (((rd_T103 l0 x3_1).f2).size : Int)) = false := decide_eq_false c11
            have c11b1 : decide (4096 < ((rd_T103 l0 x3_1).f2).size) = false := decide_eq_false (by omega)
            clear c11
            have H' := Aside0.mk H
            clear H
            have p285 : 0 ≤ (x3_1 : Int) := of_decide_eq_true (by first | (with_reducible assumption) | assumption)
            have q285 : x3_1 < (l0.length : Int) := of_decide_eq_true (by first | (with_reducible assumption) | assumption)
            obtain ⟨ad285, e285, hx285_0, hx285_1, hx285_2⟩ := at_T103 HR0.out x3_1 p285 q285
            cases e285
            replace p285 := eq_true p285
            replace q285 := eq_true q285
            have p286 : 0 ≤ (x3_1 : Int) := of_decide_eq_true (by first | (with_reducible assumption) | assumption)
            have q286 : x3_1 < (l0.length : Int) := of_decide_eq_true (by first | (with_reducible assumption) | assumption)
            obtain ⟨ad286, e286, hx286_0, hx286_1, hx286_2⟩ := at_T103 HR0.out x3_1 p286 q286
            obtain rfl : ad285 = ad286 := (by injection e286)
            replace p286 := eq_true p286
            replace q286 := eq_true q286
            go_wp2
            go_roundg kj3
            case measure => have := HK1.out; have := HJ3.out; omega
            case rel => exact ⟨(wrap64 (x3_1 + 1)), (by first | rfl | (simp; done) | (simp [*]; done)), H', ⟨by have := HK1.out; have := HJ3.out; omega⟩, by repeat (first | exact Drawn0.refl _ | apply Drawn0.step)⟩
          ·
           rw [if_neg c10] at H
           have c10b0 : (((rd_T103 l0 x3_1).f0) == 1) = false := beq_eq_false_iff_ne.mpr c10
           have c10b1 : (((rd_T103 l0 x3_1).f0) != 1) = true := bne_iff_ne.mpr c10
           have H' := Aside0.mk H
           clear H
           have p285 : 0 ≤ (x3_1 : Int) := of_decide_eq_true (by first | (with_reducible assumption) | assumption)
           have q285 : x3_1 < (l0.length : Int) := of_decide_eq_true (by first | (with_reducible assumption) | assumption)
           obtain ⟨ad285, e285, hx285_0, hx285_1, hx285_2⟩ := at_T103 HR0.out x3_1 p285 q285
           cases e285
           replace p285 := eq_true p285
           replace q285 := eq_true q285
           go_wp2
           go_roundg kj3
           case measure => have := HK1.out; have := HJ3.out; omega
           case rel => exact ⟨(wrap64 (x3_1 + 1)), (by first | rfl | (simp; done) | (simp [*]; done)), H', ⟨by have := HK1.out; have := HJ3.out; omega⟩, by repeat (first | exact Drawn0.refl _ | apply Drawn0.step)⟩
         ·
          rw [if_neg c9] at H
          exact absurd H (by simp)
        ·
         rw [if_neg c8] at H
         exact absurd H (by simp)
    ·
     rw [if_neg c3] at H
     have c3b0 : decide (x3_1 < (l0.length : Int)) = false := decide_eq_false c3
     clear c3
     obtain rfl := Option.some.inj H
     go_wp2
     go_ret
     exact ⟨by first | rfl | (simp; done) | (simp [*]; done), by repeat (first | exact Drawn0.refl _ | apply Drawn0.step)⟩

end Go.Proofs.Ytpplklickfioiaa.PWireLists
