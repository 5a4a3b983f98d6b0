/- One piece of the machine's side of the law, written by a program over the translation; Lean checks it. -/
import Derived.Test.YtpplklickfioiaaOWirePutsx0
import Derived.Test.YtpplklickfioiaaShort
namespace Go.Proofs.Ytpplklickfioiaa.PWirePuts
open Go.RowKit Go.Proofs.YtpplklickfioiaaW.PrintWords Go.Proofs.YtpplklickfioiaaW.PrintLast Go.Proofs.YtpplklickfioiaaW.PrintMore
attribute [local go_sem] max2_int min2_int max_two min_two max_three min_three max_four min_four   -- for this text's walks alone
set_option linter.unusedVariables false
set_option linter.unusedSimpArgs false

/-! ### runnelref03_Long: function 46 -/
def runnelref03_Long.l0 : Nat → List (S103) → Int → Option (Bool)
 | 0, _, _ => none
 | k + 1, x0, x3 => if x3 < (x0.length : Int) then (if 0 ≤ x3 then (if (((rd_T103 x0 x3).f2).size : Int) > 5000 then (some true) else (runnelref03_Long.l0 k x0 (wrap64 (x3 + 1)))) else (none)) else (some false)
def runnelref03_Long.f (k : Nat) (l0 : List (S103)) : Option (Bool) := if (l0.length : Int) > 30 then (some true) else (runnelref03_Long.l0 k l0 0)
set_option maxHeartbeats 8000000 in
set_option maxRecDepth 100000 in
theorem runnelref03_Long.calls (k : Nat) (A0 : Option Addr) (c0 : Nat) (l0 : List (S103)) (r : Bool) (w : World) (hr0 : Kd.C k103 w A0 l0.length l0) (hc0 : l0.length ≤ c0) (h : runnelref03_Long.f k l0 = some r) :
  Calls Try.prog 46 #[.slice A0 l0.length c0] w fun e w' => e = .returned (.bool r) ∧ Drawn0 w w' := by
 have HR0 := Aside0.mk hr0; have HC0 := Aside0.mk hc0; clear hr0 hc0; have H : (if (l0.length : Int) > 30 then (some true) else (runnelref03_Long.l0 k l0 0)) = some r := h; clear h; by_cases c2 : (l0.length : Int) > 30
 ·
  rw [if_pos c2] at H; have c2b0 : decide (30 < (l0.length : Int)) = true := decide_eq_true c2; have c2b1 : decide (30 < l0.length) = true := decide_eq_true (by omega); clear c2; obtain rfl := Option.some.inj H; go_enter Try.func46, Try.ntmps46
  go_wp2
  go_ret
  exact ⟨by first | rfl | (simp; done) | (simp [*]; done), by repeat (first | exact Drawn0.refl _ | apply Drawn0.step)⟩
 rw [if_neg c2] at H; have c2b0 : decide (30 < (l0.length : Int)) = false := decide_eq_false c2; have c2b1 : decide (30 < l0.length) = false := decide_eq_false (by omega); clear c2; have H' := Aside0.mk H; clear H; go_enter Try.func46, Try.ntmps46
 go_wp2
 go_loopg [3] k (fun kq v3 w' => ∃ (x3_1 : Int), v3 = .int .i64 x3_1 ∧ Aside0 (runnelref03_Long.l0 kq l0 x3_1 = some r) ∧ Aside0 (kq ≤ k) ∧ Drawn0 w w')
 case atStart => exact ⟨(0), rsd, H', ⟨Nat.le_refl _⟩, by repeat (first | exact Drawn0.refl _ | apply Drawn0.step)⟩
 clear H'; (try clear c2); (try clear c2b0); (try clear c2b1); obtain ⟨x3_1, rfl, HA, HK1, ⟨m1, rfl⟩⟩ := hrel; cases gk with
 | zero => exact absurd HA.out (by simp [runnelref03_Long.l0])
 | succ k1 =>
  have H := HA.out; clear HA; simp only [runnelref03_Long.l0] at H; by_cases c3 : x3_1 < (l0.length : Int)
  rotate_left
  ·
   rw [if_neg c3] at H; have c3b0 : decide (x3_1 < (l0.length : Int)) = false := decide_eq_false c3; clear c3; obtain rfl := Option.some.inj H; go_wp2
   go_ret
   exact ⟨by first | rfl | (simp; done) | (simp [*]; done), by repeat (first | exact Drawn0.refl _ | apply Drawn0.step)⟩

  rw [if_pos c3] at H; have c3b0 : decide (x3_1 < (l0.length : Int)) = true := decide_eq_true c3; clear c3; by_cases c4 : 0 ≤ x3_1
  rotate_left
  · rw [if_neg c4] at H; exact absurd H (by simp)
  rw [if_pos c4] at H; have c4b0 : decide (0 ≤ x3_1) = true := decide_eq_true c4; clear c4; by_cases c5 : (((rd_T103 l0 x3_1).f2).size : Int) > 5000
  ·
   rw [if_pos c5] at H; have c5b0 : decide (5000 < (((rd_T103 l0 x3_1).f2).size : Int)) = true := decide_eq_true c5; have c5b1 : decide (5000 < ((rd_T103 l0 x3_1).f2).size) = true := decide_eq_true (by omega); clear c5; obtain rfl := Option.some.inj H; have p365 : 0 ≤ (x3_1 : Int) := of_decide_eq_true asm; have q365 : x3_1 < (l0.length : Int) := of_decide_eq_true asm; obtain ⟨ad365, e365, hx365_0, hx365_1, hx365_2⟩ := at_T103 HR0.out x3_1 p365 q365; cases e365
   replace p365 := eq_true p365; replace q365 := eq_true q365; go_wp2
   go_ret
   exact ⟨by first | rfl | (simp; done) | (simp [*]; done), by repeat (first | exact Drawn0.refl _ | apply Drawn0.step)⟩
  rw [if_neg c5] at H; have c5b0 : decide (5000 < (((rd_T103 l0 x3_1).f2).size : Int)) = false := decide_eq_false c5; have c5b1 : decide (5000 < ((rd_T103 l0 x3_1).f2).size) = false := decide_eq_false (by omega); clear c5; have H' := Aside0.mk H; clear H; have p365 : 0 ≤ (x3_1 : Int) := of_decide_eq_true asm; have q365 : x3_1 < (l0.length : Int) := of_decide_eq_true asm; obtain ⟨ad365, e365, hx365_0, hx365_1, hx365_2⟩ := at_T103 HR0.out x3_1 p365 q365; cases e365
  replace p365 := eq_true p365; replace q365 := eq_true q365; go_wp2
  go_roundg k1
  case measure => have := HK1.out; omega
  case rel => exact ⟨(wrap64 (x3_1 + 1)), rsd, H', ⟨by have := HK1.out; omega⟩, by repeat (first | exact Drawn0.refl _ | apply Drawn0.step)⟩
/-! ### runnelref26_Much: function 18 -/
def runnelref26_Much.l0 : Nat → List (S40) → Int → Option (Bool)
 | 0, _, _ => none
 | k + 1, x0, x3 => if x3 < (x0.length : Int) then (if 0 ≤ x3 then ((runnelref03_Long.f k ((rd_T40 x0 x3).f2.f0)).bind fun t367 => (if t367 = true then (some true) else (if (((rd_T40 x0 x3).f3).length : Int) > 30 then (some true) else (if (((rd_T40 x0 x3).f5).length : Int) > 70000 then (some true) else (runnelref26_Much.l0 k x0 (wrap64 (x3 + 1))))))) else (none)) else (some false)
def runnelref26_Much.f (k : Nat) (l0 : List (S40)) : Option (Bool) := if (l0.length : Int) > 100 then (some true) else (runnelref26_Much.l0 k l0 0)
set_option maxHeartbeats 8000000 in
set_option maxRecDepth 100000 in
theorem runnelref26_Much.calls (k : Nat) (A0 : Option Addr) (c0 : Nat) (l0 : List (S40)) (r : Bool) (w : World) (hr0 : Kd.C k40 w A0 l0.length l0) (hc0 : l0.length ≤ c0) (h : runnelref26_Much.f k l0 = some r) :
  Calls Try.prog 18 #[.slice A0 l0.length c0] w fun e w' => e = .returned (.bool r) ∧ Drawn0 w w' := by
 have HR0 := Aside0.mk hr0; have HC0 := Aside0.mk hc0; clear hr0 hc0; have H : (if (l0.length : Int) > 100 then (some true) else (runnelref26_Much.l0 k l0 0)) = some r := h; clear h; by_cases c2 : (l0.length : Int) > 100
 ·
  rw [if_pos c2] at H; have c2b0 : decide (100 < (l0.length : Int)) = true := decide_eq_true c2; have c2b1 : decide (100 < l0.length) = true := decide_eq_true (by omega); clear c2; obtain rfl := Option.some.inj H; go_enter Try.func18, Try.ntmps18
  go_wp2
  go_ret
  exact ⟨by first | rfl | (simp; done) | (simp [*]; done), by repeat (first | exact Drawn0.refl _ | apply Drawn0.step)⟩
 rw [if_neg c2] at H; have c2b0 : decide (100 < (l0.length : Int)) = false := decide_eq_false c2; have c2b1 : decide (100 < l0.length) = false := decide_eq_false (by omega); clear c2; have H' := Aside0.mk H; clear H; go_enter Try.func18, Try.ntmps18
 go_wp2
 go_loopg [3] k (fun kq v3 w' => ∃ (x3_1 : Int), v3 = .int .i64 x3_1 ∧ Aside0 (runnelref26_Much.l0 kq l0 x3_1 = some r) ∧ Aside0 (kq ≤ k) ∧ Drawn0 w w')
 case atStart => exact ⟨(0), rsd, H', ⟨Nat.le_refl _⟩, by repeat (first | exact Drawn0.refl _ | apply Drawn0.step)⟩
 clear H'; (try clear c2); (try clear c2b0); (try clear c2b1); obtain ⟨x3_1, rfl, HA, HK1, ⟨m1, rfl⟩⟩ := hrel; cases gk with
 | zero => exact absurd HA.out (by simp [runnelref26_Much.l0])
 | succ k1 =>
  have H := HA.out; clear HA; simp only [runnelref26_Much.l0] at H; by_cases c3 : x3_1 < (l0.length : Int)
  rotate_left
  ·
   rw [if_neg c3] at H; have c3b0 : decide (x3_1 < (l0.length : Int)) = false := decide_eq_false c3; clear c3; obtain rfl := Option.some.inj H; go_wp2
   go_ret
   exact ⟨by first | rfl | (simp; done) | (simp [*]; done), by repeat (first | exact Drawn0.refl _ | apply Drawn0.step)⟩

  rw [if_pos c3] at H; have c3b0 : decide (x3_1 < (l0.length : Int)) = true := decide_eq_true c3; clear c3; by_cases c4 : 0 ≤ x3_1
  rotate_left
  · rw [if_neg c4] at H; exact absurd H (by simp)
  rw [if_pos c4] at H; have c4b0 : decide (0 ≤ x3_1) = true := decide_eq_true c4; clear c4; replace H := Option.bind_eq_some_iff.mp H; obtain ⟨t367, A50, H⟩ := H; replace H : (if t367 = true then (some true) else (if (((rd_T40 l0 x3_1).f3).length : Int) > 30 then (some true) else (if (((rd_T40 l0 x3_1).f5).length : Int) > 70000 then (some true) else (runnelref26_Much.l0 k1 l0 (wrap64 (x3_1 + 1)))))) = some r := H; have A5 := Aside0.mk A50; clear A50; by_cases c6 : t367 = true
  ·
   subst c6; have H1 : (some true) = some r := by rw [if_pos rfl] at H; exact H
   clear H; have H := H1; clear H1; obtain rfl := Option.some.inj H; have p366 : 0 ≤ (x3_1 : Int) := of_decide_eq_true asm; have q366 : x3_1 < (l0.length : Int) := of_decide_eq_true asm; obtain ⟨ad366, A366_2, c366_2, A366_6, c366_6, A366_8, c366_8, e366, hx366_0, hx366_1, hx366_2, hx366_3, hx366_4, hx366_5, hx366_6, hx366_7, hx366_8, hl366_2, hi366_2, hl366_6, hi366_6, hl366_8, hi366_8⟩ := at_T40 HR0.out x3_1 p366 q366; cases e366
   have HR366_2 := Aside0.mk hi366_2; have HC366_2 := Aside0.mk hl366_2; clear hi366_2 hl366_2; have HR366_6 := Aside0.mk hi366_6; have HC366_6 := Aside0.mk hl366_6; clear hi366_6 hl366_6; have HR366_8 := Aside0.mk hi366_8; have HC366_8 := Aside0.mk hl366_8; clear hi366_8 hl366_8; replace p366 := eq_true p366; replace q366 := eq_true q366; go_wp2_with (first | ((with_reducible refine gate_callee (f := 46) rfl ?_); refine goesL_ (some 19) rfl rfl Try.func46 (by kernel_rfl) rfl #[.slice A366_2 ((rd_T40 l0 x3_1).f2.f0).length c366_2] rfl mpq ?_; (with_reducible refine (runnelref03_Long.calls k1 _ _ ((rd_T40 l0 x3_1).f2.f0) true _ ?side1 ?side2 A5.out).mono ?_); (case side1 => exact cp (HR366_2.out)); (case side2 => exact HC366_2.out); rintro e w' ⟨rfl, ⟨nd, rfl⟩⟩; refine ⟨_, rfl, ?_⟩))
   go_ret
   exact ⟨by first | rfl | (simp; done) | (simp [*]; done), by repeat (first | exact Drawn0.refl _ | apply Drawn0.step)⟩
  replace c6 := Bool.eq_false_iff.mpr c6; subst c6; have H1 : (if (((rd_T40 l0 x3_1).f3).length : Int) > 30 then (some true) else (if (((rd_T40 l0 x3_1).f5).length : Int) > 70000 then (some true) else (runnelref26_Much.l0 k1 l0 (wrap64 (x3_1 + 1))))) = some r := by rw [if_neg (show ¬ (false = true) by decide)] at H; exact H
  clear H; have H := H1; clear H1; by_cases c7 : (((rd_T40 l0 x3_1).f3).length : Int) > 30
  ·
   rw [if_pos c7] at H; have c7b0 : decide (30 < (((rd_T40 l0 x3_1).f3).length : Int)) = true := decide_eq_true c7; have c7b1 : decide (30 < ((rd_T40 l0 x3_1).f3).length) = true := decide_eq_true (by omega); clear c7; obtain rfl := Option.some.inj H; have p366 : 0 ≤ (x3_1 : Int) := of_decide_eq_true asm; have q366 : x3_1 < (l0.length : Int) := of_decide_eq_true asm; obtain ⟨ad366, A366_2, c366_2, A366_6, c366_6, A366_8, c366_8, e366, hx366_0, hx366_1, hx366_2, hx366_3, hx366_4, hx366_5, hx366_6, hx366_7, hx366_8, hl366_2, hi366_2, hl366_6, hi366_6, hl366_8, hi366_8⟩ := at_T40 HR0.out x3_1 p366 q366; cases e366
   have HR366_2 := Aside0.mk hi366_2; have HC366_2 := Aside0.mk hl366_2; clear hi366_2 hl366_2; have HR366_6 := Aside0.mk hi366_6; have HC366_6 := Aside0.mk hl366_6; clear hi366_6 hl366_6; have HR366_8 := Aside0.mk hi366_8; have HC366_8 := Aside0.mk hl366_8; clear hi366_8 hl366_8; replace p366 := eq_true p366; replace q366 := eq_true q366; go_wp2_with (first | ((with_reducible refine gate_callee (f := 46) rfl ?_); refine goesL_ (some 19) rfl rfl Try.func46 (by kernel_rfl) rfl #[.slice A366_2 ((rd_T40 l0 x3_1).f2.f0).length c366_2] rfl mpq ?_; (with_reducible refine (runnelref03_Long.calls k1 _ _ ((rd_T40 l0 x3_1).f2.f0) false _ ?side1 ?side2 A5.out).mono ?_); (case side1 => exact cp (HR366_2.out)); (case side2 => exact HC366_2.out); rintro e w' ⟨rfl, ⟨nd, rfl⟩⟩; refine ⟨_, rfl, ?_⟩; have p368 : 0 ≤ (x3_1 : Int) := of_decide_eq_true asm; have q368 : x3_1 < (l0.length : Int) := of_decide_eq_true asm; obtain ⟨ad368, A368_2, c368_2, A368_6, c368_6, A368_8, c368_8, e368, hx368_0, hx368_1, hx368_2, hx368_3, hx368_4, hx368_5, hx368_6, hx368_7, hx368_8, hl368_2, hi368_2, hl368_6, hi368_6, hl368_8, hi368_8⟩ := at_T40 HR0.out x3_1 p368 q368; obtain rfl : ad366 = ad368 := (by injection e368); have HR368_2 := Aside0.mk hi368_2; have HC368_2 := Aside0.mk hl368_2; clear hi368_2 hl368_2; have HR368_6 := Aside0.mk hi368_6; have HC368_6 := Aside0.mk hl368_6; clear hi368_6 hl368_6; have HR368_8 := Aside0.mk hi368_8; have HC368_8 := Aside0.mk hl368_8; clear hi368_8 hl368_8; replace p368 := eq_true p368; replace q368 := eq_true q368; have ea_ := Option.some.inj (hx366_2.symm.trans hx368_2); injection ea_ with ea_ en_ ec_; subst ea_; subst ec_; clear en_; have ea_ := Option.some.inj (hx366_6.symm.trans hx368_6); injection ea_ with ea_ en_ ec_; subst ea_; subst ec_; clear en_; have ea_ := Option.some.inj (hx366_8.symm.trans hx368_8); injection ea_ with ea_ en_ ec_; subst ea_; subst ec_; clear en_))
   go_ret
   exact ⟨by first | rfl | (simp; done) | (simp [*]; done), by repeat (first | exact Drawn0.refl _ | apply Drawn0.step)⟩
  rw [if_neg c7] at H; have c7b0 : decide (30 < (((rd_T40 l0 x3_1).f3).length : Int)) = false := decide_eq_false c7; have c7b1 : decide (30 < ((rd_T40 l0 x3_1).f3).length) = false := decide_eq_false (by omega); clear c7; by_cases c8 : (((rd_T40 l0 x3_1).f5).length : Int) > 70000
  ·
   rw [if_pos c8] at H; have c8b0 : decide (70000 < (((rd_T40 l0 x3_1).f5).length : Int)) = true := decide_eq_true c8; have c8b1 : decide (70000 < ((rd_T40 l0 x3_1).f5).length) = true := decide_eq_true (by omega); clear c8; obtain rfl := Option.some.inj H; have p366 : 0 ≤ (x3_1 : Int) := of_decide_eq_true asm; have q366 : x3_1 < (l0.length : Int) := of_decide_eq_true asm; obtain ⟨ad366, A366_2, c366_2, A366_6, c366_6, A366_8, c366_8, e366, hx366_0, hx366_1, hx366_2, hx366_3, hx366_4, hx366_5, hx366_6, hx366_7, hx366_8, hl366_2, hi366_2, hl366_6, hi366_6, hl366_8, hi366_8⟩ := at_T40 HR0.out x3_1 p366 q366; cases e366
   have HR366_2 := Aside0.mk hi366_2; have HC366_2 := Aside0.mk hl366_2; clear hi366_2 hl366_2; have HR366_6 := Aside0.mk hi366_6; have HC366_6 := Aside0.mk hl366_6; clear hi366_6 hl366_6; have HR366_8 := Aside0.mk hi366_8; have HC366_8 := Aside0.mk hl366_8; clear hi366_8 hl366_8; replace p366 := eq_true p366; replace q366 := eq_true q366; go_wp2_with (first | ((with_reducible refine gate_callee (f := 46) rfl ?_); refine goesL_ (some 19) rfl rfl Try.func46 (by kernel_rfl) rfl #[.slice A366_2 ((rd_T40 l0 x3_1).f2.f0).length c366_2] rfl mpq ?_; (with_reducible refine (runnelref03_Long.calls k1 _ _ ((rd_T40 l0 x3_1).f2.f0) false _ ?side1 ?side2 A5.out).mono ?_); (case side1 => exact cp (HR366_2.out)); (case side2 => exact HC366_2.out); rintro e w' ⟨rfl, ⟨nd, rfl⟩⟩; refine ⟨_, rfl, ?_⟩; have p368 : 0 ≤ (x3_1 : Int) := of_decide_eq_true asm; have q368 : x3_1 < (l0.length : Int) := of_decide_eq_true asm; obtain ⟨ad368, A368_2, c368_2, A368_6, c368_6, A368_8, c368_8, e368, hx368_0, hx368_1, hx368_2, hx368_3, hx368_4, hx368_5, hx368_6, hx368_7, hx368_8, hl368_2, hi368_2, hl368_6, hi368_6, hl368_8, hi368_8⟩ := at_T40 HR0.out x3_1 p368 q368; obtain rfl : ad366 = ad368 := (by injection e368); have HR368_2 := Aside0.mk hi368_2; have HC368_2 := Aside0.mk hl368_2; clear hi368_2 hl368_2; have HR368_6 := Aside0.mk hi368_6; have HC368_6 := Aside0.mk hl368_6; clear hi368_6 hl368_6; have HR368_8 := Aside0.mk hi368_8; have HC368_8 := Aside0.mk hl368_8; clear hi368_8 hl368_8; replace p368 := eq_true p368; replace q368 := eq_true q368; have ea_ := Option.some.inj (hx366_2.symm.trans hx368_2); injection ea_ with ea_ en_ ec_; subst ea_; subst ec_; clear en_; have ea_ := Option.some.inj (hx366_6.symm.trans hx368_6); injection ea_ with ea_ en_ ec_; subst ea_; subst ec_; clear en_; have ea_ := Option.some.inj (hx366_8.symm.trans hx368_8); injection ea_ with ea_ en_ ec_; subst ea_; subst ec_; clear en_; have p369 : 0 ≤ (x3_1 : Int) := of_decide_eq_true asm; have q369 : x3_1 < (l0.length : Int) := of_decide_eq_true asm; obtain ⟨ad369, A369_2, c369_2, A369_6, c369_6, A369_8, c369_8, e369, hx369_0, hx369_1, hx369_2, hx369_3, hx369_4, hx369_5, hx369_6, hx369_7, hx369_8, hl369_2, hi369_2, hl369_6, hi369_6, hl369_8, hi369_8⟩ := at_T40 HR0.out x3_1 p369 q369; obtain rfl : ad366 = ad369 := (by injection e369); have HR369_2 := Aside0.mk hi369_2; have HC369_2 := Aside0.mk hl369_2; clear hi369_2 hl369_2; have HR369_6 := Aside0.mk hi369_6; have HC369_6 := Aside0.mk hl369_6; clear hi369_6 hl369_6; have HR369_8 := Aside0.mk hi369_8; have HC369_8 := Aside0.mk hl369_8; clear hi369_8 hl369_8; replace p369 := eq_true p369; replace q369 := eq_true q369; have ea_ := Option.some.inj (hx366_2.symm.trans hx369_2); injection ea_ with ea_ en_ ec_; subst ea_; subst ec_; clear en_; have ea_ := Option.some.inj (hx366_6.symm.trans hx369_6); injection ea_ with ea_ en_ ec_; subst ea_; subst ec_; clear en_; have ea_ := Option.some.inj (hx366_8.symm.trans hx369_8); injection ea_ with ea_ en_ ec_; subst ea_; subst ec_; clear en_))
   go_ret
   exact ⟨by first | rfl | (simp; done) | (simp [*]; done), by repeat (first | exact Drawn0.refl _ | apply Drawn0.step)⟩
  rw [if_neg c8] at H; have c8b0 : decide (70000 < (((rd_T40 l0 x3_1).f5).length : Int)) = false := decide_eq_false c8; have c8b1 : decide (70000 < ((rd_T40 l0 x3_1).f5).length) = false := decide_eq_false (by omega); clear c8; have H' := Aside0.mk H; clear H; have p366 : 0 ≤ (x3_1 : Int) := of_decide_eq_true asm; have q366 : x3_1 < (l0.length : Int) := of_decide_eq_true asm; obtain ⟨ad366, A366_2, c366_2, A366_6, c366_6, A366_8, c366_8, e366, hx366_0, hx366_1, hx366_2, hx366_3, hx366_4, hx366_5, hx366_6, hx366_7, hx366_8, hl366_2, hi366_2, hl366_6, hi366_6, hl366_8, hi366_8⟩ := at_T40 HR0.out x3_1 p366 q366; cases e366
  have HR366_2 := Aside0.mk hi366_2; have HC366_2 := Aside0.mk hl366_2; clear hi366_2 hl366_2; have HR366_6 := Aside0.mk hi366_6; have HC366_6 := Aside0.mk hl366_6; clear hi366_6 hl366_6; have HR366_8 := Aside0.mk hi366_8; have HC366_8 := Aside0.mk hl366_8; clear hi366_8 hl366_8; replace p366 := eq_true p366; replace q366 := eq_true q366; go_wp2_with (first | ((with_reducible refine gate_callee (f := 46) rfl ?_); refine goesL_ (some 19) rfl rfl Try.func46 (by kernel_rfl) rfl #[.slice A366_2 ((rd_T40 l0 x3_1).f2.f0).length c366_2] rfl mpq ?_; (with_reducible refine (runnelref03_Long.calls k1 _ _ ((rd_T40 l0 x3_1).f2.f0) false _ ?side1 ?side2 A5.out).mono ?_); (case side1 => exact cp (HR366_2.out)); (case side2 => exact HC366_2.out); rintro e w' ⟨rfl, ⟨nd, rfl⟩⟩; refine ⟨_, rfl, ?_⟩; have p368 : 0 ≤ (x3_1 : Int) := of_decide_eq_true asm; have q368 : x3_1 < (l0.length : Int) := of_decide_eq_true asm; obtain ⟨ad368, A368_2, c368_2, A368_6, c368_6, A368_8, c368_8, e368, hx368_0, hx368_1, hx368_2, hx368_3, hx368_4, hx368_5, hx368_6, hx368_7, hx368_8, hl368_2, hi368_2, hl368_6, hi368_6, hl368_8, hi368_8⟩ := at_T40 HR0.out x3_1 p368 q368; obtain rfl : ad366 = ad368 := (by injection e368); have HR368_2 := Aside0.mk hi368_2; have HC368_2 := Aside0.mk hl368_2; clear hi368_2 hl368_2; have HR368_6 := Aside0.mk hi368_6; have HC368_6 := Aside0.mk hl368_6; clear hi368_6 hl368_6; have HR368_8 := Aside0.mk hi368_8; have HC368_8 := Aside0.mk hl368_8; clear hi368_8 hl368_8; replace p368 := eq_true p368; replace q368 := eq_true q368; have ea_ := Option.some.inj (hx366_2.symm.trans hx368_2); injection ea_ with ea_ en_ ec_; subst ea_; subst ec_; clear en_; have ea_ := Option.some.inj (hx366_6.symm.trans hx368_6); injection ea_ with ea_ en_ ec_; subst ea_; subst ec_; clear en_; have ea_ := Option.some.inj (hx366_8.symm.trans hx368_8); injection ea_ with ea_ en_ ec_; subst ea_; subst ec_; clear en_; have p369 : 0 ≤ (x3_1 : Int) := of_decide_eq_true asm; have q369 : x3_1 < (l0.length : Int) := of_decide_eq_true asm; obtain ⟨ad369, A369_2, c369_2, A369_6, c369_6, A369_8, c369_8, e369, hx369_0, hx369_1, hx369_2, hx369_3, hx369_4, hx369_5, hx369_6, hx369_7, hx369_8, hl369_2, hi369_2, hl369_6, hi369_6, hl369_8, hi369_8⟩ := at_T40 HR0.out x3_1 p369 q369; obtain rfl : ad366 = ad369 := (by injection e369); have HR369_2 := Aside0.mk hi369_2; have HC369_2 := Aside0.mk hl369_2; clear hi369_2 hl369_2; have HR369_6 := Aside0.mk hi369_6; have HC369_6 := Aside0.mk hl369_6; clear hi369_6 hl369_6; have HR369_8 := Aside0.mk hi369_8; have HC369_8 := Aside0.mk hl369_8; clear hi369_8 hl369_8; replace p369 := eq_true p369; replace q369 := eq_true q369; have ea_ := Option.some.inj (hx366_2.symm.trans hx369_2); injection ea_ with ea_ en_ ec_; subst ea_; subst ec_; clear en_; have ea_ := Option.some.inj (hx366_6.symm.trans hx369_6); injection ea_ with ea_ en_ ec_; subst ea_; subst ec_; clear en_; have ea_ := Option.some.inj (hx366_8.symm.trans hx369_8); injection ea_ with ea_ en_ ec_; subst ea_; subst ec_; clear en_))
  go_roundg k1
  case measure => have := HK1.out; omega
  case rel => exact ⟨(wrap64 (x3_1 + 1)), rsd, H', ⟨by have := HK1.out; omega⟩, by repeat (first | exact Drawn0.refl _ | apply Drawn0.step)⟩
/-! ### runnelref03_Check: function 51 -/
mutual
def runnelref03_Check.l0 : Nat → List (S103) → Int → Option (Int)
 | 0, _, _ => none
 | k + 1, x0, x3 => if x3 < (x0.length : Int) then (if 0 ≤ x3 then (if ((rd_T103 x0 x3).f0) = 0 then (runnelref03_Check.j1 k x0 x3 false) else (runnelref03_Check.j1 k x0 x3 (((rd_T103 x0 x3).f0) != 1))) else (none)) else (some 0)
def runnelref03_Check.j1 : Nat → List (S103) → Int → Bool → Option (Int)
 | 0, _, _, _ => none
 | k + 1, x0, x3, x26 => if x26 = true then (some 8) else (if 0 ≤ x3 then (if x3 < (x0.length : Int) then (if ((rd_T103 x0 x3).f0) = 1 then (if (((rd_T103 x0 x3).f2).size : Int) > 4096 then (some 2) else (runnelref03_Check.l0 k x0 (wrap64 (x3 + 1)))) else (runnelref03_Check.l0 k x0 (wrap64 (x3 + 1)))) else (none)) else (none))
end
def runnelref03_Check.f (k : Nat) (l0 : List (S103)) : Option (Int) := if (l0.length : Int) > 16 then (some 3) else (runnelref03_Check.l0 k l0 0)
set_option maxHeartbeats 8000000 in
set_option maxRecDepth 100000 in
theorem runnelref03_Check.calls (k : Nat) (A0 : Option Addr) (c0 : Nat) (l0 : List (S103)) (r : Int) (w : World) (hr0 : Kd.C k103 w A0 l0.length l0) (hc0 : l0.length ≤ c0) (h : runnelref03_Check.f k l0 = some r) :
  Calls Try.prog 51 #[.slice A0 l0.length c0] w fun e w' => e = .returned (.int .i64 r) ∧ Drawn0 w w' := by
 have HR0 := Aside0.mk hr0; have HC0 := Aside0.mk hc0; clear hr0 hc0; have H : (if (l0.length : Int) > 16 then (some 3) else (runnelref03_Check.l0 k l0 0)) = some r := h; clear h; by_cases c2 : (l0.length : Int) > 16
 ·
  rw [if_pos c2] at H; have c2b0 : decide (16 < (l0.length : Int)) = true := decide_eq_true c2; have c2b1 : decide (16 < l0.length) = true := decide_eq_true (by omega); clear c2; obtain rfl := Option.some.inj H; go_enter Try.func51, Try.ntmps51
  go_wp2
  go_ret
  exact ⟨by first | rfl | (simp; done) | (simp [*]; done), by repeat (first | exact Drawn0.refl _ | apply Drawn0.step)⟩
 rw [if_neg c2] at H; have c2b0 : decide (16 < (l0.length : Int)) = false := decide_eq_false c2; have c2b1 : decide (16 < l0.length) = false := decide_eq_false (by omega); clear c2; have H' := Aside0.mk H; clear H; go_enter Try.func51, Try.ntmps51
 go_wp2
 go_loopg [3] k (fun kq v3 w' => ∃ (x3_1 : Int), v3 = .int .i64 x3_1 ∧ Aside0 (runnelref03_Check.l0 kq l0 x3_1 = some r) ∧ Aside0 (kq ≤ k) ∧ Drawn0 w w')
 case atStart => exact ⟨(0), rsd, H', ⟨Nat.le_refl _⟩, by repeat (first | exact Drawn0.refl _ | apply Drawn0.step)⟩
 clear H'; (try clear c2); (try clear c2b0); (try clear c2b1); obtain ⟨x3_1, rfl, HA, HK1, ⟨m1, rfl⟩⟩ := hrel; cases gk with
 | zero => exact absurd HA.out (by simp [runnelref03_Check.l0])
 | succ k1 =>
  have H := HA.out; clear HA; simp only [runnelref03_Check.l0] at H; by_cases c3 : x3_1 < (l0.length : Int)
  rotate_left
  ·
   rw [if_neg c3] at H; have c3b0 : decide (x3_1 < (l0.length : Int)) = false := decide_eq_false c3; clear c3; obtain rfl := Option.some.inj H; go_wp2
   go_ret
   exact ⟨by first | rfl | (simp; done) | (simp [*]; done), by repeat (first | exact Drawn0.refl _ | apply Drawn0.step)⟩

  rw [if_pos c3] at H; have c3b0 : decide (x3_1 < (l0.length : Int)) = true := decide_eq_true c3; clear c3; have HC4 := Aside0.mk H; clear H; go_upto_region 6 with (fail); go_cut [26] (fun v26 wc => ∃ (kq : Nat) (x26_3 : Bool), v26 = .bool x26_3 ∧ Aside0 (runnelref03_Check.j1 kq l0 x3_1 x26_3 = some r) ∧ Aside0 (kq ≤ k1) ∧ Drawn0 w wc)
  case first =>
   have H := HC4.out; clear HC4; by_cases c5 : 0 ≤ x3_1
   rotate_left
   · rw [if_neg c5] at H; exact absurd H (by simp)
   rw [if_pos c5] at H; have c5b0 : decide (0 ≤ x3_1) = true := decide_eq_true c5; clear c5; (first | rw [c5b0] | (simp only [i64_w, i32_w]; rw [c5b0]) | skip); by_cases c6 : ((rd_T103 l0 x3_1).f0) = 0
   ·
    rw [if_pos c6] at H; have c6b0 : (((rd_T103 l0 x3_1).f0) == 0) = true := beq_iff_eq.mpr c6; have c6b1 : (((rd_T103 l0 x3_1).f0) != 0) = false := bne_eq_false_iff_eq.mpr c6; clear c6; have H' := Aside0.mk H; clear H; have p370 : 0 ≤ (x3_1 : Int) := of_decide_eq_true asm; have q370 : x3_1 < (l0.length : Int) := of_decide_eq_true asm; obtain ⟨ad370, e370, hx370_0, hx370_1, hx370_2⟩ := at_T103 HR0.out x3_1 p370 q370; cases e370
    replace p370 := eq_true p370; replace q370 := eq_true q370; go_wp2
    go_meet
    case rel => exact ⟨_, (false), rsd, H', ⟨by have := HK1.out; first | omega | exact Nat.le_refl _⟩, by repeat (first | exact Drawn0.refl _ | apply Drawn0.step)⟩
   rw [if_neg c6] at H; have c6b0 : (((rd_T103 l0 x3_1).f0) == 0) = false := beq_eq_false_iff_ne.mpr c6; have c6b1 : (((rd_T103 l0 x3_1).f0) != 0) = true := bne_iff_ne.mpr c6; have H' := Aside0.mk H; clear H; have p370 : 0 ≤ (x3_1 : Int) := of_decide_eq_true asm; have q370 : x3_1 < (l0.length : Int) := of_decide_eq_true asm; obtain ⟨ad370, e370, hx370_0, hx370_1, hx370_2⟩ := at_T103 HR0.out x3_1 p370 q370; cases e370
   replace p370 := eq_true p370; replace q370 := eq_true q370; have p371 : 0 ≤ (x3_1 : Int) := of_decide_eq_true asm; have q371 : x3_1 < (l0.length : Int) := of_decide_eq_true asm; obtain ⟨ad371, e371, hx371_0, hx371_1, hx371_2⟩ := at_T103 HR0.out x3_1 p371 q371; obtain rfl : ad370 = ad371 := (by injection e371); replace p371 := eq_true p371; replace q371 := eq_true q371; go_wp2
   go_meet
   case rel => exact ⟨_, ((((rd_T103 l0 x3_1).f0) != 1)), rsd, H', ⟨by have := HK1.out; first | omega | exact Nat.le_refl _⟩, by repeat (first | exact Drawn0.refl _ | apply Drawn0.step)⟩
  clear HC4; (try clear c2); (try clear c2b0); (try clear c2b1); (try clear c3); (try clear c3b0); obtain ⟨kq, x26_3, rfl, HA, HJ3, ⟨mc3, rfl⟩⟩ := hcut; cases kq with
  | zero => exact absurd HA.out (by simp [runnelref03_Check.j1])
  | succ kj3 =>
   have H := HA.out; clear HA; simp only [runnelref03_Check.j1] at H; by_cases c7 : x26_3 = true
   ·
    subst c7; have H1 : (some 8) = some r := by rw [if_pos rfl] at H; exact H
    clear H; have H := H1; clear H1; obtain rfl := Option.some.inj H; go_wp2
    go_ret
    exact ⟨by first | rfl | (simp; done) | (simp [*]; done), by repeat (first | exact Drawn0.refl _ | apply Drawn0.step)⟩
   replace c7 := Bool.eq_false_iff.mpr c7; subst c7; have H1 : (if 0 ≤ x3_1 then (if x3_1 < (l0.length : Int) then (if ((rd_T103 l0 x3_1).f0) = 1 then (if (((rd_T103 l0 x3_1).f2).size : Int) > 4096 then (some 2) else (runnelref03_Check.l0 kj3 l0 (wrap64 (x3_1 + 1)))) else (runnelref03_Check.l0 kj3 l0 (wrap64 (x3_1 + 1)))) else (none)) else (none)) = some r := by rw [if_neg (show ¬ (false = true) by decide)] at H; exact H
   clear H; have H := H1; clear H1; by_cases c8 : 0 ≤ x3_1
   rotate_left
   · rw [if_neg c8] at H; exact absurd H (by simp)
   rw [if_pos c8] at H; have c8b0 : decide (0 ≤ x3_1) = true := decide_eq_true c8; clear c8; by_cases c9 : x3_1 < (l0.length : Int)
   rotate_left
   · rw [if_neg c9] at H; exact absurd H (by simp)
   rw [if_pos c9] at H; have c9b0 : decide (x3_1 < (l0.length : Int)) = true := decide_eq_true c9; clear c9; by_cases c10 : ((rd_T103 l0 x3_1).f0) = 1
   rotate_left
   ·
    rw [if_neg c10] at H; have c10b0 : (((rd_T103 l0 x3_1).f0) == 1) = false := beq_eq_false_iff_ne.mpr c10; have c10b1 : (((rd_T103 l0 x3_1).f0) != 1) = true := bne_iff_ne.mpr c10; have H' := Aside0.mk H; clear H; have p372 : 0 ≤ (x3_1 : Int) := of_decide_eq_true asm; have q372 : x3_1 < (l0.length : Int) := of_decide_eq_true asm; obtain ⟨ad372, e372, hx372_0, hx372_1, hx372_2⟩ := at_T103 HR0.out x3_1 p372 q372; cases e372
    replace p372 := eq_true p372; replace q372 := eq_true q372; go_wp2
    go_roundg kj3
    case measure => have := HK1.out; have := HJ3.out; omega
    case rel => exact ⟨(wrap64 (x3_1 + 1)), rsd, H', ⟨by have := HK1.out; have := HJ3.out; omega⟩, by repeat (first | exact Drawn0.refl _ | apply Drawn0.step)⟩
   rw [if_pos c10] at H; have c10b0 : (((rd_T103 l0 x3_1).f0) == 1) = true := beq_iff_eq.mpr c10; have c10b1 : (((rd_T103 l0 x3_1).f0) != 1) = false := bne_eq_false_iff_eq.mpr c10; clear c10; by_cases c11 : (((rd_T103 l0 x3_1).f2).size : Int) > 4096
   ·
    rw [if_pos c11] at H; have c11b0 : decide (4096 < (((rd_T103 l0 x3_1).f2).size : Int)) = true := decide_eq_true c11; have c11b1 : decide (4096 < ((rd_T103 l0 x3_1).f2).size) = true := decide_eq_true (by omega); clear c11; obtain rfl := Option.some.inj H; have p372 : 0 ≤ (x3_1 : Int) := of_decide_eq_true asm; have q372 : x3_1 < (l0.length : Int) := of_decide_eq_true asm; obtain ⟨ad372, e372, hx372_0, hx372_1, hx372_2⟩ := at_T103 HR0.out x3_1 p372 q372; cases e372
    replace p372 := eq_true p372; replace q372 := eq_true q372; have p373 : 0 ≤ (x3_1 : Int) := of_decide_eq_true asm; have q373 : x3_1 < (l0.length : Int) := of_decide_eq_true asm; obtain ⟨ad373, e373, hx373_0, hx373_1, hx373_2⟩ := at_T103 HR0.out x3_1 p373 q373; obtain rfl : ad372 = ad373 := (by injection e373); replace p373 := eq_true p373; replace q373 := eq_true q373; go_wp2
    go_ret
    exact ⟨by first | rfl | (simp; done) | (simp [*]; done), by repeat (first | exact Drawn0.refl _ | apply Drawn0.step)⟩
   rw [if_neg c11] at H; have c11b0 : decide (4096 < (((rd_T103 l0 x3_1).f2).size : Int)) = false := decide_eq_false c11; have c11b1 : decide (4096 < ((rd_T103 l0 x3_1).f2).size) = false := decide_eq_false (by omega); clear c11; have H' := Aside0.mk H; clear H; have p372 : 0 ≤ (x3_1 : Int) := of_decide_eq_true asm; have q372 : x3_1 < (l0.length : Int) := of_decide_eq_true asm; obtain ⟨ad372, e372, hx372_0, hx372_1, hx372_2⟩ := at_T103 HR0.out x3_1 p372 q372; cases e372
   replace p372 := eq_true p372; replace q372 := eq_true q372; have p373 : 0 ≤ (x3_1 : Int) := of_decide_eq_true asm; have q373 : x3_1 < (l0.length : Int) := of_decide_eq_true asm; obtain ⟨ad373, e373, hx373_0, hx373_1, hx373_2⟩ := at_T103 HR0.out x3_1 p373 q373; obtain rfl : ad372 = ad373 := (by injection e373); replace p373 := eq_true p373; replace q373 := eq_true q373; go_wp2
   go_roundg kj3
   case measure => have := HK1.out; have := HJ3.out; omega
   case rel => exact ⟨(wrap64 (x3_1 + 1)), rsd, H', ⟨by have := HK1.out; have := HJ3.out; omega⟩, by repeat (first | exact Drawn0.refl _ | apply Drawn0.step)⟩
end Go.Proofs.Ytpplklickfioiaa.PWirePuts
