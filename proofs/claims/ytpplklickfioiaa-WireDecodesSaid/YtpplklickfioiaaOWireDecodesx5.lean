/- One piece of the machine's side of the law, written by a program over the translation; Lean checks it. -/
import Derived.Test.YtpplklickfioiaaOWireDecodesx0
import Derived.Test.YtpplklickfioiaaOWireDecodesx1
import Derived.Test.YtpplklickfioiaaOWireDecodesx2
import Derived.Test.YtpplklickfioiaaOWireDecodesx4
import Derived.Test.YtpplklickfioiaaStr
import Derived.Test.YtpplklickfioiaaShort
namespace Go.Proofs.Ytpplklickfioiaa.PWireDecodes
open Go.RowKit Go.Proofs.YtpplklickfioiaaW.PrintWords Go.Proofs.YtpplklickfioiaaW.PrintLast Go.Proofs.YtpplklickfioiaaW.PrintMore
attribute [local go_sem] max2_int min2_int max_two min_two max_three min_three max_four min_four   -- for this text's walks alone
attribute [-go_sem] binOp_string_gtr
attribute [local go_sem] Go.Proofs.Ytpplklickfioiaa.Str.gtr_str
set_option linter.unusedVariables false
set_option linter.unusedSimpArgs false

attribute [local go_sem high] eqA36
/-! ### runnellaw26_live: function 8 -/
def runnellaw26_live.f (k : Nat)  : Option (Bool) := (wire_Put.f k ([] : List Int) 3 2 ([] : List (S103)) 0 0 0 ([] : List (S36)) 5 ([] : List Int)).bind fun bt217 => ((runnellaw26_code.f bt217.2).bind fun t221 => (if t221 = 0 then (some ((strOfNums bt217.1).toList == ([3, 4, 10] : List UInt8))) else (some false)))
theorem runnellaw26_live.mono : ∀ k, LeO (runnellaw26_live.f k ) (runnellaw26_live.f (k + 1) ) := by
 intro  k
 unfold runnellaw26_live.f
 repeat' first
   | (with_reducible exact wire_Put.mono _ _ _ _ _ _ _ _ _ _ _)
   | (with_reducible exact LeO.refl _)
   | (with_reducible exact LeO.none _)
   | (with_reducible refine LeO.ite ?_ ?_)
   | (with_reducible refine LeO.bind ?_ (fun _ => ?_))
   | exact wire_Put.mono _ _ _ _ _ _ _ _ _ _ _
   | exact LeO.none _
   | refine LeO.ite ?_ ?_
   | refine LeO.bind ?_ (fun _ => ?_)
set_option maxHeartbeats 8000000 in
set_option maxRecDepth 100000 in
theorem runnellaw26_live.calls (k : Nat)  (r : Bool) (w : World) (h : runnellaw26_live.f k  = some r) :
  Calls Try.prog 8 #[] w fun e w' => e = .returned (.bool r) ∧ Below w.heap.size w w' := by
 have hu40 := Try.underlying40
 have HB := Aside0.mk (Below.refl w.heap.size w)
 have H : ((wire_Put.f k ([] : List Int) 3 2 ([] : List (S103)) 0 0 0 ([] : List (S36)) 5 ([] : List Int)).bind fun bt217 => ((runnellaw26_code.f bt217.2).bind fun t221 => (if t221 = 0 then (some ((strOfNums bt217.1).toList == ([3, 4, 10] : List UInt8))) else (some false)))) = some r := h
 clear h
 replace H := Option.bind_eq_some_iff.mp H
 obtain ⟨⟨t217, t220⟩, A10, H⟩ := H
 replace H : ((runnellaw26_code.f t220).bind fun t221 => (if t221 = 0 then (some ((strOfNums t217).toList == ([3, 4, 10] : List UInt8))) else (some false))) = some r := H
 have A1 := Aside0.mk A10
 clear A10
 replace H := Option.bind_eq_some_iff.mp H
 obtain ⟨t221, A20, H⟩ := H
 replace H : (if t221 = 0 then (some ((strOfNums t217).toList == ([3, 4, 10] : List UInt8))) else (some false)) = some r := H
 have A2 := Aside0.mk A20
 clear A20
 by_cases c3 : t221 = 0
 ·
  rw [if_pos c3] at H
  have c3b0 : (t221 == 0) = true := beq_iff_eq.mpr c3
  have c3b1 : (t221 != 0) = false := bne_eq_false_iff_eq.mpr c3
  clear c3
  obtain rfl := Option.some.inj H
  go_enter Try.func8, Try.ntmps8
  go_wp2_with (first | ((with_reducible refine gate_callee (f := 19) rfl ?_); refine goesL_ (some 5) rfl rfl Try.func19 (by kernel_rfl) rfl #[.slice none 0 0, .agg #[.int .i64 3, .int .i64 2, .slice none 0 0, .int .i64 0, .int .i64 0, .int .i64 0, .slice none 0 0, .int .i64 5, .slice none 0 0]] rfl mpq ?_; (refine (wire_Put.calls k _ _ ([] : List Int) 3 2 _ _ ([] : List (S103)) 0 0 0 _ _ ([] : List (S36)) 5 _ _ ([] : List Int) t217 t220 _ ?side1 ?side2 ?side3 ?side4 ?side5 ?side6 ?side7 ?side8 A1.out).mono ?_); (case side1 => exact Kd.C_nil _ _); (case side2 => exact Nat.le_refl _); (case side3 => exact Kd.C_nil _ _); (case side4 => exact Nat.le_refl _); (case side5 => exact Kd.C_nil _ _); (case side6 => exact Nat.le_refl _); (case side7 => exact Kd.C_nil _ _); (case side8 => exact Nat.le_refl _); rintro e w4 ⟨v218, rfl, ho0, hb⟩; refine ⟨_, rfl, ?_⟩; have n0_ := Aside0.mk (Kd.R_lower ho0 (below_size bl)); have n1_ := Aside0.mk (below_step bl hb); clear HB; have HO219 := n0_; have HB := n1_; clear n0_ n1_; (try clear hb); (try clear hb2); (try clear hk); (try clear hi); (try clear ho0)) | ((with_reducible refine gate_callee (f := 12) rfl ?_); refine goesL_ (some 9) rfl rfl Try.func12 (by kernel_rfl) rfl #[.int .i64 t220] rfl mpq ?_; (with_reducible refine (runnellaw26_code.calls t220 t221 _ A2.out).mono ?_); rintro e w' ⟨rfl, ⟨nd, rfl⟩⟩; refine ⟨_, rfl, ?_⟩; have hcv5 := own_string (P := Try.prog) Try.underlying22 Try.underlying5 Try.underlying9 (Kd.own_of_R HO219.out); have hcv5d := fun n_ : Nat => own_string (P := Try.prog) Try.underlying22 Try.underlying5 Try.underlying9 (Kd.own_of_R (Kd.R_drewN HO219.out n_))))
  go_ret
  exact ⟨erq, by repeat (first | (with_reducible first | exact HB.out | apply below_alloc | apply pw_below_drewN | apply below_drew1) | exact HB.out)⟩
 ·
  rw [if_neg c3] at H
  have c3b0 : (t221 == 0) = false := beq_eq_false_iff_ne.mpr c3
  have c3b1 : (t221 != 0) = true := bne_iff_ne.mpr c3
  obtain rfl := Option.some.inj H
  go_enter Try.func8, Try.ntmps8
  go_wp2_with (first | ((with_reducible refine gate_callee (f := 19) rfl ?_); refine goesL_ (some 5) rfl rfl Try.func19 (by kernel_rfl) rfl #[.slice none 0 0, .agg #[.int .i64 3, .int .i64 2, .slice none 0 0, .int .i64 0, .int .i64 0, .int .i64 0, .slice none 0 0, .int .i64 5, .slice none 0 0]] rfl mpq ?_; (refine (wire_Put.calls k _ _ ([] : List Int) 3 2 _ _ ([] : List (S103)) 0 0 0 _ _ ([] : List (S36)) 5 _ _ ([] : List Int) t217 t220 _ ?side1 ?side2 ?side3 ?side4 ?side5 ?side6 ?side7 ?side8 A1.out).mono ?_); (case side1 => exact Kd.C_nil _ _); (case side2 => exact Nat.le_refl _); (case side3 => exact Kd.C_nil _ _); (case side4 => exact Nat.le_refl _); (case side5 => exact Kd.C_nil _ _); (case side6 => exact Nat.le_refl _); (case side7 => exact Kd.C_nil _ _); (case side8 => exact Nat.le_refl _); rintro e w6 ⟨v218, rfl, ho0, hb⟩; refine ⟨_, rfl, ?_⟩; have n0_ := Aside0.mk (Kd.R_lower ho0 (below_size bl)); have n1_ := Aside0.mk (below_step bl hb); clear HB; have HO219 := n0_; have HB := n1_; clear n0_ n1_; (try clear hb); (try clear hb2); (try clear hk); (try clear hi); (try clear ho0)) | ((with_reducible refine gate_callee (f := 12) rfl ?_); refine goesL_ (some 9) rfl rfl Try.func12 (by kernel_rfl) rfl #[.int .i64 t220] rfl mpq ?_; (with_reducible refine (runnellaw26_code.calls t220 t221 _ A2.out).mono ?_); rintro e w' ⟨rfl, ⟨nd, rfl⟩⟩; refine ⟨_, rfl, ?_⟩))
  go_ret
  exact ⟨erq, by repeat (first | (with_reducible first | exact HB.out | apply below_alloc | apply pw_below_drewN | apply below_drew1) | exact HB.out)⟩

/-! ### runnelref04_Same: function 13 -/
def runnelref04_Same.l0 : Nat → List (S36) → List (S36) → Int → Option (Bool)
 | 0, _, _, _ => none
 | k + 1, x0, x1, x5 => if x5 < (x0.length : Int) then (if 0 ≤ x5 then (if x5 < (x1.length : Int) then (if (!(((rd_T36 x0 x5).f0) == ((rd_T36 x1 x5).f0)) || (!(((rd_T36 x0 x5).f1) == ((rd_T36 x1 x5).f1)))) = true then (some false) else (runnelref04_Same.l0 k x0 x1 (wrap64 (x5 + 1)))) else (none)) else (none)) else (some true)
def runnelref04_Same.f (k : Nat) (l0 : List (S36)) (l1 : List (S36)) : Option (Bool) := if (l0.length : Int) = (l1.length : Int) then (runnelref04_Same.l0 k l0 l1 0) else (some false)
theorem runnelref04_Same.mono_l : ∀ k, (∀ y0 y1 y2, LeO (runnelref04_Same.l0 k y0 y1 y2) (runnelref04_Same.l0 (k + 1) y0 y1 y2))
 | 0 => fun _ _ _ r h => by simp [runnelref04_Same.l0] at h
 | k + 1 => by
  have ih0 := runnelref04_Same.mono_l k
  ·
   intro y0 y1 y2
   unfold runnelref04_Same.l0
   repeat' first
   | (with_reducible exact ih0 _ _ _)
   | (with_reducible exact LeO.refl _)
   | (with_reducible exact LeO.none _)
   | (with_reducible refine LeO.ite ?_ ?_)
   | (with_reducible refine LeO.bind ?_ (fun _ => ?_))
   | exact ih0 _ _ _
   | exact LeO.none _
   | refine LeO.ite ?_ ?_
   | refine LeO.bind ?_ (fun _ => ?_)
theorem runnelref04_Same.mono : ∀ a0 a1 k, LeO (runnelref04_Same.f k a0 a1) (runnelref04_Same.f (k + 1) a0 a1) := by
 intro a0 a1 k
 have ih0 := runnelref04_Same.mono_l k
 unfold runnelref04_Same.f
 repeat' first
   | (with_reducible exact ih0 _ _ _)
   | (with_reducible exact LeO.refl _)
   | (with_reducible exact LeO.none _)
   | (with_reducible refine LeO.ite ?_ ?_)
   | (with_reducible refine LeO.bind ?_ (fun _ => ?_))
   | exact ih0 _ _ _
   | exact LeO.none _
   | refine LeO.ite ?_ ?_
   | refine LeO.bind ?_ (fun _ => ?_)
set_option maxHeartbeats 8000000 in
set_option maxRecDepth 100000 in
theorem runnelref04_Same.calls (k : Nat) (A0 : Option Addr) (c0 : Nat) (l0 : List (S36)) (A1 : Option Addr) (c1 : Nat) (l1 : List (S36)) (r : Bool) (w : World) (hr0 : Kd.C k36 w A0 l0.length l0) (hc0 : l0.length ≤ c0) (hr1 : Kd.C k36 w A1 l1.length l1) (hc1 : l1.length ≤ c1) (h : runnelref04_Same.f k l0 l1 = some r) :
  Calls Try.prog 13 #[.slice A0 l0.length c0, .slice A1 l1.length c1] w fun e w' => e = .returned (.bool r) ∧ Drawn0 w w' := by
 have hu36 := Try.underlying36
 have HR0 := Aside0.mk hr0
 have HC0 := Aside0.mk hc0
 clear hr0 hc0
 have HR1 := Aside0.mk hr1
 have HC1 := Aside0.mk hc1
 clear hr1 hc1
 have H : (if (l0.length : Int) = (l1.length : Int) then (runnelref04_Same.l0 k l0 l1 0) else (some false)) = some r := h
 clear h
 by_cases c3 : (l0.length : Int) = (l1.length : Int)
 ·
  rw [if_pos c3] at H
  have c3b0 : ((l0.length : Int) == (l1.length : Int)) = true := beq_iff_eq.mpr c3
  have c3b1 : ((l0.length : Int) != (l1.length : Int)) = false := bne_eq_false_iff_eq.mpr c3
  have c3b2 : (l0.length == l1.length) = true := by first | simpa using c3 | (simp at c3 ⊢; omega)
  clear c3
  have H' := Aside0.mk H
  clear H
  go_enter Try.func13, Try.ntmps13
  go_wp2
  repeat (go_quiet (fail); try go_wp2)
  go_loopg [5] k (fun kq v5 w' => ∃ (x5_1 : Int), v5 = .int .i64 x5_1 ∧ Aside0 (runnelref04_Same.l0 kq l0 l1 x5_1 = some r) ∧ Aside0 (kq ≤ k) ∧ Drawn0 w w')
  case atStart => exact ⟨(0), (by first | rfl | (simp; done) | (simp [*]; done)), H', ⟨Nat.le_refl _⟩, by repeat (first | exact Drawn0.refl _ | apply Drawn0.step)⟩
  case round =>
   clear H'
   (try clear c1); (try clear c3); (try clear c3b0); (try clear c3b1); (try clear c3b2)
   obtain ⟨x5_1, rfl, HA, HK1, ⟨m1, rfl⟩⟩ := hrel
   cases gk with
   | zero => exact absurd HA.out (by simp [runnelref04_Same.l0])
   | succ k1 =>
    have H := HA.out
    clear HA
    simp only [runnelref04_Same.l0] at H
    by_cases c4 : x5_1 < (l0.length : Int)
    ·
     rw [if_pos c4] at H
     have c4b0 : decide (x5_1 < (l0.length : Int)) = true := decide_eq_true c4
     clear c4
     by_cases c5 : 0 ≤ x5_1
     ·
      rw [if_pos c5] at H
      have c5b0 : decide (0 ≤ x5_1) = true := decide_eq_true c5
      clear c5
      by_cases c6 : x5_1 < (l1.length : Int)
      ·
       rw [if_pos c6] at H
       have c6b0 : decide (x5_1 < (l1.length : Int)) = true := decide_eq_true c6
       clear c6
       by_cases c7 : (!(((rd_T36 l0 x5_1).f0) == ((rd_T36 l1 x5_1).f0)) || (!(((rd_T36 l0 x5_1).f1) == ((rd_T36 l1 x5_1).f1)))) = true
       ·
        rw [if_pos c7] at H
        have c7b0 : (!(((rd_T36 l0 x5_1).f0) == ((rd_T36 l1 x5_1).f0)) || (!(((rd_T36 l0 x5_1).f1) == ((rd_T36 l1 x5_1).f1)))) = true := c7
        clear c7
        obtain rfl := Option.some.inj H
        have p222 : 0 ≤ (x5_1 : Int) := of_decide_eq_true (by first | (with_reducible assumption) | assumption)
        have q222 : x5_1 < (l0.length : Int) := of_decide_eq_true (by first | (with_reducible assumption) | assumption)
        obtain ⟨ad222, e222, hx222_0, hx222_1⟩ := at_T36 HR0.out x5_1 p222 q222
        cases e222
        replace p222 := eq_true p222
        replace q222 := eq_true q222
        have p223 : 0 ≤ (x5_1 : Int) := of_decide_eq_true (by first | (with_reducible assumption) | assumption)
        have q223 : x5_1 < (l1.length : Int) := of_decide_eq_true (by first | (with_reducible assumption) | assumption)
        obtain ⟨ad223, e223, hx223_0, hx223_1⟩ := at_T36 HR1.out x5_1 p223 q223
        cases e223
        replace p223 := eq_true p223
        replace q223 := eq_true q223
        go_wp2
        repeat (go_quiet (fail); try go_wp2)
        go_ret
        exact ⟨by first | rfl | (simp; done) | (simp [*]; done), by repeat (first | exact Drawn0.refl _ | apply Drawn0.step)⟩
       ·
        rw [if_neg c7] at H
        have c7b0 : (!(((rd_T36 l0 x5_1).f0) == ((rd_T36 l1 x5_1).f0)) || (!(((rd_T36 l0 x5_1).f1) == ((rd_T36 l1 x5_1).f1)))) = false := by simpa using c7
        clear c7
        have H' := Aside0.mk H
        clear H
        have p222 : 0 ≤ (x5_1 : Int) := of_decide_eq_true (by first | (with_reducible assumption) | assumption)
        have q222 : x5_1 < (l0.length : Int) := of_decide_eq_true (by first | (with_reducible assumption) | assumption)
        obtain ⟨ad222, e222, hx222_0, hx222_1⟩ := at_T36 HR0.out x5_1 p222 q222
        cases e222
        replace p222 := eq_true p222
        replace q222 := eq_true q222
        have p223 : 0 ≤ (x5_1 : Int) := of_decide_eq_true (by first | (with_reducible assumption) | assumption)
        have q223 : x5_1 < (l1.length : Int) := of_decide_eq_true (by first | (with_reducible assumption) | assumption)
        obtain ⟨ad223, e223, hx223_0, hx223_1⟩ := at_T36 HR1.out x5_1 p223 q223
        cases e223
        replace p223 := eq_true p223
        replace q223 := eq_true q223
        go_wp2
        repeat (go_quiet (fail); try go_wp2)
        go_roundg k1
        case measure => have := HK1.out; omega
        case rel => exact ⟨(wrap64 (x5_1 + 1)), (by first | rfl | (simp; done) | (simp [*]; done)), H', ⟨by have := HK1.out; omega⟩, by repeat (first | exact Drawn0.refl _ | apply Drawn0.step)⟩
      ·
       rw [if_neg c6] at H
       exact absurd H (by simp)
     ·
      rw [if_neg c5] at H
      exact absurd H (by simp)
    ·
     rw [if_neg c4] at H
     have c4b0 : decide (x5_1 < (l0.length : Int)) = false := decide_eq_false c4
     clear c4
     obtain rfl := Option.some.inj H
     go_wp2
     repeat (go_quiet (fail); try go_wp2)
     go_ret
     exact ⟨by first | rfl | (simp; done) | (simp [*]; done), by repeat (first | exact Drawn0.refl _ | apply Drawn0.step)⟩
 ·
  rw [if_neg c3] at H
  have c3b0 : ((l0.length : Int) == (l1.length : Int)) = false := beq_eq_false_iff_ne.mpr c3
  have c3b1 : ((l0.length : Int) != (l1.length : Int)) = true := bne_iff_ne.mpr c3
  have c3b2 : (l0.length == l1.length) = false := by first | simpa using c3 | (simp at c3 ⊢; omega)
  obtain rfl := Option.some.inj H
  go_enter Try.func13, Try.ntmps13
  go_wp2
  repeat (go_quiet (fail); try go_wp2)
  go_ret
  exact ⟨by first | rfl | (simp; done) | (simp [*]; done), by repeat (first | exact Drawn0.refl _ | apply Drawn0.step)⟩

/-! ### runnelref03_Cmp: function 73 -/
def runnelref03_Cmp.j0 : Nat → Bool → Int → Int → ByteArray → Int → Int → ByteArray → Option (Int)
 | 0, _, _, _, _, _, _, _ => none
 | k + 1, x40, x225000, x225001, x225002, x226000, x226001, x226002 => if x40 = true then (some (-1)) else (if x225000 > x226000 then (some 1) else (if x225000 = x226000 then (if x225000 = 0 then (if x225001 > x226001 then (some 1) else (if x225000 = 1 then (if (Op.bytesLess x226002.toList x225002.toList) = true then (some 1) else (some 0)) else (some 0))) else (if x225000 = 1 then (if (Op.bytesLess x226002.toList x225002.toList) = true then (some 1) else (some 0)) else (some 0))) else (some 0)))
def runnelref03_Cmp.f (k : Nat) (a0_0 : Int) (a0_1 : Int) (a0_2 : ByteArray) (a1_0 : Int) (a1_1 : Int) (a1_2 : ByteArray) : Option (Int) := if a0_0 < a1_0 then (runnelref03_Cmp.j0 k true a0_0 a0_1 a0_2 a1_0 a1_1 a1_2) else (if a0_0 = a1_0 then (if a0_0 = 0 then (if a0_1 < a1_1 then (runnelref03_Cmp.j0 k true a0_0 a0_1 a0_2 a1_0 a1_1 a1_2) else (if a0_0 = 1 then (runnelref03_Cmp.j0 k (Op.bytesLess a0_2.toList a1_2.toList) a0_0 a0_1 a0_2 a1_0 a1_1 a1_2) else (runnelref03_Cmp.j0 k false a0_0 a0_1 a0_2 a1_0 a1_1 a1_2))) else (if a0_0 = 1 then (runnelref03_Cmp.j0 k (Op.bytesLess a0_2.toList a1_2.toList) a0_0 a0_1 a0_2 a1_0 a1_1 a1_2) else (runnelref03_Cmp.j0 k false a0_0 a0_1 a0_2 a1_0 a1_1 a1_2))) else (runnelref03_Cmp.j0 k false a0_0 a0_1 a0_2 a1_0 a1_1 a1_2))
theorem runnelref03_Cmp.mono_l : ∀ k, (∀ y0 y1 y2 y3 y4 y5 y6, LeO (runnelref03_Cmp.j0 k y0 y1 y2 y3 y4 y5 y6) (runnelref03_Cmp.j0 (k + 1) y0 y1 y2 y3 y4 y5 y6))
 | 0 => fun _ _ _ _ _ _ _ r h => by simp [runnelref03_Cmp.j0] at h
 | k + 1 => by
  have ih0 := runnelref03_Cmp.mono_l k
  ·
   intro y0 y1 y2 y3 y4 y5 y6
   unfold runnelref03_Cmp.j0
   repeat' first
   | (with_reducible exact ih0 _ _ _ _ _ _ _)
   | (with_reducible exact LeO.refl _)
   | (with_reducible exact LeO.none _)
   | (with_reducible refine LeO.ite ?_ ?_)
   | (with_reducible refine LeO.bind ?_ (fun _ => ?_))
   | exact ih0 _ _ _ _ _ _ _
   | exact LeO.none _
   | refine LeO.ite ?_ ?_
   | refine LeO.bind ?_ (fun _ => ?_)
theorem runnelref03_Cmp.mono : ∀ a0 a1 a2 a3 a4 a5 k, LeO (runnelref03_Cmp.f k a0 a1 a2 a3 a4 a5) (runnelref03_Cmp.f (k + 1) a0 a1 a2 a3 a4 a5) := by
 intro a0 a1 a2 a3 a4 a5 k
 have ih0 := runnelref03_Cmp.mono_l k
 unfold runnelref03_Cmp.f
 repeat' first
   | (with_reducible exact ih0 _ _ _ _ _ _ _)
   | (with_reducible exact LeO.refl _)
   | (with_reducible exact LeO.none _)
   | (with_reducible refine LeO.ite ?_ ?_)
   | (with_reducible refine LeO.bind ?_ (fun _ => ?_))
   | exact ih0 _ _ _ _ _ _ _
   | exact LeO.none _
   | refine LeO.ite ?_ ?_
   | refine LeO.bind ?_ (fun _ => ?_)
set_option maxHeartbeats 8000000 in
set_option maxRecDepth 100000 in
theorem runnelref03_Cmp.calls (k : Nat) (a0_0 : Int) (a0_1 : Int) (a0_2 : ByteArray) (a1_0 : Int) (a1_1 : Int) (a1_2 : ByteArray) (r : Int) (w : World) (h : runnelref03_Cmp.f k a0_0 a0_1 a0_2 a1_0 a1_1 a1_2 = some r) :
  Calls Try.prog 73 #[.agg #[.int .i64 a0_0, .int .i64 a0_1, .string a0_2], .agg #[.int .i64 a1_0, .int .i64 a1_1, .string a1_2]] w fun e w' => e = .returned (.int .i64 r) ∧ Below w.heap.size w w' := by
 have hu103 := Try.underlying103
 have HB := Aside0.mk (Below.refl w.heap.size w)
 have H : (if a0_0 < a1_0 then (runnelref03_Cmp.j0 k true a0_0 a0_1 a0_2 a1_0 a1_1 a1_2) else (if a0_0 = a1_0 then (if a0_0 = 0 then (if a0_1 < a1_1 then (runnelref03_Cmp.j0 k true a0_0 a0_1 a0_2 a1_0 a1_1 a1_2) else (if a0_0 = 1 then (runnelref03_Cmp.j0 k (Op.bytesLess a0_2.toList a1_2.toList) a0_0 a0_1 a0_2 a1_0 a1_1 a1_2) else (runnelref03_Cmp.j0 k false a0_0 a0_1 a0_2 a1_0 a1_1 a1_2))) else (if a0_0 = 1 then (runnelref03_Cmp.j0 k (Op.bytesLess a0_2.toList a1_2.toList) a0_0 a0_1 a0_2 a1_0 a1_1 a1_2) else (runnelref03_Cmp.j0 k false a0_0 a0_1 a0_2 a1_0 a1_1 a1_2))) else (runnelref03_Cmp.j0 k false a0_0 a0_1 a0_2 a1_0 a1_1 a1_2))) = some r := h
 clear h
 have HC3 := Aside0.mk H
 clear H
 go_enter Try.func73, Try.ntmps73
 go_upto_region 1 with (first | ((with_reducible refine gate_dst (N := 2) rfl ?_); refine box_event ?hg (N := 2) ?hd (cs := #[.int .i64 a0_0, .int .i64 a0_1, .string a0_2]) (t := 103) ?hr ?_; (case hd => rfl); (case hg => rfl); (case hr => first | (go_simp; done) | (go_simp; rfl)); intro gb224 hg w4 hbox hb; have n0_ := Aside0.mk (below_step bl hb); have n1_ := Aside0.mk (hbox); have n2_ := Aside0.mk ((by rw [hg]; exact (below_size bl) : w.heap.size ≤ gb224)); have n3_ := Aside0.mk ((by rw [hg]; exact (below_size bl) : w.heap.size ≤ gb224)); clear HB; have HB := n0_; have BK224 := n1_; have GW224 := n2_; have GE224 := n3_; clear n0_ n1_ n2_ n3_; clear hb hbox hg) | ((with_reducible refine gate_dst (N := 3) rfl ?_); refine box_event ?hg (N := 3) ?hd (cs := #[.int .i64 a1_0, .int .i64 a1_1, .string a1_2]) (t := 103) ?hr ?_; (case hd => rfl); (case hg => rfl); (case hr => first | (go_simp; done) | (go_simp; rfl)); intro gb225 hg w5 hbox hb; have n0_ := Aside0.mk (blk_below (g := gb224) (o := .cells #[.int .i64 a0_0, .int .i64 a0_1, .string a0_2] 103 (0, 0)) bk hb); have n1_ := Aside0.mk (below_step bl hb); have n2_ := Aside0.mk (hbox); have n3_ := Aside0.mk ((by rw [hg]; exact (below_size bl) : w.heap.size ≤ gb225)); have n4_ := Aside0.mk ((by rw [hg]; exact (below_size bl) : w.heap.size ≤ gb225)); have n5_ := Aside0.mk ((by rw [hg]; exact Nat.ne_of_lt blt : gb224 ≠ gb225)); have n6_ := Aside0.mk ((by rw [hg]; exact Nat.ne_of_gt blt : gb225 ≠ gb224)); clear BK224; clear HB; have BK224 := n0_; have HB := n1_; have BK225 := n2_; have GW225 := n3_; have GE225 := n4_; have NB224_225 := n5_; have NB225_224 := n6_; clear n0_ n1_ n2_ n3_ n4_ n5_ n6_; clear hb hbox hg))
 (try simp only [Act.put, List.setIfInBounds_toArray, List.set_cons_zero, List.set_cons_succ])
 go_cut [40] (fun v40 wc => ∃ (kq : Nat) (x40_2 : Bool), v40 = .bool x40_2 ∧ Aside0 (runnelref03_Cmp.j0 kq x40_2 a0_0 a0_1 a0_2 a1_0 a1_1 a1_2 = some r) ∧ Aside0 (kq ≤ k) ∧ Aside0 (wc.heap[gb224]? = some (.cells #[.int .i64 a0_0, .int .i64 a0_1, .string a0_2] 103 (0, 0))) ∧ Aside0 (wc.heap[gb225]? = some (.cells #[.int .i64 a1_0, .int .i64 a1_1, .string a1_2] 103 (0, 0))) ∧ Aside0 (Below w.heap.size w wc))
 case first =>
  have H := HC3.out
  clear HC3
  by_cases c6 : a0_0 < a1_0
  ·
   rw [if_pos c6] at H
   have c6b0 : decide (a0_0 < a1_0) = true := decide_eq_true c6
   clear c6
   (first | rw [c6b0] | (simp only [i64_w, i32_w]; rw [c6b0]) | skip)
   have H' := Aside0.mk H
   clear H
   have hnb7 := NB224_225.out
   have hnc7 := NB225_224.out
   obtain ⟨hcz8_0, hcz8_1, hcz8_2⟩ := cells3 BK224.out
   obtain ⟨hfz8_0, hfz8_1, hfz8_2⟩ := frz3 BK224.out
   obtain ⟨hcz9_0, hcz9_1, hcz9_2⟩ := cells3 BK225.out
   obtain ⟨hfz9_0, hfz9_1, hfz9_2⟩ := frz3 BK225.out
   go_wp2
   go_meet
   case rel => exact ⟨_, (true), (by first | rfl | (simp; done) | (simp [*]; done)), H', ⟨by first | omega | exact Nat.le_refl _⟩, ⟨by (with_reducible repeat (first | refine blk_drewN ?_ _ | refine blk_drew ?_ | refine blk_alloc ?_ _)); exact BK224.out⟩, ⟨by (with_reducible repeat (first | refine blk_drewN ?_ _ | refine blk_drew ?_ | refine blk_alloc ?_ _)); exact BK225.out⟩, ⟨bl⟩⟩
  ·
   rw [if_neg c6] at H
   have c6b0 : decide (a0_0 < a1_0) = false := decide_eq_false c6
   clear c6
   (first | rw [c6b0] | (simp only [i64_w, i32_w]; rw [c6b0]) | skip)
   by_cases c10 : a0_0 = a1_0
   ·
    rw [if_pos c10] at H
    have c10b0 : (a0_0 == a1_0) = true := beq_iff_eq.mpr c10
    have c10b1 : (a0_0 != a1_0) = false := bne_eq_false_iff_eq.mpr c10
    clear c10
    by_cases c11 : a0_0 = 0
    ·
     rw [if_pos c11] at H
     have c11b0 : (a0_0 == 0) = true := beq_iff_eq.mpr c11
     have c11b1 : (a0_0 != 0) = false := bne_eq_false_iff_eq.mpr c11
     clear c11
     by_cases c12 : a0_1 < a1_1
     ·
      rw [if_pos c12] at H
      have c12b0 : decide (a0_1 < a1_1) = true := decide_eq_true c12
      clear c12
      have H' := Aside0.mk H
      clear H
      have hnb13 := NB224_225.out
      have hnc13 := NB225_224.out
      obtain ⟨hcz14_0, hcz14_1, hcz14_2⟩ := cells3 BK224.out
      obtain ⟨hfz14_0, hfz14_1, hfz14_2⟩ := frz3 BK224.out
      obtain ⟨hcz15_0, hcz15_1, hcz15_2⟩ := cells3 BK225.out
      obtain ⟨hfz15_0, hfz15_1, hfz15_2⟩ := frz3 BK225.out
      go_wp2
      go_meet
      case rel => exact ⟨_, (true), (by first | rfl | (simp; done) | (simp [*]; done)), H', ⟨by first | omega | exact Nat.le_refl _⟩, ⟨by (with_reducible repeat (first | refine blk_drewN ?_ _ | refine blk_drew ?_ | refine blk_alloc ?_ _)); exact BK224.out⟩, ⟨by (with_reducible repeat (first | refine blk_drewN ?_ _ | refine blk_drew ?_ | refine blk_alloc ?_ _)); exact BK225.out⟩, ⟨bl⟩⟩
     ·
      rw [if_neg c12] at H
      have c12b0 : decide (a0_1 < a1_1) = false := decide_eq_false c12
      clear c12
      by_cases c16 : a0_0 = 1
      ·
       rw [if_pos c16] at H
       have c16b0 : (a0_0 == 1) = true := beq_iff_eq.mpr c16
       have c16b1 : (a0_0 != 1) = false := bne_eq_false_iff_eq.mpr c16
       clear c16
       have H' := Aside0.mk H
       clear H
       have hnb17 := NB224_225.out
       have hnc17 := NB225_224.out
       obtain ⟨hcz18_0, hcz18_1, hcz18_2⟩ := cells3 BK224.out
       obtain ⟨hfz18_0, hfz18_1, hfz18_2⟩ := frz3 BK224.out
       obtain ⟨hcz19_0, hcz19_1, hcz19_2⟩ := cells3 BK225.out
       obtain ⟨hfz19_0, hfz19_1, hfz19_2⟩ := frz3 BK225.out
       go_wp2
       go_meet
       case rel => exact ⟨_, ((Op.bytesLess a0_2.toList a1_2.toList)), (by first | rfl | (simp; done) | (simp [*]; done)), H', ⟨by first | omega | exact Nat.le_refl _⟩, ⟨by (with_reducible repeat (first | refine blk_drewN ?_ _ | refine blk_drew ?_ | refine blk_alloc ?_ _)); exact BK224.out⟩, ⟨by (with_reducible repeat (first | refine blk_drewN ?_ _ | refine blk_drew ?_ | refine blk_alloc ?_ _)); exact BK225.out⟩, ⟨bl⟩⟩
      ·
       rw [if_neg c16] at H
       have c16b0 : (a0_0 == 1) = false := beq_eq_false_iff_ne.mpr c16
       have c16b1 : (a0_0 != 1) = true := bne_iff_ne.mpr c16
       have H' := Aside0.mk H
       clear H
       have hnb20 := NB224_225.out
       have hnc20 := NB225_224.out
       obtain ⟨hcz21_0, hcz21_1, hcz21_2⟩ := cells3 BK224.out
       obtain ⟨hfz21_0, hfz21_1, hfz21_2⟩ := frz3 BK224.out
       obtain ⟨hcz22_0, hcz22_1, hcz22_2⟩ := cells3 BK225.out
       obtain ⟨hfz22_0, hfz22_1, hfz22_2⟩ := frz3 BK225.out
       go_wp2
       go_meet
       case rel => exact ⟨_, (false), (by first | rfl | (simp; done) | (simp [*]; done)), H', ⟨by first | omega | exact Nat.le_refl _⟩, ⟨by (with_reducible repeat (first | refine blk_drewN ?_ _ | refine blk_drew ?_ | refine blk_alloc ?_ _)); exact BK224.out⟩, ⟨by (with_reducible repeat (first | refine blk_drewN ?_ _ | refine blk_drew ?_ | refine blk_alloc ?_ _)); exact BK225.out⟩, ⟨bl⟩⟩
    ·
     rw [if_neg c11] at H
     have c11b0 : (a0_0 == 0) = false := beq_eq_false_iff_ne.mpr c11
     have c11b1 : (a0_0 != 0) = true := bne_iff_ne.mpr c11
     by_cases c23 : a0_0 = 1
     ·
      rw [if_pos c23] at H
      have c23b0 : (a0_0 == 1) = true := beq_iff_eq.mpr c23
      have c23b1 : (a0_0 != 1) = false := bne_eq_false_iff_eq.mpr c23
      clear c23
      have H' := Aside0.mk H
      clear H
      have hnb24 := NB224_225.out
      have hnc24 := NB225_224.out
      obtain ⟨hcz25_0, hcz25_1, hcz25_2⟩ := cells3 BK224.out
      obtain ⟨hfz25_0, hfz25_1, hfz25_2⟩ := frz3 BK224.out
      obtain ⟨hcz26_0, hcz26_1, hcz26_2⟩ := cells3 BK225.out
      obtain ⟨hfz26_0, hfz26_1, hfz26_2⟩ := frz3 BK225.out
      go_wp2
      go_meet
      case rel => exact ⟨_, ((Op.bytesLess a0_2.toList a1_2.toList)), (by first | rfl | (simp; done) | (simp [*]; done)), H', ⟨by first | omega | exact Nat.le_refl _⟩, ⟨by (with_reducible repeat (first | refine blk_drewN ?_ _ | refine blk_drew ?_ | refine blk_alloc ?_ _)); exact BK224.out⟩, ⟨by (with_reducible repeat (first | refine blk_drewN ?_ _ | refine blk_drew ?_ | refine blk_alloc ?_ _)); exact BK225.out⟩, ⟨bl⟩⟩
     ·
      rw [if_neg c23] at H
      have c23b0 : (a0_0 == 1) = false := beq_eq_false_iff_ne.mpr c23
      have c23b1 : (a0_0 != 1) = true := bne_iff_ne.mpr c23
      have H' := Aside0.mk H
      clear H
      have hnb27 := NB224_225.out
      have hnc27 := NB225_224.out
      obtain ⟨hcz28_0, hcz28_1, hcz28_2⟩ := cells3 BK224.out
      obtain ⟨hfz28_0, hfz28_1, hfz28_2⟩ := frz3 BK224.out
      obtain ⟨hcz29_0, hcz29_1, hcz29_2⟩ := cells3 BK225.out
      obtain ⟨hfz29_0, hfz29_1, hfz29_2⟩ := frz3 BK225.out
      go_wp2
      go_meet
      case rel => exact ⟨_, (false), (by first | rfl | (simp; done) | (simp [*]; done)), H', ⟨by first | omega | exact Nat.le_refl _⟩, ⟨by (with_reducible repeat (first | refine blk_drewN ?_ _ | refine blk_drew ?_ | refine blk_alloc ?_ _)); exact BK224.out⟩, ⟨by (with_reducible repeat (first | refine blk_drewN ?_ _ | refine blk_drew ?_ | refine blk_alloc ?_ _)); exact BK225.out⟩, ⟨bl⟩⟩
   ·
    rw [if_neg c10] at H
    have c10b0 : (a0_0 == a1_0) = false := beq_eq_false_iff_ne.mpr c10
    have c10b1 : (a0_0 != a1_0) = true := bne_iff_ne.mpr c10
    have H' := Aside0.mk H
    clear H
    have hnb30 := NB224_225.out
    have hnc30 := NB225_224.out
    obtain ⟨hcz31_0, hcz31_1, hcz31_2⟩ := cells3 BK224.out
    obtain ⟨hfz31_0, hfz31_1, hfz31_2⟩ := frz3 BK224.out
    obtain ⟨hcz32_0, hcz32_1, hcz32_2⟩ := cells3 BK225.out
    obtain ⟨hfz32_0, hfz32_1, hfz32_2⟩ := frz3 BK225.out
    go_wp2
    go_meet
    case rel => exact ⟨_, (false), (by first | rfl | (simp; done) | (simp [*]; done)), H', ⟨by first | omega | exact Nat.le_refl _⟩, ⟨by (with_reducible repeat (first | refine blk_drewN ?_ _ | refine blk_drew ?_ | refine blk_alloc ?_ _)); exact BK224.out⟩, ⟨by (with_reducible repeat (first | refine blk_drewN ?_ _ | refine blk_drew ?_ | refine blk_alloc ?_ _)); exact BK225.out⟩, ⟨bl⟩⟩
 case rest =>
  clear HC3
  obtain ⟨kq, x40_2, rfl, HA, HJ2, BK224, BK225, HB⟩ := hcut
  cases kq with
  | zero => exact absurd HA.out (by simp [runnelref03_Cmp.j0])
  | succ kj2 =>
   have H := HA.out
   clear HA
   simp only [runnelref03_Cmp.j0] at H
   by_cases c33 : x40_2 = true
   ·
    subst c33
    have H1 : (some (-1)) = some r := by rw [if_pos rfl] at H; exact H
    clear H
    have H := H1
    clear H1
    obtain rfl := Option.some.inj H
    go_wp2
    go_ret
    exact ⟨erq, by repeat (first | (with_reducible first | exact HB.out | apply below_alloc | apply pw_below_drewN | apply below_drew1 | refine below_set ?_ GE224.out | refine below_set ?_ GE225.out) | exact HB.out)⟩
   ·
    replace c33 := Bool.eq_false_iff.mpr c33
    subst c33
    have H1 : (if a0_0 > a1_0 then (some 1) else (if a0_0 = a1_0 then (if a0_0 = 0 then (if a0_1 > a1_1 then (some 1) else (if a0_0 = 1 then (if (Op.bytesLess a1_2.toList a0_2.toList) = true then (some 1) else (some 0)) else (some 0))) else (if a0_0 = 1 then (if (Op.bytesLess a1_2.toList a0_2.toList) = true then (some 1) else (some 0)) else (some 0))) else (some 0))) = some r := by rw [if_neg (show ¬ (false = true) by decide)] at H; exact H
    clear H
    have H := H1
    clear H1
    by_cases c34 : a0_0 > a1_0
    ·
     rw [if_pos c34] at H
     have c34b0 : decide (a1_0 < a0_0) = true := decide_eq_true c34
     clear c34
     obtain rfl := Option.some.inj H
     have hnb35 := NB224_225.out
     have hnc35 := NB225_224.out
     obtain ⟨hcz36_0, hcz36_1, hcz36_2⟩ := cells3 BK224.out
     obtain ⟨hfz36_0, hfz36_1, hfz36_2⟩ := frz3 BK224.out
     obtain ⟨hcz37_0, hcz37_1, hcz37_2⟩ := cells3 BK225.out
     obtain ⟨hfz37_0, hfz37_1, hfz37_2⟩ := frz3 BK225.out
     go_wp2
     go_ret
     exact ⟨erq, by repeat (first | (with_reducible first | exact HB.out | apply below_alloc | apply pw_below_drewN | apply below_drew1 | refine below_set ?_ GE224.out | refine below_set ?_ GE225.out) | exact HB.out)⟩
    ·
     rw [if_neg c34] at H
     have c34b0 : decide (a1_0 < a0_0) = false := decide_eq_false c34
     clear c34
     by_cases c38 : a0_0 = a1_0
     ·
      rw [if_pos c38] at H
      have c38b0 : (a0_0 == a1_0) = true := beq_iff_eq.mpr c38
      have c38b1 : (a0_0 != a1_0) = false := bne_eq_false_iff_eq.mpr c38
      clear c38
      by_cases c39 : a0_0 = 0
      ·
       rw [if_pos c39] at H
       have c39b0 : (a0_0 == 0) = true := beq_iff_eq.mpr c39
       have c39b1 : (a0_0 != 0) = false := bne_eq_false_iff_eq.mpr c39
       clear c39
       by_cases c40 : a0_1 > a1_1
       ·
        rw [if_pos c40] at H
        have c40b0 : decide (a1_1 < a0_1) = true := decide_eq_true c40
        clear c40
        obtain rfl := Option.some.inj H
        have hnb41 := NB224_225.out
        have hnc41 := NB225_224.out
        obtain ⟨hcz42_0, hcz42_1, hcz42_2⟩ := cells3 BK224.out
        obtain ⟨hfz42_0, hfz42_1, hfz42_2⟩ := frz3 BK224.out
        obtain ⟨hcz43_0, hcz43_1, hcz43_2⟩ := cells3 BK225.out
        obtain ⟨hfz43_0, hfz43_1, hfz43_2⟩ := frz3 BK225.out
        go_wp2
        go_ret
        exact ⟨erq, by repeat (first | (with_reducible first | exact HB.out | apply below_alloc | apply pw_below_drewN | apply below_drew1 | refine below_set ?_ GE224.out | refine below_set ?_ GE225.out) | exact HB.out)⟩
       ·
        rw [if_neg c40] at H
        have c40b0 : decide (a1_1 < a0_1) = false := decide_eq_false c40
        clear c40
        by_cases c44 : a0_0 = 1
        ·
         rw [if_pos c44] at H
         have c44b0 : (a0_0 == 1) = true := beq_iff_eq.mpr c44
         have c44b1 : (a0_0 != 1) = false := bne_eq_false_iff_eq.mpr c44
         clear c44
         by_cases c45 : (Op.bytesLess a1_2.toList a0_2.toList) = true
         ·
          rw [if_pos c45] at H
          have c45b0 : (Op.bytesLess a1_2.toList a0_2.toList) = true := c45
          clear c45
          obtain rfl := Option.some.inj H
          have hnb46 := NB224_225.out
          have hnc46 := NB225_224.out
          obtain ⟨hcz47_0, hcz47_1, hcz47_2⟩ := cells3 BK224.out
          obtain ⟨hfz47_0, hfz47_1, hfz47_2⟩ := frz3 BK224.out
          obtain ⟨hcz48_0, hcz48_1, hcz48_2⟩ := cells3 BK225.out
          obtain ⟨hfz48_0, hfz48_1, hfz48_2⟩ := frz3 BK225.out
          go_wp2
          go_ret
          exact ⟨erq, by repeat (first | (with_reducible first | exact HB.out | apply below_alloc | apply pw_below_drewN | apply below_drew1 | refine below_set ?_ GE224.out | refine below_set ?_ GE225.out) | exact HB.out)⟩
         ·
          rw [if_neg c45] at H
          have c45b0 : (Op.bytesLess a1_2.toList a0_2.toList) = false := by simpa using c45
          clear c45
          obtain rfl := Option.some.inj H
          have hnb49 := NB224_225.out
          have hnc49 := NB225_224.out
          obtain ⟨hcz50_0, hcz50_1, hcz50_2⟩ := cells3 BK224.out
          obtain ⟨hfz50_0, hfz50_1, hfz50_2⟩ := frz3 BK224.out
          obtain ⟨hcz51_0, hcz51_1, hcz51_2⟩ := cells3 BK225.out
          obtain ⟨hfz51_0, hfz51_1, hfz51_2⟩ := frz3 BK225.out
          go_wp2
          go_ret
          exact ⟨erq, by repeat (first | (with_reducible first | exact HB.out | apply below_alloc | apply pw_below_drewN | apply below_drew1 | refine below_set ?_ GE224.out | refine below_set ?_ GE225.out) | exact HB.out)⟩
        ·
         rw [if_neg c44] at H
         have c44b0 : (a0_0 == 1) = false := beq_eq_false_iff_ne.mpr c44
         have c44b1 : (a0_0 != 1) = true := bne_iff_ne.mpr c44
         obtain rfl := Option.some.inj H
         have hnb52 := NB224_225.out
         have hnc52 := NB225_224.out
         obtain ⟨hcz53_0, hcz53_1, hcz53_2⟩ := cells3 BK224.out
         obtain ⟨hfz53_0, hfz53_1, hfz53_2⟩ := frz3 BK224.out
         obtain ⟨hcz54_0, hcz54_1, hcz54_2⟩ := cells3 BK225.out
         obtain ⟨hfz54_0, hfz54_1, hfz54_2⟩ := frz3 BK225.out
         go_wp2
         go_ret
         exact ⟨erq, by repeat (first | (with_reducible first | exact HB.out | apply below_alloc | apply pw_below_drewN | apply below_drew1 | refine below_set ?_ GE224.out | refine below_set ?_ GE225.out) | exact HB.out)⟩
      ·
       rw [if_neg c39] at H
       have c39b0 : (a0_0 == 0) = false := beq_eq_false_iff_ne.mpr c39
       have c39b1 : (a0_0 != 0) = true := bne_iff_ne.mpr c39
       by_cases c55 : a0_0 = 1
       ·
        rw [if_pos c55] at H
        have c55b0 : (a0_0 == 1) = true := beq_iff_eq.mpr c55
        have c55b1 : (a0_0 != 1) = false := bne_eq_false_iff_eq.mpr c55
        clear c55
        by_cases c56 : (Op.bytesLess a1_2.toList a0_2.toList) = true
        ·
         rw [if_pos c56] at H
         have c56b0 : (Op.bytesLess a1_2.toList a0_2.toList) = true := c56
         clear c56
         obtain rfl := Option.some.inj H
         have hnb57 := NB224_225.out
         have hnc57 := NB225_224.out
         obtain ⟨hcz58_0, hcz58_1, hcz58_2⟩ := cells3 BK224.out
         obtain ⟨hfz58_0, hfz58_1, hfz58_2⟩ := frz3 BK224.out
         obtain ⟨hcz59_0, hcz59_1, hcz59_2⟩ := cells3 BK225.out
         obtain ⟨hfz59_0, hfz59_1, hfz59_2⟩ := frz3 BK225.out
         go_wp2
         go_ret
         exact ⟨erq, by repeat (first | (with_reducible first | exact HB.out | apply below_alloc | apply pw_below_drewN | apply below_drew1 | refine below_set ?_ GE224.out | refine below_set ?_ GE225.out) | exact HB.out)⟩
        ·
         rw [if_neg c56] at H
         have c56b0 : (Op.bytesLess a1_2.toList a0_2.toList) = false := by simpa using c56
         clear c56
         obtain rfl := Option.some.inj H
         have hnb60 := NB224_225.out
         have hnc60 := NB225_224.out
         obtain ⟨hcz61_0, hcz61_1, hcz61_2⟩ := cells3 BK224.out
         obtain ⟨hfz61_0, hfz61_1, hfz61_2⟩ := frz3 BK224.out
         obtain ⟨hcz62_0, hcz62_1, hcz62_2⟩ := cells3 BK225.out
         obtain ⟨hfz62_0, hfz62_1, hfz62_2⟩ := frz3 BK225.out
         go_wp2
         go_ret
         exact ⟨erq, by repeat (first | (with_reducible first | exact HB.out | apply below_alloc | apply pw_below_drewN | apply below_drew1 | refine below_set ?_ GE224.out | refine below_set ?_ GE225.out) | exact HB.out)⟩
       ·
        rw [if_neg c55] at H
        have c55b0 : (a0_0 == 1) = false := beq_eq_false_iff_ne.mpr c55
        have c55b1 : (a0_0 != 1) = true := bne_iff_ne.mpr c55
        obtain rfl := Option.some.inj H
        have hnb63 := NB224_225.out
        have hnc63 := NB225_224.out
        obtain ⟨hcz64_0, hcz64_1, hcz64_2⟩ := cells3 BK224.out
        obtain ⟨hfz64_0, hfz64_1, hfz64_2⟩ := frz3 BK224.out
        obtain ⟨hcz65_0, hcz65_1, hcz65_2⟩ := cells3 BK225.out
        obtain ⟨hfz65_0, hfz65_1, hfz65_2⟩ := frz3 BK225.out
        go_wp2
        go_ret
        exact ⟨erq, by repeat (first | (with_reducible first | exact HB.out | apply below_alloc | apply pw_below_drewN | apply below_drew1 | refine below_set ?_ GE224.out | refine below_set ?_ GE225.out) | exact HB.out)⟩
     ·
      rw [if_neg c38] at H
      have c38b0 : (a0_0 == a1_0) = false := beq_eq_false_iff_ne.mpr c38
      have c38b1 : (a0_0 != a1_0) = true := bne_iff_ne.mpr c38
      obtain rfl := Option.some.inj H
      have hnb66 := NB224_225.out
      have hnc66 := NB225_224.out
      obtain ⟨hcz67_0, hcz67_1, hcz67_2⟩ := cells3 BK224.out
      obtain ⟨hfz67_0, hfz67_1, hfz67_2⟩ := frz3 BK224.out
      obtain ⟨hcz68_0, hcz68_1, hcz68_2⟩ := cells3 BK225.out
      obtain ⟨hfz68_0, hfz68_1, hfz68_2⟩ := frz3 BK225.out
      go_wp2
      go_ret
      exact ⟨erq, by repeat (first | (with_reducible first | exact HB.out | apply below_alloc | apply pw_below_drewN | apply below_drew1 | refine below_set ?_ GE224.out | refine below_set ?_ GE225.out) | exact HB.out)⟩

end Go.Proofs.Ytpplklickfioiaa.PWireDecodes
