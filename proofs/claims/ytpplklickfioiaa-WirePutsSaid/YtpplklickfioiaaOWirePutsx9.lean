/- One piece of the machine's side of the law, written by a program over the translation; Lean checks it. -/
import Derived.Test.YtpplklickfioiaaOWirePutsx0
import Derived.Test.YtpplklickfioiaaOWirePutsx8
import Derived.Test.YtpplklickfioiaaShort
namespace Go.Proofs.Ytpplklickfioiaa.PWirePuts
open Go.RowKit Go.Proofs.YtpplklickfioiaaW.PrintWords Go.Proofs.YtpplklickfioiaaW.PrintLast Go.Proofs.YtpplklickfioiaaW.PrintMore
attribute [local go_sem] max2_int min2_int max_two min_two max_three min_three max_four min_four   -- for this text's walks alone
set_option linter.unusedVariables false
set_option linter.unusedSimpArgs false

/-! ### runnelref03_Order: function 67 -/
mutual
def runnelref03_Order.l0 : Nat → List (S103) → List (S103) → Int → Option (Int)
 | 0, _, _, _ => none
 | k + 1, x0, x1, x5 => if x5 < (x0.length : Int) then (runnelref03_Order.j1 k x0 x1 x5 (decide (x5 < (x1.length : Int)))) else (runnelref03_Order.j1 k x0 x1 x5 false)
def runnelref03_Order.j1 : Nat → List (S103) → List (S103) → Int → Bool → Option (Int)
 | 0, _, _, _, _ => none
 | k + 1, x0, x1, x5, x16 => if x16 = true then (if 0 ≤ x5 then (if x5 < (x0.length : Int) then (if x5 < (x1.length : Int) then ((runnelref03_Cmp.f k ((rd_T103 x0 x5).f0) ((rd_T103 x0 x5).f1) ((rd_T103 x0 x5).f2) ((rd_T103 x1 x5).f0) ((rd_T103 x1 x5).f1) ((rd_T103 x1 x5).f2)).bind fun t357 => (if t357 = 0 then (runnelref03_Order.l0 k x0 x1 (wrap64 (x5 + 1))) else (some t357))) else (none)) else (none)) else (none)) else (if (x0.length : Int) < (x1.length : Int) then (some (-1)) else (if (x0.length : Int) > (x1.length : Int) then (some 1) else (some 0)))
end
def runnelref03_Order.f (k : Nat) (l0 : List (S103)) (l1 : List (S103)) : Option (Int) := runnelref03_Order.l0 k l0 l1 0
def runnelref03_Order.T4 : Bool × List (List Nat × List Nat) := (true, [([], []), ([], []), ([0, 1], [0, 1]), ([2], [2]), ([], []), ([], []), ([4, 5], [4, 5]), ([6], [6]), ([3, 7], [3, 7]), ([8, 8, 0, 1, 2, 3, 4, 5, 6, 7, 8], [8])])
def runnelref03_Order.B4 : List Nat := [0, 0, 3, 7, 0, 0, 48, 112, 255, 511]
theorem runnelref03_Order.tab4 : rtab .any (opsOf Try.f67 4) = runnelref03_Order.T4 := by kernel_rfl
theorem runnelref03_Order.bits4 : waitsOk runnelref03_Order.T4.2 runnelref03_Order.B4 = true := by kernel_rfl
set_option maxHeartbeats 8000000 in
set_option maxRecDepth 100000 in
theorem runnelref03_Order.calls (k : Nat) (A0 : Option Addr) (c0 : Nat) (l0 : List (S103)) (A1 : Option Addr) (c1 : Nat) (l1 : List (S103)) (r : Int) (w : World) (hr0 : Kd.C k103 w A0 l0.length l0) (hc0 : l0.length ≤ c0) (hr1 : Kd.C k103 w A1 l1.length l1) (hc1 : l1.length ≤ c1) (h : runnelref03_Order.f k l0 l1 = some r) :
  Calls Try.prog 67 #[.slice A0 l0.length c0, .slice A1 l1.length c1] w fun e w' => e = .returned (.int .i64 r) ∧ Below w.heap.size w w' := by
 have hu103 := Try.underlying103; have HR0 := Aside0.mk hr0; have HC0 := Aside0.mk hc0; clear hr0 hc0; have HR1 := Aside0.mk hr1; have HC1 := Aside0.mk hc1; clear hr1 hc1; have HB := Aside0.mk (Below.refl w.heap.size w); have H : (runnelref03_Order.l0 k l0 l1 0) = some r := h; clear h; have H' := Aside0.mk H; clear H; go_enter Try.func67, Try.ntmps67
 go_wp2
 go_loopg [5] k (fun kq v5 w' => ∃ (x5_1 : Int), v5 = .int .i64 x5_1 ∧ Aside0 (runnelref03_Order.l0 kq l0 l1 x5_1 = some r) ∧ Aside0 (kq ≤ k) ∧ Aside0 (Below w.heap.size w w'))
 case atStart => exact ⟨(0), rsd, H', ⟨Nat.le_refl _⟩, ⟨bl⟩⟩
 clear H'; try clear c1
 obtain ⟨x5_1, rfl, HA, HK1, HB⟩ := hrel; cases gk with
 | zero => exact absurd HA.out (by simp [runnelref03_Order.l0])
 | succ k1 =>
  have H := HA.out; clear HA; simp only [runnelref03_Order.l0] at H; have HC3 := Aside0.mk H; clear H; go_upto_region 2 with (fail); go_cut [16] (fun v16 wc => ∃ (kq : Nat) (x16_2 : Bool), v16 = .bool x16_2 ∧ Aside0 (runnelref03_Order.j1 kq l0 l1 x5_1 x16_2 = some r) ∧ Aside0 (kq ≤ k1) ∧ Aside0 (Below w.heap.size w wc))
  case first =>
   have H := HC3.out; clear HC3; by_cases c4 : x5_1 < (l0.length : Int)
   rotate_left
   ·
    rw [if_neg c4] at H; have c4b0 : decide (x5_1 < (l0.length : Int)) = false := decide_eq_false c4; clear c4; (first | rw [c4b0] | (simp only [i64_w, i32_w]; rw [c4b0]) | skip); have H' := Aside0.mk H; clear H; go_wp2
    go_meet
    case rel => exact ⟨_, (false), rsd, H', ⟨by have := HK1.out; first | omega | exact Nat.le_refl _⟩, ⟨bl⟩⟩
   rw [if_pos c4] at H; have c4b0 : decide (x5_1 < (l0.length : Int)) = true := decide_eq_true c4; clear c4; (first | rw [c4b0] | (simp only [i64_w, i32_w]; rw [c4b0]) | skip); have H' := Aside0.mk H; clear H; go_wp2
   go_meet
   case rel => exact ⟨_, (decide (x5_1 < (l1.length : Int))), rsd, H', ⟨by have := HK1.out; first | omega | exact Nat.le_refl _⟩, ⟨bl⟩⟩
  clear HC3; try clear c1
  obtain ⟨kq, x16_2, rfl, HA, HJ2, HB⟩ := hcut; cases kq with
  | zero => exact absurd HA.out (by simp [runnelref03_Order.j1])
  | succ kj2 =>
   have H := HA.out; clear HA; simp only [runnelref03_Order.j1] at H; by_cases c5 : x16_2 = true
   rotate_left
   ·
    replace c5 := Bool.eq_false_iff.mpr c5; subst c5; have H1 : (if (l0.length : Int) < (l1.length : Int) then (some (-1)) else (if (l0.length : Int) > (l1.length : Int) then (some 1) else (some 0))) = some r := by rw [if_neg (show ¬ (false = true) by decide)] at H; exact H
    clear H; have H := H1; clear H1; by_cases c15 : (l0.length : Int) < (l1.length : Int)
    ·
     rw [if_pos c15] at H; have c15b0 : decide ((l0.length : Int) < (l1.length : Int)) = true := decide_eq_true c15; have c15b1 : decide (l0.length < l1.length) = true := decide_eq_true (Int.ofNat_lt.mp c15); clear c15; obtain rfl := Option.some.inj H; go_wp2
     go_ret
     exact ⟨erq, bl⟩
    rw [if_neg c15] at H; have c15b0 : decide ((l0.length : Int) < (l1.length : Int)) = false := decide_eq_false c15; have c15b1 : decide (l0.length < l1.length) = false := decide_eq_false (fun h => c15 (Int.ofNat_lt.mpr h)); clear c15; by_cases c16 : (l0.length : Int) > (l1.length : Int)
    ·
     rw [if_pos c16] at H; have c16b0 : decide ((l1.length : Int) < (l0.length : Int)) = true := decide_eq_true c16; have c16b1 : decide (l1.length < l0.length) = true := decide_eq_true (Int.ofNat_lt.mp c16); clear c16; obtain rfl := Option.some.inj H; go_wp2
     go_ret
     exact ⟨erq, bl⟩
    rw [if_neg c16] at H; have c16b0 : decide ((l1.length : Int) < (l0.length : Int)) = false := decide_eq_false c16; have c16b1 : decide (l1.length < l0.length) = false := decide_eq_false (fun h => c16 (Int.ofNat_lt.mpr h)); clear c16; obtain rfl := Option.some.inj H; go_wp2
    go_ret
    exact ⟨erq, bl⟩

   subst c5; have H1 : (if 0 ≤ x5_1 then (if x5_1 < (l0.length : Int) then (if x5_1 < (l1.length : Int) then ((runnelref03_Cmp.f kj2 ((rd_T103 l0 x5_1).f0) ((rd_T103 l0 x5_1).f1) ((rd_T103 l0 x5_1).f2) ((rd_T103 l1 x5_1).f0) ((rd_T103 l1 x5_1).f1) ((rd_T103 l1 x5_1).f2)).bind fun t357 => (if t357 = 0 then (runnelref03_Order.l0 kj2 l0 l1 (wrap64 (x5_1 + 1))) else (some t357))) else (none)) else (none)) else (none)) = some r := by rw [if_pos rfl] at H; exact H
   clear H; have H := H1; clear H1; by_cases c6 : 0 ≤ x5_1
   rotate_left
   · rw [if_neg c6] at H; exact absurd H (by simp)
   rw [if_pos c6] at H; have c6b0 : decide (0 ≤ x5_1) = true := decide_eq_true c6; clear c6; by_cases c7 : x5_1 < (l0.length : Int)
   rotate_left
   · rw [if_neg c7] at H; exact absurd H (by simp)
   rw [if_pos c7] at H; have c7b0 : decide (x5_1 < (l0.length : Int)) = true := decide_eq_true c7; clear c7; by_cases c8 : x5_1 < (l1.length : Int)
   rotate_left
   · rw [if_neg c8] at H; exact absurd H (by simp)
   rw [if_pos c8] at H; have c8b0 : decide (x5_1 < (l1.length : Int)) = true := decide_eq_true c8; clear c8; replace H := Option.bind_eq_some_iff.mp H; obtain ⟨t357, A90, H⟩ := H; replace H : (if t357 = 0 then (runnelref03_Order.l0 kj2 l0 l1 (wrap64 (x5_1 + 1))) else (some t357)) = some r := H; have A9 := Aside0.mk A90; clear A90; have HQ_ := Aside0.mk H; clear H; try go_wp2
   have n0_ := Aside0.mk (below_drew1 HB.out); clear HB; have HB := n0_; clear n0_; have p355 : 0 ≤ (x5_1 : Int) := of_decide_eq_true asm; have q355 : x5_1 < (l0.length : Int) := of_decide_eq_true asm; obtain ⟨ad355, e355, hx355_0, hx355_1, hx355_2⟩ := at_T103 HR0.out x5_1 p355 q355; have hw355_2 := hx355_2; have hw355_1 := hx355_1; have hw355_0 := hx355_0; cases e355
   replace hx355_0 := bc HB.out hx355_0; replace hx355_1 := bc HB.out hx355_1; replace hx355_2 := bc HB.out hx355_2; replace p355 := eq_true p355; replace q355 := eq_true q355; have p356 : 0 ≤ (x5_1 : Int) := of_decide_eq_true asm; have q356 : x5_1 < (l1.length : Int) := of_decide_eq_true asm; obtain ⟨ad356, e356, hx356_0, hx356_1, hx356_2⟩ := at_T103 HR1.out x5_1 p356 q356; have hw356_2 := hx356_2; have hw356_1 := hx356_1; have hw356_0 := hx356_0; cases e356
   replace hx356_0 := bc HB.out hx356_0; replace hx356_1 := bc HB.out hx356_1; replace hx356_2 := bc HB.out hx356_2; replace p356 := eq_true p356; replace q356 := eq_true q356; refine start_ (n := 10) (S := fun w' => w'.cell? (ad355.add ((x5_1).toNat * 3)) = some (.int .i64 ((rd_T103 l0 x5_1).f0)) ∧ w'.cell? ⟨(ad355.add ((x5_1).toNat * 3)).block, (ad355.add ((x5_1).toNat * 3)).off + 1, none⟩ = some (.int .i64 ((rd_T103 l0 x5_1).f1)) ∧ w'.cell? ⟨(ad355.add ((x5_1).toNat * 3)).block, (ad355.add ((x5_1).toNat * 3)).off + 2, none⟩ = some (.string ((rd_T103 l0 x5_1).f2)) ∧ w'.cell? (ad356.add ((x5_1).toNat * 3)) = some (.int .i64 ((rd_T103 l1 x5_1).f0)) ∧ w'.cell? ⟨(ad356.add ((x5_1).toNat * 3)).block, (ad356.add ((x5_1).toNat * 3)).off + 1, none⟩ = some (.int .i64 ((rd_T103 l1 x5_1).f1)) ∧ w'.cell? ⟨(ad356.add ((x5_1).toNat * 3)).block, (ad356.add ((x5_1).toNat * 3)).off + 2, none⟩ = some (.string ((rd_T103 l1 x5_1).f2))) (ds := []) #[false, false, false, false, false, false, false, false, false, false] (by kernel_rfl) rfl rfl ⟨(bc HB.out hw355_0), (bc HB.out hw355_1), (bc HB.out hw355_2), (bc HB.out hw356_0), (bc HB.out hw356_1), (bc HB.out hw356_2)⟩ (fun hHeld => ?_); refine with_tabW runnelref03_Order.tab4 runnelref03_Order.bits4 (fun HT_ HW_ => ?_)
   generalize wc.drew = w11 at HB hx355_0 hx355_1 hx355_2 hx356_0 hx356_1 hx356_2 hHeld ⊢; refine pure_ (i := 0) (N := some 19) (v := ?_) (a' := ?_) (bs 10 1) rfl rfl (any_of HT_.out (by kernel_rfl)) (fun _ _ _ h => h) (Or.inl ⟨by rfl, ?_⟩) ?_ ?_; rotate_left
   · intro w'; go_simp; with_reducible rfl
   rotate_left
   · exact nrm
   refine pure_ (i := 1) (N := some 20) (v := ?_) (a' := ?_) (bs 10 3) rfl rfl (any_of HT_.out (by kernel_rfl)) (fun _ _ _ h => h) (Or.inl ⟨by rfl, ?_⟩) ?_ ?_; rotate_left
   · intro w'; go_simp; with_reducible rfl
   rotate_left
   · exact nrm
   refine pure_ (i := 2) (N := some 21) (v := ?_) (a' := ?_) (bs 10 7) rfl rfl (any_of HT_.out (by kernel_rfl)) (fun _ _ _ h => h) (Or.inl ⟨by rfl, ?_⟩) ?_ ?_; rotate_left
   · intro w'; go_simp; with_reducible rfl
   rotate_left
   · exact nrm
   refine pure_ (i := 4) (N := some 23) (v := ?_) (a' := ?_) (bs 10 23) rfl rfl (any_of HT_.out (by kernel_rfl)) (fun _ _ _ h => h) (Or.inl ⟨by rfl, ?_⟩) ?_ ?_; rotate_left
   · intro w'; go_simp; with_reducible rfl
   rotate_left
   · exact nrm
   refine pure_ (i := 5) (N := some 24) (v := ?_) (a' := ?_) (bs 10 55) rfl rfl (any_of HT_.out (by kernel_rfl)) (fun _ _ _ h => h) (Or.inl ⟨by rfl, ?_⟩) ?_ ?_; rotate_left
   · intro w'; go_simp; with_reducible rfl
   rotate_left
   · exact nrm
   refine pure_ (i := 6) (N := some 25) (v := ?_) (a' := ?_) (bs 10 119) rfl rfl (any_of HT_.out (by kernel_rfl)) (fun _ _ _ h => h) (Or.inl ⟨by rfl, ?_⟩) ?_ ?_; rotate_left
   · intro w'; go_simp; with_reducible rfl
   rotate_left
   · exact nrm
   refine take_ (i := 3) (N := some 22) (v := ?_) (a' := ?_) (bs 10 127) rfl rfl (take_ofW HT_.out HW_.out (by kernel_rfl)) (fun _ _ _ h => h) (Or.inl ⟨by rfl, ?_⟩) hHeld ?_ ?_; rotate_left
   · rintro w' ⟨s0, s1, s2, s3, s4, s5⟩; go_simp; with_reducible rfl
   rotate_left
   · exact nrm
   refine take_ (i := 7) (N := some 26) (v := ?_) (a' := ?_) (bs 10 255) rfl rfl (take_ofW HT_.out HW_.out (by kernel_rfl)) (fun _ _ _ h => h) (Or.inl ⟨by rfl, ?_⟩) hHeld ?_ ?_; rotate_left
   · rintro w' ⟨s0, s1, s2, s3, s4, s5⟩; go_simp; with_reducible rfl
   rotate_left
   · exact nrm
   refine one_ (i := 8) (N := some 27) (bs 10 511) rfl rfl (one_of HT_.out (by kernel_rfl)) (by decide) (fun K hK => ?_); refine goes_ Try.func73 (by kernel_rfl) rfl #[.agg #[.int .i64 ((rd_T103 l0 x5_1).f0), .int .i64 ((rd_T103 l0 x5_1).f1), .string ((rd_T103 l0 x5_1).f2)], .agg #[.int .i64 ((rd_T103 l1 x5_1).f0), .int .i64 ((rd_T103 l1 x5_1).f1), .string ((rd_T103 l1 x5_1).f2)]] (by rfl) rfl rfl mpq ?_; with_reducible refine (runnelref03_Cmp.calls kj2 ((rd_T103 l0 x5_1).f0) ((rd_T103 l0 x5_1).f1) ((rd_T103 l0 x5_1).f2) ((rd_T103 l1 x5_1).f0) ((rd_T103 l1 x5_1).f1) ((rd_T103 l1 x5_1).f2) t357 _ A9.out).mono ?_
   rintro e w12 ⟨rfl, hb⟩; refine ⟨_, rfl, ?_⟩; have n0_ := Aside0.mk (below_step bl hb); clear HB; have HB := n0_; clear n0_; (try clear hb); (try clear hb2); (try clear hk); (try clear hi); refine hK.out _ _ ⟨(bc HB.out hw355_0), (bc HB.out hw355_1), (bc HB.out hw355_2), (bc HB.out hw356_0), (bc HB.out hw356_1), (bc HB.out hw356_2)⟩ (fun hHeld => ?_); clear hK K; refine norm_ (a' := ?_) ?_ ?_; rotate_left
   · show Act.put _ (some 27) _ = _; simp only [Act.put, List.setIfInBounds_toArray, List.set_cons_zero, List.set_cons_succ, i64_w, i32_w]; rfl
   refine pure_ (i := 9) (N := some 6) (v := ?_) (a' := ?_) (bs 10 1023) rfl rfl (any_of HT_.out (by kernel_rfl)) (fun _ _ _ h => h) (Or.inl ⟨by rfl, ?_⟩) ?_ ?_; rotate_left
   · intro w'; go_simp; with_reducible rfl
   rotate_left
   · exact nrm
   refine done_ (done_of HT_.out (by kernel_rfl)) ?_; have H := HQ_.out; clear HQ_; by_cases c10 : t357 = 0
   rotate_left
   ·
    rw [if_neg c10] at H; have c10b0 : (t357 == 0) = false := beq_eq_false_iff_ne.mpr c10; have c10b1 : (t357 != 0) = true := bne_iff_ne.mpr c10; obtain rfl := Option.some.inj H; try go_wp2
    go_ret
    exact ⟨erq, bl⟩
   rw [if_pos c10] at H; have c10b0 : (t357 == 0) = true := beq_iff_eq.mpr c10; have c10b1 : (t357 != 0) = false := bne_eq_false_iff_eq.mpr c10; clear c10; have H' := Aside0.mk H; clear H; try go_wp2
   go_roundg kj2
   case measure => have := HK1.out; have := HJ2.out; omega
   case rel => exact ⟨(wrap64 (x5_1 + 1)), rsd, H', ⟨by have := HK1.out; have := HJ2.out; omega⟩, ⟨bl⟩⟩
/-! ### runnelref03_Same: function 45 -/
def runnelref03_Same.f (k : Nat) (l0 : List (S103)) (l1 : List (S103)) : Option (Bool) := (runnelref03_Order.f k l0 l1).bind fun t358 => (some (t358 == 0))
set_option maxHeartbeats 8000000 in
set_option maxRecDepth 100000 in
theorem runnelref03_Same.calls (k : Nat) (A0 : Option Addr) (c0 : Nat) (l0 : List (S103)) (A1 : Option Addr) (c1 : Nat) (l1 : List (S103)) (r : Bool) (w : World) (hr0 : Kd.C k103 w A0 l0.length l0) (hc0 : l0.length ≤ c0) (hr1 : Kd.C k103 w A1 l1.length l1) (hc1 : l1.length ≤ c1) (h : runnelref03_Same.f k l0 l1 = some r) :
  Calls Try.prog 45 #[.slice A0 l0.length c0, .slice A1 l1.length c1] w fun e w' => e = .returned (.bool r) ∧ Below w.heap.size w w' := by
 have HR0 := Aside0.mk hr0; have HC0 := Aside0.mk hc0; clear hr0 hc0; have HR1 := Aside0.mk hr1; have HC1 := Aside0.mk hc1; clear hr1 hc1; have HB := Aside0.mk (Below.refl w.heap.size w); have H : ((runnelref03_Order.f k l0 l1).bind fun t358 => (some (t358 == 0))) = some r := h; clear h; replace H := Option.bind_eq_some_iff.mp H; obtain ⟨t358, A30, H⟩ := H; replace H : (some (t358 == 0)) = some r := H; have A3 := Aside0.mk A30; clear A30; obtain rfl := Option.some.inj H; go_enter Try.func45, Try.ntmps45
 go_wp2_with (first | ((with_reducible refine gate_callee (f := 67) rfl ?_); refine goesL_ (some 7) rfl rfl Try.func67 (by kernel_rfl) rfl #[.slice A0 l0.length c0, .slice A1 l1.length c1] rfl mpq ?_; (with_reducible refine (runnelref03_Order.calls k _ _ l0 _ _ l1 t358 _ ?side1 ?side2 ?side3 ?side4 A3.out).mono ?_); (case side1 => exact cp (HR0.out)); (case side2 => exact HC0.out); (case side3 => exact cp (HR1.out)); (case side4 => exact HC1.out); rintro e w4 ⟨rfl, hb⟩; refine ⟨_, rfl, ?_⟩; have n0_ := Aside0.mk (below_step bl hb); clear HB; have HB := n0_; clear n0_; (try clear hb); (try clear hb2); (try clear hk); (try clear hi)))
 go_ret
 exact ⟨erq, bl⟩

end Go.Proofs.Ytpplklickfioiaa.PWirePuts
