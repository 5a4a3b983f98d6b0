/- One piece of the machine's side of the law, written by a program over the translation; Lean checks it. -/
import Derived.Test.YtpplklickfioiaaOWirePutsx0
import Derived.Test.YtpplklickfioiaaOWirePutsx2
import Derived.Test.YtpplklickfioiaaOWirePutsx4
import Derived.Lib.ConvBytes
import Derived.Test.YtpplklickfioiaaShort
namespace Go.Proofs.Ytpplklickfioiaa.PWirePuts
open Go.RowKit Go.Proofs.YtpplklickfioiaaW.PrintWords Go.Proofs.YtpplklickfioiaaW.PrintLast Go.Proofs.YtpplklickfioiaaW.PrintMore
attribute [local go_sem] max2_int min2_int max_two min_two max_three min_three max_four min_four   -- for this text's walks alone
set_option linter.unusedVariables false
set_option linter.unusedSimpArgs false

/-! ### runnellaw26_live: function 8 -/
def runnellaw26_live.f (k : Nat)  : Option (Bool) := (wire_Put.f k ([] : List Int) 3 2 ([] : List (S103)) 0 0 0 ([] : List (S36)) 5 ([] : List Int)).bind fun bt217 => ((runnellaw26_code.f bt217.2).bind fun t221 => (if t221 = 0 then (some ((strOfNums bt217.1).toList == ([3, 4, 10] : List UInt8))) else (some false)))
theorem runnellaw26_live.mono : ∀ k, LeO (runnellaw26_live.f k ) (runnellaw26_live.f (k + 1) ) := by
 intro  k
 unfold runnellaw26_live.f
 repeat' first
   | (with_reducible exact wire_Put.mono _ _ _ _ _ _ _ _ _ _ _)
   | (with_reducible exact LeO.refl _)
   | (with_reducible exact LeO.none _)
   | (with_reducible refine LeO.ite ?_ ?_)
   | (with_reducible refine LeO.bind ?_ (fun _ => ?_))
   | exact wire_Put.mono _ _ _ _ _ _ _ _ _ _ _
   | exact LeO.none _
   | refine LeO.ite ?_ ?_
   | refine LeO.bind ?_ (fun _ => ?_)
set_option maxHeartbeats 8000000 in
set_option maxRecDepth 100000 in
theorem runnellaw26_live.calls (k : Nat)  (r : Bool) (w : World) (h : runnellaw26_live.f k  = some r) :
  Calls Try.prog 8 #[] w fun e w' => e = .returned (.bool r) ∧ Below w.heap.size w w' := by
 have hu40 := Try.underlying40; have HB := Aside0.mk (Below.refl w.heap.size w); have H : ((wire_Put.f k ([] : List Int) 3 2 ([] : List (S103)) 0 0 0 ([] : List (S36)) 5 ([] : List Int)).bind fun bt217 => ((runnellaw26_code.f bt217.2).bind fun t221 => (if t221 = 0 then (some ((strOfNums bt217.1).toList == ([3, 4, 10] : List UInt8))) else (some false)))) = some r := h; clear h; replace H := Option.bind_eq_some_iff.mp H; obtain ⟨⟨t217, t220⟩, A10, H⟩ := H; replace H : ((runnellaw26_code.f t220).bind fun t221 => (if t221 = 0 then (some ((strOfNums t217).toList == ([3, 4, 10] : List UInt8))) else (some false))) = some r := H; have A1 := Aside0.mk A10; clear A10; replace H := Option.bind_eq_some_iff.mp H; obtain ⟨t221, A20, H⟩ := H; replace H : (if t221 = 0 then (some ((strOfNums t217).toList == ([3, 4, 10] : List UInt8))) else (some false)) = some r := H; have A2 := Aside0.mk A20; clear A20; by_cases c3 : t221 = 0
 rotate_left
 ·
  rw [if_neg c3] at H; have c3b0 : (t221 == 0) = false := beq_eq_false_iff_ne.mpr c3; have c3b1 : (t221 != 0) = true := bne_iff_ne.mpr c3; obtain rfl := Option.some.inj H; go_enter Try.func8, Try.ntmps8
  go_wp2_with (first | ((with_reducible refine gate_callee (f := 19) rfl ?_); refine goesL_ (some 5) rfl rfl Try.func19 (by kernel_rfl) rfl #[.slice none 0 0, .agg #[.int .i64 3, .int .i64 2, .slice none 0 0, .int .i64 0, .int .i64 0, .int .i64 0, .slice none 0 0, .int .i64 5, .slice none 0 0]] rfl mpq ?_; (refine (wire_Put.calls k _ _ ([] : List Int) 3 2 _ _ ([] : List (S103)) 0 0 0 _ _ ([] : List (S36)) 5 _ _ ([] : List Int) t217 t220 _ ?side1 ?side2 ?side3 ?side4 ?side5 ?side6 ?side7 ?side8 A1.out).mono ?_); (case side1 => exact Kd.C_nil _ _); (case side2 => exact Nat.le_refl _); (case side3 => exact Kd.C_nil _ _); (case side4 => exact Nat.le_refl _); (case side5 => exact Kd.C_nil _ _); (case side6 => exact Nat.le_refl _); (case side7 => exact Kd.C_nil _ _); (case side8 => exact Nat.le_refl _); rintro e w6 ⟨v218, rfl, ho0, hb⟩; refine ⟨_, rfl, ?_⟩; have n0_ := Aside0.mk (Kd.R_lower ho0 (below_size bl)); have n1_ := Aside0.mk (below_step bl hb); clear HB; have HO219 := n0_; have HB := n1_; clear n0_ n1_; (try clear hb); (try clear hb2); (try clear hk); (try clear hi); (try clear ho0)) | ((with_reducible refine gate_callee (f := 12) rfl ?_); refine goesL_ (some 9) rfl rfl Try.func12 (by kernel_rfl) rfl #[.int .i64 t220] rfl mpq ?_; (with_reducible refine (runnellaw26_code.calls t220 t221 _ A2.out).mono ?_); rintro e w' ⟨rfl, ⟨nd, rfl⟩⟩; refine ⟨_, rfl, ?_⟩))
  go_ret
  exact ⟨erq, bl⟩

 rw [if_pos c3] at H; have c3b0 : (t221 == 0) = true := beq_iff_eq.mpr c3; have c3b1 : (t221 != 0) = false := bne_eq_false_iff_eq.mpr c3; clear c3; obtain rfl := Option.some.inj H; go_enter Try.func8, Try.ntmps8
 go_wp2_with (first | ((with_reducible refine gate_callee (f := 19) rfl ?_); refine goesL_ (some 5) rfl rfl Try.func19 (by kernel_rfl) rfl #[.slice none 0 0, .agg #[.int .i64 3, .int .i64 2, .slice none 0 0, .int .i64 0, .int .i64 0, .int .i64 0, .slice none 0 0, .int .i64 5, .slice none 0 0]] rfl mpq ?_; (refine (wire_Put.calls k _ _ ([] : List Int) 3 2 _ _ ([] : List (S103)) 0 0 0 _ _ ([] : List (S36)) 5 _ _ ([] : List Int) t217 t220 _ ?side1 ?side2 ?side3 ?side4 ?side5 ?side6 ?side7 ?side8 A1.out).mono ?_); (case side1 => exact Kd.C_nil _ _); (case side2 => exact Nat.le_refl _); (case side3 => exact Kd.C_nil _ _); (case side4 => exact Nat.le_refl _); (case side5 => exact Kd.C_nil _ _); (case side6 => exact Nat.le_refl _); (case side7 => exact Kd.C_nil _ _); (case side8 => exact Nat.le_refl _); rintro e w4 ⟨v218, rfl, ho0, hb⟩; refine ⟨_, rfl, ?_⟩; have n0_ := Aside0.mk (Kd.R_lower ho0 (below_size bl)); have n1_ := Aside0.mk (below_step bl hb); clear HB; have HO219 := n0_; have HB := n1_; clear n0_ n1_; (try clear hb); (try clear hb2); (try clear hk); (try clear hi); (try clear ho0)) | ((with_reducible refine gate_callee (f := 12) rfl ?_); refine goesL_ (some 9) rfl rfl Try.func12 (by kernel_rfl) rfl #[.int .i64 t220] rfl mpq ?_; (with_reducible refine (runnellaw26_code.calls t220 t221 _ A2.out).mono ?_); rintro e w' ⟨rfl, ⟨nd, rfl⟩⟩; refine ⟨_, rfl, ?_⟩; have hcv5 := own_string (P := Try.prog) Try.underlying22 Try.underlying5 Try.underlying9 (Kd.own_of_R HO219.out); have hcv5d := fun n_ : Nat => own_string (P := Try.prog) Try.underlying22 Try.underlying5 Try.underlying9 (Kd.own_of_R (Kd.R_drewN HO219.out n_))))
 go_ret
 exact ⟨erq, bl⟩
/-! ### main_main: function 0 -/
/-- The bytes of a string. -/
def main_main.f (a0 : ByteArray) : Option (List Int) := if a0.size < 140737488355328 then some (bytesOf a0) else none
theorem bytes_F (W : World) (s : ByteArray) (hs : s.size < 140737488355328) : Kd.F (Kd.int .u8) (Lib.bytesWorld W 5 s) (fun k_ => W.heap.size ≤ k_) (some ⟨W.heap.size, 0, none⟩) (bytesOf s).length (bytesOf s) := by
  intro W' hW; have hl := bytesOf_length s
  have hb : W'.heap[W.heap.size]? = some (.cells (Lib.bytesCells W 5 s) 5 ((Lib.bytesCells W 5 s).size, (Lib.bytesCells W 5 s).size + 1)) := by
    rw [hW W.heap.size (Nat.le_refl _) (by rw [Lib.bytesWorld_size]; omega)]; exact Lib.bytesWorld_at_new W 5 s
  refine ⟨rfl, by omega, fun hn => ⟨_, rfl, fun j p hj => ⟨[.int .u8 p], rfl, rfl, fun i u hu => ?_⟩⟩⟩
  cases i with
  | succ i => simp at hu
  | zero =>
    have hu' : Value.int .u8 p = u := by simpa using hu
    subst hu'; obtain ⟨hjl, hjp⟩ := List.getElem?_eq_some_iff.1 hj; have hjs : j < s.size := by omega
    have he : (⟨W.heap.size, 0, none⟩ : Addr).add (j * 1 + 0) = ⟨W.heap.size, j, none⟩ := by
      unfold Addr.add
      split
      · rename_i h2
        have : j = 0 := by omega
        subst this; rfl
      · simp
    show W'.cell? ((⟨W.heap.size, 0, none⟩ : Addr).add (j * 1 + 0)) = _; rw [he]; have hp : p = ((s.data.toList.getD j 0).toNat : Int) := by
      rw [← hjp]; have hjd : j < s.data.toList.length := by have := data_length s; omega
      have hjd' : j < s.data.size := by simpa using hjd
      simp [bytesOf, List.getD_eq_getElem?_getD]
      rw [Array.getElem?_eq_getElem hjd']; rfl
    have h2 := Lib.bytesWorld_cell W 5 s j hjs; have h3 : W'.cell? ⟨W.heap.size, j, none⟩ = (Lib.bytesWorld W 5 s).cell? ⟨W.heap.size, j, none⟩ := by
      unfold World.cell?
      rw [hb, Lib.bytesWorld_at_new]
    rw [h3, h2, hp]
theorem bytes_below (W : World) (s : ByteArray) : Below W.heap.size W (Lib.bytesWorld W 5 s) :=
  ⟨rfl, rfl, rfl, by rw [Lib.bytesWorld_size]; omega, fun k hk => Lib.bytesWorld_at_old W 5 s k hk⟩
/-- Bytes of a string, in new memory; their end is marked: they are only read from there on. -/
theorem conv_ {P : Program} {ops : Array Oper} {Q : Exit → Act → World → Prop} {rest : List Oper} {o : Oper} {a : Act} {W : World} (N : Tmp) (hgd : o.guard = none) (hN : o.dst = some N) (src dst : TypeId) (x : Operand) (ho : o.op = .convert src dst x) (s : ByteArray) (hx : a.eval x = .string s) {u : TypeDesc} (hs : P.underlying src = some u) (hd : P.underlying dst = some (.slice 5)) (he : P.underlying 5 = some (.int .u8)) (r : List Int) (hr : main_main.f s = some r)
    (h : ∀ v w1, Kd.V (Kd.int .u8) 5 w1 W.heap.size (fun k_ => W.heap.size ≤ k_) v r → Below W.heap.size W w1 → wpList P ops Q rest (a.put (some N) v) w1) : wpList P ops Q (o :: rest) a W := by
  unfold main_main.f at hr
  split at hr
  case isFalse => cases hr
  case isTrue hsz =>
  obtain rfl := Option.some.inj hr; have hl := bytesOf_length s
  have hrun := Lib.run_convert_string_bytes (P := P) W src dst 5 s hs hd he; refine Kd.event_run hgd (v := .slice (some ⟨W.heap.size, 0, none⟩) (bytesOf s).length (grownCap W s.size 0 5)) (w1 := Lib.bytesWorld W 5 s) ?_ ?_
  · unfold execOp
    simp only [ho, hx]; rw [hl]; simp [hrun]
  · rw [hN]
    exact h _ _ (Kd.V_mk (by rw [hl]; exact grownCap_ge W s.size 0 5) (bytes_F W s hsz)) (bytes_below W s)

/-! ### num_Get: function 31 -/
mutual
def num_Get.j0 : Nat → List Int → Int → Int → Bool → Option (Int × Int × Int)
 | 0, _, _, _, _ => none
 | k + 1, x0, x1, x4, x15 => if x15 = true then (some (0, 0, 9)) else (num_Get.l0 k x0 x1 x4 x1)
def num_Get.l0 : Nat → List Int → Int → Int → Int → Option (Int × Int × Int)
 | 0, _, _, _, _ => none
 | k + 1, x0, x1, x4, x7 => if x7 < (x0.length : Int) then (if x7 = x1 then (if 0 ≤ x7 then (if (rd x0 x7) = 128 then (num_Get.j2 k x0 x1 x4 x7 true) else (num_Get.j2 k x0 x1 x4 x7 (decide ((x4 / 144115188075855872) > 0)))) else (none)) else (num_Get.j2 k x0 x1 x4 x7 (decide ((x4 / 144115188075855872) > 0)))) else (some (0, 0, 6))
def num_Get.j2 : Nat → List Int → Int → Int → Int → Bool → Option (Int × Int × Int)
 | 0, _, _, _, _, _ => none
 | k + 1, x0, x1, x4, x7, x37 => if x37 = true then (some (0, 0, 6)) else (if 0 ≤ x7 then (if x7 < (x0.length : Int) then (if (rd x0 x7) < 128 then (some (Go.bits .or .u64 (IntKind.u64.wrap (x4 * 128)) (IntKind.u64.wrap (Go.bits .and .u8 (rd x0 x7) 127)), wrap64 (x7 + 1), 0)) else (num_Get.l0 k x0 x1 (Go.bits .or .u64 (IntKind.u64.wrap (x4 * 128)) (IntKind.u64.wrap (Go.bits .and .u8 (rd x0 x7) 127))) (wrap64 (x7 + 1)))) else (none)) else (none))
end
def num_Get.f (k : Nat) (l0 : List Int) (a1 : Int) : Option (Int × Int × Int) := if a1 < 0 then (num_Get.j0 k l0 a1 0 true) else (num_Get.j0 k l0 a1 0 (decide (a1 > (l0.length : Int))))
set_option maxHeartbeats 8000000 in
set_option maxRecDepth 100000 in
theorem num_Get.calls (k : Nat) (A0 : Option Addr) (c0 : Nat) (l0 : List Int) (a1 : Int) (r1 : Int) (r2 : Int) (r3 : Int) (w : World) (hr0 : Kd.C (Kd.int .u8) w A0 l0.length l0) (hc0 : l0.length ≤ c0) (h : num_Get.f k l0 a1 = some (r1, r2, r3)) :
  Calls Try.prog 31 #[.slice A0 l0.length c0, .int .i64 a1] w fun e w' => e = .returned (.tuple #[.int .u64 r1, .int .i64 r2, .int .i64 r3]) ∧ Drawn0 w w' := by
 have HR0 := Aside0.mk hr0; have HC0 := Aside0.mk hc0; clear hr0 hc0; have H : (if a1 < 0 then (num_Get.j0 k l0 a1 0 true) else (num_Get.j0 k l0 a1 0 (decide (a1 > (l0.length : Int))))) = some (r1, r2, r3) := h; clear h; have HC3 := Aside0.mk H; clear H; go_enter Try.func31, Try.ntmps31
 go_upto_region 1 with (fail); go_cut [15] (fun v15 wc => ∃ (kq : Nat) (x15_2 : Bool), v15 = .bool x15_2 ∧ Aside0 (num_Get.j0 kq l0 a1 0 x15_2 = some (r1, r2, r3)) ∧ Aside0 (kq ≤ k) ∧ Drawn0 w wc)
 case first =>
  have H := HC3.out; clear HC3; by_cases c4 : a1 < 0
  rotate_left
  ·
   rw [if_neg c4] at H; have c4b0 : decide (a1 < 0) = false := decide_eq_false c4; clear c4; (first | rw [c4b0] | (simp only [i64_w, i32_w]; rw [c4b0]) | skip); have H' := Aside0.mk H; clear H; go_wp2
   go_meet
   case rel => exact ⟨_, (decide (a1 > (l0.length : Int))), rsd, H', ⟨by first | omega | exact Nat.le_refl _⟩, by repeat (first | exact Drawn0.refl _ | apply Drawn0.step)⟩
  rw [if_pos c4] at H; have c4b0 : decide (a1 < 0) = true := decide_eq_true c4; clear c4; (first | rw [c4b0] | (simp only [i64_w, i32_w]; rw [c4b0]) | skip); have H' := Aside0.mk H; clear H; go_wp2
  go_meet
  case rel => exact ⟨_, (true), rsd, H', ⟨by first | omega | exact Nat.le_refl _⟩, by repeat (first | exact Drawn0.refl _ | apply Drawn0.step)⟩
 clear HC3; obtain ⟨kq, x15_2, rfl, HA, HJ2, ⟨mc2, rfl⟩⟩ := hcut; cases kq with
 | zero => exact absurd HA.out (by simp [num_Get.j0])
 | succ kj2 =>
  have H := HA.out; clear HA; simp only [num_Get.j0] at H; by_cases c5 : x15_2 = true
  ·
   subst c5; have H1 : (some (0, 0, 9)) = some (r1, r2, r3) := by rw [if_pos rfl] at H; exact H
   clear H; have H := H1; clear H1; simp only [Option.some.injEq, Prod.mk.injEq] at H; obtain ⟨rfl, rfl, rfl⟩ := H; go_wp2
   go_ret3
   exact ⟨by first | rfl | (simp; done) | (simp [*]; done), by repeat (first | exact Drawn0.refl _ | apply Drawn0.step)⟩
  replace c5 := Bool.eq_false_iff.mpr c5; subst c5; have H1 : (num_Get.l0 kj2 l0 a1 0 a1) = some (r1, r2, r3) := by rw [if_neg (show ¬ (false = true) by decide)] at H; exact H
  clear H; have H := H1; clear H1; have H' := Aside0.mk H; clear H; go_wp2
  go_loopg [4, 7] kj2 (fun kq v4 v7 w' => ∃ (x4_2 : Int) (x7_2 : Int), v4 = .int .u64 x4_2 ∧ v7 = .int .i64 x7_2 ∧ Aside0 (num_Get.l0 kq l0 a1 x4_2 x7_2 = some (r1, r2, r3)) ∧ Aside0 (kq ≤ kj2) ∧ Drawn0 w w')
  case atStart => exact ⟨(0), (a1), rsd, rsd, H', ⟨Nat.le_refl _⟩, by repeat (first | exact Drawn0.refl _ | apply Drawn0.step)⟩
  clear H'; try clear c5
  obtain ⟨x4_2, x7_2, rfl, rfl, HA, HK2, ⟨m2, rfl⟩⟩ := hrel; cases gk with
  | zero => exact absurd HA.out (by simp [num_Get.l0])
  | succ k2 =>
   have H := HA.out; clear HA; simp only [num_Get.l0] at H; by_cases c6 : x7_2 < (l0.length : Int)
   rotate_left
   ·
    rw [if_neg c6] at H; have c6b0 : decide (x7_2 < (l0.length : Int)) = false := decide_eq_false c6; clear c6; simp only [Option.some.injEq, Prod.mk.injEq] at H; obtain ⟨rfl, rfl, rfl⟩ := H; go_wp2
    go_ret3
    exact ⟨by first | rfl | (simp; done) | (simp [*]; done), by repeat (first | exact Drawn0.refl _ | apply Drawn0.step)⟩

   rw [if_pos c6] at H; have c6b0 : decide (x7_2 < (l0.length : Int)) = true := decide_eq_true c6; clear c6; have HC7 := Aside0.mk H; clear H; go_upto_region 6 with (fail); go_cut [37] (fun v37 wc => ∃ (kq : Nat) (x37_6 : Bool), v37 = .bool x37_6 ∧ Aside0 (num_Get.j2 kq l0 a1 x4_2 x7_2 x37_6 = some (r1, r2, r3)) ∧ Aside0 (kq ≤ k2) ∧ Drawn0 w wc)
   case first =>
    have H := HC7.out; clear HC7; by_cases c8 : x7_2 = a1
    rotate_left
    ·
     rw [if_neg c8] at H; have c8b0 : (x7_2 == a1) = false := beq_eq_false_iff_ne.mpr c8; have c8b1 : (x7_2 != a1) = true := bne_iff_ne.mpr c8; (first | rw [c8b0] | (simp only [i64_w, i32_w]; rw [c8b0]) | skip); have H' := Aside0.mk H; clear H; go_wp2
     go_meet
     case rel => exact ⟨_, (decide ((x4_2 / 144115188075855872) > 0)), rsd, H', ⟨by have := HJ2.out; have := HK2.out; first | omega | exact Nat.le_refl _⟩, by repeat (first | exact Drawn0.refl _ | apply Drawn0.step)⟩
    rw [if_pos c8] at H; have c8b0 : (x7_2 == a1) = true := beq_iff_eq.mpr c8; have c8b1 : (x7_2 != a1) = false := bne_eq_false_iff_eq.mpr c8; clear c8; (first | rw [c8b0] | (simp only [i64_w, i32_w]; rw [c8b0]) | skip); by_cases c9 : 0 ≤ x7_2
    rotate_left
    · rw [if_neg c9] at H; exact absurd H (by simp)
    rw [if_pos c9] at H; have c9b0 : decide (0 ≤ x7_2) = true := decide_eq_true c9; clear c9; by_cases c10 : (rd l0 x7_2) = 128
    rotate_left
    ·
     rw [if_neg c10] at H; have c10b0 : ((rd l0 x7_2) == 128) = false := beq_eq_false_iff_ne.mpr c10; have c10b1 : ((rd l0 x7_2) != 128) = true := bne_iff_ne.mpr c10; have H' := Aside0.mk H; clear H; have p228 : 0 ≤ (x7_2 : Int) := of_decide_eq_true asm; have q228 : x7_2 < (l0.length : Int) := of_decide_eq_true asm; obtain ⟨ad228, e228, hx228_0⟩ := Kd.at_int HR0.out x7_2 p228 q228; cases e228
     replace p228 := eq_true p228; replace q228 := eq_true q228; go_wp2
     go_meet
     case rel => exact ⟨_, (decide ((x4_2 / 144115188075855872) > 0)), rsd, H', ⟨by have := HJ2.out; have := HK2.out; first | omega | exact Nat.le_refl _⟩, by repeat (first | exact Drawn0.refl _ | apply Drawn0.step)⟩
    rw [if_pos c10] at H; have c10b0 : ((rd l0 x7_2) == 128) = true := beq_iff_eq.mpr c10; have c10b1 : ((rd l0 x7_2) != 128) = false := bne_eq_false_iff_eq.mpr c10; clear c10; have H' := Aside0.mk H; clear H; have p228 : 0 ≤ (x7_2 : Int) := of_decide_eq_true asm; have q228 : x7_2 < (l0.length : Int) := of_decide_eq_true asm; obtain ⟨ad228, e228, hx228_0⟩ := Kd.at_int HR0.out x7_2 p228 q228; cases e228
    replace p228 := eq_true p228; replace q228 := eq_true q228; go_wp2
    go_meet
    case rel => exact ⟨_, (true), rsd, H', ⟨by have := HJ2.out; have := HK2.out; first | omega | exact Nat.le_refl _⟩, by repeat (first | exact Drawn0.refl _ | apply Drawn0.step)⟩
   clear HC7; (try clear c5); (try clear c6); (try clear c6b0); obtain ⟨kq, x37_6, rfl, HA, HJ6, ⟨mc6, rfl⟩⟩ := hcut; cases kq with
   | zero => exact absurd HA.out (by simp [num_Get.j2])
   | succ kj6 =>
    have H := HA.out; clear HA; simp only [num_Get.j2] at H; by_cases c11 : x37_6 = true
    ·
     subst c11; have H1 : (some (0, 0, 6)) = some (r1, r2, r3) := by rw [if_pos rfl] at H; exact H
     clear H; have H := H1; clear H1; simp only [Option.some.injEq, Prod.mk.injEq] at H; obtain ⟨rfl, rfl, rfl⟩ := H; go_wp2
     go_ret3
     exact ⟨by first | rfl | (simp; done) | (simp [*]; done), by repeat (first | exact Drawn0.refl _ | apply Drawn0.step)⟩
    replace c11 := Bool.eq_false_iff.mpr c11; subst c11; have H1 : (if 0 ≤ x7_2 then (if x7_2 < (l0.length : Int) then (if (rd l0 x7_2) < 128 then (some (Go.bits .or .u64 (IntKind.u64.wrap (x4_2 * 128)) (IntKind.u64.wrap (Go.bits .and .u8 (rd l0 x7_2) 127)), wrap64 (x7_2 + 1), 0)) else (num_Get.l0 kj6 l0 a1 (Go.bits .or .u64 (IntKind.u64.wrap (x4_2 * 128)) (IntKind.u64.wrap (Go.bits .and .u8 (rd l0 x7_2) 127))) (wrap64 (x7_2 + 1)))) else (none)) else (none)) = some (r1, r2, r3) := by rw [if_neg (show ¬ (false = true) by decide)] at H; exact H
    clear H; have H := H1; clear H1; by_cases c12 : 0 ≤ x7_2
    rotate_left
    · rw [if_neg c12] at H; exact absurd H (by simp)
    rw [if_pos c12] at H; have c12b0 : decide (0 ≤ x7_2) = true := decide_eq_true c12; clear c12; by_cases c13 : x7_2 < (l0.length : Int)
    rotate_left
    · rw [if_neg c13] at H; exact absurd H (by simp)
    rw [if_pos c13] at H; have c13b0 : decide (x7_2 < (l0.length : Int)) = true := decide_eq_true c13; clear c13; by_cases c14 : (rd l0 x7_2) < 128
    ·
     rw [if_pos c14] at H; have c14b0 : decide ((rd l0 x7_2) < 128) = true := decide_eq_true c14; clear c14; simp only [Option.some.injEq, Prod.mk.injEq] at H; obtain ⟨rfl, rfl, rfl⟩ := H; have p229 : 0 ≤ (x7_2 : Int) := of_decide_eq_true asm; have q229 : x7_2 < (l0.length : Int) := of_decide_eq_true asm; obtain ⟨ad229, e229, hx229_0⟩ := Kd.at_int HR0.out x7_2 p229 q229; cases e229
     replace p229 := eq_true p229; replace q229 := eq_true q229; have p230 : 0 ≤ (x7_2 : Int) := of_decide_eq_true asm; have q230 : x7_2 < (l0.length : Int) := of_decide_eq_true asm; obtain ⟨ad230, e230, hx230_0⟩ := Kd.at_int HR0.out x7_2 p230 q230; obtain rfl : ad229 = ad230 := (by injection e230); replace p230 := eq_true p230; replace q230 := eq_true q230; go_wp2
     go_ret3
     exact ⟨by first | rfl | (simp; done) | (simp [*]; done), by repeat (first | exact Drawn0.refl _ | apply Drawn0.step)⟩
    rw [if_neg c14] at H; have c14b0 : decide ((rd l0 x7_2) < 128) = false := decide_eq_false c14; clear c14; have H' := Aside0.mk H; clear H; have p229 : 0 ≤ (x7_2 : Int) := of_decide_eq_true asm; have q229 : x7_2 < (l0.length : Int) := of_decide_eq_true asm; obtain ⟨ad229, e229, hx229_0⟩ := Kd.at_int HR0.out x7_2 p229 q229; cases e229
    replace p229 := eq_true p229; replace q229 := eq_true q229; have p230 : 0 ≤ (x7_2 : Int) := of_decide_eq_true asm; have q230 : x7_2 < (l0.length : Int) := of_decide_eq_true asm; obtain ⟨ad230, e230, hx230_0⟩ := Kd.at_int HR0.out x7_2 p230 q230; obtain rfl : ad229 = ad230 := (by injection e230); replace p230 := eq_true p230; replace q230 := eq_true q230; go_wp2
    go_roundg kj6
    case measure => have := HJ2.out; have := HK2.out; have := HJ6.out; omega
    case rel => exact ⟨(Go.bits .or .u64 (IntKind.u64.wrap (x4_2 * 128)) (IntKind.u64.wrap (Go.bits .and .u8 (rd l0 x7_2) 127))), (wrap64 (x7_2 + 1)), rsd, rsd, H', ⟨by have := HJ2.out; have := HK2.out; have := HJ6.out; omega⟩, by repeat (first | exact Drawn0.refl _ | apply Drawn0.step)⟩
/-! ### num_zag: function 71 -/
def num_zag.f (a0 : Int) : Option (Int) := some (Go.bits .xor .i64 (wrap64 (a0 / 2)) (wrap64 (-(wrap64 (Go.bits .and .u64 a0 1)))))
set_option maxHeartbeats 8000000 in
set_option maxRecDepth 100000 in
theorem num_zag.calls (a0 : Int) (r : Int) (w : World) (h : num_zag.f a0 = some r) :
  Calls Try.prog 71 #[.int .u64 a0] w fun e w' => e = .returned (.int .i64 r) ∧ Drawn0 w w' := by
 have H : (some (Go.bits .xor .i64 (wrap64 (a0 / 2)) (wrap64 (-(wrap64 (Go.bits .and .u64 a0 1)))))) = some r := h; clear h; obtain rfl := Option.some.inj H; go_enter Try.func71, Try.ntmps71
 go_wp2
 go_ret
 exact ⟨by first | rfl | (simp; done) | (simp [*]; done), by repeat (first | exact Drawn0.refl _ | apply Drawn0.step)⟩

/-! ### num_GetInt: function 60 -/
def num_GetInt.f (k : Nat) (l0 : List Int) (a1 : Int) : Option (Int × Int × Int) := (num_Get.f k l0 a1).bind fun bt231 => ((num_zag.f bt231.1).bind fun t234 => (some (t234, bt231.2.1, bt231.2.2)))
set_option maxHeartbeats 8000000 in
set_option maxRecDepth 100000 in
theorem num_GetInt.calls (k : Nat) (A0 : Option Addr) (c0 : Nat) (l0 : List Int) (a1 : Int) (r1 : Int) (r2 : Int) (r3 : Int) (w : World) (hr0 : Kd.C (Kd.int .u8) w A0 l0.length l0) (hc0 : l0.length ≤ c0) (h : num_GetInt.f k l0 a1 = some (r1, r2, r3)) :
  Calls Try.prog 60 #[.slice A0 l0.length c0, .int .i64 a1] w fun e w' => e = .returned (.tuple #[.int .i64 r1, .int .i64 r2, .int .i64 r3]) ∧ Drawn0 w w' := by
 have HR0 := Aside0.mk hr0; have HC0 := Aside0.mk hc0; clear hr0 hc0; have H : ((num_Get.f k l0 a1).bind fun bt231 => ((num_zag.f bt231.1).bind fun t234 => (some (t234, bt231.2.1, bt231.2.2)))) = some (r1, r2, r3) := h; clear h; replace H := Option.bind_eq_some_iff.mp H; obtain ⟨⟨t231, t232, t233⟩, A30, H⟩ := H; replace H : ((num_zag.f t231).bind fun t234 => (some (t234, t232, t233))) = some (r1, r2, r3) := H; have A3 := Aside0.mk A30; clear A30; replace H := Option.bind_eq_some_iff.mp H; obtain ⟨t234, A40, H⟩ := H; replace H : (some (t234, t232, t233)) = some (r1, r2, r3) := H; have A4 := Aside0.mk A40; clear A40; simp only [Option.some.injEq, Prod.mk.injEq] at H; obtain ⟨rfl, rfl, rfl⟩ := H; go_enter Try.func60, Try.ntmps60
 go_wp2_with (first | ((with_reducible refine gate_callee (f := 31) rfl ?_); refine goesL_ (some 11) rfl rfl Try.func31 (by kernel_rfl) rfl #[.slice A0 l0.length c0, .int .i64 a1] rfl mpq ?_; (with_reducible refine (num_Get.calls k _ _ l0 a1 t231 t232 t233 _ ?side1 ?side2 A3.out).mono ?_); (case side1 => exact cp (HR0.out)); (case side2 => exact HC0.out); rintro e w' ⟨rfl, ⟨nd, rfl⟩⟩; refine ⟨_, rfl, ?_⟩) | ((with_reducible refine gate_callee (f := 71) rfl ?_); refine goesL_ (some 16) rfl rfl Try.func71 (by kernel_rfl) rfl #[.int .u64 t231] rfl mpq ?_; (with_reducible refine (num_zag.calls t231 t234 _ A4.out).mono ?_); rintro e w' ⟨rfl, ⟨nd, rfl⟩⟩; refine ⟨_, rfl, ?_⟩))
 go_ret3
 exact ⟨by first | rfl | (simp; done) | (simp [*]; done), by repeat (first | exact Drawn0.refl _ | apply Drawn0.step)⟩

/-- A state of type 73 at block g of W; what its slices lead to came in by w0. -/
def IsS73 (w0 W : World) (g : Nat) (f0 : List Int) (f1 : Int) (f2 : Int) : Prop := ∃ A0 c0, W.heap[g]? = some (.cells #[.slice A0 f0.length c0, .int .i64 f1, .int .i64 f2] 73 (0, 0)) ∧ w0.heap.size ≤ g ∧ (Kd.C (Kd.int .u8) w0 A0 f0.length f0 ∧ f0.length ≤ c0)
theorem IsS73.grown {w0 W : World} {g : Nat} {f0 : List Int} {f1 : Int} {f2 : Int} {W1 : World} {row : Option Nat} (h : IsS73 w0 W g f0 f1 f2) (hw : W.grownBy W1 row) (hne : some g ≠ row) : IsS73 w0 W1 g f0 f1 f2 := by
 obtain ⟨A0, c0, hb, hg, hr0⟩ := h; exact ⟨A0, c0, blk_grown hb hw hne, hg, hr0⟩
theorem IsS73.own_neN {w0 W : World} {g : Nat} {f0 : List Int} {f1 : Int} {f2 : Int} {α : Type} {d : Kd α} {e : Nat} {base : Nat} {ok : Nat → Prop} {v : Value} {xs : List α} (h : IsS73 w0 W g f0 f1 f2) (ho : Kd.N d e W base ok v xs) (ht : e ≠ 73) : some g ≠ v.ownBlock := by
 obtain ⟨A0, c0, hb, hg, hr0⟩ := h; exact Kd.N_ne ho hb ht
theorem IsS73.fresh {w0 W : World} {g : Nat} {f0 : List Int} {f1 : Int} {f2 : Int} (h : IsS73 w0 W g f0 f1 f2) : ∀ k, W.heap.size ≤ k → k ≠ g := by
 obtain ⟨A0, c0, hb, hg, hr0⟩ := h; exact Kd.freshB hb
theorem IsS73.kept {w0 W : World} {g : Nat} {f0 : List Int} {f1 : Int} {f2 : Int} {W1 : World} {S : Nat → Prop} (h : IsS73 w0 W g f0 f1 f2) (hk : Kept W W1 S) (hne : ¬ S g) : IsS73 w0 W1 g f0 f1 f2 := by
 obtain ⟨A0, c0, hb, hg, hr0⟩ := h; exact ⟨A0, c0, blk_kept hb hk hne, hg, hr0⟩
theorem IsS73.below {w0 W : World} {g : Nat} {f0 : List Int} {f1 : Int} {f2 : Int} {W1 : World} (h : IsS73 w0 W g f0 f1 f2) (hw : Below W.heap.size W W1) : IsS73 w0 W1 g f0 f1 f2 := h.grown (grown_of_below hw none) (by simp)
theorem IsS73.alloc {w0 W : World} {g : Nat} {f0 : List Int} {f1 : Int} {f2 : Int} (h : IsS73 w0 W g f0 f1 f2) (o : Obj) : IsS73 w0 (W.alloc o) g f0 f1 f2 := h.below (below_alloc (Below.refl _ _) o)
theorem IsS73.drewN {w0 W : World} {g : Nat} {f0 : List Int} {f1 : Int} {f2 : Int} (h : IsS73 w0 W g f0 f1 f2) (m : Nat) : IsS73 w0 (W.drewN m) g f0 f1 f2 := h
theorem IsS73.drew {w0 W : World} {g : Nat} {f0 : List Int} {f1 : Int} {f2 : Int} (h : IsS73 w0 W g f0 f1 f2) : IsS73 w0 W.drew g f0 f1 f2 := h
theorem IsS73.at_ {w0 W : World} {g : Nat} {f0 : List Int} {f1 : Int} {f2 : Int} {w' : World} {m : Nat} (hq : W.drewN m = w') (h : IsS73 w0 W g f0 f1 f2) : IsS73 w0 w' g f0 f1 f2 := by subst hq; exact IsS73.drewN h m
theorem IsS73.apart {w0 W : World} {g : Nat} {f0 : List Int} {f1 : Int} {f2 : Int} {α : Type} {d : Kd α} {e : Nat} {base : Nat} {ok : Nat → Prop} {v : Value} {xs : List α} (h : IsS73 w0 W g f0 f1 f2) (ho : d.R e W base ok v xs) (ht : ∀ q, q ∈ e :: d.E → q ≠ 73) : d.R e W base (fun k => ok k ∧ k ≠ g) v xs := by
 obtain ⟨A0, c0, hb, hg, hr0⟩ := h; exact Kd.R_types ho hb ht
theorem IsS73.own_ne {w0 W : World} {g : Nat} {f0 : List Int} {f1 : Int} {f2 : Int} {α : Type} {d : Kd α} {e : Nat} {base : Nat} {ok : Nat → Prop} {v : Value} {xs : List α} (h : IsS73 w0 W g f0 f1 f2) (ho : d.R e W base ok v xs) (ht : e ≠ 73) : some g ≠ v.ownBlock := by
 obtain ⟨A0, c0, hb, hg, hr0⟩ := h; exact Kd.R_ne ho hb ht
theorem IsS73.apartQ {w0 W : World} {g : Nat} {f0 : List Int} {f1 : Int} {f2 : Int} {α : Type} {d : Kd α} {e : Nat} {base : Nat} {ok : Nat → Prop} {v : Value} {xs : List α} (h : IsS73 w0 W g f0 f1 f2) (ho : d.Q e W base ok v xs) (ht : ∀ q, q ∈ e :: d.E → q ≠ 73) : d.Q e W base (fun k => ok k ∧ k ≠ g) v xs := by
 obtain ⟨A0, c0, hb, hg, hr0⟩ := h; exact Kd.Q_types ho hb ht
theorem IsS73.own_neQ {w0 W : World} {g : Nat} {f0 : List Int} {f1 : Int} {f2 : Int} {α : Type} {d : Kd α} {e : Nat} {base : Nat} {ok : Nat → Prop} {v : Value} {xs : List α} (h : IsS73 w0 W g f0 f1 f2) (ho : d.Q e W base ok v xs) (ht : e ≠ 73) : some g ≠ v.ownBlock := by
 obtain ⟨A0, c0, hb, hg, hr0⟩ := h; exact Kd.Q_ne ho hb ht
theorem IsS73.apartS {w0 W : World} {g : Nat} {f0 : List Int} {f1 : Int} {f2 : Int} {α : Type} {d : Kd α} {e : Nat} {base : Nat} {ok : Nat → Prop} {v : Value} {xs : List α} (h : IsS73 w0 W g f0 f1 f2) (ho : d.S e W base ok v xs) (ht : ∀ q, q ∈ e :: d.E → q ≠ 73) : d.S e W base (fun k => ok k ∧ k ≠ g) v xs := by
 obtain ⟨A0, c0, hb, hg, hr0⟩ := h; exact Kd.S_types ho hb ht
theorem IsS73.own_neS {w0 W : World} {g : Nat} {f0 : List Int} {f1 : Int} {f2 : Int} {α : Type} {d : Kd α} {e : Nat} {base : Nat} {ok : Nat → Prop} {v : Value} {xs : List α} (h : IsS73 w0 W g f0 f1 f2) (ho : d.S e W base ok v xs) (ht : e ≠ 73) : some g ≠ v.ownBlock := by
 obtain ⟨A0, c0, hb, hg, hr0⟩ := h; exact Kd.S_ne ho hb ht
theorem IsS73.lt {w0 W : World} {g : Nat} {f0 : List Int} {f1 : Int} {f2 : Int} (h : IsS73 w0 W g f0 f1 f2) : g < W.heap.size := by
 obtain ⟨A0, c0, hb, hg, hr0⟩ := h; exact blk_lt hb
theorem IsS73.ge {w0 W : World} {g : Nat} {f0 : List Int} {f1 : Int} {f2 : Int} (h : IsS73 w0 W g f0 f1 f2) : w0.heap.size ≤ g := by
 obtain ⟨A0, c0, hb, hg, hr0⟩ := h; exact hg
theorem IsS73.ne_blk {w0 W : World} {g : Nat} {f0 : List Int} {f1 : Int} {f2 : Int} {a : Nat} {cs : Array Value} {t : TypeId} {fr : Nat × Nat} (h : IsS73 w0 W g f0 f1 f2) (hb2 : W.heap[a]? = some (.cells cs t fr)) (ht : t ≠ 73) : g ≠ a := by
 obtain ⟨A0, c0, hb, hg, hr0⟩ := h; rintro rfl; rw [hb] at hb2; injection hb2 with hb2
 injection hb2 with _ ht2
 exact ht ht2.symm
theorem IsS73.far {w0 W : World} {g : Nat} {f0 : List Int} {f1 : Int} {f2 : Int} {p : Addr} (h : IsS73 w0 W g f0 f1 f2) (hne : g ≠ p.block) (u : Value) : IsS73 w0 (W.setCell p u) g f0 f1 f2 := by
 obtain ⟨A0, c0, hb, hg, hr0⟩ := h; exact ⟨A0, c0, blk_far hb hne u, hg, hr0⟩
theorem cellS73_0 {W : World} {g : Nat} {A0 : Option Addr} {c0 : Nat} {f0 : List Int} {f1 : Int} {f2 : Int} (h : W.heap[g]? = some (.cells #[.slice A0 f0.length c0, .int .i64 f1, .int .i64 f2] 73 (0, 0))) : W.cell? ⟨g, 0, none⟩ = some (.slice A0 f0.length c0) := (blk_cell h 0).trans rfl
theorem cellS73_1 {W : World} {g : Nat} {A0 : Option Addr} {c0 : Nat} {f0 : List Int} {f1 : Int} {f2 : Int} (h : W.heap[g]? = some (.cells #[.slice A0 f0.length c0, .int .i64 f1, .int .i64 f2] 73 (0, 0))) : W.cell? ⟨g, 1, none⟩ = some (.int .i64 f1) := (blk_cell h 1).trans rfl
theorem IsS73.set_1 {w0 W : World} {g : Nat} {f0 : List Int} {f1 : Int} {f2 : Int} (h : IsS73 w0 W g f0 f1 f2) (x : Int) : IsS73 w0 (W.setCell ⟨g, 1, none⟩ (.int .i64 x)) g f0 x f2 := by
 obtain ⟨A0, c0, hb, hg, hr0⟩ := h; exact ⟨A0, c0, by simpa using blk_set hb 1 (.int .i64 x), hg, hr0⟩
theorem cellS73_2 {W : World} {g : Nat} {A0 : Option Addr} {c0 : Nat} {f0 : List Int} {f1 : Int} {f2 : Int} (h : W.heap[g]? = some (.cells #[.slice A0 f0.length c0, .int .i64 f1, .int .i64 f2] 73 (0, 0))) : W.cell? ⟨g, 2, none⟩ = some (.int .i64 f2) := (blk_cell h 2).trans rfl
theorem IsS73.set_2 {w0 W : World} {g : Nat} {f0 : List Int} {f1 : Int} {f2 : Int} (h : IsS73 w0 W g f0 f1 f2) (x : Int) : IsS73 w0 (W.setCell ⟨g, 2, none⟩ (.int .i64 x)) g f0 f1 x := by
 obtain ⟨A0, c0, hb, hg, hr0⟩ := h; exact ⟨A0, c0, by simpa using blk_set hb 2 (.int .i64 x), hg, hr0⟩
theorem IsS73.new (w0 W : World) (A0 : Option Addr) (c0 : Nat) (f0 : List Int) (f1 : Int) (f2 : Int) (hB : Below w0.heap.size w0 W) (hr0 : Kd.C (Kd.int .u8) w0 A0 f0.length f0 ∧ f0.length ≤ c0) : IsS73 w0 (W.alloc (.cells #[.slice A0 f0.length c0, .int .i64 f1, .int .i64 f2] 73)) W.heap.size f0 f1 f2 := ⟨A0, c0, by simpa using heap_alloc_new W _, hB.size, hr0⟩

/-! ### wire_keep_int: function 61 -/
def wire_keep_int.f (s0_0 : List Int) (s0_1 : Int) (s0_2 : Int) (a1 : Int) (a2 : Int) (a3 : Int) : Option (Int × Int × Int) := if s0_2 = 0 then (if a3 = 0 then (some (a1, a2, s0_2)) else (some (0, s0_1, 6))) else (some (0, s0_1, s0_2))
set_option maxHeartbeats 8000000 in
set_option maxRecDepth 100000 in
theorem wire_keep_int.calls (g : Nat) (s0_0 : List Int) (s0_1 : Int) (s0_2 : Int) (a1 : Int) (a2 : Int) (a3 : Int) (r1 : Int) (r2 : Int) (r3 : Int) (w0 w : World) (hI : IsS73 w0 w g s0_0 s0_1 s0_2) (hB : Below w0.heap.size w0 w) (h : wire_keep_int.f s0_0 s0_1 s0_2 a1 a2 a3 = some (r1, r2, r3)) :
  Calls Try.prog 61 #[.pointer (some ⟨g, 0, none⟩), .int .i64 a1, .int .i64 a2, .int .i64 a3] w fun e w' => e = .returned (.int .i64 r1) ∧ IsS73 w0 w' g s0_0 r2 r3 ∧ Below w0.heap.size w0 w' ∧ KeepBut w w' g none := by
 have HI0 := Aside0.mk hI; have HK := Aside0.mk (KeepBut.refl w g none); have HL := Aside0.mk hB.size; clear hI; have HW0 := Aside0.mk hB.size; have HB := Aside0.mk hB; clear hB; have H : (if s0_2 = 0 then (if a3 = 0 then (some (a1, a2, s0_2)) else (some (0, s0_1, 6))) else (some (0, s0_1, s0_2))) = some (r1, r2, r3) := h; clear h; by_cases c5 : s0_2 = 0
 rotate_left
 ·
  rw [if_neg c5] at H; have c5b0 : (s0_2 == 0) = false := beq_eq_false_iff_ne.mpr c5; have c5b1 : (s0_2 != 0) = true := bne_iff_ne.mpr c5; simp only [Option.some.injEq, Prod.mk.injEq] at H; obtain ⟨rfl, rfl, rfl⟩ := H; obtain ⟨ASz9_0, cSz9_0, HGz9, hgz9, HSz9_0⟩ := HI0.out; have hcz9_0 := cellS73_0 HGz9; have hcz9_1 := cellS73_1 HGz9; have hcz9_2 := cellS73_2 HGz9; have hfz9_1 := blk_frozen HGz9 1; have hfz9_2 := blk_frozen HGz9 2; clear HGz9 hgz9; go_enter Try.func61, Try.ntmps61
  go_wp2
  go_ret
  exact ⟨erq, hi73, bl73, hkl⟩

 rw [if_pos c5] at H; have c5b0 : (s0_2 == 0) = true := beq_iff_eq.mpr c5; have c5b1 : (s0_2 != 0) = false := bne_eq_false_iff_eq.mpr c5; clear c5; by_cases c6 : a3 = 0
 rotate_left
 ·
  rw [if_neg c6] at H; have c6b0 : (a3 == 0) = false := beq_eq_false_iff_ne.mpr c6; have c6b1 : (a3 != 0) = true := bne_iff_ne.mpr c6; simp only [Option.some.injEq, Prod.mk.injEq] at H; obtain ⟨rfl, rfl, rfl⟩ := H; obtain ⟨ASz8_0, cSz8_0, HGz8, hgz8, HSz8_0⟩ := HI0.out; have hcz8_0 := cellS73_0 HGz8; have hcz8_1 := cellS73_1 HGz8; have hcz8_2 := cellS73_2 HGz8; have hfz8_1 := blk_frozen HGz8 1; have hfz8_2 := blk_frozen HGz8 2; clear HGz8 hgz8; go_enter Try.func61, Try.ntmps61
  go_wp2
  go_ret
  exact ⟨erq, hi73, bl73, hkl⟩
 rw [if_pos c6] at H; have c6b0 : (a3 == 0) = true := beq_iff_eq.mpr c6; have c6b1 : (a3 != 0) = false := bne_eq_false_iff_eq.mpr c6; clear c6; simp only [Option.some.injEq, Prod.mk.injEq] at H; obtain ⟨rfl, rfl, rfl⟩ := H; obtain ⟨ASz7_0, cSz7_0, HGz7, hgz7, HSz7_0⟩ := HI0.out; have hcz7_0 := cellS73_0 HGz7; have hcz7_1 := cellS73_1 HGz7; have hcz7_2 := cellS73_2 HGz7; have hfz7_1 := blk_frozen HGz7 1; have hfz7_2 := blk_frozen HGz7 2; clear HGz7 hgz7; go_enter Try.func61, Try.ntmps61
 go_wp2
 go_ret
 exact ⟨erq, hi73, bl73, hkl⟩
/-! ### wire_reader_int: function 36 -/
def wire_reader_int.f (k : Nat) (s0_0 : List Int) (s0_1 : Int) (s0_2 : Int) : Option (Int × Int × Int) := (num_GetInt.f k s0_0 s0_1).bind fun bt235 => ((wire_keep_int.f s0_0 s0_1 s0_2 bt235.1 bt235.2.1 bt235.2.2).bind fun bt238 => (some (bt238.1, bt238.2.1, bt238.2.2)))
set_option maxHeartbeats 8000000 in
set_option maxRecDepth 100000 in
theorem wire_reader_int.calls (k : Nat) (g : Nat) (s0_0 : List Int) (s0_1 : Int) (s0_2 : Int) (r1 : Int) (r2 : Int) (r3 : Int) (w0 w : World) (hI : IsS73 w0 w g s0_0 s0_1 s0_2) (hB : Below w0.heap.size w0 w) (h : wire_reader_int.f k s0_0 s0_1 s0_2 = some (r1, r2, r3)) :
  Calls Try.prog 36 #[.pointer (some ⟨g, 0, none⟩)] w fun e w' => e = .returned (.int .i64 r1) ∧ IsS73 w0 w' g s0_0 r2 r3 ∧ Below w0.heap.size w0 w' ∧ KeepBut w w' g none := by
 have HI0 := Aside0.mk hI; have HK := Aside0.mk (KeepBut.refl w g none); have HL := Aside0.mk hB.size; clear hI; have HW0 := Aside0.mk hB.size; have HB := Aside0.mk hB; clear hB; have H : ((num_GetInt.f k s0_0 s0_1).bind fun bt235 => ((wire_keep_int.f s0_0 s0_1 s0_2 bt235.1 bt235.2.1 bt235.2.2).bind fun bt238 => (some (bt238.1, bt238.2.1, bt238.2.2)))) = some (r1, r2, r3) := h; clear h; replace H := Option.bind_eq_some_iff.mp H; obtain ⟨⟨t235, t236, t237⟩, A20, H⟩ := H; replace H : ((wire_keep_int.f s0_0 s0_1 s0_2 t235 t236 t237).bind fun bt238 => (some (bt238.1, bt238.2.1, bt238.2.2))) = some (r1, r2, r3) := H; have A2 := Aside0.mk A20; clear A20; replace H := Option.bind_eq_some_iff.mp H; obtain ⟨⟨t238, t239, t240⟩, A30, H⟩ := H; replace H : (some (t238, t239, t240)) = some (r1, r2, r3) := H; have A3 := Aside0.mk A30; clear A30; simp only [Option.some.injEq, Prod.mk.injEq] at H; obtain ⟨rfl, rfl, rfl⟩ := H; obtain ⟨ASz4_0, cSz4_0, HGz4, hgz4, HSz4_0⟩ := HI0.out; have hcz4_0 := cellS73_0 HGz4; have hcz4_1 := cellS73_1 HGz4; have hcz4_2 := cellS73_2 HGz4; have hfz4_1 := blk_frozen HGz4 1; have hfz4_2 := blk_frozen HGz4 2; clear HGz4 hgz4; go_enter Try.func36, Try.ntmps36
 go_wp2_with (first | (go_at_call 60; (with_reducible refine (num_GetInt.calls k _ _ s0_0 s0_1 t235 t236 t237 _ ?side1 ?side2 A2.out).mono ?_); (case side1 => repeat (first | exact (Kd.C_below HSz4_0.1 bl73) | exact (Kd.C_below HSz4_0.1 HB.out) | (with_reducible refine Kd.C_alloc ?_ _) | (with_reducible refine Kd.C_drewN ?_ _) | (with_reducible refine Kd.C_drew ?_))); (case side2 => exact HSz4_0.2); rintro e w' ⟨rfl, ⟨nd, rfl⟩⟩; (try first | exact ⟨rfl, _, World.drewN_drewN _ _ _⟩ | exact ⟨rfl, _, Eq.trans (World.drewN_drewN _ _ _) (congrArg (World.drewN _) (Nat.add_assoc _ _ _))⟩)) | (go_at_call 61; (with_reducible refine (wire_keep_int.calls g s0_0 s0_1 s0_2 t235 t236 t237 t238 t239 t240 w0 _ ?side1 ?side2 A3.out).mono ?_); (case side1 => repeat (first | (with_reducible first | exact HI0.out | apply IsS73.alloc | apply IsS73.drewN | apply IsS73.drew | apply IsS73.set_1 | apply IsS73.set_2) | exact HI0.out)); (case side2 => repeat (first | (with_reducible first | exact HB.out | apply below_alloc | apply pw_below_drewN | apply below_drew1 | refine below_set ?_ (IsS73.ge HI0.out)) | exact HB.out)); rintro e w5 ⟨rfl, hi, hb, hk⟩; have n0_ := Aside0.mk (KeepBut.trans hkl hk (.inl rfl)); have n1_ := Aside0.mk (hb); have n2_ := Aside0.mk (hi); clear HK; clear HB; clear HI0; have HK := n0_; have HB := n1_; have HI0 := n2_; clear n0_ n1_ n2_; (try clear hb); (try clear hb2); (try clear hk); (try clear hi)))
 repeat (go_quiet (first | (go_at_call 60; (with_reducible refine (num_GetInt.calls k _ _ s0_0 s0_1 t235 t236 t237 _ ?side1 ?side2 A2.out).mono ?_); (case side1 => repeat (first | exact (Kd.C_below HSz4_0.1 bl73) | exact (Kd.C_below HSz4_0.1 HB.out) | (with_reducible refine Kd.C_alloc ?_ _) | (with_reducible refine Kd.C_drewN ?_ _) | (with_reducible refine Kd.C_drew ?_))); (case side2 => exact HSz4_0.2); rintro e w' ⟨rfl, ⟨nd, rfl⟩⟩; (try first | exact ⟨rfl, _, World.drewN_drewN _ _ _⟩ | exact ⟨rfl, _, Eq.trans (World.drewN_drewN _ _ _) (congrArg (World.drewN _) (Nat.add_assoc _ _ _))⟩)) | (go_at_call 61; (with_reducible refine (wire_keep_int.calls g s0_0 s0_1 s0_2 t235 t236 t237 t238 t239 t240 w0 _ ?side1 ?side2 A3.out).mono ?_); (case side1 => repeat (first | (with_reducible first | exact HI0.out | apply IsS73.alloc | apply IsS73.drewN | apply IsS73.drew | apply IsS73.set_1 | apply IsS73.set_2) | exact HI0.out)); (case side2 => repeat (first | (with_reducible first | exact HB.out | apply below_alloc | apply pw_below_drewN | apply below_drew1 | refine below_set ?_ (IsS73.ge HI0.out)) | exact HB.out)); rintro e w5 ⟨rfl, hi, hb, hk⟩; have n0_ := Aside0.mk (KeepBut.trans hkl hk (.inl rfl)); have n1_ := Aside0.mk (hb); have n2_ := Aside0.mk (hi); clear HK; clear HB; clear HI0; have HK := n0_; have HB := n1_; have HI0 := n2_; clear n0_ n1_ n2_; (try clear hb); (try clear hb2); (try clear hk); (try clear hi))); try go_wp2_with (first | (go_at_call 60; (with_reducible refine (num_GetInt.calls k _ _ s0_0 s0_1 t235 t236 t237 _ ?side1 ?side2 A2.out).mono ?_); (case side1 => repeat (first | exact (Kd.C_below HSz4_0.1 bl73) | exact (Kd.C_below HSz4_0.1 HB.out) | (with_reducible refine Kd.C_alloc ?_ _) | (with_reducible refine Kd.C_drewN ?_ _) | (with_reducible refine Kd.C_drew ?_))); (case side2 => exact HSz4_0.2); rintro e w' ⟨rfl, ⟨nd, rfl⟩⟩; (try first | exact ⟨rfl, _, World.drewN_drewN _ _ _⟩ | exact ⟨rfl, _, Eq.trans (World.drewN_drewN _ _ _) (congrArg (World.drewN _) (Nat.add_assoc _ _ _))⟩)) | (go_at_call 61; (with_reducible refine (wire_keep_int.calls g s0_0 s0_1 s0_2 t235 t236 t237 t238 t239 t240 w0 _ ?side1 ?side2 A3.out).mono ?_); (case side1 => repeat (first | (with_reducible first | exact HI0.out | apply IsS73.alloc | apply IsS73.drewN | apply IsS73.drew | apply IsS73.set_1 | apply IsS73.set_2) | exact HI0.out)); (case side2 => repeat (first | (with_reducible first | exact HB.out | apply below_alloc | apply pw_below_drewN | apply below_drew1 | refine below_set ?_ (IsS73.ge HI0.out)) | exact HB.out)); rintro e w5 ⟨rfl, hi, hb, hk⟩; have n0_ := Aside0.mk (KeepBut.trans hkl hk (.inl rfl)); have n1_ := Aside0.mk (hb); have n2_ := Aside0.mk (hi); clear HK; clear HB; clear HI0; have HK := n0_; have HB := n1_; have HI0 := n2_; clear n0_ n1_ n2_; (try clear hb); (try clear hb2); (try clear hk); (try clear hi))))
 go_ret
 exact ⟨erq, hi73, bl73, hkl⟩

/-! ### wire_reader_time: function 32 -/
def wire_reader_time.f (k : Nat) (s0_0 : List Int) (s0_1 : Int) (s0_2 : Int) : Option (Int × Int × Int × Int) := (wire_reader_int.f k s0_0 s0_1 s0_2).bind fun bt242 => ((wire_reader_int.f k s0_0 bt242.2.1 bt242.2.2).bind fun bt246 => (some (bt242.1, bt246.1, bt246.2.1, bt246.2.2)))
set_option maxHeartbeats 8000000 in
set_option maxRecDepth 100000 in
theorem wire_reader_time.calls (k : Nat) (g : Nat) (s0_0 : List Int) (s0_1 : Int) (s0_2 : Int) (r1 : Int) (r2 : Int) (r3 : Int) (r4 : Int) (w0 w : World) (hI : IsS73 w0 w g s0_0 s0_1 s0_2) (hB : Below w0.heap.size w0 w) (h : wire_reader_time.f k s0_0 s0_1 s0_2 = some (r1, r2, r3, r4)) :
  Calls Try.prog 32 #[.pointer (some ⟨g, 0, none⟩)] w fun e w' => e = .returned (.agg #[.int .i64 r1, .int .i64 r2]) ∧ IsS73 w0 w' g s0_0 r3 r4 ∧ Below w0.heap.size w0 w' ∧ KeepBut w w' g none := by
 have hu36 := Try.underlying36; have HI0 := Aside0.mk hI; have HK := Aside0.mk (KeepBut.refl w g none); have HL := Aside0.mk hB.size; clear hI; have HW0 := Aside0.mk hB.size; have HB := Aside0.mk hB; clear hB; have H : ((wire_reader_int.f k s0_0 s0_1 s0_2).bind fun bt242 => ((wire_reader_int.f k s0_0 bt242.2.1 bt242.2.2).bind fun bt246 => (some (bt242.1, bt246.1, bt246.2.1, bt246.2.2)))) = some (r1, r2, r3, r4) := h; clear h; replace H := Option.bind_eq_some_iff.mp H; obtain ⟨⟨t242, t243, t244⟩, A20, H⟩ := H; replace H : ((wire_reader_int.f k s0_0 t243 t244).bind fun bt246 => (some (t242, bt246.1, bt246.2.1, bt246.2.2))) = some (r1, r2, r3, r4) := H; have A2 := Aside0.mk A20; clear A20; replace H := Option.bind_eq_some_iff.mp H; obtain ⟨⟨t246, t247, t248⟩, A30, H⟩ := H; replace H : (some (t242, t246, t247, t248)) = some (r1, r2, r3, r4) := H; have A3 := Aside0.mk A30; clear A30; simp only [Option.some.injEq, Prod.mk.injEq] at H; obtain ⟨rfl, rfl, rfl, rfl⟩ := H; go_enter Try.func32, Try.ntmps32
 go_wp2_with (first | ((with_reducible refine gate_dst (N := 2) rfl ?_); refine box_event ?hg (N := 2) ?hd (cs := #[.int .i64 0, .int .i64 0]) (t := 36) ?hr ?_; (case hd => rfl); (case hg => rfl); (case hr => first | (go_simp; done) | (go_simp; rfl)); intro gb241 hg w4 hbox hb; have n0_ := Aside0.mk (IsS73.below hi73 hb); have n1_ := Aside0.mk (KeepBut.trans hkl (KeepBut.of_below hb g none) (.inl rfl)); have n2_ := Aside0.mk (below_step bl73 hb); have n3_ := Aside0.mk (hbox); have n4_ := Aside0.mk ((by rw [hg]; exact (keep_size (w := w) (g := g) (row := none) hkl) : w.heap.size ≤ gb241)); have n5_ := Aside0.mk ((Nat.le_trans HW0.out (by rw [hg]; exact (keep_size (w := w) (g := g) (row := none) hkl) : w.heap.size ≤ gb241) : w0.heap.size ≤ gb241)); have n6_ := Aside0.mk ((by rw [hg]; exact Nat.ne_of_lt (IsS73.lt (show IsS73 w0 _ g s0_0 s0_1 s0_2 from by repeat (first | (with_reducible first | exact HI0.out | apply IsS73.alloc | apply IsS73.drewN | apply IsS73.drew | apply IsS73.set_1 | apply IsS73.set_2) | exact HI0.out))) : g ≠ gb241)); have n7_ := Aside0.mk ((by rw [hg]; exact Nat.ne_of_gt (IsS73.lt (show IsS73 w0 _ g s0_0 s0_1 s0_2 from by repeat (first | (with_reducible first | exact HI0.out | apply IsS73.alloc | apply IsS73.drewN | apply IsS73.drew | apply IsS73.set_1 | apply IsS73.set_2) | exact HI0.out))) : gb241 ≠ g)); clear HI0; clear HK; clear HB; have HI0 := n0_; have HK := n1_; have HB := n2_; have BK241 := n3_; have GW241 := n4_; have GE241 := n5_; have NB0_241 := n6_; have NB241_0 := n7_; clear n0_ n1_ n2_ n3_ n4_ n5_ n6_ n7_; clear hb hbox hg) | ((with_reducible refine gate_callee (f := 36) rfl ?_); refine goesL_ (some 5) rfl rfl Try.func36 (by kernel_rfl) rfl #[.pointer (some ⟨g, 0, none⟩)] rfl mpq ?_; (with_reducible refine (wire_reader_int.calls k g s0_0 s0_1 s0_2 t242 t243 t244 w0 _ ?side1 ?side2 A2.out).mono ?_); (case side1 => repeat (first | (with_reducible first | exact HI0.out | apply IsS73.alloc | apply IsS73.drewN | apply IsS73.drew | apply IsS73.set_1 | apply IsS73.set_2 | refine IsS73.far ?_ NB0_241.out _) | exact HI0.out)); (case side2 => repeat (first | (with_reducible first | exact HB.out | apply below_alloc | apply pw_below_drewN | apply below_drew1 | refine below_set ?_ (IsS73.ge HI0.out) | refine below_set ?_ GE241.out) | exact HB.out)); rintro e w5 ⟨rfl, hi, hb, hk⟩; refine ⟨_, rfl, ?_⟩; have n0_ := Aside0.mk (KeepBut.blk hk (g' := gb241) (o := .cells #[.int .i64 0, .int .i64 0] 36 (0, 0)) bk NB241_0.out (by simp)); have n1_ := Aside0.mk (KeepBut.trans (by repeat (first | (with_reducible first | exact HK.out | apply KeepBut.set_ | apply keep_drewN | apply keep_drew | apply keep_alloc | refine keep_far ?_ GW241.out _) | exact HK.out)) hk (.inl rfl)); have n2_ := Aside0.mk (hb); have n3_ := Aside0.mk (hi); clear BK241; clear HK; clear HB; clear HI0; have BK241 := n0_; have HK := n1_; have HB := n2_; have HI0 := n3_; clear n0_ n1_ n2_ n3_; (try clear hb); (try clear hb2); (try clear hk); (try clear hi)) | ((with_reducible refine gate_dst (N := 3) rfl ?_); refine box_event ?hg (N := 3) ?hd (cs := #[.int .i64 0, .int .i64 0]) (t := 36) ?hr ?_; (case hd => rfl); (case hg => rfl); (case hr => first | (go_simp; done) | (go_simp; rfl)); intro gb245 hg w6 hbox hb; have n0_ := Aside0.mk (IsS73.below (by repeat (first | (with_reducible first | exact HI0.out | apply IsS73.alloc | apply IsS73.drewN | apply IsS73.drew | apply IsS73.set_1 | apply IsS73.set_2 | refine IsS73.far ?_ NB0_241.out _) | exact HI0.out)) hb); have n1_ := Aside0.mk (blk_below (g := gb241) (o := .cells #[.int .i64 0, .int .i64 0] 36 (0, 0)) bk hb); have n2_ := Aside0.mk (KeepBut.trans (by repeat (first | (with_reducible first | exact HK.out | apply KeepBut.set_ | apply keep_drewN | apply keep_drew | apply keep_alloc | refine keep_far ?_ GW241.out _) | exact HK.out)) (KeepBut.of_below hb g none) (.inl rfl)); have n3_ := Aside0.mk (below_step bl73 hb); have n4_ := Aside0.mk (hbox); have n5_ := Aside0.mk ((by rw [hg]; exact (keep_size (w := w) (g := g) (row := none) (by repeat (first | (with_reducible first | exact HK.out | apply KeepBut.set_ | apply keep_drewN | apply keep_drew | apply keep_alloc | refine keep_far ?_ GW241.out _) | exact HK.out))) : w.heap.size ≤ gb245)); have n6_ := Aside0.mk ((Nat.le_trans HW0.out (by rw [hg]; exact (keep_size (w := w) (g := g) (row := none) (by repeat (first | (with_reducible first | exact HK.out | apply KeepBut.set_ | apply keep_drewN | apply keep_drew | apply keep_alloc | refine keep_far ?_ GW241.out _) | exact HK.out))) : w.heap.size ≤ gb245) : w0.heap.size ≤ gb245)); have n7_ := Aside0.mk ((by rw [hg]; exact Nat.ne_of_lt blt : gb241 ≠ gb245)); have n8_ := Aside0.mk ((by rw [hg]; exact Nat.ne_of_gt blt : gb245 ≠ gb241)); have n9_ := Aside0.mk ((by rw [hg]; exact Nat.ne_of_lt (IsS73.lt (show IsS73 w0 _ g s0_0 t243 t244 from by repeat (first | (with_reducible first | exact HI0.out | apply IsS73.alloc | apply IsS73.drewN | apply IsS73.drew | apply IsS73.set_1 | apply IsS73.set_2 | refine IsS73.far ?_ NB0_241.out _) | exact HI0.out))) : g ≠ gb245)); have n10_ := Aside0.mk ((by rw [hg]; exact Nat.ne_of_gt (IsS73.lt (show IsS73 w0 _ g s0_0 t243 t244 from by repeat (first | (with_reducible first | exact HI0.out | apply IsS73.alloc | apply IsS73.drewN | apply IsS73.drew | apply IsS73.set_1 | apply IsS73.set_2 | refine IsS73.far ?_ NB0_241.out _) | exact HI0.out))) : gb245 ≠ g)); clear HI0; clear BK241; clear HK; clear HB; have HI0 := n0_; have BK241 := n1_; have HK := n2_; have HB := n3_; have BK245 := n4_; have GW245 := n5_; have GE245 := n6_; have NB241_245 := n7_; have NB245_241 := n8_; have NB0_245 := n9_; have NB245_0 := n10_; clear n0_ n1_ n2_ n3_ n4_ n5_ n6_ n7_ n8_ n9_ n10_; clear hb hbox hg; have hnb7 := NB245_241.out; have hnc7 := NB241_245.out; have hnb8 := NB245_0.out; have hnc8 := NB0_245.out; obtain ⟨hcz9_0, hcz9_1⟩ := cells2 BK245.out; have hfz9_0 := blk_frozen BK245.out 0; have hfz9_1 := blk_frozen BK245.out 1) | ((with_reducible refine gate_callee (f := 36) rfl ?_); refine goesL_ (some 8) rfl rfl Try.func36 (by kernel_rfl) rfl #[.pointer (some ⟨g, 0, none⟩)] rfl mpq ?_; (with_reducible refine (wire_reader_int.calls k g s0_0 t243 t244 t246 t247 t248 w0 _ ?side1 ?side2 A3.out).mono ?_); (case side1 => repeat (first | (with_reducible first | exact HI0.out | apply IsS73.alloc | apply IsS73.drewN | apply IsS73.drew | apply IsS73.set_1 | apply IsS73.set_2 | refine IsS73.far ?_ NB0_241.out _ | refine IsS73.far ?_ NB0_245.out _) | exact HI0.out)); (case side2 => repeat (first | (with_reducible first | exact HB.out | apply below_alloc | apply pw_below_drewN | apply below_drew1 | refine below_set ?_ (IsS73.ge HI0.out) | refine below_set ?_ GE241.out | refine below_set ?_ GE245.out) | exact HB.out)); rintro e w10 ⟨rfl, hi, hb, hk⟩; refine ⟨_, rfl, ?_⟩; have n0_ := Aside0.mk (KeepBut.blk hk (g' := gb241) (o := .cells #[.int .i64 0, .int .i64 0] 36 (0, 0)) bk NB241_0.out (by simp)); have n1_ := Aside0.mk (KeepBut.blk hk (g' := gb245) (o := .cells #[.int .i64 t242, .int .i64 0] 36 (0, 0)) bk NB245_0.out (by simp)); have n2_ := Aside0.mk (KeepBut.trans (by repeat (first | (with_reducible first | exact HK.out | apply KeepBut.set_ | apply keep_drewN | apply keep_drew | apply keep_alloc | refine keep_far ?_ GW241.out _ | refine keep_far ?_ GW245.out _) | exact HK.out)) hk (.inl rfl)); have n3_ := Aside0.mk (hb); have n4_ := Aside0.mk (hi); clear BK241; clear BK245; clear HK; clear HB; clear HI0; have BK241 := n0_; have BK245 := n1_; have HK := n2_; have HB := n3_; have HI0 := n4_; clear n0_ n1_ n2_ n3_ n4_; (try clear hb); (try clear hb2); (try clear hk); (try clear hi); obtain ⟨hcz11_0, hcz11_1⟩ := cells2 BK245.out; obtain ⟨hfz11_0, hfz11_1⟩ := frz2 BK245.out; have hnb12 := NB241_0.out; have hnc12 := NB0_241.out; obtain ⟨hcz13_0, hcz13_1⟩ := cells2 BK241.out; obtain ⟨hfz13_0, hfz13_1⟩ := frz2 BK241.out))
 refine bodyPost_ret (results_cell_row rfl _ _ gb241 36 #[.int .i64 t242, .int .i64 t246] (0, 0) _ rfl bk Try.underlying36 rfl (by kernel_rfl)) rfl ?_; exact ⟨erq, by repeat (first | (with_reducible first | exact HI0.out | apply IsS73.alloc | apply IsS73.drewN | apply IsS73.drew | apply IsS73.set_1 | apply IsS73.set_2 | refine IsS73.far ?_ NB0_241.out _ | refine IsS73.far ?_ NB0_245.out _) | exact HI0.out), bl73, by repeat (first | (with_reducible first | exact HK.out | apply KeepBut.set_ | apply keep_drewN | apply keep_drew | apply keep_alloc | refine keep_far ?_ GW241.out _ | refine keep_far ?_ GW245.out _) | exact HK.out)⟩

/-! ### num_GetText: function 37 -/
def num_GetText.f (k : Nat) (l0 : List Int) (a1 : Int) (a2 : Int) : Option (ByteArray × Int × Int) := if a2 < 0 then (some ((⟨#[]⟩ : ByteArray), 0, 1)) else ((num_Get.f k l0 a1).bind fun bt249 => (if bt249.2.2 = 0 then (if bt249.1 > (IntKind.u64.wrap (a2)) then (some ((⟨#[]⟩ : ByteArray), 0, 2)) else (if bt249.1 > (IntKind.u64.wrap (wrap64 ((l0.length : Int) - bt249.2.1))) then (some ((⟨#[]⟩ : ByteArray), 0, 6)) else (if 0 ≤ bt249.2.1 then (if bt249.2.1 ≤ (wrap64 (bt249.2.1 + (wrap64 (bt249.1)))) then (if (wrap64 (bt249.2.1 + (wrap64 (bt249.1)))) ≤ (l0.length : Int) then (some (strOfNums ((l0.take ((wrap64 (bt249.2.1 + (wrap64 (bt249.1)))) : Int).toNat).drop (bt249.2.1 : Int).toNat), wrap64 (bt249.2.1 + (wrap64 (bt249.1))), 0)) else (none)) else (none)) else (none)))) else (some ((⟨#[]⟩ : ByteArray), 0, bt249.2.2))))
set_option maxHeartbeats 8000000 in
set_option maxRecDepth 100000 in
theorem num_GetText.calls (k : Nat) (A0 : Option Addr) (c0 : Nat) (l0 : List Int) (a1 : Int) (a2 : Int) (r1 : ByteArray) (r2 : Int) (r3 : Int) (w : World) (hr0 : Kd.C (Kd.int .u8) w A0 l0.length l0) (hc0 : l0.length ≤ c0) (h : num_GetText.f k l0 a1 a2 = some (r1, r2, r3)) :
  Calls Try.prog 37 #[.slice A0 l0.length c0, .int .i64 a1, .int .i64 a2] w fun e w' => e = .returned (.tuple #[.string r1, .int .i64 r2, .int .i64 r3]) ∧ Drawn0 w w' := by
 have HR0 := Aside0.mk hr0; have HC0 := Aside0.mk hc0; clear hr0 hc0; have H : (if a2 < 0 then (some ((⟨#[]⟩ : ByteArray), 0, 1)) else ((num_Get.f k l0 a1).bind fun bt249 => (if bt249.2.2 = 0 then (if bt249.1 > (IntKind.u64.wrap (a2)) then (some ((⟨#[]⟩ : ByteArray), 0, 2)) else (if bt249.1 > (IntKind.u64.wrap (wrap64 ((l0.length : Int) - bt249.2.1))) then (some ((⟨#[]⟩ : ByteArray), 0, 6)) else (if 0 ≤ bt249.2.1 then (if bt249.2.1 ≤ (wrap64 (bt249.2.1 + (wrap64 (bt249.1)))) then (if (wrap64 (bt249.2.1 + (wrap64 (bt249.1)))) ≤ (l0.length : Int) then (some (strOfNums ((l0.take ((wrap64 (bt249.2.1 + (wrap64 (bt249.1)))) : Int).toNat).drop (bt249.2.1 : Int).toNat), wrap64 (bt249.2.1 + (wrap64 (bt249.1))), 0)) else (none)) else (none)) else (none)))) else (some ((⟨#[]⟩ : ByteArray), 0, bt249.2.2))))) = some (r1, r2, r3) := h; clear h; by_cases c4 : a2 < 0
 ·
  rw [if_pos c4] at H; have c4b0 : decide (a2 < 0) = true := decide_eq_true c4; clear c4; simp only [Option.some.injEq, Prod.mk.injEq] at H; obtain ⟨rfl, rfl, rfl⟩ := H; go_enter Try.func37, Try.ntmps37
  go_wp2
  go_ret3
  exact ⟨by first | rfl | (simp; done) | (simp [*]; done), by repeat (first | exact Drawn0.refl _ | apply Drawn0.step)⟩
 rw [if_neg c4] at H; have c4b0 : decide (a2 < 0) = false := decide_eq_false c4; clear c4; replace H := Option.bind_eq_some_iff.mp H; obtain ⟨⟨t249, t250, t251⟩, A50, H⟩ := H; replace H : (if t251 = 0 then (if t249 > (IntKind.u64.wrap (a2)) then (some ((⟨#[]⟩ : ByteArray), 0, 2)) else (if t249 > (IntKind.u64.wrap (wrap64 ((l0.length : Int) - t250))) then (some ((⟨#[]⟩ : ByteArray), 0, 6)) else (if 0 ≤ t250 then (if t250 ≤ (wrap64 (t250 + (wrap64 (t249)))) then (if (wrap64 (t250 + (wrap64 (t249)))) ≤ (l0.length : Int) then (some (strOfNums ((l0.take ((wrap64 (t250 + (wrap64 (t249)))) : Int).toNat).drop (t250 : Int).toNat), wrap64 (t250 + (wrap64 (t249))), 0)) else (none)) else (none)) else (none)))) else (some ((⟨#[]⟩ : ByteArray), 0, t251))) = some (r1, r2, r3) := H; have A5 := Aside0.mk A50; clear A50; by_cases c6 : t251 = 0
 rotate_left
 ·
  rw [if_neg c6] at H; have c6b0 : (t251 == 0) = false := beq_eq_false_iff_ne.mpr c6; have c6b1 : (t251 != 0) = true := bne_iff_ne.mpr c6; simp only [Option.some.injEq, Prod.mk.injEq] at H; obtain ⟨rfl, rfl, rfl⟩ := H; go_enter Try.func37, Try.ntmps37
  go_wp2_with (first | ((with_reducible refine gate_callee (f := 31) rfl ?_); refine goesL_ (some 16) rfl rfl Try.func31 (by kernel_rfl) rfl #[.slice A0 l0.length c0, .int .i64 a1] rfl mpq ?_; (with_reducible refine (num_Get.calls k _ _ l0 a1 t249 t250 t251 _ ?side1 ?side2 A5.out).mono ?_); (case side1 => exact cp (HR0.out)); (case side2 => exact HC0.out); rintro e w' ⟨rfl, ⟨nd, rfl⟩⟩; refine ⟨_, rfl, ?_⟩))
  go_ret3
  exact ⟨by first | rfl | (simp; done) | (simp [*]; done), by repeat (first | exact Drawn0.refl _ | apply Drawn0.step)⟩

 rw [if_pos c6] at H; have c6b0 : (t251 == 0) = true := beq_iff_eq.mpr c6; have c6b1 : (t251 != 0) = false := bne_eq_false_iff_eq.mpr c6; clear c6; by_cases c7 : t249 > (IntKind.u64.wrap (a2))
 ·
  rw [if_pos c7] at H; have c7b0 : decide ((IntKind.u64.wrap (a2)) < t249) = true := decide_eq_true c7; clear c7; simp only [Option.some.injEq, Prod.mk.injEq] at H; obtain ⟨rfl, rfl, rfl⟩ := H; go_enter Try.func37, Try.ntmps37
  go_wp2_with (first | ((with_reducible refine gate_callee (f := 31) rfl ?_); refine goesL_ (some 16) rfl rfl Try.func31 (by kernel_rfl) rfl #[.slice A0 l0.length c0, .int .i64 a1] rfl mpq ?_; (with_reducible refine (num_Get.calls k _ _ l0 a1 t249 t250 t251 _ ?side1 ?side2 A5.out).mono ?_); (case side1 => exact cp (HR0.out)); (case side2 => exact HC0.out); rintro e w' ⟨rfl, ⟨nd, rfl⟩⟩; refine ⟨_, rfl, ?_⟩))
  go_ret3
  exact ⟨by first | rfl | (simp; done) | (simp [*]; done), by repeat (first | exact Drawn0.refl _ | apply Drawn0.step)⟩
 rw [if_neg c7] at H; have c7b0 : decide ((IntKind.u64.wrap (a2)) < t249) = false := decide_eq_false c7; clear c7; by_cases c8 : t249 > (IntKind.u64.wrap (wrap64 ((l0.length : Int) - t250)))
 ·
  rw [if_pos c8] at H; have c8b0 : decide ((IntKind.u64.wrap (wrap64 ((l0.length : Int) - t250))) < t249) = true := decide_eq_true c8; clear c8; simp only [Option.some.injEq, Prod.mk.injEq] at H; obtain ⟨rfl, rfl, rfl⟩ := H; try have hwz0 := i64_w ((l0.length : Int) - t250)
  go_enter Try.func37, Try.ntmps37
  go_wp2_with (first | ((with_reducible refine gate_callee (f := 31) rfl ?_); refine goesL_ (some 16) rfl rfl Try.func31 (by kernel_rfl) rfl #[.slice A0 l0.length c0, .int .i64 a1] rfl mpq ?_; (with_reducible refine (num_Get.calls k _ _ l0 a1 t249 t250 t251 _ ?side1 ?side2 A5.out).mono ?_); (case side1 => exact cp (HR0.out)); (case side2 => exact HC0.out); rintro e w' ⟨rfl, ⟨nd, rfl⟩⟩; refine ⟨_, rfl, ?_⟩))
  go_ret3
  exact ⟨by first | rfl | (simp; done) | (simp [*]; done), by repeat (first | exact Drawn0.refl _ | apply Drawn0.step)⟩
 rw [if_neg c8] at H; have c8b0 : decide ((IntKind.u64.wrap (wrap64 ((l0.length : Int) - t250))) < t249) = false := decide_eq_false c8; clear c8; by_cases c9 : 0 ≤ t250
 rotate_left
 · rw [if_neg c9] at H; exact absurd H (by simp)
 rw [if_pos c9] at H; have c9b0 := eq_true c9; have c9b1 : decide (0 ≤ t250) = true := decide_eq_true c9; clear c9; by_cases c10 : t250 ≤ (wrap64 (t250 + (wrap64 (t249))))
 rotate_left
 · rw [if_neg c10] at H; exact absurd H (by simp)
 rw [if_pos c10] at H; have c10b0 := eq_true c10; have c10b1 : decide (t250 ≤ (wrap64 (t250 + (wrap64 (t249))))) = true := decide_eq_true c10; by_cases c11 : (wrap64 (t250 + (wrap64 (t249)))) ≤ (l0.length : Int)
 rotate_left
 · rw [if_neg c11] at H; exact absurd H (by simp)
 rw [if_pos c11] at H; have c11b0 := eq_true c11; have c11b1 : decide ((wrap64 (t250 + (wrap64 (t249)))) ≤ (l0.length : Int)) = true := decide_eq_true c11; simp only [Option.some.injEq, Prod.mk.injEq] at H; obtain ⟨rfl, rfl, rfl⟩ := H; try have hwz0 := i64_w (t250 + (wrap64 (t249)))
 try have hwz1 := i64_w (t249)
 try have hwz2 := i64_w ((l0.length : Int) - t250)
 go_enter Try.func37, Try.ntmps37
 go_wp2_with (first | ((with_reducible refine gate_callee (f := 31) rfl ?_); refine goesL_ (some 16) rfl rfl Try.func31 (by kernel_rfl) rfl #[.slice A0 l0.length c0, .int .i64 a1] rfl mpq ?_; (with_reducible refine (num_Get.calls k _ _ l0 a1 t249 t250 t251 _ ?side1 ?side2 A5.out).mono ?_); (case side1 => exact cp (HR0.out)); (case side2 => exact HC0.out); rintro e w' ⟨rfl, ⟨nd, rfl⟩⟩; refine ⟨_, rfl, ?_⟩; obtain ⟨i012, hi012, _, hsz12, _⟩ := info_parts info5; obtain ⟨A12, hcut12, hA12, hC12⟩ := print_mid_of (P := Try.prog) (Value.int .u8) 0 22 5 .i64 .i64 Try.underlying22 hi012 hsz12 A0 c0 l0 t250 (wrap64 (t250 + (wrap64 (t249)))) (of_decide_eq_true asm) (by first | omega | exact of_decide_eq_true asm) (of_decide_eq_true asm) HC0.out; have HR252 := Aside0.mk (Kd.C_of_reads (h1 := fun _ => rfl) (hA12 _ (Kd.reads_of_C HR0.out))); have HC252 := Aside0.mk hC12; clear hA12 hC12 hi012 hsz12; obtain ⟨LM12, hLM12⟩ : ∃ x_, x_ = ((l0.take ((wrap64 (t250 + (wrap64 (t249)))) : Int).toNat).drop (t250 : Int).toNat) := ⟨_, rfl⟩; rw [← hLM12] at hcut12 HR252 HC252; have HLM12 := Aside0.mk hLM12; clear hLM12; have hcv13 := Kd.C_string (P := Try.prog) (A := A12) (c := (c0 - t250.toNat)) Try.underlying22 Try.underlying5 Try.underlying9 HR252.out; have hcv13d := fun n_ : Nat => Kd.C_string (P := Try.prog) (A := A12) (c := (c0 - t250.toNat)) Try.underlying22 Try.underlying5 Try.underlying9 (Kd.C_drewN (HR252.out) n_)))
 go_ret3
 exact ⟨by first | (rw [HLM12.out]; done) | (rw [HLM12.out]; rfl) | (rw [HLM12.out]; simp; done) | rfl | (simp; done) | (simp [*]; done), by repeat (first | exact Drawn0.refl _ | apply Drawn0.step)⟩
/-! ### wire_keep_string: function 38 -/
def wire_keep_string.f (s0_0 : List Int) (s0_1 : Int) (s0_2 : Int) (a1 : ByteArray) (a2 : Int) (a3 : Int) : Option (ByteArray × Int × Int) := if s0_2 = 0 then (if a3 = 0 then (some (a1, a2, s0_2)) else (some ((⟨#[]⟩ : ByteArray), s0_1, 6))) else (some ((⟨#[]⟩ : ByteArray), s0_1, s0_2))
set_option maxHeartbeats 8000000 in
set_option maxRecDepth 100000 in
theorem wire_keep_string.calls (g : Nat) (s0_0 : List Int) (s0_1 : Int) (s0_2 : Int) (a1 : ByteArray) (a2 : Int) (a3 : Int) (r1 : ByteArray) (r2 : Int) (r3 : Int) (w0 w : World) (hI : IsS73 w0 w g s0_0 s0_1 s0_2) (hB : Below w0.heap.size w0 w) (h : wire_keep_string.f s0_0 s0_1 s0_2 a1 a2 a3 = some (r1, r2, r3)) :
  Calls Try.prog 38 #[.pointer (some ⟨g, 0, none⟩), .string a1, .int .i64 a2, .int .i64 a3] w fun e w' => e = .returned (.string r1) ∧ IsS73 w0 w' g s0_0 r2 r3 ∧ Below w0.heap.size w0 w' ∧ KeepBut w w' g none := by
 have HI0 := Aside0.mk hI; have HK := Aside0.mk (KeepBut.refl w g none); have HL := Aside0.mk hB.size; clear hI; have HW0 := Aside0.mk hB.size; have HB := Aside0.mk hB; clear hB; have H : (if s0_2 = 0 then (if a3 = 0 then (some (a1, a2, s0_2)) else (some ((⟨#[]⟩ : ByteArray), s0_1, 6))) else (some ((⟨#[]⟩ : ByteArray), s0_1, s0_2))) = some (r1, r2, r3) := h; clear h; by_cases c5 : s0_2 = 0
 rotate_left
 ·
  rw [if_neg c5] at H; have c5b0 : (s0_2 == 0) = false := beq_eq_false_iff_ne.mpr c5; have c5b1 : (s0_2 != 0) = true := bne_iff_ne.mpr c5; simp only [Option.some.injEq, Prod.mk.injEq] at H; obtain ⟨rfl, rfl, rfl⟩ := H; obtain ⟨ASz9_0, cSz9_0, HGz9, hgz9, HSz9_0⟩ := HI0.out; have hcz9_0 := cellS73_0 HGz9; have hcz9_1 := cellS73_1 HGz9; have hcz9_2 := cellS73_2 HGz9; have hfz9_1 := blk_frozen HGz9 1; have hfz9_2 := blk_frozen HGz9 2; clear HGz9 hgz9; go_enter Try.func38, Try.ntmps38
  go_wp2
  go_ret
  exact ⟨erq, hi73, bl73, hkl⟩

 rw [if_pos c5] at H; have c5b0 : (s0_2 == 0) = true := beq_iff_eq.mpr c5; have c5b1 : (s0_2 != 0) = false := bne_eq_false_iff_eq.mpr c5; clear c5; by_cases c6 : a3 = 0
 rotate_left
 ·
  rw [if_neg c6] at H; have c6b0 : (a3 == 0) = false := beq_eq_false_iff_ne.mpr c6; have c6b1 : (a3 != 0) = true := bne_iff_ne.mpr c6; simp only [Option.some.injEq, Prod.mk.injEq] at H; obtain ⟨rfl, rfl, rfl⟩ := H; obtain ⟨ASz8_0, cSz8_0, HGz8, hgz8, HSz8_0⟩ := HI0.out; have hcz8_0 := cellS73_0 HGz8; have hcz8_1 := cellS73_1 HGz8; have hcz8_2 := cellS73_2 HGz8; have hfz8_1 := blk_frozen HGz8 1; have hfz8_2 := blk_frozen HGz8 2; clear HGz8 hgz8; go_enter Try.func38, Try.ntmps38
  go_wp2
  go_ret
  exact ⟨erq, hi73, bl73, hkl⟩
 rw [if_pos c6] at H; have c6b0 : (a3 == 0) = true := beq_iff_eq.mpr c6; have c6b1 : (a3 != 0) = false := bne_eq_false_iff_eq.mpr c6; clear c6; simp only [Option.some.injEq, Prod.mk.injEq] at H; obtain ⟨rfl, rfl, rfl⟩ := H; obtain ⟨ASz7_0, cSz7_0, HGz7, hgz7, HSz7_0⟩ := HI0.out; have hcz7_0 := cellS73_0 HGz7; have hcz7_1 := cellS73_1 HGz7; have hcz7_2 := cellS73_2 HGz7; have hfz7_1 := blk_frozen HGz7 1; have hfz7_2 := blk_frozen HGz7 2; clear HGz7 hgz7; go_enter Try.func38, Try.ntmps38
 go_wp2
 go_ret
 exact ⟨erq, hi73, bl73, hkl⟩
end Go.Proofs.Ytpplklickfioiaa.PWirePuts
