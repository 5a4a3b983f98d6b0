/- One piece of the machine's side of the law, written by a program over the translation; Lean checks it. -/
import Derived.Test.YtpplklickfioiaaOWireDecodesx0
import Derived.Test.YtpplklickfioiaaOWireDecodesx8
import Derived.Test.YtpplklickfioiaaOWireDecodesx12
import Derived.Test.YtpplklickfioiaaOWireDecodesx13
import Derived.Test.YtpplklickfioiaaShort
namespace Go.Proofs.Ytpplklickfioiaa.PWireDecodes
open Go.RowKit Go.Proofs.YtpplklickfioiaaW.PrintWords Go.Proofs.YtpplklickfioiaaW.PrintLast Go.Proofs.YtpplklickfioiaaW.PrintMore
attribute [local go_sem] max2_int min2_int max_two min_two max_three min_three max_four min_four   -- for this text's walks alone
set_option linter.unusedVariables false
set_option linter.unusedSimpArgs false

/-! ### runnelref26_Get: function 15 -/
mutual
def runnelref26_Get.j0 : Nat → List Int → Int → Bool → Option (Int × Int × (List (S103)) × Int × Int × Int × (List (S36)) × Int × List Int × Int × Int)
 | 0, _, _, _ => none
 | k + 1, x0, x1, x22 => if x22 = true then (some (0, 0, ([] : List (S103)), 0, 0, 0, ([] : List (S36)), 0, ([] : List Int), 0, 9)) else (if x1 = (x0.length : Int) then (runnelref26_Get.j1 k x0 x1 true) else (if 0 ≤ x1 then (if x1 < (x0.length : Int) then (runnelref26_Get.j1 k x0 x1 (decide ((rd x0 x1) > 6))) else (none)) else (none)))
def runnelref26_Get.j1 : Nat → List Int → Int → Bool → Option (Int × Int × (List (S103)) × Int × Int × Int × (List (S36)) × Int × List Int × Int × Int)
 | 0, _, _, _ => none
 | k + 1, x0, x1, x34 => if x34 = true then (some (0, 0, ([] : List (S103)), 0, 0, 0, ([] : List (S36)), 0, ([] : List Int), 0, 6)) else (if 0 ≤ x1 then (if x1 < (x0.length : Int) then (if (wrap64 (rd x0 x1)) = 0 then ((runnelref01_GetText.f k x0 (wrap64 (x1 + 1)) 65536).bind fun bt462 => (if bt462.2.2 = 0 then ((main_main.f bt462.1).bind fun t465 => (some (wrap64 (rd x0 x1), 0, ([] : List (S103)), 0, 0, 0, ([] : List (S36)), 0, t465, bt462.2.1, 0))) else (some (0, 0, ([] : List (S103)), 0, 0, 0, ([] : List (S36)), 0, ([] : List Int), 0, 6)))) else ((runnelref26_numbers.f k x0 (wrap64 (x1 + 1)) 1).bind fun bt468 => (if bt468.2.2 = true then (if 0 < (bt468.1.length : Int) then (if (wrap64 (rd x0 x1)) = 1 then ((runnelref03_Get.f k x0 bt468.2.1).bind fun bt474 => (if bt474.2.2 = 0 then ((runnelref26_numbers.f k x0 bt474.2.1 3).bind fun bt479 => (runnelref26_Get.j2 k bt479.1 bt479.2.1 bt479.2.2 bt474.2.2 (wrap64 (rd x0 x1)) (rd bt468.1 0) bt474.1 0 0 0 0)) else (runnelref26_Get.j2 k bt468.1 bt474.2.1 bt468.2.2 bt474.2.2 (wrap64 (rd x0 x1)) (rd bt468.1 0) bt474.1 0 0 0 0))) else (if (wrap64 (rd x0 x1)) = 2 then (runnelref26_Get.j4 k x0 bt468.2.1 bt468.2.2 0 (wrap64 (rd x0 x1)) ((wrap64 (rd x0 x1)) == 2) (wrap64 (rd x0 x1)) (rd bt468.1 0) 0 0 0 0) else (runnelref26_Get.j4 k x0 bt468.2.1 bt468.2.2 0 (wrap64 (rd x0 x1)) ((wrap64 (rd x0 x1)) == 4) (wrap64 (rd x0 x1)) (rd bt468.1 0) 0 0 0 0))) else (none)) else (some (0, 0, ([] : List (S103)), 0, 0, 0, ([] : List (S36)), 0, ([] : List Int), 0, 6))))) else (none)) else (none))
def runnelref26_Get.j2 : Nat → List Int → Int → Bool → Int → Int → Int → List (S103) → Int → Int → Int → Int → Option (Int × Int × (List (S103)) × Int × Int × Int × (List (S36)) × Int × List Int × Int × Int)
 | 0, _, _, _, _, _, _, _, _, _, _, _ => none
 | k + 1, x11, x12, x13, x14, x462000, x462001, x462002, x462003, x462004, x462005, x462007 => if x13 = true then (runnelref26_Get.j3 k x11 x12 x13 x14 (x14 == 0) x462000 x462001 x462002 x462003 x462004 x462005 x462007) else (runnelref26_Get.j3 k x11 x12 x13 x14 false x462000 x462001 x462002 x462003 x462004 x462005 x462007)
def runnelref26_Get.j3 : Nat → List Int → Int → Bool → Int → Bool → Int → Int → List (S103) → Int → Int → Int → Int → Option (Int × Int × (List (S103)) × Int × Int × Int × (List (S36)) × Int × List Int × Int × Int)
 | 0, _, _, _, _, _, _, _, _, _, _, _, _ => none
 | k + 1, x11, x12, x13, x14, x102, x462000, x462001, x462002, x462003, x462004, x462005, x462007 => if x102 = true then (if 0 < (x11.length : Int) then (if 1 < (x11.length : Int) then (if 2 < (x11.length : Int) then (if x13 = true then (if x14 = 0 then (some (x462000, x462001, x462002, rd x11 0, rd x11 1, rd x11 2, ([] : List (S36)), x462007, ([] : List Int), x12, 0)) else (some (0, 0, ([] : List (S103)), 0, 0, 0, ([] : List (S36)), 0, ([] : List Int), 0, 6))) else (some (0, 0, ([] : List (S103)), 0, 0, 0, ([] : List (S36)), 0, ([] : List Int), 0, 6))) else (none)) else (none)) else (none)) else (if x13 = true then (if x14 = 0 then (some (x462000, x462001, x462002, x462003, x462004, x462005, ([] : List (S36)), x462007, ([] : List Int), x12, 0)) else (some (0, 0, ([] : List (S103)), 0, 0, 0, ([] : List (S36)), 0, ([] : List Int), 0, 6))) else (some (0, 0, ([] : List (S103)), 0, 0, 0, ([] : List (S36)), 0, ([] : List Int), 0, 6)))
def runnelref26_Get.j4 : Nat → List Int → Int → Bool → Int → Int → Bool → Int → Int → Int → Int → Int → Int → Option (Int × Int × (List (S103)) × Int × Int × Int × (List (S36)) × Int × List Int × Int × Int)
 | 0, _, _, _, _, _, _, _, _, _, _, _, _ => none
 | k + 1, x0, x12, x13, x14, x77, x117, x462000, x462001, x462003, x462004, x462005, x462007 => if x117 = true then ((runnelref26_GetFront.f k x0 x12).bind fun bt487 => (if x13 = true then (if bt487.2.2 = 0 then (some (x462000, x462001, ([] : List (S103)), x462003, x462004, x462005, bt487.1, x462007, ([] : List Int), bt487.2.1, 0)) else (some (0, 0, ([] : List (S103)), 0, 0, 0, ([] : List (S36)), 0, ([] : List Int), 0, 6))) else (some (0, 0, ([] : List (S103)), 0, 0, 0, ([] : List (S36)), 0, ([] : List Int), 0, 6)))) else (if x77 = 3 then ((runnelref26_numbers.f k x0 x12 1).bind fun bt492 => (if bt492.2.2 = true then (if 0 < (bt492.1.length : Int) then (if x14 = 0 then (some (x462000, x462001, ([] : List (S103)), x462003, x462004, x462005, ([] : List (S36)), rd bt492.1 0, ([] : List Int), bt492.2.1, 0)) else (some (0, 0, ([] : List (S103)), 0, 0, 0, ([] : List (S36)), 0, ([] : List Int), 0, 6))) else (none)) else (some (0, 0, ([] : List (S103)), 0, 0, 0, ([] : List (S36)), 0, ([] : List Int), 0, 6)))) else (if x77 = 5 then ((runnelref26_numbers.f k x0 x12 2).bind fun bt498 => (if bt498.2.2 = true then (if 0 < (bt498.1.length : Int) then (if 1 < (bt498.1.length : Int) then (if x14 = 0 then (some (x462000, x462001, ([] : List (S103)), rd bt498.1 0, rd bt498.1 1, x462005, ([] : List (S36)), x462007, ([] : List Int), bt498.2.1, 0)) else (some (0, 0, ([] : List (S103)), 0, 0, 0, ([] : List (S36)), 0, ([] : List Int), 0, 6))) else (none)) else (none)) else (some (0, 0, ([] : List (S103)), 0, 0, 0, ([] : List (S36)), 0, ([] : List Int), 0, 6)))) else (if x14 = 0 then (some (x462000, x462001, ([] : List (S103)), x462003, x462004, x462005, ([] : List (S36)), x462007, ([] : List Int), x12, 0)) else (some (0, 0, ([] : List (S103)), 0, 0, 0, ([] : List (S36)), 0, ([] : List Int), 0, 6)))))
end
def runnelref26_Get.f (k : Nat) (l0 : List Int) (a1 : Int) : Option (Int × Int × (List (S103)) × Int × Int × Int × (List (S36)) × Int × List Int × Int × Int) := if a1 < 0 then (runnelref26_Get.j0 k l0 a1 true) else (runnelref26_Get.j0 k l0 a1 (decide (a1 > (l0.length : Int))))
def runnelref26_Get.T24 : Bool × List (List Nat × List Nat) := (true, [([], []), ([0], [0]), ([1], [1]), ([], []), ([3], [3]), ([4], [4]), ([2, 5], [2, 5]), ([], []), ([7], [7]), ([8], [8]), ([0, 1, 2, 3, 4, 5, 6], []), ([10, 0, 1, 2, 3, 4, 5, 6], [10]), ([11, 6, 0, 1, 2, 3, 4, 5, 6], [6, 11]), ([0, 1, 2, 3, 4, 5, 6, 7, 8, 9, 10, 11, 12], []), ([13, 0, 1, 2, 3, 4, 5, 6, 7, 8, 9, 10, 11, 12], [13]), ([14, 9, 12, 0, 1, 2, 3, 4, 5, 6, 7, 8, 9, 10, 11, 12], [9, 14])])
def runnelref26_Get.B24 : List Nat := [0, 1, 3, 0, 8, 24, 63, 0, 128, 384, 127, 1151, 3199, 8191, 16383, 32767]
theorem runnelref26_Get.tab24 : rtab .any (opsOf Try.f15 24) = runnelref26_Get.T24 := by kernel_rfl
theorem runnelref26_Get.bits24 : waitsOk runnelref26_Get.T24.2 runnelref26_Get.B24 = true := by kernel_rfl
def runnelref26_Get.T35 : Bool × List (List Nat × List Nat) := (true, [([], []), ([0], [0]), ([1], [1]), ([], []), ([3], [3]), ([4], [4]), ([2, 5], [2, 5]), ([0, 1, 2, 3, 4, 5, 6], []), ([7, 0, 1, 2, 3, 4, 5, 6], [7]), ([8, 6, 0, 1, 2, 3, 4, 5, 6], [6, 8])])
def runnelref26_Get.B35 : List Nat := [0, 1, 3, 0, 8, 24, 63, 127, 255, 511]
theorem runnelref26_Get.tab35 : rtab .any (opsOf Try.f15 35) = runnelref26_Get.T35 := by kernel_rfl
theorem runnelref26_Get.bits35 : waitsOk runnelref26_Get.T35.2 runnelref26_Get.B35 = true := by kernel_rfl
theorem obq2 {p q : Prop} (x : q) (h : q → p := by intro x_; have y_ := Kd.own_blk x_; first | exact y_ | (rw [add_block]; exact y_) | (show (Addr.add _ _).block ≠ _; rw [add_block]; exact y_) | (dsimp only; exact y_)) : p := h x
set_option maxHeartbeats 8000000 in
set_option maxRecDepth 100000 in
theorem runnelref26_Get.calls (k : Nat) (A0 : Option Addr) (c0 : Nat) (l0 : List Int) (a1 : Int) (r1 : Int) (r2 : Int) (r3 : List (S103)) (r4 : Int) (r5 : Int) (r6 : Int) (r7 : List (S36)) (r8 : Int) (r9 : List Int) (r10 : Int) (r11 : Int) (w : World) (hr0 : Kd.C (Kd.int .u8) w A0 l0.length l0) (hc0 : l0.length ≤ c0) (h : runnelref26_Get.f k l0 a1 = some (r1, r2, r3, r4, r5, r6, r7, r8, r9, r10, r11)) :
  Calls Try.prog 15 #[.slice A0 l0.length c0, .int .i64 a1] w fun e w' => ∃ v2_ v6_ v8_ : Value, e = .returned (.tuple #[.agg #[.int .i64 r1, .int .i64 r2, v2_, .int .i64 r4, .int .i64 r5, .int .i64 r6, v6_, .int .i64 r8, v8_], .int .i64 r10, .int .i64 r11]) ∧ Kd.R k103 103 w' w.heap.size (fun k_ => (w.heap.size ≤ k_)) v2_ r3 ∧ Kd.R k36 36 w' w.heap.size (fun k_ => (w.heap.size ≤ k_)) v6_ r7 ∧ Kd.V (Kd.int .u8) 5 w' w.heap.size (fun k_ => (w.heap.size ≤ k_) ∧ some k_ ≠ (v2_ : Value).ownBlock ∧ some k_ ≠ (v6_ : Value).ownBlock) v8_ r9 ∧ Below w.heap.size w w' := by
 have hu40 := Try.underlying40
 have hu36 := Try.underlying36
 have HR0 := Aside0.mk hr0
 have HC0 := Aside0.mk hc0
 clear hr0 hc0
 have HB := Aside0.mk (Below.refl w.heap.size w)
 have H : (if a1 < 0 then (runnelref26_Get.j0 k l0 a1 true) else (runnelref26_Get.j0 k l0 a1 (decide (a1 > (l0.length : Int))))) = some (r1, r2, r3, r4, r5, r6, r7, r8, r9, r10, r11) := h
 clear h
 have HC3 := Aside0.mk H
 clear H
 go_enter Try.func15, Try.ntmps15
 go_upto_region 1 with (first | ((with_reducible refine gate_dst (N := 4) rfl ?_); (try (refine gate_guard (by rfl) ?_; dsimp only)); refine box_event ?hg (N := 4) ?hd (cs := #[.int .i64 0, .int .i64 0, .slice none 0 0, .int .i64 0, .int .i64 0, .int .i64 0, .slice none 0 0, .int .i64 0, .slice none 0 0]) (t := 40) ?hr ?_; (case hd => rfl); (case hg => rfl); (case hr => first | (go_simp; done) | (go_simp; rfl)); intro gb458 hg w4 hbox hb; have n0_ := Aside0.mk (below_step bl hb); have n1_ := Aside0.mk (hbox); have n2_ := Aside0.mk ((by rw [hg]; exact (below_size bl) : w.heap.size ≤ gb458)); have n3_ := Aside0.mk ((by rw [hg]; exact (below_size bl) : w.heap.size ≤ gb458)); clear HB; have HB := n0_; have BK458 := n1_; have GW458 := n2_; have GE458 := n3_; clear n0_ n1_ n2_ n3_; clear hb hbox hg))
 (try simp only [Act.put, List.setIfInBounds_toArray, List.set_cons_zero, List.set_cons_succ])
 go_cut [22] (fun v22 wc => ∃ (kq : Nat) (x22_2 : Bool), v22 = .bool x22_2 ∧ Aside0 (runnelref26_Get.j0 kq l0 a1 x22_2 = some (r1, r2, r3, r4, r5, r6, r7, r8, r9, r10, r11)) ∧ Aside0 (kq ≤ k) ∧ Aside0 (wc.heap[gb458]? = some (.cells #[.int .i64 0, .int .i64 0, (.slice none 0 0), .int .i64 0, .int .i64 0, .int .i64 0, (.slice none 0 0), .int .i64 0, (.slice none 0 0)] 40 (0, 0))) ∧ Aside0 (Below w.heap.size w wc))
 case first =>
  have H := HC3.out
  clear HC3
  by_cases c5 : a1 < 0
  ·
   rw [if_pos c5] at H
   have c5b0 : decide (a1 < 0) = true := decide_eq_true c5
   clear c5
   (first | rw [c5b0] | (simp only [i64_w, i32_w]; rw [c5b0]) | skip)
   have H' := Aside0.mk H
   clear H
   go_wp2
   go_meet
   case rel => exact ⟨_, (true), (by first | rfl | (simp; done) | (simp [*]; done)), H', ⟨by first | omega | exact Nat.le_refl _⟩, ⟨by (with_reducible repeat (first | refine blk_drewN ?_ _ | refine blk_drew ?_ | refine blk_alloc ?_ _)); exact BK458.out⟩, ⟨bl⟩⟩
  ·
   rw [if_neg c5] at H
   have c5b0 : decide (a1 < 0) = false := decide_eq_false c5
   clear c5
   (first | rw [c5b0] | (simp only [i64_w, i32_w]; rw [c5b0]) | skip)
   have H' := Aside0.mk H
   clear H
   go_wp2
   go_meet
   case rel => exact ⟨_, (decide (a1 > (l0.length : Int))), (by first | rfl | (simp; done) | (simp [*]; done)), H', ⟨by first | omega | exact Nat.le_refl _⟩, ⟨by (with_reducible repeat (first | refine blk_drewN ?_ _ | refine blk_drew ?_ | refine blk_alloc ?_ _)); exact BK458.out⟩, ⟨bl⟩⟩
 case rest =>
  clear HC3
  obtain ⟨kq, x22_2, rfl, HA, HJ2, BK458, HB⟩ := hcut
  cases kq with
  | zero => exact absurd HA.out (by simp [runnelref26_Get.j0])
  | succ kj2 =>
   have H := HA.out
   clear HA
   simp only [runnelref26_Get.j0] at H
   by_cases c6 : x22_2 = true
   ·
    subst c6
    have H1 : (some (0, 0, ([] : List (S103)), 0, 0, 0, ([] : List (S36)), 0, ([] : List Int), 0, 9)) = some (r1, r2, r3, r4, r5, r6, r7, r8, r9, r10, r11) := by rw [if_pos rfl] at H; exact H
    clear H
    have H := H1
    clear H1
    simp only [Option.some.injEq, Prod.mk.injEq] at H
    obtain ⟨rfl, rfl, rfl, rfl, rfl, rfl, rfl, rfl, rfl, rfl, rfl⟩ := H
    obtain ⟨hcz7_0, hcz7_1, hcz7_2, hcz7_3, hcz7_4, hcz7_5, hcz7_6, hcz7_7, hcz7_8⟩ := cells9 BK458.out
    obtain ⟨hfz7_0, hfz7_1, hfz7_2, hfz7_3, hfz7_4, hfz7_5, hfz7_6, hfz7_7, hfz7_8⟩ := frz9 BK458.out
    go_wp2
    refine bodyPost_ret (results_ctt rfl _ _ gb458 40 #[.int .i64 0, .int .i64 0, .slice none 0 0, .int .i64 0, .int .i64 0, .int .i64 0, .slice none 0 0, .int .i64 0, .slice none 0 0] (0, 0) _ rfl bk Try.underlying40 rfl (by kernel_rfl)) rfl ?_
    exact ⟨_, _, _, erq, nlq, nlq, nlq, by repeat (first | (with_reducible first | exact HB.out | apply below_alloc | apply pw_below_drewN | apply below_drew1 | refine below_set ?_ GE458.out) | exact HB.out)⟩
   ·
    replace c6 := Bool.eq_false_iff.mpr c6
    subst c6
    have H1 : (if a1 = (l0.length : Int) then (runnelref26_Get.j1 kj2 l0 a1 true) else (if 0 ≤ a1 then (if a1 < (l0.length : Int) then (runnelref26_Get.j1 kj2 l0 a1 (decide ((rd l0 a1) > 6))) else (none)) else (none))) = some (r1, r2, r3, r4, r5, r6, r7, r8, r9, r10, r11) := by rw [if_neg (show ¬ (false = true) by decide)] at H; exact H
    clear H
    have H := H1
    clear H1
    have HC8 := Aside0.mk H
    clear H
    go_upto_region 3 with (fail)
    go_cut [34] (fun v34 wc => ∃ (kq : Nat) (x34_7 : Bool), v34 = .bool x34_7 ∧ Aside0 (runnelref26_Get.j1 kq l0 a1 x34_7 = some (r1, r2, r3, r4, r5, r6, r7, r8, r9, r10, r11)) ∧ Aside0 (kq ≤ kj2) ∧ Aside0 (wc.heap[gb458]? = some (.cells #[.int .i64 0, .int .i64 0, (.slice none 0 0), .int .i64 0, .int .i64 0, .int .i64 0, (.slice none 0 0), .int .i64 0, (.slice none 0 0)] 40 (0, 0))) ∧ Aside0 (Below w.heap.size w wc))
    case first =>
     have H := HC8.out
     clear HC8
     by_cases c9 : a1 = (l0.length : Int)
     ·
      rw [if_pos c9] at H
      have c9b0 : (a1 == (l0.length : Int)) = true := beq_iff_eq.mpr c9
      have c9b1 : (a1 != (l0.length : Int)) = false := bne_eq_false_iff_eq.mpr c9
      clear c9
      (first | rw [c9b0] | (simp only [i64_w, i32_w]; rw [c9b0]) | skip)
      have H' := Aside0.mk H
      clear H
      go_wp2
      go_meet
      case rel => exact ⟨_, (true), (by first | rfl | (simp; done) | (simp [*]; done)), H', ⟨by have := HJ2.out; first | omega | exact Nat.le_refl _⟩, ⟨by (with_reducible repeat (first | refine blk_drewN ?_ _ | refine blk_drew ?_ | refine blk_alloc ?_ _)); exact BK458.out⟩, ⟨bl⟩⟩
     ·
      rw [if_neg c9] at H
      have c9b0 : (a1 == (l0.length : Int)) = false := beq_eq_false_iff_ne.mpr c9
      have c9b1 : (a1 != (l0.length : Int)) = true := bne_iff_ne.mpr c9
      (first | rw [c9b0] | (simp only [i64_w, i32_w]; rw [c9b0]) | skip)
      by_cases c10 : 0 ≤ a1
      ·
       rw [if_pos c10] at H
       have c10b0 : decide (0 ≤ a1) = true := decide_eq_true c10
       clear c10
       by_cases c11 : a1 < (l0.length : Int)
       ·
        rw [if_pos c11] at H
        have c11b0 : decide (a1 < (l0.length : Int)) = true := decide_eq_true c11
        clear c11
        have H' := Aside0.mk H
        clear H
        have p459 : 0 ≤ (a1 : Int) := of_decide_eq_true (by first | (with_reducible assumption) | assumption)
        have q459 : a1 < (l0.length : Int) := of_decide_eq_true (by first | (with_reducible assumption) | assumption)
        obtain ⟨ad459, e459, hx459_0⟩ := Kd.at_int HR0.out a1 p459 q459
        cases e459
        replace hx459_0 := bc HB.out hx459_0
        replace p459 := eq_true p459
        replace q459 := eq_true q459
        go_wp2
        go_meet
        case rel => exact ⟨_, (decide ((rd l0 a1) > 6)), (by first | rfl | (simp; done) | (simp [*]; done)), H', ⟨by have := HJ2.out; first | omega | exact Nat.le_refl _⟩, ⟨by (with_reducible repeat (first | refine blk_drewN ?_ _ | refine blk_drew ?_ | refine blk_alloc ?_ _)); exact BK458.out⟩, ⟨bl⟩⟩
       ·
        rw [if_neg c11] at H
        exact absurd H (by simp)
      ·
       rw [if_neg c10] at H
       exact absurd H (by simp)
    case rest =>
     clear HC8
     try clear c6
     obtain ⟨kq, x34_7, rfl, HA, HJ7, BK458, HB⟩ := hcut
     cases kq with
     | zero => exact absurd HA.out (by simp [runnelref26_Get.j1])
     | succ kj7 =>
      have H := HA.out
      clear HA
      simp only [runnelref26_Get.j1] at H
      by_cases c12 : x34_7 = true
      ·
       subst c12
       have H1 : (some (0, 0, ([] : List (S103)), 0, 0, 0, ([] : List (S36)), 0, ([] : List Int), 0, 6)) = some (r1, r2, r3, r4, r5, r6, r7, r8, r9, r10, r11) := by rw [if_pos rfl] at H; exact H
       clear H
       have H := H1
       clear H1
       simp only [Option.some.injEq, Prod.mk.injEq] at H
       obtain ⟨rfl, rfl, rfl, rfl, rfl, rfl, rfl, rfl, rfl, rfl, rfl⟩ := H
       obtain ⟨hcz13_0, hcz13_1, hcz13_2, hcz13_3, hcz13_4, hcz13_5, hcz13_6, hcz13_7, hcz13_8⟩ := cells9 BK458.out
       obtain ⟨hfz13_0, hfz13_1, hfz13_2, hfz13_3, hfz13_4, hfz13_5, hfz13_6, hfz13_7, hfz13_8⟩ := frz9 BK458.out
       go_wp2
       refine bodyPost_ret (results_ctt rfl _ _ gb458 40 #[.int .i64 0, .int .i64 0, .slice none 0 0, .int .i64 0, .int .i64 0, .int .i64 0, .slice none 0 0, .int .i64 0, .slice none 0 0] (0, 0) _ rfl bk Try.underlying40 rfl (by kernel_rfl)) rfl ?_
       exact ⟨_, _, _, erq, nlq, nlq, nlq, by repeat (first | (with_reducible first | exact HB.out | apply below_alloc | apply pw_below_drewN | apply below_drew1 | refine below_set ?_ GE458.out) | exact HB.out)⟩
      ·
       replace c12 := Bool.eq_false_iff.mpr c12
       subst c12
       have H1 : (if 0 ≤ a1 then (if a1 < (l0.length : Int) then (if (wrap64 (rd l0 a1)) = 0 then ((runnelref01_GetText.f kj7 l0 (wrap64 (a1 + 1)) 65536).bind fun bt462 => (if bt462.2.2 = 0 then ((main_main.f bt462.1).bind fun t465 => (some (wrap64 (rd l0 a1), 0, ([] : List (S103)), 0, 0, 0, ([] : List (S36)), 0, t465, bt462.2.1, 0))) else (some (0, 0, ([] : List (S103)), 0, 0, 0, ([] : List (S36)), 0, ([] : List Int), 0, 6)))) else ((runnelref26_numbers.f kj7 l0 (wrap64 (a1 + 1)) 1).bind fun bt468 => (if bt468.2.2 = true then (if 0 < (bt468.1.length : Int) then (if (wrap64 (rd l0 a1)) = 1 then ((runnelref03_Get.f kj7 l0 bt468.2.1).bind fun bt474 => (if bt474.2.2 = 0 then ((runnelref26_numbers.f kj7 l0 bt474.2.1 3).bind fun bt479 => (runnelref26_Get.j2 kj7 bt479.1 bt479.2.1 bt479.2.2 bt474.2.2 (wrap64 (rd l0 a1)) (rd bt468.1 0) bt474.1 0 0 0 0)) else (runnelref26_Get.j2 kj7 bt468.1 bt474.2.1 bt468.2.2 bt474.2.2 (wrap64 (rd l0 a1)) (rd bt468.1 0) bt474.1 0 0 0 0))) else (if (wrap64 (rd l0 a1)) = 2 then (runnelref26_Get.j4 kj7 l0 bt468.2.1 bt468.2.2 0 (wrap64 (rd l0 a1)) ((wrap64 (rd l0 a1)) == 2) (wrap64 (rd l0 a1)) (rd bt468.1 0) 0 0 0 0) else (runnelref26_Get.j4 kj7 l0 bt468.2.1 bt468.2.2 0 (wrap64 (rd l0 a1)) ((wrap64 (rd l0 a1)) == 4) (wrap64 (rd l0 a1)) (rd bt468.1 0) 0 0 0 0))) else (none)) else (some (0, 0, ([] : List (S103)), 0, 0, 0, ([] : List (S36)), 0, ([] : List Int), 0, 6))))) else (none)) else (none)) = some (r1, r2, r3, r4, r5, r6, r7, r8, r9, r10, r11) := by rw [if_neg (show ¬ (false = true) by decide)] at H; exact H
       clear H
       have H := H1
       clear H1
       by_cases c14 : 0 ≤ a1
       ·
        rw [if_pos c14] at H
        have c14b0 : decide (0 ≤ a1) = true := decide_eq_true c14
        clear c14
        by_cases c15 : a1 < (l0.length : Int)
        ·
         rw [if_pos c15] at H
         have c15b0 : decide (a1 < (l0.length : Int)) = true := decide_eq_true c15
         clear c15
         by_cases c16 : (wrap64 (rd l0 a1)) = 0
         ·
          rw [if_pos c16] at H
          have c16b0 : ((wrap64 (rd l0 a1)) == 0) = true := beq_iff_eq.mpr c16
          have c16b1 : ((wrap64 (rd l0 a1)) != 0) = false := bne_eq_false_iff_eq.mpr c16
          clear c16
          replace H := Option.bind_eq_some_iff.mp H
          obtain ⟨⟨t462, t463, t464⟩, A170, H⟩ := H
          replace H : (if t464 = 0 then ((main_main.f t462).bind fun t465 => (some (wrap64 (rd l0 a1), 0, ([] : List (S103)), 0, 0, 0, ([] : List (S36)), 0, t465, t463, 0))) else (some (0, 0, ([] : List (S103)), 0, 0, 0, ([] : List (S36)), 0, ([] : List Int), 0, 6))) = some (r1, r2, r3, r4, r5, r6, r7, r8, r9, r10, r11) := H
          have A17 := Aside0.mk A170
          clear A170
          by_cases c18 : t464 = 0
          ·
           rw [if_pos c18] at H
           have c18b0 : (t464 == 0) = true := beq_iff_eq.mpr c18
           have c18b1 : (t464 != 0) = false := bne_eq_false_iff_eq.mpr c18
           clear c18
           replace H := Option.bind_eq_some_iff.mp H
           obtain ⟨t465, A190, H⟩ := H
           replace H : (some (wrap64 (rd l0 a1), 0, ([] : List (S103)), 0, 0, 0, ([] : List (S36)), 0, t465, t463, 0)) = some (r1, r2, r3, r4, r5, r6, r7, r8, r9, r10, r11) := H
           have A19 := Aside0.mk A190
           clear A190
           simp only [Option.some.injEq, Prod.mk.injEq] at H
           obtain ⟨rfl, rfl, rfl, rfl, rfl, rfl, rfl, rfl, rfl, rfl, rfl⟩ := H
           have p460 : 0 ≤ (a1 : Int) := of_decide_eq_true (by first | (with_reducible assumption) | assumption)
           have q460 : a1 < (l0.length : Int) := of_decide_eq_true (by first | (with_reducible assumption) | assumption)
           obtain ⟨ad460, e460, hx460_0⟩ := Kd.at_int HR0.out a1 p460 q460
           cases e460
           replace hx460_0 := bc HB.out hx460_0
           replace p460 := eq_true p460
           replace q460 := eq_true q460
           go_wp2_with (first | ((with_reducible refine gate_dst (N := 7) rfl ?_); (try (refine gate_guard (by rfl) ?_; dsimp only)); refine box_event ?hg (N := 7) ?hd (cs := #[.int .i64 0, .int .i64 0, .slice none 0 0, .int .i64 0, .int .i64 0, .int .i64 0, .slice none 0 0, .int .i64 0, .slice none 0 0]) (t := 40) ?hr ?_; (case hd => rfl); (case hg => rfl); (case hr => first | (go_simp; done) | (go_simp; rfl)); intro gb461 hg w20 hbox hb; have n0_ := Aside0.mk (blk_below (g := gb458) (o := .cells #[.int .i64 0, .int .i64 0, .slice none 0 0, .int .i64 0, .int .i64 0, .int .i64 0, .slice none 0 0, .int .i64 0, .slice none 0 0] 40 (0, 0)) bk hb); have n1_ := Aside0.mk (below_step bl hb); have n2_ := Aside0.mk (hbox); have n3_ := Aside0.mk ((by rw [hg]; exact (below_size bl) : w.heap.size ≤ gb461)); have n4_ := Aside0.mk ((by rw [hg]; exact (below_size bl) : w.heap.size ≤ gb461)); have n5_ := Aside0.mk ((by rw [hg]; exact Nat.ne_of_lt blt : gb458 ≠ gb461)); have n6_ := Aside0.mk ((by rw [hg]; exact Nat.ne_of_gt blt : gb461 ≠ gb458)); clear BK458; clear HB; have BK458 := n0_; have HB := n1_; have BK461 := n2_; have GW461 := n3_; have GE461 := n4_; have NB458_461 := n5_; have NB461_458 := n6_; clear n0_ n1_ n2_ n3_ n4_ n5_ n6_; clear hb hbox hg; have hnb21 := NB461_458.out; have hnc21 := NB458_461.out; obtain ⟨hcz22_0, hcz22_1, hcz22_2, hcz22_3, hcz22_4, hcz22_5, hcz22_6, hcz22_7, hcz22_8⟩ := cells9 BK461.out; have hfz22_0 := blk_frozen BK461.out 0; have hfz22_1 := blk_frozen BK461.out 1; have hfz22_2 := blk_frozen BK461.out 2; have hfz22_3 := blk_frozen BK461.out 3; have hfz22_4 := blk_frozen BK461.out 4; have hfz22_5 := blk_frozen BK461.out 5; have hfz22_6 := blk_frozen BK461.out 6; have hfz22_7 := blk_frozen BK461.out 7; have hfz22_8 := blk_frozen BK461.out 8) | ((with_reducible refine gate_callee (f := 41) rfl ?_); refine goesL_ (some 49) rfl rfl Try.func41 (by kernel_rfl) rfl #[.slice (some ad460) l0.length c0, .int .i64 (wrap64 (a1 + 1)), .int .i64 65536] rfl mpq ?_; (with_reducible refine (runnelref01_GetText.calls kj7 _ _ l0 (wrap64 (a1 + 1)) 65536 t462 t463 t464 _ ?side1 ?side2 A17.out).mono ?_); (case side1 => exact Kd.C_below HR0.out bl); (case side2 => exact HC0.out); rintro e w23 ⟨rfl, hb⟩; refine ⟨_, rfl, ?_⟩; have n0_ := Aside0.mk (blk_below (g := gb458) (o := .cells #[.int .i64 0, .int .i64 0, .slice none 0 0, .int .i64 0, .int .i64 0, .int .i64 0, .slice none 0 0, .int .i64 0, .slice none 0 0] 40 (0, 0)) bk hb); have n1_ := Aside0.mk (blk_below (g := gb461) (o := .cells #[.int .i64 (wrap64 (rd l0 a1)), .int .i64 0, .slice none 0 0, .int .i64 0, .int .i64 0, .int .i64 0, .slice none 0 0, .int .i64 0, .slice none 0 0] 40 (0, 0)) bk hb); have n2_ := Aside0.mk (below_step bl hb); clear BK458; clear BK461; clear HB; have BK458 := n0_; have BK461 := n1_; have HB := n2_; clear n0_ n1_ n2_; (try clear hb); (try clear hb2); (try clear hk); (try clear hi)) | ((with_reducible refine gate_dst (N := 57) rfl ?_); refine conv_ 57 rfl rfl _ _ _ rfl t462 (by first | rfl | (go_simp; done) | (go_simp; rfl)) Try.underlying9 Try.underlying22 Try.underlying5 t465 A19.out ?_; intro v466 w24 ho0 hb; have n0_ := Aside0.mk (Kd.V_lower (Kd.V_mono (ok' := fun k_ => (w.heap.size ≤ k_) ∧ k_ ≠ gb458 ∧ k_ ≠ gb461) ho0 (fun k_ hk_ => ⟨(Nat.le_trans (below_size bl) hk_), (Kd.freshB (g := gb458) (o := .cells #[.int .i64 0, .int .i64 0, .slice none 0 0, .int .i64 0, .int .i64 0, .int .i64 0, .slice none 0 0, .int .i64 0, .slice none 0 0] 40 (0, 0)) bk k_ hk_), (Kd.freshB (g := gb461) (o := .cells #[.int .i64 (wrap64 (rd l0 a1)), .int .i64 0, .slice none 0 0, .int .i64 0, .int .i64 0, .int .i64 0, .slice none 0 0, .int .i64 0, .slice none 0 0] 40 (0, 0)) bk k_ hk_)⟩)) (below_size bl)); have n1_ := Aside0.mk (blk_below (g := gb458) (o := .cells #[.int .i64 0, .int .i64 0, .slice none 0 0, .int .i64 0, .int .i64 0, .int .i64 0, .slice none 0 0, .int .i64 0, .slice none 0 0] 40 (0, 0)) bk hb); have n2_ := Aside0.mk (blk_below (g := gb461) (o := .cells #[.int .i64 (wrap64 (rd l0 a1)), .int .i64 0, .slice none 0 0, .int .i64 0, .int .i64 0, .int .i64 0, .slice none 0 0, .int .i64 0, .slice none 0 0] 40 (0, 0)) bk hb); have n3_ := Aside0.mk (below_step bl hb); clear BK458; clear BK461; clear HB; have HO467 := n0_; have BK458 := n1_; have BK461 := n2_; have HB := n3_; clear n0_ n1_ n2_ n3_; (try clear hb); (try clear hb2); (try clear hk); (try clear hi); (try clear ho0); obtain ⟨Ao25, co25, eo25⟩ := Kd.V_slice HO467.out; subst eo25; obtain ⟨hcz26_0, hcz26_1, hcz26_2, hcz26_3, hcz26_4, hcz26_5, hcz26_6, hcz26_7, hcz26_8⟩ := cells9 BK461.out; obtain ⟨hfz26_0, hfz26_1, hfz26_2, hfz26_3, hfz26_4, hfz26_5, hfz26_6, hfz26_7, hfz26_8⟩ := frz9 BK461.out; obtain ⟨hcz27_0, hcz27_1, hcz27_2, hcz27_3, hcz27_4, hcz27_5, hcz27_6, hcz27_7, hcz27_8⟩ := cells9 BK458.out; obtain ⟨hfz27_0, hfz27_1, hfz27_2, hfz27_3, hfz27_4, hfz27_5, hfz27_6, hfz27_7, hfz27_8⟩ := frz9 BK458.out))
           refine bodyPost_ret (results_ctt rfl _ _ gb458 40 #[.int .i64 (wrap64 (rd l0 a1)), .int .i64 0, .slice none 0 0, .int .i64 0, .int .i64 0, .int .i64 0, .slice none 0 0, .int .i64 0, .slice Ao25 t465.length co25] (0, 0) _ rfl bk Try.underlying40 rfl (by kernel_rfl)) rfl ?_
           exact ⟨_, _, _, erq, nlq, nlq, by (with_reducible repeat (first | apply Kd.V_alloc | apply Kd.V_drewN | apply Kd.V_drew)); exact Kd.V_mono (Kd.V_far (p := ⟨gb458, 8, none⟩) (Kd.V_far (p := ⟨gb458, 7, none⟩) (Kd.V_far (p := ⟨gb458, 6, none⟩) (Kd.V_far (p := ⟨gb458, 5, none⟩) (Kd.V_far (p := ⟨gb458, 4, none⟩) (Kd.V_far (p := ⟨gb458, 3, none⟩) (Kd.V_far (p := ⟨gb458, 2, none⟩) (Kd.V_far (p := ⟨gb458, 1, none⟩) (Kd.V_far (p := ⟨gb458, 0, none⟩) (Kd.V_far (p := ⟨gb461, 8, none⟩) (Kd.V_mono (Kd.V_mono HO467.out (fun k_ hk => (⟨hk, hk.2.2⟩ : _ ∧ k_ ≠ gb461))) (fun k_ hk => (⟨hk, hk.1.2.1⟩ : _ ∧ k_ ≠ gb458))) (fun _ hk => hk.1.2) (.slice Ao25 t465.length co25)) (fun _ hk => hk.2) (.int .i64 (wrap64 (rd l0 a1)))) (fun _ hk => hk.2) (.int .i64 0)) (fun _ hk => hk.2) (.slice none 0 0)) (fun _ hk => hk.2) (.int .i64 0)) (fun _ hk => hk.2) (.int .i64 0)) (fun _ hk => hk.2) (.int .i64 0)) (fun _ hk => hk.2) (.slice none 0 0)) (fun _ hk => hk.2) (.int .i64 0)) (fun _ hk => hk.2) (.slice Ao25 t465.length co25)) (fun _ hk => ⟨hk.1.1.1, ⟨(by simp [Value.ownBlock]), (by simp [Value.ownBlock])⟩⟩), by repeat (first | (with_reducible first | exact HB.out | apply below_alloc | apply pw_below_drewN | apply below_drew1 | refine below_set ?_ GE458.out | refine below_set ?_ GE461.out) | exact HB.out)⟩
          ·
           rw [if_neg c18] at H
           have c18b0 : (t464 == 0) = false := beq_eq_false_iff_ne.mpr c18
           have c18b1 : (t464 != 0) = true := bne_iff_ne.mpr c18
           simp only [Option.some.injEq, Prod.mk.injEq] at H
           obtain ⟨rfl, rfl, rfl, rfl, rfl, rfl, rfl, rfl, rfl, rfl, rfl⟩ := H
           have p460 : 0 ≤ (a1 : Int) := of_decide_eq_true (by first | (with_reducible assumption) | assumption)
           have q460 : a1 < (l0.length : Int) := of_decide_eq_true (by first | (with_reducible assumption) | assumption)
           obtain ⟨ad460, e460, hx460_0⟩ := Kd.at_int HR0.out a1 p460 q460
           cases e460
           replace hx460_0 := bc HB.out hx460_0
           replace p460 := eq_true p460
           replace q460 := eq_true q460
           go_wp2_with (first | ((with_reducible refine gate_dst (N := 7) rfl ?_); (try (refine gate_guard (by rfl) ?_; dsimp only)); refine box_event ?hg (N := 7) ?hd (cs := #[.int .i64 0, .int .i64 0, .slice none 0 0, .int .i64 0, .int .i64 0, .int .i64 0, .slice none 0 0, .int .i64 0, .slice none 0 0]) (t := 40) ?hr ?_; (case hd => rfl); (case hg => rfl); (case hr => first | (go_simp; done) | (go_simp; rfl)); intro gb461 hg w28 hbox hb; have n0_ := Aside0.mk (blk_below (g := gb458) (o := .cells #[.int .i64 0, .int .i64 0, .slice none 0 0, .int .i64 0, .int .i64 0, .int .i64 0, .slice none 0 0, .int .i64 0, .slice none 0 0] 40 (0, 0)) bk hb); have n1_ := Aside0.mk (below_step bl hb); have n2_ := Aside0.mk (hbox); have n3_ := Aside0.mk ((by rw [hg]; exact (below_size bl) : w.heap.size ≤ gb461)); have n4_ := Aside0.mk ((by rw [hg]; exact (below_size bl) : w.heap.size ≤ gb461)); have n5_ := Aside0.mk ((by rw [hg]; exact Nat.ne_of_lt blt : gb458 ≠ gb461)); have n6_ := Aside0.mk ((by rw [hg]; exact Nat.ne_of_gt blt : gb461 ≠ gb458)); clear BK458; clear HB; have BK458 := n0_; have HB := n1_; have BK461 := n2_; have GW461 := n3_; have GE461 := n4_; have NB458_461 := n5_; have NB461_458 := n6_; clear n0_ n1_ n2_ n3_ n4_ n5_ n6_; clear hb hbox hg; have hnb29 := NB461_458.out; have hnc29 := NB458_461.out; obtain ⟨hcz30_0, hcz30_1, hcz30_2, hcz30_3, hcz30_4, hcz30_5, hcz30_6, hcz30_7, hcz30_8⟩ := cells9 BK461.out; have hfz30_0 := blk_frozen BK461.out 0; have hfz30_1 := blk_frozen BK461.out 1; have hfz30_2 := blk_frozen BK461.out 2; have hfz30_3 := blk_frozen BK461.out 3; have hfz30_4 := blk_frozen BK461.out 4; have hfz30_5 := blk_frozen BK461.out 5; have hfz30_6 := blk_frozen BK461.out 6; have hfz30_7 := blk_frozen BK461.out 7; have hfz30_8 := blk_frozen BK461.out 8) | ((with_reducible refine gate_callee (f := 41) rfl ?_); refine goesL_ (some 49) rfl rfl Try.func41 (by kernel_rfl) rfl #[.slice (some ad460) l0.length c0, .int .i64 (wrap64 (a1 + 1)), .int .i64 65536] rfl mpq ?_; (with_reducible refine (runnelref01_GetText.calls kj7 _ _ l0 (wrap64 (a1 + 1)) 65536 t462 t463 t464 _ ?side1 ?side2 A17.out).mono ?_); (case side1 => exact Kd.C_below HR0.out bl); (case side2 => exact HC0.out); rintro e w31 ⟨rfl, hb⟩; refine ⟨_, rfl, ?_⟩; have n0_ := Aside0.mk (blk_below (g := gb458) (o := .cells #[.int .i64 0, .int .i64 0, .slice none 0 0, .int .i64 0, .int .i64 0, .int .i64 0, .slice none 0 0, .int .i64 0, .slice none 0 0] 40 (0, 0)) bk hb); have n1_ := Aside0.mk (blk_below (g := gb461) (o := .cells #[.int .i64 (wrap64 (rd l0 a1)), .int .i64 0, .slice none 0 0, .int .i64 0, .int .i64 0, .int .i64 0, .slice none 0 0, .int .i64 0, .slice none 0 0] 40 (0, 0)) bk hb); have n2_ := Aside0.mk (below_step bl hb); clear BK458; clear BK461; clear HB; have BK458 := n0_; have BK461 := n1_; have HB := n2_; clear n0_ n1_ n2_; (try clear hb); (try clear hb2); (try clear hk); (try clear hi); obtain ⟨hcz32_0, hcz32_1, hcz32_2, hcz32_3, hcz32_4, hcz32_5, hcz32_6, hcz32_7, hcz32_8⟩ := cells9 BK458.out; obtain ⟨hfz32_0, hfz32_1, hfz32_2, hfz32_3, hfz32_4, hfz32_5, hfz32_6, hfz32_7, hfz32_8⟩ := frz9 BK458.out))
           refine bodyPost_ret (results_ctt rfl _ _ gb458 40 #[.int .i64 0, .int .i64 0, .slice none 0 0, .int .i64 0, .int .i64 0, .int .i64 0, .slice none 0 0, .int .i64 0, .slice none 0 0] (0, 0) _ rfl bk Try.underlying40 rfl (by kernel_rfl)) rfl ?_
           exact ⟨_, _, _, erq, nlq, nlq, nlq, by repeat (first | (with_reducible first | exact HB.out | apply below_alloc | apply pw_below_drewN | apply below_drew1 | refine below_set ?_ GE458.out | refine below_set ?_ GE461.out) | exact HB.out)⟩
         ·
          rw [if_neg c16] at H
          have c16b0 : ((wrap64 (rd l0 a1)) == 0) = false := beq_eq_false_iff_ne.mpr c16
          have c16b1 : ((wrap64 (rd l0 a1)) != 0) = true := bne_iff_ne.mpr c16
          replace H := Option.bind_eq_some_iff.mp H
          obtain ⟨⟨t468, t469, t470⟩, A330, H⟩ := H
          replace H : (if t470 = true then (if 0 < (t468.length : Int) then (if (wrap64 (rd l0 a1)) = 1 then ((runnelref03_Get.f kj7 l0 t469).bind fun bt474 => (if bt474.2.2 = 0 then ((runnelref26_numbers.f kj7 l0 bt474.2.1 3).bind fun bt479 => (runnelref26_Get.j2 kj7 bt479.1 bt479.2.1 bt479.2.2 bt474.2.2 (wrap64 (rd l0 a1)) (rd t468 0) bt474.1 0 0 0 0)) else (runnelref26_Get.j2 kj7 t468 bt474.2.1 t470 bt474.2.2 (wrap64 (rd l0 a1)) (rd t468 0) bt474.1 0 0 0 0))) else (if (wrap64 (rd l0 a1)) = 2 then (runnelref26_Get.j4 kj7 l0 t469 t470 0 (wrap64 (rd l0 a1)) ((wrap64 (rd l0 a1)) == 2) (wrap64 (rd l0 a1)) (rd t468 0) 0 0 0 0) else (runnelref26_Get.j4 kj7 l0 t469 t470 0 (wrap64 (rd l0 a1)) ((wrap64 (rd l0 a1)) == 4) (wrap64 (rd l0 a1)) (rd t468 0) 0 0 0 0))) else (none)) else (some (0, 0, ([] : List (S103)), 0, 0, 0, ([] : List (S36)), 0, ([] : List Int), 0, 6))) = some (r1, r2, r3, r4, r5, r6, r7, r8, r9, r10, r11) := H
          have A33 := Aside0.mk A330
          clear A330
          by_cases c34 : t470 = true
          ·
           subst c34
           have H1 : (if 0 < (t468.length : Int) then (if (wrap64 (rd l0 a1)) = 1 then ((runnelref03_Get.f kj7 l0 t469).bind fun bt474 => (if bt474.2.2 = 0 then ((runnelref26_numbers.f kj7 l0 bt474.2.1 3).bind fun bt479 => (runnelref26_Get.j2 kj7 bt479.1 bt479.2.1 bt479.2.2 bt474.2.2 (wrap64 (rd l0 a1)) (rd t468 0) bt474.1 0 0 0 0)) else (runnelref26_Get.j2 kj7 t468 bt474.2.1 true bt474.2.2 (wrap64 (rd l0 a1)) (rd t468 0) bt474.1 0 0 0 0))) else (if (wrap64 (rd l0 a1)) = 2 then (runnelref26_Get.j4 kj7 l0 t469 true 0 (wrap64 (rd l0 a1)) ((wrap64 (rd l0 a1)) == 2) (wrap64 (rd l0 a1)) (rd t468 0) 0 0 0 0) else (runnelref26_Get.j4 kj7 l0 t469 true 0 (wrap64 (rd l0 a1)) ((wrap64 (rd l0 a1)) == 4) (wrap64 (rd l0 a1)) (rd t468 0) 0 0 0 0))) else (none)) = some (r1, r2, r3, r4, r5, r6, r7, r8, r9, r10, r11) := by rw [if_pos rfl] at H; exact H
           clear H
           have H := H1
           clear H1
           by_cases c35 : 0 < (t468.length : Int)
           ·
            rw [if_pos c35] at H
            have c35b0 : decide (0 < (t468.length : Int)) = true := decide_eq_true c35
            have c35b1 : decide (0 < t468.length) = true := decide_eq_true (by omega)
            clear c35
            by_cases c36 : (wrap64 (rd l0 a1)) = 1
            ·
             rw [if_pos c36] at H
             have c36b0 : ((wrap64 (rd l0 a1)) == 1) = true := beq_iff_eq.mpr c36
             have c36b1 : ((wrap64 (rd l0 a1)) != 1) = false := bne_eq_false_iff_eq.mpr c36
             clear c36
             replace H := Option.bind_eq_some_iff.mp H
             obtain ⟨⟨t474, t475, t476⟩, A370, H⟩ := H
             replace H : (if t476 = 0 then ((runnelref26_numbers.f kj7 l0 t475 3).bind fun bt479 => (runnelref26_Get.j2 kj7 bt479.1 bt479.2.1 bt479.2.2 t476 (wrap64 (rd l0 a1)) (rd t468 0) t474 0 0 0 0)) else (runnelref26_Get.j2 kj7 t468 t475 true t476 (wrap64 (rd l0 a1)) (rd t468 0) t474 0 0 0 0)) = some (r1, r2, r3, r4, r5, r6, r7, r8, r9, r10, r11) := H
             have A37 := Aside0.mk A370
             clear A370
             have HC38 := Aside0.mk H
             clear H
             have p460 : 0 ≤ (a1 : Int) := of_decide_eq_true (by first | (with_reducible assumption) | assumption)
             have q460 : a1 < (l0.length : Int) := of_decide_eq_true (by first | (with_reducible assumption) | assumption)
             obtain ⟨ad460, e460, hx460_0⟩ := Kd.at_int HR0.out a1 p460 q460
             cases e460
             replace hx460_0 := bc HB.out hx460_0
             replace p460 := eq_true p460
             replace q460 := eq_true q460
             go_upto_if 90 with (first | ((with_reducible refine gate_dst (N := 7) rfl ?_); (try (refine gate_guard (by rfl) ?_; dsimp only)); refine box_event ?hg (N := 7) ?hd (cs := #[.int .i64 0, .int .i64 0, .slice none 0 0, .int .i64 0, .int .i64 0, .int .i64 0, .slice none 0 0, .int .i64 0, .slice none 0 0]) (t := 40) ?hr ?_; (case hd => rfl); (case hg => rfl); (case hr => first | (go_simp; done) | (go_simp; rfl)); intro gb461 hg w39 hbox hb; have n0_ := Aside0.mk (blk_below (g := gb458) (o := .cells #[.int .i64 0, .int .i64 0, .slice none 0 0, .int .i64 0, .int .i64 0, .int .i64 0, .slice none 0 0, .int .i64 0, .slice none 0 0] 40 (0, 0)) bk hb); have n1_ := Aside0.mk (below_step bl hb); have n2_ := Aside0.mk (hbox); have n3_ := Aside0.mk ((by rw [hg]; exact (below_size bl) : w.heap.size ≤ gb461)); have n4_ := Aside0.mk ((by rw [hg]; exact (below_size bl) : w.heap.size ≤ gb461)); have n5_ := Aside0.mk ((by rw [hg]; exact Nat.ne_of_lt blt : gb458 ≠ gb461)); have n6_ := Aside0.mk ((by rw [hg]; exact Nat.ne_of_gt blt : gb461 ≠ gb458)); clear BK458; clear HB; have BK458 := n0_; have HB := n1_; have BK461 := n2_; have GW461 := n3_; have GE461 := n4_; have NB458_461 := n5_; have NB461_458 := n6_; clear n0_ n1_ n2_ n3_ n4_ n5_ n6_; clear hb hbox hg; have hnb40 := NB461_458.out; have hnc40 := NB458_461.out; obtain ⟨hcz41_0, hcz41_1, hcz41_2, hcz41_3, hcz41_4, hcz41_5, hcz41_6, hcz41_7, hcz41_8⟩ := cells9 BK461.out; have hfz41_0 := blk_frozen BK461.out 0; have hfz41_1 := blk_frozen BK461.out 1; have hfz41_2 := blk_frozen BK461.out 2; have hfz41_3 := blk_frozen BK461.out 3; have hfz41_4 := blk_frozen BK461.out 4; have hfz41_5 := blk_frozen BK461.out 5; have hfz41_6 := blk_frozen BK461.out 6; have hfz41_7 := blk_frozen BK461.out 7; have hfz41_8 := blk_frozen BK461.out 8) | ((with_reducible refine gate_callee (f := 42) rfl ?_); refine goesL_ (some 65) rfl rfl Try.func42 (by kernel_rfl) rfl #[.slice (some ad460) l0.length c0, .int .i64 (wrap64 (a1 + 1)), .int .i64 1] rfl mpq ?_; (with_reducible refine (runnelref26_numbers.calls kj7 _ _ l0 (wrap64 (a1 + 1)) 1 t468 t469 true _ ?side1 ?side2 A33.out).mono ?_); (case side1 => exact Kd.C_below HR0.out bl); (case side2 => exact HC0.out); rintro e w42 ⟨v471, rfl, ho0, hb⟩; refine ⟨_, rfl, ?_⟩; have n0_ := Aside0.mk (Kd.R_lower (Kd.R_newM (M := fun k_ => (w.heap.size ≤ k_)) ho0 (below_size bl) (fun k_ h_ => h_)) (below_size bl)); have n1_ := Aside0.mk (blk_below (g := gb458) (o := .cells #[.int .i64 0, .int .i64 0, .slice none 0 0, .int .i64 0, .int .i64 0, .int .i64 0, .slice none 0 0, .int .i64 0, .slice none 0 0] 40 (0, 0)) bk hb); have n2_ := Aside0.mk (blk_below (g := gb461) (o := .cells #[.int .i64 (wrap64 (rd l0 a1)), .int .i64 0, .slice none 0 0, .int .i64 0, .int .i64 0, .int .i64 0, .slice none 0 0, .int .i64 0, .slice none 0 0] 40 (0, 0)) bk hb); have n3_ := Aside0.mk (below_step bl hb); clear BK458; clear BK461; clear HB; have HO472 := n0_; have BK458 := n1_; have BK461 := n2_; have HB := n3_; clear n0_ n1_ n2_ n3_; (try clear hb); (try clear hb2); (try clear hk); (try clear hi); (try clear ho0); obtain ⟨Ao43, co43, eo43⟩ := Kd.R_slice HO472.out; subst eo43; have p473 : 0 ≤ (0 : Int) := (by omega); have q473 : 0 < (t468.length : Int) := of_decide_eq_true (by first | (with_reducible assumption) | assumption); obtain ⟨ad473, e473, hx473_0⟩ := Kd.at_int (Kd.R_reads' HO472.out).2.2 0 p473 q473; cases e473; have qi473 : (0 < t468.length) = True := eq_true (by omega); (try rw [show ((0 : Int)).toNat = 0 from rfl] at hx473_0); (try rw [Addr.add_zero'] at hx473_0); replace p473 := eq_true p473; replace q473 := eq_true q473; obtain ⟨hcz44_0, hcz44_1, hcz44_2, hcz44_3, hcz44_4, hcz44_5, hcz44_6, hcz44_7, hcz44_8⟩ := cells9 BK461.out; have hfz44_0 := blk_frozen BK461.out 0; have hfz44_1 := blk_frozen BK461.out 1; have hfz44_2 := blk_frozen BK461.out 2; have hfz44_3 := blk_frozen BK461.out 3; have hfz44_4 := blk_frozen BK461.out 4; have hfz44_5 := blk_frozen BK461.out 5; have hfz44_6 := blk_frozen BK461.out 6; have hfz44_7 := blk_frozen BK461.out 7; have hfz44_8 := blk_frozen BK461.out 8) | ((with_reducible refine gate_callee (f := 43) rfl ?_); refine goesL_ (some 83) rfl rfl Try.func43 (by kernel_rfl) rfl #[.slice (some ad460) l0.length c0, .int .i64 t469] rfl mpq ?_; (with_reducible refine (runnelref03_Get.calls kj7 _ _ l0 t469 t474 t475 t476 _ ?side1 ?side2 A37.out).mono ?_); (case side1 => exact Kd.C_below HR0.out bl); (case side2 => exact HC0.out); rintro e w45 ⟨v477, rfl, ho0, hb⟩; refine ⟨_, rfl, ?_⟩; have n0_ := Aside0.mk (Kd.R_below (rp (Kd.R_mono (Kd.R_far (p := ⟨gb461, 1, none⟩) (Kd.R_types HO472.out BK461.out (by decide)) (fun _ hk => hk.2) (.int .i64 (rd t468 0))) (fun _ h_ => h_.1))) hb); have n1_ := Aside0.mk (Kd.R_lower (Kd.R_newM (M := fun k_ => (w.heap.size ≤ k_)) ho0 (below_size bl) (fun k_ h_ => h_)) (below_size bl)); have n2_ := Aside0.mk (blk_below (g := gb458) (o := .cells #[.int .i64 0, .int .i64 0, .slice none 0 0, .int .i64 0, .int .i64 0, .int .i64 0, .slice none 0 0, .int .i64 0, .slice none 0 0] 40 (0, 0)) bk hb); have n3_ := Aside0.mk (blk_below (g := gb461) (o := .cells #[.int .i64 (wrap64 (rd l0 a1)), .int .i64 (rd t468 0), .slice none 0 0, .int .i64 0, .int .i64 0, .int .i64 0, .slice none 0 0, .int .i64 0, .slice none 0 0] 40 (0, 0)) bk hb); have n4_ := Aside0.mk (below_step bl hb); clear HO472; clear BK458; clear BK461; clear HB; have HO472 := n0_; have HO478 := n1_; have BK458 := n2_; have BK461 := n3_; have HB := n4_; clear n0_ n1_ n2_ n3_ n4_; (try clear hb); (try clear hb2); (try clear hk); (try clear hi); (try clear ho0); obtain ⟨Ao46, co46, eo46⟩ := Kd.R_slice HO478.out; subst eo46; obtain ⟨hcz47_0, hcz47_1, hcz47_2, hcz47_3, hcz47_4, hcz47_5, hcz47_6, hcz47_7, hcz47_8⟩ := cells9 BK461.out; obtain ⟨hfz47_0, hfz47_1, hfz47_2, hfz47_3, hfz47_4, hfz47_5, hfz47_6, hfz47_7, hfz47_8⟩ := frz9 BK461.out))
             (try simp only [Act.put, List.setIfInBounds_toArray, List.set_cons_zero, List.set_cons_succ])
             go_cut [11, 12, 13] (fun v11 v12 v13 wc => ∃ (kq : Nat) (x11_37 : List Int) (x12_37 : Int) (x13_37 : Bool), v12 = .int .i64 x12_37 ∧ v13 = .bool x13_37 ∧ Aside0 (runnelref26_Get.j2 kq x11_37 x12_37 x13_37 t476 (wrap64 (rd l0 a1)) (rd t468 0) t474 0 0 0 0 = some (r1, r2, r3, r4, r5, r6, r7, r8, r9, r10, r11)) ∧ Aside0 (kq ≤ kj7) ∧ Aside0 (Kd.R (Kd.int .i64) 3 wc w.heap.size (fun k_ => (w.heap.size ≤ k_)) v11 x11_37) ∧ Aside0 (Kd.R k103 103 wc w.heap.size (fun k_ => (w.heap.size ≤ k_)) (.slice Ao46 t474.length co46) t474) ∧ Aside0 (wc.heap[gb458]? = some (.cells #[.int .i64 0, .int .i64 0, (.slice none 0 0), .int .i64 0, .int .i64 0, .int .i64 0, (.slice none 0 0), .int .i64 0, (.slice none 0 0)] 40 (0, 0))) ∧ Aside0 (wc.heap[gb461]? = some (.cells #[.int .i64 (wrap64 (rd l0 a1)), .int .i64 (rd t468 0), (.slice Ao46 t474.length co46), .int .i64 0, .int .i64 0, .int .i64 0, (.slice none 0 0), .int .i64 0, (.slice none 0 0)] 40 (0, 0))) ∧ Aside0 (Below w.heap.size w wc))
             case first =>
              have H := HC38.out
              clear HC38
              by_cases c48 : t476 = 0
              ·
               rw [if_pos c48] at H
               have c48b0 : (t476 == 0) = true := beq_iff_eq.mpr c48
               have c48b1 : (t476 != 0) = false := bne_eq_false_iff_eq.mpr c48
               clear c48
               (first | rw [c48b0] | (simp only [i64_w, i32_w]; rw [c48b0]) | skip)
               replace H := Option.bind_eq_some_iff.mp H
               obtain ⟨⟨t479, t480, t481⟩, A490, H⟩ := H
               replace H : (runnelref26_Get.j2 kj7 t479 t480 t481 t476 (wrap64 (rd l0 a1)) (rd t468 0) t474 0 0 0 0) = some (r1, r2, r3, r4, r5, r6, r7, r8, r9, r10, r11) := H
               have A49 := Aside0.mk A490
               clear A490
               have H' := Aside0.mk H
               clear H
               go_wp2_with (first | ((with_reducible refine gate_callee (f := 42) rfl ?_); refine goesL_ (some 94) rfl rfl Try.func42 (by kernel_rfl) rfl #[.slice (some ad460) l0.length c0, .int .i64 t475, .int .i64 3] rfl mpq ?_; (with_reducible refine (runnelref26_numbers.calls kj7 _ _ l0 t475 3 t479 t480 t481 _ ?side1 ?side2 A49.out).mono ?_); (case side1 => exact Kd.C_below HR0.out bl); (case side2 => exact HC0.out); rintro e w50 ⟨v482, rfl, ho0, hb⟩; refine ⟨_, rfl, ?_⟩; have n0_ := Aside0.mk (Kd.R_elder' (rp (Kd.R_mono (Kd.R_far (p := ⟨gb461, 2, none⟩) (Kd.R_types HO472.out BK461.out (by decide)) (fun _ hk => hk.2) (.slice Ao46 t474.length co46)) (fun _ h_ => h_.1))) (Kd.R_base ho0) hb); have n1_ := Aside0.mk (Kd.R_below (rp (Kd.R_mono (Kd.R_far (p := ⟨gb461, 2, none⟩) (Kd.R_types HO478.out BK461.out (by decide)) (fun _ hk => hk.2) (.slice Ao46 t474.length co46)) (fun _ h_ => h_.1))) hb); have n2_ := Aside0.mk (Kd.R_lower (Kd.R_new' (Kd.R_newM (M := fun k_ => (w.heap.size ≤ k_)) ho0 (below_size bl) (fun k_ h_ => h_)) (Kd.R_lt (rp (Kd.R_mono (Kd.R_far (p := ⟨gb461, 2, none⟩) (Kd.R_types HO472.out BK461.out (by decide)) (fun _ hk => hk.2) (.slice Ao46 t474.length co46)) (fun _ h_ => h_.1))))) (below_size bl)); have n3_ := Aside0.mk (blk_below (g := gb458) (o := .cells #[.int .i64 0, .int .i64 0, .slice none 0 0, .int .i64 0, .int .i64 0, .int .i64 0, .slice none 0 0, .int .i64 0, .slice none 0 0] 40 (0, 0)) bk hb); have n4_ := Aside0.mk (blk_below (g := gb461) (o := .cells #[.int .i64 (wrap64 (rd l0 a1)), .int .i64 (rd t468 0), .slice Ao46 t474.length co46, .int .i64 0, .int .i64 0, .int .i64 0, .slice none 0 0, .int .i64 0, .slice none 0 0] 40 (0, 0)) bk hb); have n5_ := Aside0.mk (below_step bl hb); clear HO472; clear HO478; clear BK458; clear BK461; clear HB; have HO472 := n0_; have HO478 := n1_; have HO483 := n2_; have BK458 := n3_; have BK461 := n4_; have HB := n5_; clear n0_ n1_ n2_ n3_ n4_ n5_; (try clear hb); (try clear hb2); (try clear hk); (try clear hi); (try clear ho0)))
               go_meet
               case rel => exact ⟨_, (t479), (t480), (t481), (by first | rfl | (simp; done) | (simp [*]; done)), (by first | rfl | (simp; done) | (simp [*]; done)), H', ⟨by have := HJ2.out; have := HJ7.out; first | omega | exact Nat.le_refl _⟩, ⟨by (with_reducible repeat (first | apply Kd.R_alloc | apply Kd.R_drewN | apply Kd.R_drew)); exact Kd.R_mono HO483.out (fun _ hk => hk.1.1)⟩, ⟨by (with_reducible repeat (first | apply Kd.R_alloc | apply Kd.R_drewN | apply Kd.R_drew)); exact Kd.R_mono HO478.out (fun _ hk => hk.1)⟩, ⟨by (with_reducible repeat (first | refine blk_drewN ?_ _ | refine blk_drew ?_ | refine blk_alloc ?_ _)); exact BK458.out⟩, ⟨by (with_reducible repeat (first | refine blk_drewN ?_ _ | refine blk_drew ?_ | refine blk_alloc ?_ _)); exact BK461.out⟩, ⟨bl⟩⟩
              ·
               rw [if_neg c48] at H
               have c48b0 : (t476 == 0) = false := beq_eq_false_iff_ne.mpr c48
               have c48b1 : (t476 != 0) = true := bne_iff_ne.mpr c48
               (first | rw [c48b0] | (simp only [i64_w, i32_w]; rw [c48b0]) | skip)
               have H' := Aside0.mk H
               clear H
               go_wp2
               go_meet
               case rel => exact ⟨_, (t468), (t475), (true), (by first | rfl | (simp; done) | (simp [*]; done)), (by first | rfl | (simp; done) | (simp [*]; done)), H', ⟨by have := HJ2.out; have := HJ7.out; first | omega | exact Nat.le_refl _⟩, ⟨by (with_reducible repeat (first | apply Kd.R_alloc | apply Kd.R_drewN | apply Kd.R_drew)); exact Kd.R_mono (Kd.R_far (p := ⟨gb461, 2, none⟩) (Kd.R_types HO472.out BK461.out (by decide)) (fun _ hk => hk.2) (.slice Ao46 t474.length co46)) (fun _ hk => hk.1.1)⟩, ⟨by (with_reducible repeat (first | apply Kd.R_alloc | apply Kd.R_drewN | apply Kd.R_drew)); exact Kd.R_mono (Kd.R_far (p := ⟨gb461, 2, none⟩) (Kd.R_types HO478.out BK461.out (by decide)) (fun _ hk => hk.2) (.slice Ao46 t474.length co46)) (fun _ hk => hk.1.1)⟩, ⟨by (with_reducible repeat (first | refine blk_drewN ?_ _ | refine blk_drew ?_ | refine blk_alloc ?_ _)); refine blk_far ?_ NB458_461.out _; (with_reducible repeat (first | refine blk_drewN ?_ _ | refine blk_drew ?_ | refine blk_alloc ?_ _)); exact BK458.out⟩, ⟨by (with_reducible repeat (first | refine blk_drewN ?_ _ | refine blk_drew ?_ | refine blk_alloc ?_ _)); refine blk_put (cs := #[.int .i64 (wrap64 (rd l0 a1)), .int .i64 (rd t468 0), .slice none 0 0, .int .i64 0, .int .i64 0, .int .i64 0, .slice none 0 0, .int .i64 0, .slice none 0 0]) ?_ 2 _ rfl; (with_reducible repeat (first | refine blk_drewN ?_ _ | refine blk_drew ?_ | refine blk_alloc ?_ _)); exact BK461.out⟩, ⟨bl⟩⟩
             case rest =>
              clear HC38
              (try clear c6); (try clear c12); (try clear c14); (try clear c14b0); (try clear c15); (try clear c15b0); (try clear c16); (try clear c16b0); (try clear c16b1); (try clear c34); (try clear c35); (try clear c35b0); (try clear c35b1); (try clear c36); (try clear c36b0); (try clear c36b1); (try clear hcz41_0); (try clear hcz41_1); (try clear hcz41_2); (try clear hcz41_3); (try clear hcz41_4); (try clear hcz41_5); (try clear hcz41_6); (try clear hcz41_7); (try clear hcz41_8); (try clear hcz44_0); (try clear hcz44_1); (try clear hcz44_2); (try clear hcz44_3); (try clear hcz44_4); (try clear hcz44_5); (try clear hcz44_6); (try clear hcz44_7); (try clear hcz44_8); (try clear hcz47_0); (try clear hcz47_1); (try clear hcz47_2); (try clear hcz47_3); (try clear hcz47_4); (try clear hcz47_5); (try clear hcz47_6); (try clear hcz47_7); (try clear hcz47_8); (try clear hfz41_0); (try clear hfz41_1); (try clear hfz41_2); (try clear hfz41_3); (try clear hfz41_4); (try clear hfz41_5); (try clear hfz41_6); (try clear hfz41_7); (try clear hfz41_8); (try clear hfz44_0); (try clear hfz44_1); (try clear hfz44_2); (try clear hfz44_3); (try clear hfz44_4); (try clear hfz44_5); (try clear hfz44_6); (try clear hfz44_7); (try clear hfz44_8); (try clear hfz47_0); (try clear hfz47_1); (try clear hfz47_2); (try clear hfz47_3); (try clear hfz47_4); (try clear hfz47_5); (try clear hfz47_6); (try clear hfz47_7); (try clear hfz47_8); (try clear hx460_0); (try clear hx473_0); (try clear p460); (try clear p473); (try clear q460); (try clear q473)
              obtain ⟨kq, x11_37, x12_37, x13_37, rfl, rfl, HA, HJ37, HO_11, HO_462002, BK458, BK461, HB⟩ := hcut
              cases kq with
              | zero => exact absurd HA.out (by simp [runnelref26_Get.j2])
              | succ kj37 =>
               have H := HA.out
               clear HA
               simp only [runnelref26_Get.j2] at H
               have HC51 := Aside0.mk H
               clear H
               go_upto_region 23 with (fail)
               go_cut [102] (fun v102 wc => ∃ (kq : Nat) (x102_50 : Bool), v102 = .bool x102_50 ∧ Aside0 (runnelref26_Get.j3 kq x11_37 x12_37 x13_37 t476 x102_50 (wrap64 (rd l0 a1)) (rd t468 0) t474 0 0 0 0 = some (r1, r2, r3, r4, r5, r6, r7, r8, r9, r10, r11)) ∧ Aside0 (kq ≤ kj37) ∧ Aside0 (Kd.R (Kd.int .i64) 3 wc w.heap.size (fun k_ => (w.heap.size ≤ k_)) u11 x11_37) ∧ Aside0 (Kd.R k103 103 wc w.heap.size (fun k_ => (w.heap.size ≤ k_)) (.slice Ao46 t474.length co46) t474) ∧ Aside0 (wc.heap[gb458]? = some (.cells #[.int .i64 0, .int .i64 0, (.slice none 0 0), .int .i64 0, .int .i64 0, .int .i64 0, (.slice none 0 0), .int .i64 0, (.slice none 0 0)] 40 (0, 0))) ∧ Aside0 (wc.heap[gb461]? = some (.cells #[.int .i64 (wrap64 (rd l0 a1)), .int .i64 (rd t468 0), (.slice Ao46 t474.length co46), .int .i64 0, .int .i64 0, .int .i64 0, (.slice none 0 0), .int .i64 0, (.slice none 0 0)] 40 (0, 0))) ∧ Aside0 (Below w.heap.size w wc))
               case first =>
                have H := HC51.out
                clear HC51
                by_cases c52 : x13_37 = true
                ·
                 subst c52
                 have H1 : (runnelref26_Get.j3 kj37 x11_37 x12_37 true t476 (t476 == 0) (wrap64 (rd l0 a1)) (rd t468 0) t474 0 0 0 0) = some (r1, r2, r3, r4, r5, r6, r7, r8, r9, r10, r11) := by rw [if_pos rfl] at H; exact H
                 clear H
                 have H := H1
                 clear H1
                 have H' := Aside0.mk H
                 clear H
                 go_wp2
                 go_meet
                 case rel => exact ⟨_, ((t476 == 0)), (by first | rfl | (simp; done) | (simp [*]; done)), H', ⟨by have := HJ2.out; have := HJ7.out; have := HJ37.out; first | omega | exact Nat.le_refl _⟩, ⟨by (with_reducible repeat (first | apply Kd.R_alloc | apply Kd.R_drewN | apply Kd.R_drew)); exact HO_11.out⟩, ⟨by (with_reducible repeat (first | apply Kd.R_alloc | apply Kd.R_drewN | apply Kd.R_drew)); exact HO_462002.out⟩, ⟨by (with_reducible repeat (first | refine blk_drewN ?_ _ | refine blk_drew ?_ | refine blk_alloc ?_ _)); exact BK458.out⟩, ⟨by (with_reducible repeat (first | refine blk_drewN ?_ _ | refine blk_drew ?_ | refine blk_alloc ?_ _)); exact BK461.out⟩, ⟨bl⟩⟩
                ·
                 replace c52 := Bool.eq_false_iff.mpr c52
                 subst c52
                 have H1 : (runnelref26_Get.j3 kj37 x11_37 x12_37 false t476 false (wrap64 (rd l0 a1)) (rd t468 0) t474 0 0 0 0) = some (r1, r2, r3, r4, r5, r6, r7, r8, r9, r10, r11) := by rw [if_neg (show ¬ (false = true) by decide)] at H; exact H
                 clear H
                 have H := H1
                 clear H1
                 have H' := Aside0.mk H
                 clear H
                 go_wp2
                 go_meet
                 case rel => exact ⟨_, (false), (by first | rfl | (simp; done) | (simp [*]; done)), H', ⟨by have := HJ2.out; have := HJ7.out; have := HJ37.out; first | omega | exact Nat.le_refl _⟩, ⟨by (with_reducible repeat (first | apply Kd.R_alloc | apply Kd.R_drewN | apply Kd.R_drew)); exact HO_11.out⟩, ⟨by (with_reducible repeat (first | apply Kd.R_alloc | apply Kd.R_drewN | apply Kd.R_drew)); exact HO_462002.out⟩, ⟨by (with_reducible repeat (first | refine blk_drewN ?_ _ | refine blk_drew ?_ | refine blk_alloc ?_ _)); exact BK458.out⟩, ⟨by (with_reducible repeat (first | refine blk_drewN ?_ _ | refine blk_drew ?_ | refine blk_alloc ?_ _)); exact BK461.out⟩, ⟨bl⟩⟩
               case rest =>
                clear HC51
                (try clear c6); (try clear c12); (try clear c14); (try clear c14b0); (try clear c15); (try clear c15b0); (try clear c16); (try clear c16b0); (try clear c16b1); (try clear c34); (try clear c35); (try clear c35b0); (try clear c35b1); (try clear c36); (try clear c36b0); (try clear c36b1); (try clear hcz41_0); (try clear hcz41_1); (try clear hcz41_2); (try clear hcz41_3); (try clear hcz41_4); (try clear hcz41_5); (try clear hcz41_6); (try clear hcz41_7); (try clear hcz41_8); (try clear hcz44_0); (try clear hcz44_1); (try clear hcz44_2); (try clear hcz44_3); (try clear hcz44_4); (try clear hcz44_5); (try clear hcz44_6); (try clear hcz44_7); (try clear hcz44_8); (try clear hcz47_0); (try clear hcz47_1); (try clear hcz47_2); (try clear hcz47_3); (try clear hcz47_4); (try clear hcz47_5); (try clear hcz47_6); (try clear hcz47_7); (try clear hcz47_8); (try clear hfz41_0); (try clear hfz41_1); (try clear hfz41_2); (try clear hfz41_3); (try clear hfz41_4); (try clear hfz41_5); (try clear hfz41_6); (try clear hfz41_7); (try clear hfz41_8); (try clear hfz44_0); (try clear hfz44_1); (try clear hfz44_2); (try clear hfz44_3); (try clear hfz44_4); (try clear hfz44_5); (try clear hfz44_6); (try clear hfz44_7); (try clear hfz44_8); (try clear hfz47_0); (try clear hfz47_1); (try clear hfz47_2); (try clear hfz47_3); (try clear hfz47_4); (try clear hfz47_5); (try clear hfz47_6); (try clear hfz47_7); (try clear hfz47_8); (try clear hx460_0); (try clear hx473_0); (try clear p460); (try clear p473); (try clear q460); (try clear q473)
                obtain ⟨kq, x102_50, rfl, HA, HJ50, HO_11, HO_462002, BK458, BK461, HB⟩ := hcut
                cases kq with
                | zero => exact absurd HA.out (by simp [runnelref26_Get.j3])
                | succ kj50 =>
                 have H := HA.out
                 clear HA
                 simp only [runnelref26_Get.j3] at H
                 by_cases c53 : x102_50 = true
                 ·
                  subst c53
                  have H1 : (if 0 < (x11_37.length : Int) then (if 1 < (x11_37.length : Int) then (if 2 < (x11_37.length : Int) then (if x13_37 = true then (if t476 = 0 then (some ((wrap64 (rd l0 a1)), (rd t468 0), t474, rd x11_37 0, rd x11_37 1, rd x11_37 2, ([] : List (S36)), 0, ([] : List Int), x12_37, 0)) else (some (0, 0, ([] : List (S103)), 0, 0, 0, ([] : List (S36)), 0, ([] : List Int), 0, 6))) else (some (0, 0, ([] : List (S103)), 0, 0, 0, ([] : List (S36)), 0, ([] : List Int), 0, 6))) else (none)) else (none)) else (none)) = some (r1, r2, r3, r4, r5, r6, r7, r8, r9, r10, r11) := by rw [if_pos rfl] at H; exact H
                  clear H
                  have H := H1
                  clear H1
                  by_cases c54 : 0 < (x11_37.length : Int)
                  ·
                   rw [if_pos c54] at H
                   have c54b0 : decide (0 < (x11_37.length : Int)) = true := decide_eq_true c54
                   have c54b1 : decide (0 < x11_37.length) = true := decide_eq_true (by omega)
                   clear c54
                   by_cases c55 : 1 < (x11_37.length : Int)
                   ·
                    rw [if_pos c55] at H
                    have c55b0 : decide (1 < (x11_37.length : Int)) = true := decide_eq_true c55
                    have c55b1 : decide (1 < x11_37.length) = true := decide_eq_true (by omega)
                    clear c55
                    by_cases c56 : 2 < (x11_37.length : Int)
                    ·
                     rw [if_pos c56] at H
                     have c56b0 : decide (2 < (x11_37.length : Int)) = true := decide_eq_true c56
                     have c56b1 : decide (2 < x11_37.length) = true := decide_eq_true (by omega)
                     clear c56
                     have HQ_ := Aside0.mk H
                     clear H
                     try go_wp2
                     have n0_ := Aside0.mk (Kd.R_drew HO_11.out)
                     have n1_ := Aside0.mk (Kd.R_drew HO_462002.out)
                     have n2_ := Aside0.mk (blk_drew BK458.out)
                     have n3_ := Aside0.mk (blk_drew BK461.out)
                     have n4_ := Aside0.mk (below_drew1 HB.out)
                     clear HO_11
                     clear HO_462002
                     clear BK458
                     clear BK461
                     clear HB
                     have HO_11 := n0_
                     have HO_462002 := n1_
                     have BK458 := n2_
                     have BK461 := n3_
                     have HB := n4_
                     clear n0_ n1_ n2_ n3_ n4_
                     obtain ⟨Ao60, co60, eo60⟩ := Kd.R_slice HO_11.out
                     (first | subst eo60 | (injection eo60 with f1_ f2_ f3_; have f4_ := f1_.symm; have f5_ := f3_.symm; clear f1_ f2_ f3_; subst f4_; subst f5_))
                     have p484 : 0 ≤ (0 : Int) := (by omega)
                     have q484 : 0 < (x11_37.length : Int) := of_decide_eq_true (by first | (with_reducible assumption) | assumption)
                     obtain ⟨ad484, e484, hx484_0⟩ := Kd.at_int (Kd.R_reads' HO_11.out).2.2 0 p484 q484
                     cases e484
                     have qi484 : (0 < x11_37.length) = True := eq_true (by omega)
                     (try rw [show ((0 : Int)).toNat = 0 from rfl] at hx484_0)
                     (try rw [Addr.add_zero'] at hx484_0)
                     replace p484 := eq_true p484
                     replace q484 := eq_true q484
                     have p485 : 0 ≤ (1 : Int) := (by omega)
                     have q485 : 1 < (x11_37.length : Int) := of_decide_eq_true (by first | (with_reducible assumption) | assumption)
                     obtain ⟨ad485, e485, hx485_0⟩ := Kd.at_int (Kd.R_reads' HO_11.out).2.2 1 p485 q485
                     obtain rfl : ad484 = ad485 := (by injection e485)
                     (try simp only [show (1 : Int).toNat = 1 from rfl, Nat.reduceMul, Nat.reduceEqDiff, Go.Addr.add, ↓reduceIte] at hx485_0)
                     have qi485 : (1 < x11_37.length) = True := eq_true (by omega)
                     (try rw [show ((1 : Int)).toNat = 1 from rfl] at hx485_0)
                     replace p485 := eq_true p485
                     replace q485 := eq_true q485
                     have p486 : 0 ≤ (2 : Int) := (by omega)
                     have q486 : 2 < (x11_37.length : Int) := of_decide_eq_true (by first | (with_reducible assumption) | assumption)
                     obtain ⟨ad486, e486, hx486_0⟩ := Kd.at_int (Kd.R_reads' HO_11.out).2.2 2 p486 q486
                     obtain rfl : ad484 = ad486 := (by injection e486)
                     (try simp only [show (2 : Int).toNat = 2 from rfl, Nat.reduceMul, Nat.reduceEqDiff, Go.Addr.add, ↓reduceIte] at hx486_0)
                     have qi486 : (2 < x11_37.length) = True := eq_true (by omega)
                     (try rw [show ((2 : Int)).toNat = 2 from rfl] at hx486_0)
                     replace p486 := eq_true p486
                     replace q486 := eq_true q486
                     refine start_ (n := 16) (S := fun w' => w'.cell? ad484 = some (.int .i64 (rd x11_37 0)) ∧ w'.cell? ⟨ad484.block, ad484.off + 1, none⟩ = some (.int .i64 (rd x11_37 1)) ∧ w'.cell? ⟨ad484.block, ad484.off + 2, none⟩ = some (.int .i64 (rd x11_37 2))) (ds := []) #[false, false, false, false, false, false, false, false, false, false, false, false, false, false, false, false] (by kernel_rfl) rfl rfl ⟨hx484_0, hx485_0, hx486_0⟩ (fun hHeld => ?_); refine with_tabW runnelref26_Get.tab24 runnelref26_Get.bits24 (fun HT_ HW_ => ?_)
                     generalize wc.drew = w59 at HO_11 HO_462002 BK458 BK461 HB hx484_0 hx485_0 hx486_0 hHeld ⊢
                     refine pure_ (i := 0) (N := some 103) (v := ?_) (a' := ?_) #[true, false, false, false, false, false, false, false, false, false, false, false, false, false, false, false] rfl rfl (any_of HT_.out (by kernel_rfl)) (fun _ _ _ h => h) (Or.inl ⟨by rfl, ?_⟩) ?_ ?_
                     rotate_left
                     ·
                      intro w'
                      go_simp
                      with_reducible rfl
                     rotate_left
                     ·
                      simp only [Act.put, List.setIfInBounds_toArray, List.set_cons_zero, List.set_cons_succ, i64_w, i32_w]
                      rfl
                     refine pure_ (i := 1) (N := some 104) (v := ?_) (a' := ?_) #[true, true, false, false, false, false, false, false, false, false, false, false, false, false, false, false] rfl rfl (any_of HT_.out (by kernel_rfl)) (fun _ _ _ h => h) (Or.inl ⟨by rfl, ?_⟩) ?_ ?_
                     rotate_left
                     ·
                      intro w'
                      go_simp
                      with_reducible rfl
                     rotate_left
                     ·
                      simp only [Act.put, List.setIfInBounds_toArray, List.set_cons_zero, List.set_cons_succ, i64_w, i32_w]
                      rfl
                     refine pure_ (i := 3) (N := some 106) (v := ?_) (a' := ?_) #[true, true, false, true, false, false, false, false, false, false, false, false, false, false, false, false] rfl rfl (any_of HT_.out (by kernel_rfl)) (fun _ _ _ h => h) (Or.inl ⟨by rfl, ?_⟩) ?_ ?_
                     rotate_left
                     ·
                      intro w'
                      go_simp
                      with_reducible rfl
                     rotate_left
                     ·
                      simp only [Act.put, List.setIfInBounds_toArray, List.set_cons_zero, List.set_cons_succ, i64_w, i32_w]
                      rfl
                     refine pure_ (i := 4) (N := some 107) (v := ?_) (a' := ?_) #[true, true, false, true, true, false, false, false, false, false, false, false, false, false, false, false] rfl rfl (any_of HT_.out (by kernel_rfl)) (fun _ _ _ h => h) (Or.inl ⟨by rfl, ?_⟩) ?_ ?_
                     rotate_left
                     ·
                      intro w'
                      go_simp
                      with_reducible rfl
                     rotate_left
                     ·
                      simp only [Act.put, List.setIfInBounds_toArray, List.set_cons_zero, List.set_cons_succ, i64_w, i32_w]
                      rfl
                     refine pure_ (i := 7) (N := some 110) (v := ?_) (a' := ?_) #[true, true, false, true, true, false, false, true, false, false, false, false, false, false, false, false] rfl rfl (any_of HT_.out (by kernel_rfl)) (fun _ _ _ h => h) (Or.inl ⟨by rfl, ?_⟩) ?_ ?_
                     rotate_left
                     ·
                      intro w'
                      go_simp
                      with_reducible rfl
                     rotate_left
                     ·
                      simp only [Act.put, List.setIfInBounds_toArray, List.set_cons_zero, List.set_cons_succ, i64_w, i32_w]
                      rfl
                     refine pure_ (i := 8) (N := some 111) (v := ?_) (a' := ?_) #[true, true, false, true, true, false, false, true, true, false, false, false, false, false, false, false] rfl rfl (any_of HT_.out (by kernel_rfl)) (fun _ _ _ h => h) (Or.inl ⟨by rfl, ?_⟩) ?_ ?_
                     rotate_left
                     ·
                      intro w'
                      go_simp
                      with_reducible rfl
                     rotate_left
                     ·
                      simp only [Act.put, List.setIfInBounds_toArray, List.set_cons_zero, List.set_cons_succ, i64_w, i32_w]
                      rfl
                     refine take_ (i := 2) (N := some 105) (v := ?_) (a' := ?_) #[true, true, true, true, true, false, false, true, true, false, false, false, false, false, false, false] rfl rfl (take_ofW HT_.out HW_.out (by kernel_rfl)) (fun _ _ _ h => h) (Or.inl ⟨by rfl, ?_⟩) hHeld ?_ ?_
                     rotate_left
                     ·
                      rintro w' ⟨s0, s1, s2⟩
                      go_simp
                      with_reducible rfl
                     rotate_left
                     ·
                      simp only [Act.put, List.setIfInBounds_toArray, List.set_cons_zero, List.set_cons_succ, i64_w, i32_w]
                      rfl
                     refine take_ (i := 5) (N := some 108) (v := ?_) (a' := ?_) #[true, true, true, true, true, true, false, true, true, false, false, false, false, false, false, false] rfl rfl (take_ofW HT_.out HW_.out (by kernel_rfl)) (fun _ _ _ h => h) (Or.inl ⟨by rfl, ?_⟩) hHeld ?_ ?_
                     rotate_left
                     ·
                      rintro w' ⟨s0, s1, s2⟩
                      go_simp
                      with_reducible rfl
                     rotate_left
                     ·
                      simp only [Act.put, List.setIfInBounds_toArray, List.set_cons_zero, List.set_cons_succ, i64_w, i32_w]
                      rfl
                     refine pure_ (i := 6) (N := some 109) (v := ?_) (a' := ?_) #[true, true, true, true, true, true, true, true, true, false, false, false, false, false, false, false] rfl rfl (any_of HT_.out (by kernel_rfl)) (fun _ _ _ h => h) (Or.inl ⟨by rfl, ?_⟩) ?_ ?_
                     rotate_left
                     ·
                      intro w'
                      go_simp
                      with_reducible rfl
                     rotate_left
                     ·
                      simp only [Act.put, List.setIfInBounds_toArray, List.set_cons_zero, List.set_cons_succ, i64_w, i32_w]
                      rfl
                     refine pure_ (i := 10) (N := some 113) (v := ?_) (a' := ?_) #[true, true, true, true, true, true, true, true, true, false, true, false, false, false, false, false] rfl rfl (any_of HT_.out (by kernel_rfl)) (fun _ _ _ h => h) (Or.inl ⟨by rfl, ?_⟩) ?_ ?_
                     rotate_left
                     ·
                      intro w'
                      go_simp
                      with_reducible rfl
                     rotate_left
                     ·
                      simp only [Act.put, List.setIfInBounds_toArray, List.set_cons_zero, List.set_cons_succ, i64_w, i32_w]
                      rfl
                     refine pure_ (i := 11) (N := some 114) (v := ?_) (a' := ?_) #[true, true, true, true, true, true, true, true, true, false, true, true, false, false, false, false] rfl rfl (any_of HT_.out (by kernel_rfl)) (fun _ _ _ h => h) (Or.inl ⟨by rfl, ?_⟩) ?_ ?_
                     rotate_left
                     ·
                      intro w'
                      go_simp
                      with_reducible rfl
                     rotate_left
                     ·
                      simp only [Act.put, List.setIfInBounds_toArray, List.set_cons_zero, List.set_cons_succ, i64_w, i32_w]
                      rfl
                     refine take_ (i := 9) (N := some 112) (v := ?_) (a' := ?_) #[true, true, true, true, true, true, true, true, true, true, true, true, false, false, false, false] rfl rfl (take_ofW HT_.out HW_.out (by kernel_rfl)) (fun _ _ _ h => h) (Or.inl ⟨by rfl, ?_⟩) hHeld ?_ ?_
                     rotate_left
                     ·
                      rintro w' ⟨s0, s1, s2⟩
                      go_simp
                      with_reducible rfl
                     rotate_left
                     ·
                      simp only [Act.put, List.setIfInBounds_toArray, List.set_cons_zero, List.set_cons_succ, i64_w, i32_w]
                      rfl
                     refine one_ (i := 12) (N := none) #[true, true, true, true, true, true, true, true, true, true, true, true, true, false, false, false] rfl rfl (one_of HT_.out (by kernel_rfl)) (by decide) (fun K hK => ?_)
                     have hs61 : w59.cell? ⟨gb461, 3, none⟩ = some (.int .i64 0) := (blk_cell BK461.out 3).trans rfl
                     have hfs61 := blk_frozen BK461.out 3
                     have hns61_0 := NB458_461.out
                     have hms61_0 := NB461_458.out
                     have hs62 : w59.cell? ⟨gb461, 4, none⟩ = some (.int .i64 0) := (blk_cell BK461.out 4).trans rfl
                     have hfs62 := blk_frozen BK461.out 4
                     have hns62_0 := NB458_461.out
                     have hms62_0 := NB461_458.out
                     refine skip_ (w1 := ?_) (by rfl) rfl ?_ ?_
                     rotate_left
                     ·
                      go_simp
                      rfl
                     refine hK.out _ _ ⟨(cf (obq2 (Kd.R_ne HO_11.out BK461.out (by decide))) ((cf (obq2 (Kd.R_ne HO_11.out BK461.out (by decide))) (hHeld.1)))), (cf (obq2 (Kd.R_ne HO_11.out BK461.out (by decide))) ((cf (obq2 (Kd.R_ne HO_11.out BK461.out (by decide))) (hHeld.2.1)))), (cf (obq2 (Kd.R_ne HO_11.out BK461.out (by decide))) ((cf (obq2 (Kd.R_ne HO_11.out BK461.out (by decide))) (hHeld.2.2))))⟩ (fun hHeld => ?_)
                     clear hK K
                     refine pure_ (i := 13) (N := some 115) (v := ?_) (a' := ?_) #[true, true, true, true, true, true, true, true, true, true, true, true, true, true, false, false] rfl rfl (any_of HT_.out (by kernel_rfl)) (fun _ _ _ h => h) (Or.inl ⟨by rfl, ?_⟩) ?_ ?_
                     rotate_left
                     ·
                      intro w'
                      go_simp
                      with_reducible rfl
                     rotate_left
                     ·
                      simp only [Act.put, List.setIfInBounds_toArray, List.set_cons_zero, List.set_cons_succ, i64_w, i32_w]
                      rfl
                     refine pure_ (i := 14) (N := some 116) (v := ?_) (a' := ?_) #[true, true, true, true, true, true, true, true, true, true, true, true, true, true, true, false] rfl rfl (any_of HT_.out (by kernel_rfl)) (fun _ _ _ h => h) (Or.inl ⟨by rfl, ?_⟩) ?_ ?_
                     rotate_left
                     ·
                      intro w'
                      go_simp
                      with_reducible rfl
                     rotate_left
                     ·
                      simp only [Act.put, List.setIfInBounds_toArray, List.set_cons_zero, List.set_cons_succ, i64_w, i32_w]
                      rfl
                     refine one_ (i := 15) (N := none) #[true, true, true, true, true, true, true, true, true, true, true, true, true, true, true, true] rfl rfl (one_of HT_.out (by kernel_rfl)) (by decide) (fun K hK => ?_)
                     have hs63 : w59.cell? ⟨gb461, 5, none⟩ = some (.int .i64 0) := (blk_cell BK461.out 5).trans rfl
                     have hfs63 := blk_frozen BK461.out 5
                     have hns63_0 := NB458_461.out
                     have hms63_0 := NB461_458.out
                     refine skip_ (w1 := ?_) (by rfl) rfl ?_ ?_
                     rotate_left
                     ·
                      go_simp
                      rfl
                     refine hK.out _ _ ⟨(cf (obq2 (Kd.R_ne HO_11.out BK461.out (by decide))) (hHeld.1)), (cf (obq2 (Kd.R_ne HO_11.out BK461.out (by decide))) (hHeld.2.1)), (cf (obq2 (Kd.R_ne HO_11.out BK461.out (by decide))) (hHeld.2.2))⟩ (fun hHeld => ?_)
                     clear hK K
                     refine done_ (done_of HT_.out (by kernel_rfl)) ?_
                     have H := HQ_.out
                     clear HQ_
                     by_cases c57 : x13_37 = true
                     ·
                      subst c57
                      have H1 : (if t476 = 0 then (some ((wrap64 (rd l0 a1)), (rd t468 0), t474, rd x11_37 0, rd x11_37 1, rd x11_37 2, ([] : List (S36)), 0, ([] : List Int), x12_37, 0)) else (some (0, 0, ([] : List (S103)), 0, 0, 0, ([] : List (S36)), 0, ([] : List Int), 0, 6))) = some (r1, r2, r3, r4, r5, r6, r7, r8, r9, r10, r11) := by rw [if_pos rfl] at H; exact H
                      clear H
                      have H := H1
                      clear H1
                      by_cases c58 : t476 = 0
                      ·
                       rw [if_pos c58] at H
                       have c58b0 : (t476 == 0) = true := beq_iff_eq.mpr c58
                       have c58b1 : (t476 != 0) = false := bne_eq_false_iff_eq.mpr c58
                       clear c58
                       simp only [Option.some.injEq, Prod.mk.injEq] at H
                       obtain ⟨rfl, rfl, rfl, rfl, rfl, rfl, rfl, rfl, rfl, rfl, rfl⟩ := H
                       have hnb64 := NB461_458.out
                       have hnc64 := NB458_461.out
                       obtain ⟨hcz65_0, hcz65_1, hcz65_2, hcz65_3, hcz65_4, hcz65_5, hcz65_6, hcz65_7, hcz65_8⟩ := cells9 BK461.out
                       obtain ⟨hfz65_0, hfz65_1, hfz65_2, hfz65_3, hfz65_4, hfz65_5, hfz65_6, hfz65_7, hfz65_8⟩ := frz9 BK461.out
                       obtain ⟨hcz66_0, hcz66_1, hcz66_2, hcz66_3, hcz66_4, hcz66_5, hcz66_6, hcz66_7, hcz66_8⟩ := cells9 BK458.out
                       obtain ⟨hfz66_0, hfz66_1, hfz66_2, hfz66_3, hfz66_4, hfz66_5, hfz66_6, hfz66_7, hfz66_8⟩ := frz9 BK458.out
                       try go_wp2
                       refine bodyPost_ret (results_ctt rfl _ _ gb458 40 #[.int .i64 (wrap64 (rd l0 a1)), .int .i64 (rd t468 0), .slice Ao46 t474.length co46, .int .i64 (rd x11_37 0), .int .i64 (rd x11_37 1), .int .i64 (rd x11_37 2), .slice none 0 0, .int .i64 0, .slice none 0 0] (0, 0) _ rfl bk Try.underlying40 rfl (by kernel_rfl)) rfl ?_
                       exact ⟨_, _, _, erq, by (with_reducible repeat (first | apply Kd.R_alloc | apply Kd.R_drewN | apply Kd.R_drew)); exact Kd.R_mono (Kd.R_far (p := ⟨gb458, 8, none⟩) (Kd.R_far (p := ⟨gb458, 7, none⟩) (Kd.R_far (p := ⟨gb458, 6, none⟩) (Kd.R_far (p := ⟨gb458, 5, none⟩) (Kd.R_far (p := ⟨gb458, 4, none⟩) (Kd.R_far (p := ⟨gb458, 3, none⟩) (Kd.R_far (p := ⟨gb458, 2, none⟩) (Kd.R_far (p := ⟨gb458, 1, none⟩) (Kd.R_far (p := ⟨gb458, 0, none⟩) (Kd.R_far (p := ⟨gb461, 5, none⟩) (Kd.R_far (p := ⟨gb461, 4, none⟩) (Kd.R_far (p := ⟨gb461, 3, none⟩) (Kd.R_types (Kd.R_types HO_462002.out BK461.out (by decide)) BK458.out (by decide)) (fun _ hk => hk.1.2) (.int .i64 (rd x11_37 0))) (fun _ hk => hk.1.2) (.int .i64 (rd x11_37 1))) (fun _ hk => hk.1.2) (.int .i64 (rd x11_37 2))) (fun _ hk => hk.2) (.int .i64 (wrap64 (rd l0 a1)))) (fun _ hk => hk.2) (.int .i64 (rd t468 0))) (fun _ hk => hk.2) (.slice Ao46 t474.length co46)) (fun _ hk => hk.2) (.int .i64 (rd x11_37 0))) (fun _ hk => hk.2) (.int .i64 (rd x11_37 1))) (fun _ hk => hk.2) (.int .i64 (rd x11_37 2))) (fun _ hk => hk.2) (.slice none 0 0)) (fun _ hk => hk.2) (.int .i64 0)) (fun _ hk => hk.2) (.slice none 0 0)) (fun _ hk => hk.1.1), nlq, nlq, by repeat (first | (with_reducible first | exact HB.out | apply below_alloc | apply pw_below_drewN | apply below_drew1 | refine below_set ?_ GE458.out | refine below_set ?_ GE461.out) | exact HB.out)⟩
                      ·
                       rw [if_neg c58] at H
                       have c58b0 : (t476 == 0) = false := beq_eq_false_iff_ne.mpr c58
                       have c58b1 : (t476 != 0) = true := bne_iff_ne.mpr c58
                       simp only [Option.some.injEq, Prod.mk.injEq] at H
                       obtain ⟨rfl, rfl, rfl, rfl, rfl, rfl, rfl, rfl, rfl, rfl, rfl⟩ := H
                       have hnb72 := NB458_461.out
                       have hnc72 := NB461_458.out
                       obtain ⟨hcz73_0, hcz73_1, hcz73_2, hcz73_3, hcz73_4, hcz73_5, hcz73_6, hcz73_7, hcz73_8⟩ := cells9 BK458.out
                       obtain ⟨hfz73_0, hfz73_1, hfz73_2, hfz73_3, hfz73_4, hfz73_5, hfz73_6, hfz73_7, hfz73_8⟩ := frz9 BK458.out
                       try go_wp2
                       refine bodyPost_ret (results_ctt rfl _ _ gb458 40 #[.int .i64 0, .int .i64 0, .slice none 0 0, .int .i64 0, .int .i64 0, .int .i64 0, .slice none 0 0, .int .i64 0, .slice none 0 0] (0, 0) _ rfl bk Try.underlying40 rfl (by kernel_rfl)) rfl ?_
                       exact ⟨_, _, _, erq, nlq, nlq, nlq, by repeat (first | (with_reducible first | exact HB.out | apply below_alloc | apply pw_below_drewN | apply below_drew1 | refine below_set ?_ GE458.out | refine below_set ?_ GE461.out) | exact HB.out)⟩
                     ·
                      replace c57 := Bool.eq_false_iff.mpr c57
                      subst c57
                      have H1 : (some (0, 0, ([] : List (S103)), 0, 0, 0, ([] : List (S36)), 0, ([] : List Int), 0, 6)) = some (r1, r2, r3, r4, r5, r6, r7, r8, r9, r10, r11) := by rw [if_neg (show ¬ (false = true) by decide)] at H; exact H
                      clear H
                      have H := H1
                      clear H1
                      simp only [Option.some.injEq, Prod.mk.injEq] at H
                      obtain ⟨rfl, rfl, rfl, rfl, rfl, rfl, rfl, rfl, rfl, rfl, rfl⟩ := H
                      have hnb79 := NB458_461.out
                      have hnc79 := NB461_458.out
                      obtain ⟨hcz80_0, hcz80_1, hcz80_2, hcz80_3, hcz80_4, hcz80_5, hcz80_6, hcz80_7, hcz80_8⟩ := cells9 BK458.out
                      obtain ⟨hfz80_0, hfz80_1, hfz80_2, hfz80_3, hfz80_4, hfz80_5, hfz80_6, hfz80_7, hfz80_8⟩ := frz9 BK458.out
                      try go_wp2
                      refine bodyPost_ret (results_ctt rfl _ _ gb458 40 #[.int .i64 0, .int .i64 0, .slice none 0 0, .int .i64 0, .int .i64 0, .int .i64 0, .slice none 0 0, .int .i64 0, .slice none 0 0] (0, 0) _ rfl bk Try.underlying40 rfl (by kernel_rfl)) rfl ?_
                      exact ⟨_, _, _, erq, nlq, nlq, nlq, by repeat (first | (with_reducible first | exact HB.out | apply below_alloc | apply pw_below_drewN | apply below_drew1 | refine below_set ?_ GE458.out | refine below_set ?_ GE461.out) | exact HB.out)⟩
                    ·
                     rw [if_neg c56] at H
                     exact absurd H (by simp)
                   ·
                    rw [if_neg c55] at H
                    exact absurd H (by simp)
                  ·
                   rw [if_neg c54] at H
                   exact absurd H (by simp)
                 ·
                  replace c53 := Bool.eq_false_iff.mpr c53
                  subst c53
                  have H1 : (if x13_37 = true then (if t476 = 0 then (some ((wrap64 (rd l0 a1)), (rd t468 0), t474, 0, 0, 0, ([] : List (S36)), 0, ([] : List Int), x12_37, 0)) else (some (0, 0, ([] : List (S103)), 0, 0, 0, ([] : List (S36)), 0, ([] : List Int), 0, 6))) else (some (0, 0, ([] : List (S103)), 0, 0, 0, ([] : List (S36)), 0, ([] : List Int), 0, 6))) = some (r1, r2, r3, r4, r5, r6, r7, r8, r9, r10, r11) := by rw [if_neg (show ¬ (false = true) by decide)] at H; exact H
                  clear H
                  have H := H1
                  clear H1
                  by_cases c81 : x13_37 = true
                  ·
                   subst c81
                   have H1 : (if t476 = 0 then (some ((wrap64 (rd l0 a1)), (rd t468 0), t474, 0, 0, 0, ([] : List (S36)), 0, ([] : List Int), x12_37, 0)) else (some (0, 0, ([] : List (S103)), 0, 0, 0, ([] : List (S36)), 0, ([] : List Int), 0, 6))) = some (r1, r2, r3, r4, r5, r6, r7, r8, r9, r10, r11) := by rw [if_pos rfl] at H; exact H
                   clear H
                   have H := H1
                   clear H1
                   by_cases c82 : t476 = 0
                   ·
                    rw [if_pos c82] at H
                    have c82b0 : (t476 == 0) = true := beq_iff_eq.mpr c82
                    have c82b1 : (t476 != 0) = false := bne_eq_false_iff_eq.mpr c82
                    clear c82
                    simp only [Option.some.injEq, Prod.mk.injEq] at H
                    obtain ⟨rfl, rfl, rfl, rfl, rfl, rfl, rfl, rfl, rfl, rfl, rfl⟩ := H
                    have hnb83 := NB461_458.out
                    have hnc83 := NB458_461.out
                    obtain ⟨hcz84_0, hcz84_1, hcz84_2, hcz84_3, hcz84_4, hcz84_5, hcz84_6, hcz84_7, hcz84_8⟩ := cells9 BK461.out
                    obtain ⟨hfz84_0, hfz84_1, hfz84_2, hfz84_3, hfz84_4, hfz84_5, hfz84_6, hfz84_7, hfz84_8⟩ := frz9 BK461.out
                    obtain ⟨hcz85_0, hcz85_1, hcz85_2, hcz85_3, hcz85_4, hcz85_5, hcz85_6, hcz85_7, hcz85_8⟩ := cells9 BK458.out
                    obtain ⟨hfz85_0, hfz85_1, hfz85_2, hfz85_3, hfz85_4, hfz85_5, hfz85_6, hfz85_7, hfz85_8⟩ := frz9 BK458.out
                    go_wp2
                    refine bodyPost_ret (results_ctt rfl _ _ gb458 40 #[.int .i64 (wrap64 (rd l0 a1)), .int .i64 (rd t468 0), .slice Ao46 t474.length co46, .int .i64 0, .int .i64 0, .int .i64 0, .slice none 0 0, .int .i64 0, .slice none 0 0] (0, 0) _ rfl bk Try.underlying40 rfl (by kernel_rfl)) rfl ?_
                    exact ⟨_, _, _, erq, by (with_reducible repeat (first | apply Kd.R_alloc | apply Kd.R_drewN | apply Kd.R_drew)); exact Kd.R_mono (Kd.R_far (p := ⟨gb458, 8, none⟩) (Kd.R_far (p := ⟨gb458, 7, none⟩) (Kd.R_far (p := ⟨gb458, 6, none⟩) (Kd.R_far (p := ⟨gb458, 5, none⟩) (Kd.R_far (p := ⟨gb458, 4, none⟩) (Kd.R_far (p := ⟨gb458, 3, none⟩) (Kd.R_far (p := ⟨gb458, 2, none⟩) (Kd.R_far (p := ⟨gb458, 1, none⟩) (Kd.R_far (p := ⟨gb458, 0, none⟩) (Kd.R_types HO_462002.out BK458.out (by decide)) (fun _ hk => hk.2) (.int .i64 (wrap64 (rd l0 a1)))) (fun _ hk => hk.2) (.int .i64 (rd t468 0))) (fun _ hk => hk.2) (.slice Ao46 t474.length co46)) (fun _ hk => hk.2) (.int .i64 0)) (fun _ hk => hk.2) (.int .i64 0)) (fun _ hk => hk.2) (.int .i64 0)) (fun _ hk => hk.2) (.slice none 0 0)) (fun _ hk => hk.2) (.int .i64 0)) (fun _ hk => hk.2) (.slice none 0 0)) (fun _ hk => hk.1), nlq, nlq, by repeat (first | (with_reducible first | exact HB.out | apply below_alloc | apply pw_below_drewN | apply below_drew1 | refine below_set ?_ GE458.out | refine below_set ?_ GE461.out) | exact HB.out)⟩
                   ·
                    rw [if_neg c82] at H
                    have c82b0 : (t476 == 0) = false := beq_eq_false_iff_ne.mpr c82
                    have c82b1 : (t476 != 0) = true := bne_iff_ne.mpr c82
                    simp only [Option.some.injEq, Prod.mk.injEq] at H
                    obtain ⟨rfl, rfl, rfl, rfl, rfl, rfl, rfl, rfl, rfl, rfl, rfl⟩ := H
                    have hnb86 := NB458_461.out
                    have hnc86 := NB461_458.out
                    obtain ⟨hcz87_0, hcz87_1, hcz87_2, hcz87_3, hcz87_4, hcz87_5, hcz87_6, hcz87_7, hcz87_8⟩ := cells9 BK458.out
                    obtain ⟨hfz87_0, hfz87_1, hfz87_2, hfz87_3, hfz87_4, hfz87_5, hfz87_6, hfz87_7, hfz87_8⟩ := frz9 BK458.out
                    go_wp2
                    refine bodyPost_ret (results_ctt rfl _ _ gb458 40 #[.int .i64 0, .int .i64 0, .slice none 0 0, .int .i64 0, .int .i64 0, .int .i64 0, .slice none 0 0, .int .i64 0, .slice none 0 0] (0, 0) _ rfl bk Try.underlying40 rfl (by kernel_rfl)) rfl ?_
                    exact ⟨_, _, _, erq, nlq, nlq, nlq, by repeat (first | (with_reducible first | exact HB.out | apply below_alloc | apply pw_below_drewN | apply below_drew1 | refine below_set ?_ GE458.out | refine below_set ?_ GE461.out) | exact HB.out)⟩
                  ·
                   replace c81 := Bool.eq_false_iff.mpr c81
                   subst c81
                   have H1 : (some (0, 0, ([] : List (S103)), 0, 0, 0, ([] : List (S36)), 0, ([] : List Int), 0, 6)) = some (r1, r2, r3, r4, r5, r6, r7, r8, r9, r10, r11) := by rw [if_neg (show ¬ (false = true) by decide)] at H; exact H
                   clear H
                   have H := H1
                   clear H1
                   simp only [Option.some.injEq, Prod.mk.injEq] at H
                   obtain ⟨rfl, rfl, rfl, rfl, rfl, rfl, rfl, rfl, rfl, rfl, rfl⟩ := H
                   have hnb88 := NB458_461.out
                   have hnc88 := NB461_458.out
                   obtain ⟨hcz89_0, hcz89_1, hcz89_2, hcz89_3, hcz89_4, hcz89_5, hcz89_6, hcz89_7, hcz89_8⟩ := cells9 BK458.out
                   obtain ⟨hfz89_0, hfz89_1, hfz89_2, hfz89_3, hfz89_4, hfz89_5, hfz89_6, hfz89_7, hfz89_8⟩ := frz9 BK458.out
                   go_wp2
                   refine bodyPost_ret (results_ctt rfl _ _ gb458 40 #[.int .i64 0, .int .i64 0, .slice none 0 0, .int .i64 0, .int .i64 0, .int .i64 0, .slice none 0 0, .int .i64 0, .slice none 0 0] (0, 0) _ rfl bk Try.underlying40 rfl (by kernel_rfl)) rfl ?_
                   exact ⟨_, _, _, erq, nlq, nlq, nlq, by repeat (first | (with_reducible first | exact HB.out | apply below_alloc | apply pw_below_drewN | apply below_drew1 | refine below_set ?_ GE458.out | refine below_set ?_ GE461.out) | exact HB.out)⟩
            ·
             rw [if_neg c36] at H
             have c36b0 : ((wrap64 (rd l0 a1)) == 1) = false := beq_eq_false_iff_ne.mpr c36
             have c36b1 : ((wrap64 (rd l0 a1)) != 1) = true := bne_iff_ne.mpr c36
             have HC90 := Aside0.mk H
             clear H
             have p460 : 0 ≤ (a1 : Int) := of_decide_eq_true (by first | (with_reducible assumption) | assumption)
             have q460 : a1 < (l0.length : Int) := of_decide_eq_true (by first | (with_reducible assumption) | assumption)
             obtain ⟨ad460, e460, hx460_0⟩ := Kd.at_int HR0.out a1 p460 q460
             cases e460
             replace hx460_0 := bc HB.out hx460_0
             replace p460 := eq_true p460
             replace q460 := eq_true q460
             go_upto_if 117 with (first | ((with_reducible refine gate_dst (N := 7) rfl ?_); (try (refine gate_guard (by rfl) ?_; dsimp only)); refine box_event ?hg (N := 7) ?hd (cs := #[.int .i64 0, .int .i64 0, .slice none 0 0, .int .i64 0, .int .i64 0, .int .i64 0, .slice none 0 0, .int .i64 0, .slice none 0 0]) (t := 40) ?hr ?_; (case hd => rfl); (case hg => rfl); (case hr => first | (go_simp; done) | (go_simp; rfl)); intro gb461 hg w91 hbox hb; have n0_ := Aside0.mk (blk_below (g := gb458) (o := .cells #[.int .i64 0, .int .i64 0, .slice none 0 0, .int .i64 0, .int .i64 0, .int .i64 0, .slice none 0 0, .int .i64 0, .slice none 0 0] 40 (0, 0)) bk hb); have n1_ := Aside0.mk (below_step bl hb); have n2_ := Aside0.mk (hbox); have n3_ := Aside0.mk ((by rw [hg]; exact (below_size bl) : w.heap.size ≤ gb461)); have n4_ := Aside0.mk ((by rw [hg]; exact (below_size bl) : w.heap.size ≤ gb461)); have n5_ := Aside0.mk ((by rw [hg]; exact Nat.ne_of_lt blt : gb458 ≠ gb461)); have n6_ := Aside0.mk ((by rw [hg]; exact Nat.ne_of_gt blt : gb461 ≠ gb458)); clear BK458; clear HB; have BK458 := n0_; have HB := n1_; have BK461 := n2_; have GW461 := n3_; have GE461 := n4_; have NB458_461 := n5_; have NB461_458 := n6_; clear n0_ n1_ n2_ n3_ n4_ n5_ n6_; clear hb hbox hg; have hnb92 := NB461_458.out; have hnc92 := NB458_461.out; obtain ⟨hcz93_0, hcz93_1, hcz93_2, hcz93_3, hcz93_4, hcz93_5, hcz93_6, hcz93_7, hcz93_8⟩ := cells9 BK461.out; have hfz93_0 := blk_frozen BK461.out 0; have hfz93_1 := blk_frozen BK461.out 1; have hfz93_2 := blk_frozen BK461.out 2; have hfz93_3 := blk_frozen BK461.out 3; have hfz93_4 := blk_frozen BK461.out 4; have hfz93_5 := blk_frozen BK461.out 5; have hfz93_6 := blk_frozen BK461.out 6; have hfz93_7 := blk_frozen BK461.out 7; have hfz93_8 := blk_frozen BK461.out 8) | ((with_reducible refine gate_callee (f := 42) rfl ?_); refine goesL_ (some 65) rfl rfl Try.func42 (by kernel_rfl) rfl #[.slice (some ad460) l0.length c0, .int .i64 (wrap64 (a1 + 1)), .int .i64 1] rfl mpq ?_; (with_reducible refine (runnelref26_numbers.calls kj7 _ _ l0 (wrap64 (a1 + 1)) 1 t468 t469 true _ ?side1 ?side2 A33.out).mono ?_); (case side1 => exact Kd.C_below HR0.out bl); (case side2 => exact HC0.out); rintro e w94 ⟨v471, rfl, ho0, hb⟩; refine ⟨_, rfl, ?_⟩; have n0_ := Aside0.mk (Kd.R_lower (Kd.R_newM (M := fun k_ => (w.heap.size ≤ k_)) ho0 (below_size bl) (fun k_ h_ => h_)) (below_size bl)); have n1_ := Aside0.mk (blk_below (g := gb458) (o := .cells #[.int .i64 0, .int .i64 0, .slice none 0 0, .int .i64 0, .int .i64 0, .int .i64 0, .slice none 0 0, .int .i64 0, .slice none 0 0] 40 (0, 0)) bk hb); have n2_ := Aside0.mk (blk_below (g := gb461) (o := .cells #[.int .i64 (wrap64 (rd l0 a1)), .int .i64 0, .slice none 0 0, .int .i64 0, .int .i64 0, .int .i64 0, .slice none 0 0, .int .i64 0, .slice none 0 0] 40 (0, 0)) bk hb); have n3_ := Aside0.mk (below_step bl hb); clear BK458; clear BK461; clear HB; have HO472 := n0_; have BK458 := n1_; have BK461 := n2_; have HB := n3_; clear n0_ n1_ n2_ n3_; (try clear hb); (try clear hb2); (try clear hk); (try clear hi); (try clear ho0); obtain ⟨Ao95, co95, eo95⟩ := Kd.R_slice HO472.out; subst eo95; have p473 : 0 ≤ (0 : Int) := (by omega); have q473 : 0 < (t468.length : Int) := of_decide_eq_true (by first | (with_reducible assumption) | assumption); obtain ⟨ad473, e473, hx473_0⟩ := Kd.at_int (Kd.R_reads' HO472.out).2.2 0 p473 q473; cases e473; have qi473 : (0 < t468.length) = True := eq_true (by omega); (try rw [show ((0 : Int)).toNat = 0 from rfl] at hx473_0); (try rw [Addr.add_zero'] at hx473_0); replace p473 := eq_true p473; replace q473 := eq_true q473; obtain ⟨hcz96_0, hcz96_1, hcz96_2, hcz96_3, hcz96_4, hcz96_5, hcz96_6, hcz96_7, hcz96_8⟩ := cells9 BK461.out; obtain ⟨hfz96_0, hfz96_1, hfz96_2, hfz96_3, hfz96_4, hfz96_5, hfz96_6, hfz96_7, hfz96_8⟩ := frz9 BK461.out))
             (try simp only [Act.put, List.setIfInBounds_toArray, List.set_cons_zero, List.set_cons_succ])
             go_cut [117] (fun v117 wc => ∃ (kq : Nat) (x117_89 : Bool), v117 = .bool x117_89 ∧ Aside0 (runnelref26_Get.j4 kq l0 t469 true 0 (wrap64 (rd l0 a1)) x117_89 (wrap64 (rd l0 a1)) (rd t468 0) 0 0 0 0 = some (r1, r2, r3, r4, r5, r6, r7, r8, r9, r10, r11)) ∧ Aside0 (kq ≤ kj7) ∧ Aside0 (wc.heap[gb458]? = some (.cells #[.int .i64 0, .int .i64 0, (.slice none 0 0), .int .i64 0, .int .i64 0, .int .i64 0, (.slice none 0 0), .int .i64 0, (.slice none 0 0)] 40 (0, 0))) ∧ Aside0 (wc.heap[gb461]? = some (.cells #[.int .i64 (wrap64 (rd l0 a1)), .int .i64 (rd t468 0), (.slice none 0 0), .int .i64 0, .int .i64 0, .int .i64 0, (.slice none 0 0), .int .i64 0, (.slice none 0 0)] 40 (0, 0))) ∧ Aside0 (Below w.heap.size w wc))
             case first =>
              have H := HC90.out
              clear HC90
              by_cases c97 : (wrap64 (rd l0 a1)) = 2
              ·
               rw [if_pos c97] at H
               have c97b0 : ((wrap64 (rd l0 a1)) == 2) = true := beq_iff_eq.mpr c97
               have c97b1 : ((wrap64 (rd l0 a1)) != 2) = false := bne_eq_false_iff_eq.mpr c97
               clear c97
               (first | rw [c97b0] | (simp only [i64_w, i32_w]; rw [c97b0]) | skip)
               have H' := Aside0.mk H
               clear H
               go_wp2
               go_meet
               case rel => exact ⟨_, (((wrap64 (rd l0 a1)) == 2)), (by first | rfl | (simp; done) | (simp [*]; done)), H', ⟨by have := HJ2.out; have := HJ7.out; first | omega | exact Nat.le_refl _⟩, ⟨by (with_reducible repeat (first | refine blk_drewN ?_ _ | refine blk_drew ?_ | refine blk_alloc ?_ _)); refine blk_far ?_ NB458_461.out _; (with_reducible repeat (first | refine blk_drewN ?_ _ | refine blk_drew ?_ | refine blk_alloc ?_ _)); exact BK458.out⟩, ⟨by (with_reducible repeat (first | refine blk_drewN ?_ _ | refine blk_drew ?_ | refine blk_alloc ?_ _)); refine blk_put (cs := #[.int .i64 (wrap64 (rd l0 a1)), .int .i64 0, .slice none 0 0, .int .i64 0, .int .i64 0, .int .i64 0, .slice none 0 0, .int .i64 0, .slice none 0 0]) ?_ 1 _ rfl; (with_reducible repeat (first | refine blk_drewN ?_ _ | refine blk_drew ?_ | refine blk_alloc ?_ _)); exact BK461.out⟩, ⟨bl⟩⟩
              ·
               rw [if_neg c97] at H
               have c97b0 : ((wrap64 (rd l0 a1)) == 2) = false := beq_eq_false_iff_ne.mpr c97
               have c97b1 : ((wrap64 (rd l0 a1)) != 2) = true := bne_iff_ne.mpr c97
               (first | rw [c97b0] | (simp only [i64_w, i32_w]; rw [c97b0]) | skip)
               have H' := Aside0.mk H
               clear H
               go_wp2
               go_meet
               case rel => exact ⟨_, (((wrap64 (rd l0 a1)) == 4)), (by first | rfl | (simp; done) | (simp [*]; done)), H', ⟨by have := HJ2.out; have := HJ7.out; first | omega | exact Nat.le_refl _⟩, ⟨by (with_reducible repeat (first | refine blk_drewN ?_ _ | refine blk_drew ?_ | refine blk_alloc ?_ _)); refine blk_far ?_ NB458_461.out _; (with_reducible repeat (first | refine blk_drewN ?_ _ | refine blk_drew ?_ | refine blk_alloc ?_ _)); exact BK458.out⟩, ⟨by (with_reducible repeat (first | refine blk_drewN ?_ _ | refine blk_drew ?_ | refine blk_alloc ?_ _)); refine blk_put (cs := #[.int .i64 (wrap64 (rd l0 a1)), .int .i64 0, .slice none 0 0, .int .i64 0, .int .i64 0, .int .i64 0, .slice none 0 0, .int .i64 0, .slice none 0 0]) ?_ 1 _ rfl; (with_reducible repeat (first | refine blk_drewN ?_ _ | refine blk_drew ?_ | refine blk_alloc ?_ _)); exact BK461.out⟩, ⟨bl⟩⟩
             case rest =>
              clear HC90
              (try clear c36); (try clear c36b0); (try clear c36b1); (try clear hcz93_0); (try clear hcz93_1); (try clear hcz93_2); (try clear hcz93_3); (try clear hcz93_4); (try clear hcz93_5); (try clear hcz93_6); (try clear hcz93_7); (try clear hcz93_8); (try clear hcz96_0); (try clear hcz96_1); (try clear hcz96_2); (try clear hcz96_3); (try clear hcz96_4); (try clear hcz96_5); (try clear hcz96_6); (try clear hcz96_7); (try clear hcz96_8); (try clear hfz93_0); (try clear hfz93_1); (try clear hfz93_2); (try clear hfz93_3); (try clear hfz93_4); (try clear hfz93_5); (try clear hfz93_6); (try clear hfz93_7); (try clear hfz93_8); (try clear hfz96_0); (try clear hfz96_1); (try clear hfz96_2); (try clear hfz96_3); (try clear hfz96_4); (try clear hfz96_5); (try clear hfz96_6); (try clear hfz96_7); (try clear hfz96_8); (try clear hx460_0); (try clear hx473_0); (try clear p460); (try clear p473); (try clear q460); (try clear q473)
              obtain ⟨kq, x117_89, rfl, HA, HJ89, BK458, BK461, HB⟩ := hcut
              cases kq with
              | zero => exact absurd HA.out (by simp [runnelref26_Get.j4])
              | succ kj89 =>
               have H := HA.out
               clear HA
               simp only [runnelref26_Get.j4] at H
               by_cases c98 : x117_89 = true
               ·
                subst c98
                have H1 : ((runnelref26_GetFront.f kj89 l0 t469).bind fun bt487 => (if true = true then (if bt487.2.2 = 0 then (some ((wrap64 (rd l0 a1)), (rd t468 0), ([] : List (S103)), 0, 0, 0, bt487.1, 0, ([] : List Int), bt487.2.1, 0)) else (some (0, 0, ([] : List (S103)), 0, 0, 0, ([] : List (S36)), 0, ([] : List Int), 0, 6))) else (some (0, 0, ([] : List (S103)), 0, 0, 0, ([] : List (S36)), 0, ([] : List Int), 0, 6)))) = some (r1, r2, r3, r4, r5, r6, r7, r8, r9, r10, r11) := by rw [if_pos rfl] at H; exact H
                clear H
                have H := H1
                clear H1
                replace H := Option.bind_eq_some_iff.mp H
                obtain ⟨⟨t487, t488, t489⟩, A990, H⟩ := H
                replace H : (if true = true then (if t489 = 0 then (some ((wrap64 (rd l0 a1)), (rd t468 0), ([] : List (S103)), 0, 0, 0, t487, 0, ([] : List Int), t488, 0)) else (some (0, 0, ([] : List (S103)), 0, 0, 0, ([] : List (S36)), 0, ([] : List Int), 0, 6))) else (some (0, 0, ([] : List (S103)), 0, 0, 0, ([] : List (S36)), 0, ([] : List Int), 0, 6))) = some (r1, r2, r3, r4, r5, r6, r7, r8, r9, r10, r11) := H
                have A99 := Aside0.mk A990
                clear A990
                by_cases c100 : true = true
                ·
                 clear c100
                 have H1 : (if t489 = 0 then (some ((wrap64 (rd l0 a1)), (rd t468 0), ([] : List (S103)), 0, 0, 0, t487, 0, ([] : List Int), t488, 0)) else (some (0, 0, ([] : List (S103)), 0, 0, 0, ([] : List (S36)), 0, ([] : List Int), 0, 6))) = some (r1, r2, r3, r4, r5, r6, r7, r8, r9, r10, r11) := by rw [if_pos rfl] at H; exact H
                 clear H
                 have H := H1
                 clear H1
                 by_cases c101 : t489 = 0
                 ·
                  rw [if_pos c101] at H
                  have c101b0 : (t489 == 0) = true := beq_iff_eq.mpr c101
                  have c101b1 : (t489 != 0) = false := bne_eq_false_iff_eq.mpr c101
                  clear c101
                  simp only [Option.some.injEq, Prod.mk.injEq] at H
                  obtain ⟨rfl, rfl, rfl, rfl, rfl, rfl, rfl, rfl, rfl, rfl, rfl⟩ := H
                  go_wp2_with (first | ((with_reducible refine gate_callee (f := 16) rfl ?_); refine goesL_ (some 123) rfl rfl Try.func16 (by kernel_rfl) rfl #[.slice (some ad460) l0.length c0, .int .i64 t469] rfl mpq ?_; (with_reducible refine (runnelref26_GetFront.calls kj89 _ _ l0 t469 t487 t488 t489 _ ?side1 ?side2 A99.out).mono ?_); (case side1 => repeat (first | exact (Kd.C_below HR0.out HB.out) | (with_reducible refine Kd.C_alloc ?_ _) | (with_reducible refine Kd.C_drewN ?_ _) | (with_reducible refine Kd.C_drew ?_))); (case side2 => exact HC0.out); rintro e w102 ⟨v490, rfl, ho0, hb⟩; refine ⟨_, rfl, ?_⟩; have n0_ := Aside0.mk (Kd.R_lower (Kd.R_newM (M := fun k_ => (w.heap.size ≤ k_)) ho0 (below_size bl) (fun k_ h_ => h_)) (below_size bl)); have n1_ := Aside0.mk (blk_below (g := gb458) (o := .cells #[.int .i64 0, .int .i64 0, .slice none 0 0, .int .i64 0, .int .i64 0, .int .i64 0, .slice none 0 0, .int .i64 0, .slice none 0 0] 40 (0, 0)) bk hb); have n2_ := Aside0.mk (blk_below (g := gb461) (o := .cells #[.int .i64 (wrap64 (rd l0 a1)), .int .i64 (rd t468 0), .slice none 0 0, .int .i64 0, .int .i64 0, .int .i64 0, .slice none 0 0, .int .i64 0, .slice none 0 0] 40 (0, 0)) bk hb); have n3_ := Aside0.mk (below_step bl hb); clear BK458; clear BK461; clear HB; have HO491 := n0_; have BK458 := n1_; have BK461 := n2_; have HB := n3_; clear n0_ n1_ n2_ n3_; (try clear hb); (try clear hb2); (try clear hk); (try clear hi); (try clear ho0); obtain ⟨Ao103, co103, eo103⟩ := Kd.R_slice HO491.out; subst eo103; have hnb104 := NB461_458.out; have hnc104 := NB458_461.out; obtain ⟨hcz105_0, hcz105_1, hcz105_2, hcz105_3, hcz105_4, hcz105_5, hcz105_6, hcz105_7, hcz105_8⟩ := cells9 BK461.out; obtain ⟨hfz105_0, hfz105_1, hfz105_2, hfz105_3, hfz105_4, hfz105_5, hfz105_6, hfz105_7, hfz105_8⟩ := frz9 BK461.out; obtain ⟨hcz106_0, hcz106_1, hcz106_2, hcz106_3, hcz106_4, hcz106_5, hcz106_6, hcz106_7, hcz106_8⟩ := cells9 BK458.out; obtain ⟨hfz106_0, hfz106_1, hfz106_2, hfz106_3, hfz106_4, hfz106_5, hfz106_6, hfz106_7, hfz106_8⟩ := frz9 BK458.out))
                  refine bodyPost_ret (results_ctt rfl _ _ gb458 40 #[.int .i64 (wrap64 (rd l0 a1)), .int .i64 (rd t468 0), .slice none 0 0, .int .i64 0, .int .i64 0, .int .i64 0, .slice Ao103 t487.length co103, .int .i64 0, .slice none 0 0] (0, 0) _ rfl bk Try.underlying40 rfl (by kernel_rfl)) rfl ?_
                  exact ⟨_, _, _, erq, nlq, by (with_reducible repeat (first | apply Kd.R_alloc | apply Kd.R_drewN | apply Kd.R_drew)); exact Kd.R_mono (Kd.R_far (p := ⟨gb458, 8, none⟩) (Kd.R_far (p := ⟨gb458, 7, none⟩) (Kd.R_far (p := ⟨gb458, 6, none⟩) (Kd.R_far (p := ⟨gb458, 5, none⟩) (Kd.R_far (p := ⟨gb458, 4, none⟩) (Kd.R_far (p := ⟨gb458, 3, none⟩) (Kd.R_far (p := ⟨gb458, 2, none⟩) (Kd.R_far (p := ⟨gb458, 1, none⟩) (Kd.R_far (p := ⟨gb458, 0, none⟩) (Kd.R_far (p := ⟨gb461, 6, none⟩) (Kd.R_types (Kd.R_types HO491.out BK461.out (by decide)) BK458.out (by decide)) (fun _ hk => hk.1.2) (.slice Ao103 t487.length co103)) (fun _ hk => hk.2) (.int .i64 (wrap64 (rd l0 a1)))) (fun _ hk => hk.2) (.int .i64 (rd t468 0))) (fun _ hk => hk.2) (.slice none 0 0)) (fun _ hk => hk.2) (.int .i64 0)) (fun _ hk => hk.2) (.int .i64 0)) (fun _ hk => hk.2) (.int .i64 0)) (fun _ hk => hk.2) (.slice Ao103 t487.length co103)) (fun _ hk => hk.2) (.int .i64 0)) (fun _ hk => hk.2) (.slice none 0 0)) (fun _ hk => hk.1.1.1), nlq, by repeat (first | (with_reducible first | exact HB.out | apply below_alloc | apply pw_below_drewN | apply below_drew1 | refine below_set ?_ GE458.out | refine below_set ?_ GE461.out) | exact HB.out)⟩
                 ·
                  rw [if_neg c101] at H
                  have c101b0 : (t489 == 0) = false := beq_eq_false_iff_ne.mpr c101
                  have c101b1 : (t489 != 0) = true := bne_iff_ne.mpr c101
                  simp only [Option.some.injEq, Prod.mk.injEq] at H
                  obtain ⟨rfl, rfl, rfl, rfl, rfl, rfl, rfl, rfl, rfl, rfl, rfl⟩ := H
                  go_wp2_with (first | ((with_reducible refine gate_callee (f := 16) rfl ?_); refine goesL_ (some 123) rfl rfl Try.func16 (by kernel_rfl) rfl #[.slice (some ad460) l0.length c0, .int .i64 t469] rfl mpq ?_; (with_reducible refine (runnelref26_GetFront.calls kj89 _ _ l0 t469 t487 t488 t489 _ ?side1 ?side2 A99.out).mono ?_); (case side1 => repeat (first | exact (Kd.C_below HR0.out HB.out) | (with_reducible refine Kd.C_alloc ?_ _) | (with_reducible refine Kd.C_drewN ?_ _) | (with_reducible refine Kd.C_drew ?_))); (case side2 => exact HC0.out); rintro e w107 ⟨v490, rfl, ho0, hb⟩; refine ⟨_, rfl, ?_⟩; have n0_ := Aside0.mk (Kd.R_lower (Kd.R_newM (M := fun k_ => (w.heap.size ≤ k_)) ho0 (below_size bl) (fun k_ h_ => h_)) (below_size bl)); have n1_ := Aside0.mk (blk_below (g := gb458) (o := .cells #[.int .i64 0, .int .i64 0, .slice none 0 0, .int .i64 0, .int .i64 0, .int .i64 0, .slice none 0 0, .int .i64 0, .slice none 0 0] 40 (0, 0)) bk hb); have n2_ := Aside0.mk (blk_below (g := gb461) (o := .cells #[.int .i64 (wrap64 (rd l0 a1)), .int .i64 (rd t468 0), .slice none 0 0, .int .i64 0, .int .i64 0, .int .i64 0, .slice none 0 0, .int .i64 0, .slice none 0 0] 40 (0, 0)) bk hb); have n3_ := Aside0.mk (below_step bl hb); clear BK458; clear BK461; clear HB; have HO491 := n0_; have BK458 := n1_; have BK461 := n2_; have HB := n3_; clear n0_ n1_ n2_ n3_; (try clear hb); (try clear hb2); (try clear hk); (try clear hi); (try clear ho0); obtain ⟨Ao108, co108, eo108⟩ := Kd.R_slice HO491.out; subst eo108; have hnb109 := NB461_458.out; have hnc109 := NB458_461.out; obtain ⟨hcz110_0, hcz110_1, hcz110_2, hcz110_3, hcz110_4, hcz110_5, hcz110_6, hcz110_7, hcz110_8⟩ := cells9 BK461.out; obtain ⟨hfz110_0, hfz110_1, hfz110_2, hfz110_3, hfz110_4, hfz110_5, hfz110_6, hfz110_7, hfz110_8⟩ := frz9 BK461.out; obtain ⟨hcz111_0, hcz111_1, hcz111_2, hcz111_3, hcz111_4, hcz111_5, hcz111_6, hcz111_7, hcz111_8⟩ := cells9 BK458.out; obtain ⟨hfz111_0, hfz111_1, hfz111_2, hfz111_3, hfz111_4, hfz111_5, hfz111_6, hfz111_7, hfz111_8⟩ := frz9 BK458.out))
                  refine bodyPost_ret (results_ctt rfl _ _ gb458 40 #[.int .i64 0, .int .i64 0, .slice none 0 0, .int .i64 0, .int .i64 0, .int .i64 0, .slice none 0 0, .int .i64 0, .slice none 0 0] (0, 0) _ rfl bk Try.underlying40 rfl (by kernel_rfl)) rfl ?_
                  exact ⟨_, _, _, erq, nlq, nlq, nlq, by repeat (first | (with_reducible first | exact HB.out | apply below_alloc | apply pw_below_drewN | apply below_drew1 | refine below_set ?_ GE458.out | refine below_set ?_ GE461.out) | exact HB.out)⟩
                ·
                 exact absurd rfl c100
               ·
                replace c98 := Bool.eq_false_iff.mpr c98
                subst c98
                have H1 : (if (wrap64 (rd l0 a1)) = 3 then ((runnelref26_numbers.f kj89 l0 t469 1).bind fun bt492 => (if bt492.2.2 = true then (if 0 < (bt492.1.length : Int) then (if 0 = 0 then (some ((wrap64 (rd l0 a1)), (rd t468 0), ([] : List (S103)), 0, 0, 0, ([] : List (S36)), rd bt492.1 0, ([] : List Int), bt492.2.1, 0)) else (some (0, 0, ([] : List (S103)), 0, 0, 0, ([] : List (S36)), 0, ([] : List Int), 0, 6))) else (none)) else (some (0, 0, ([] : List (S103)), 0, 0, 0, ([] : List (S36)), 0, ([] : List Int), 0, 6)))) else (if (wrap64 (rd l0 a1)) = 5 then ((runnelref26_numbers.f kj89 l0 t469 2).bind fun bt498 => (if bt498.2.2 = true then (if 0 < (bt498.1.length : Int) then (if 1 < (bt498.1.length : Int) then (if 0 = 0 then (some ((wrap64 (rd l0 a1)), (rd t468 0), ([] : List (S103)), rd bt498.1 0, rd bt498.1 1, 0, ([] : List (S36)), 0, ([] : List Int), bt498.2.1, 0)) else (some (0, 0, ([] : List (S103)), 0, 0, 0, ([] : List (S36)), 0, ([] : List Int), 0, 6))) else (none)) else (none)) else (some (0, 0, ([] : List (S103)), 0, 0, 0, ([] : List (S36)), 0, ([] : List Int), 0, 6)))) else (if 0 = 0 then (some ((wrap64 (rd l0 a1)), (rd t468 0), ([] : List (S103)), 0, 0, 0, ([] : List (S36)), 0, ([] : List Int), t469, 0)) else (some (0, 0, ([] : List (S103)), 0, 0, 0, ([] : List (S36)), 0, ([] : List Int), 0, 6))))) = some (r1, r2, r3, r4, r5, r6, r7, r8, r9, r10, r11) := by rw [if_neg (show ¬ (false = true) by decide)] at H; exact H
                clear H
                have H := H1
                clear H1
                by_cases c117 : (wrap64 (rd l0 a1)) = 3
                ·
                 rw [if_pos c117] at H
                 have c117b0 : ((wrap64 (rd l0 a1)) == 3) = true := beq_iff_eq.mpr c117
                 have c117b1 : ((wrap64 (rd l0 a1)) != 3) = false := bne_eq_false_iff_eq.mpr c117
                 clear c117
                 replace H := Option.bind_eq_some_iff.mp H
                 obtain ⟨⟨t492, t493, t494⟩, A1180, H⟩ := H
                 replace H : (if t494 = true then (if 0 < (t492.length : Int) then (if 0 = 0 then (some ((wrap64 (rd l0 a1)), (rd t468 0), ([] : List (S103)), 0, 0, 0, ([] : List (S36)), rd t492 0, ([] : List Int), t493, 0)) else (some (0, 0, ([] : List (S103)), 0, 0, 0, ([] : List (S36)), 0, ([] : List Int), 0, 6))) else (none)) else (some (0, 0, ([] : List (S103)), 0, 0, 0, ([] : List (S36)), 0, ([] : List Int), 0, 6))) = some (r1, r2, r3, r4, r5, r6, r7, r8, r9, r10, r11) := H
                 have A118 := Aside0.mk A1180
                 clear A1180
                 by_cases c119 : t494 = true
                 ·
                  subst c119
                  have H1 : (if 0 < (t492.length : Int) then (if 0 = 0 then (some ((wrap64 (rd l0 a1)), (rd t468 0), ([] : List (S103)), 0, 0, 0, ([] : List (S36)), rd t492 0, ([] : List Int), t493, 0)) else (some (0, 0, ([] : List (S103)), 0, 0, 0, ([] : List (S36)), 0, ([] : List Int), 0, 6))) else (none)) = some (r1, r2, r3, r4, r5, r6, r7, r8, r9, r10, r11) := by rw [if_pos rfl] at H; exact H
                  clear H
                  have H := H1
                  clear H1
                  by_cases c120 : 0 < (t492.length : Int)
                  ·
                   rw [if_pos c120] at H
                   have c120b0 : decide (0 < (t492.length : Int)) = true := decide_eq_true c120
                   have c120b1 : decide (0 < t492.length) = true := decide_eq_true (by omega)
                   clear c120
                   by_cases c121 : 0 = 0
                   ·
                    rw [if_pos c121] at H
                    have c121b0 : (0 == 0) = true := beq_iff_eq.mpr c121
                    have c121b1 : (0 != 0) = false := bne_eq_false_iff_eq.mpr c121
                    clear c121
                    simp only [Option.some.injEq, Prod.mk.injEq] at H
                    obtain ⟨rfl, rfl, rfl, rfl, rfl, rfl, rfl, rfl, rfl, rfl, rfl⟩ := H
                    go_wp2_with (first | ((with_reducible refine gate_callee (f := 42) rfl ?_); refine goesL_ (some 133) rfl rfl Try.func42 (by kernel_rfl) rfl #[.slice (some ad460) l0.length c0, .int .i64 t469, .int .i64 1] rfl mpq ?_; (with_reducible refine (runnelref26_numbers.calls kj89 _ _ l0 t469 1 t492 t493 true _ ?side1 ?side2 A118.out).mono ?_); (case side1 => repeat (first | exact (Kd.C_below HR0.out HB.out) | (with_reducible refine Kd.C_alloc ?_ _) | (with_reducible refine Kd.C_drewN ?_ _) | (with_reducible refine Kd.C_drew ?_))); (case side2 => exact HC0.out); rintro e w122 ⟨v495, rfl, ho0, hb⟩; refine ⟨_, rfl, ?_⟩; have n0_ := Aside0.mk (Kd.R_lower (Kd.R_newM (M := fun k_ => (w.heap.size ≤ k_)) ho0 (below_size bl) (fun k_ h_ => h_)) (below_size bl)); have n1_ := Aside0.mk (blk_below (g := gb458) (o := .cells #[.int .i64 0, .int .i64 0, .slice none 0 0, .int .i64 0, .int .i64 0, .int .i64 0, .slice none 0 0, .int .i64 0, .slice none 0 0] 40 (0, 0)) bk hb); have n2_ := Aside0.mk (blk_below (g := gb461) (o := .cells #[.int .i64 (wrap64 (rd l0 a1)), .int .i64 (rd t468 0), .slice none 0 0, .int .i64 0, .int .i64 0, .int .i64 0, .slice none 0 0, .int .i64 0, .slice none 0 0] 40 (0, 0)) bk hb); have n3_ := Aside0.mk (below_step bl hb); clear BK458; clear BK461; clear HB; have HO496 := n0_; have BK458 := n1_; have BK461 := n2_; have HB := n3_; clear n0_ n1_ n2_ n3_; (try clear hb); (try clear hb2); (try clear hk); (try clear hi); (try clear ho0); obtain ⟨Ao123, co123, eo123⟩ := Kd.R_slice HO496.out; subst eo123; have p497 : 0 ≤ (0 : Int) := (by omega); have q497 : 0 < (t492.length : Int) := of_decide_eq_true (by first | (with_reducible assumption) | assumption); obtain ⟨ad497, e497, hx497_0⟩ := Kd.at_int (Kd.R_reads' HO496.out).2.2 0 p497 q497; cases e497; have qi497 : (0 < t492.length) = True := eq_true (by omega); (try rw [show ((0 : Int)).toNat = 0 from rfl] at hx497_0); (try rw [Addr.add_zero'] at hx497_0); replace p497 := eq_true p497; replace q497 := eq_true q497; have hnb124 := NB461_458.out; have hnc124 := NB458_461.out; obtain ⟨hcz125_0, hcz125_1, hcz125_2, hcz125_3, hcz125_4, hcz125_5, hcz125_6, hcz125_7, hcz125_8⟩ := cells9 BK461.out; obtain ⟨hfz125_0, hfz125_1, hfz125_2, hfz125_3, hfz125_4, hfz125_5, hfz125_6, hfz125_7, hfz125_8⟩ := frz9 BK461.out; obtain ⟨hcz126_0, hcz126_1, hcz126_2, hcz126_3, hcz126_4, hcz126_5, hcz126_6, hcz126_7, hcz126_8⟩ := cells9 BK458.out; obtain ⟨hfz126_0, hfz126_1, hfz126_2, hfz126_3, hfz126_4, hfz126_5, hfz126_6, hfz126_7, hfz126_8⟩ := frz9 BK458.out))
                    refine bodyPost_ret (results_ctt rfl _ _ gb458 40 #[.int .i64 (wrap64 (rd l0 a1)), .int .i64 (rd t468 0), .slice none 0 0, .int .i64 0, .int .i64 0, .int .i64 0, .slice none 0 0, .int .i64 (rd t492 0), .slice none 0 0] (0, 0) _ rfl bk Try.underlying40 rfl (by kernel_rfl)) rfl ?_
                    exact ⟨_, _, _, erq, nlq, nlq, nlq, by repeat (first | (with_reducible first | exact HB.out | apply below_alloc | apply pw_below_drewN | apply below_drew1 | refine below_set ?_ GE458.out | refine below_set ?_ GE461.out) | exact HB.out)⟩
                   ·
                    exact absurd rfl c121
                  ·
                   rw [if_neg c120] at H
                   exact absurd H (by simp)
                 ·
                  replace c119 := Bool.eq_false_iff.mpr c119
                  subst c119
                  have H1 : (some (0, 0, ([] : List (S103)), 0, 0, 0, ([] : List (S36)), 0, ([] : List Int), 0, 6)) = some (r1, r2, r3, r4, r5, r6, r7, r8, r9, r10, r11) := by rw [if_neg (show ¬ (false = true) by decide)] at H; exact H
                  clear H
                  have H := H1
                  clear H1
                  simp only [Option.some.injEq, Prod.mk.injEq] at H
                  obtain ⟨rfl, rfl, rfl, rfl, rfl, rfl, rfl, rfl, rfl, rfl, rfl⟩ := H
                  go_wp2_with (first | ((with_reducible refine gate_callee (f := 42) rfl ?_); refine goesL_ (some 133) rfl rfl Try.func42 (by kernel_rfl) rfl #[.slice (some ad460) l0.length c0, .int .i64 t469, .int .i64 1] rfl mpq ?_; (with_reducible refine (runnelref26_numbers.calls kj89 _ _ l0 t469 1 t492 t493 false _ ?side1 ?side2 A118.out).mono ?_); (case side1 => repeat (first | exact (Kd.C_below HR0.out HB.out) | (with_reducible refine Kd.C_alloc ?_ _) | (with_reducible refine Kd.C_drewN ?_ _) | (with_reducible refine Kd.C_drew ?_))); (case side2 => exact HC0.out); rintro e w132 ⟨v495, rfl, ho0, hb⟩; refine ⟨_, rfl, ?_⟩; have n0_ := Aside0.mk (Kd.R_lower (Kd.R_newM (M := fun k_ => (w.heap.size ≤ k_)) ho0 (below_size bl) (fun k_ h_ => h_)) (below_size bl)); have n1_ := Aside0.mk (blk_below (g := gb458) (o := .cells #[.int .i64 0, .int .i64 0, .slice none 0 0, .int .i64 0, .int .i64 0, .int .i64 0, .slice none 0 0, .int .i64 0, .slice none 0 0] 40 (0, 0)) bk hb); have n2_ := Aside0.mk (blk_below (g := gb461) (o := .cells #[.int .i64 (wrap64 (rd l0 a1)), .int .i64 (rd t468 0), .slice none 0 0, .int .i64 0, .int .i64 0, .int .i64 0, .slice none 0 0, .int .i64 0, .slice none 0 0] 40 (0, 0)) bk hb); have n3_ := Aside0.mk (below_step bl hb); clear BK458; clear BK461; clear HB; have HO496 := n0_; have BK458 := n1_; have BK461 := n2_; have HB := n3_; clear n0_ n1_ n2_ n3_; (try clear hb); (try clear hb2); (try clear hk); (try clear hi); (try clear ho0); have hnb133 := NB458_461.out; have hnc133 := NB461_458.out; obtain ⟨hcz134_0, hcz134_1, hcz134_2, hcz134_3, hcz134_4, hcz134_5, hcz134_6, hcz134_7, hcz134_8⟩ := cells9 BK458.out; obtain ⟨hfz134_0, hfz134_1, hfz134_2, hfz134_3, hfz134_4, hfz134_5, hfz134_6, hfz134_7, hfz134_8⟩ := frz9 BK458.out))
                  refine bodyPost_ret (results_ctt rfl _ _ gb458 40 #[.int .i64 0, .int .i64 0, .slice none 0 0, .int .i64 0, .int .i64 0, .int .i64 0, .slice none 0 0, .int .i64 0, .slice none 0 0] (0, 0) _ rfl bk Try.underlying40 rfl (by kernel_rfl)) rfl ?_
                  exact ⟨_, _, _, erq, nlq, nlq, nlq, by repeat (first | (with_reducible first | exact HB.out | apply below_alloc | apply pw_below_drewN | apply below_drew1 | refine below_set ?_ GE458.out | refine below_set ?_ GE461.out) | exact HB.out)⟩
                ·
                 rw [if_neg c117] at H
                 have c117b0 : ((wrap64 (rd l0 a1)) == 3) = false := beq_eq_false_iff_ne.mpr c117
                 have c117b1 : ((wrap64 (rd l0 a1)) != 3) = true := bne_iff_ne.mpr c117
                 by_cases c135 : (wrap64 (rd l0 a1)) = 5
                 ·
                  rw [if_pos c135] at H
                  have c135b0 : ((wrap64 (rd l0 a1)) == 5) = true := beq_iff_eq.mpr c135
                  have c135b1 : ((wrap64 (rd l0 a1)) != 5) = false := bne_eq_false_iff_eq.mpr c135
                  clear c135
                  replace H := Option.bind_eq_some_iff.mp H
                  obtain ⟨⟨t498, t499, t500⟩, A1360, H⟩ := H
                  replace H : (if t500 = true then (if 0 < (t498.length : Int) then (if 1 < (t498.length : Int) then (if 0 = 0 then (some ((wrap64 (rd l0 a1)), (rd t468 0), ([] : List (S103)), rd t498 0, rd t498 1, 0, ([] : List (S36)), 0, ([] : List Int), t499, 0)) else (some (0, 0, ([] : List (S103)), 0, 0, 0, ([] : List (S36)), 0, ([] : List Int), 0, 6))) else (none)) else (none)) else (some (0, 0, ([] : List (S103)), 0, 0, 0, ([] : List (S36)), 0, ([] : List Int), 0, 6))) = some (r1, r2, r3, r4, r5, r6, r7, r8, r9, r10, r11) := H
                  have A136 := Aside0.mk A1360
                  clear A1360
                  by_cases c137 : t500 = true
                  ·
                   subst c137
                   have H1 : (if 0 < (t498.length : Int) then (if 1 < (t498.length : Int) then (if 0 = 0 then (some ((wrap64 (rd l0 a1)), (rd t468 0), ([] : List (S103)), rd t498 0, rd t498 1, 0, ([] : List (S36)), 0, ([] : List Int), t499, 0)) else (some (0, 0, ([] : List (S103)), 0, 0, 0, ([] : List (S36)), 0, ([] : List Int), 0, 6))) else (none)) else (none)) = some (r1, r2, r3, r4, r5, r6, r7, r8, r9, r10, r11) := by rw [if_pos rfl] at H; exact H
                   clear H
                   have H := H1
                   clear H1
                   by_cases c138 : 0 < (t498.length : Int)
                   ·
                    rw [if_pos c138] at H
                    have c138b0 : decide (0 < (t498.length : Int)) = true := decide_eq_true c138
                    have c138b1 : decide (0 < t498.length) = true := decide_eq_true (by omega)
                    clear c138
                    by_cases c139 : 1 < (t498.length : Int)
                    ·
                     rw [if_pos c139] at H
                     have c139b0 : decide (1 < (t498.length : Int)) = true := decide_eq_true c139
                     have c139b1 : decide (1 < t498.length) = true := decide_eq_true (by omega)
                     clear c139
                     by_cases c140 : 0 = 0
                     ·
                      rw [if_pos c140] at H
                      have c140b0 : (0 == 0) = true := beq_iff_eq.mpr c140
                      have c140b1 : (0 != 0) = false := bne_eq_false_iff_eq.mpr c140
                      clear c140
                      simp only [Option.some.injEq, Prod.mk.injEq] at H
                      obtain ⟨rfl, rfl, rfl, rfl, rfl, rfl, rfl, rfl, rfl, rfl, rfl⟩ := H
                      try go_wp2_with (first | ((with_reducible refine gate_callee (f := 42) rfl ?_); refine goesL_ (some 147) rfl rfl Try.func42 (by kernel_rfl) rfl #[.slice (some ad460) l0.length c0, .int .i64 t469, .int .i64 2] rfl mpq ?_; (with_reducible refine (runnelref26_numbers.calls kj89 _ _ l0 t469 2 t498 t499 true _ ?side1 ?side2 A136.out).mono ?_); (case side1 => repeat (first | exact (Kd.C_below HR0.out HB.out) | (with_reducible refine Kd.C_alloc ?_ _) | (with_reducible refine Kd.C_drewN ?_ _) | (with_reducible refine Kd.C_drew ?_))); (case side2 => exact HC0.out); rintro e w141 ⟨v501, rfl, ho0, hb⟩; refine ⟨_, rfl, ?_⟩; have n0_ := Aside0.mk (Kd.R_lower (Kd.R_newM (M := fun k_ => (w.heap.size ≤ k_)) ho0 (below_size bl) (fun k_ h_ => h_)) (below_size bl)); have n1_ := Aside0.mk (blk_below (g := gb458) (o := .cells #[.int .i64 0, .int .i64 0, .slice none 0 0, .int .i64 0, .int .i64 0, .int .i64 0, .slice none 0 0, .int .i64 0, .slice none 0 0] 40 (0, 0)) bk hb); have n2_ := Aside0.mk (blk_below (g := gb461) (o := .cells #[.int .i64 (wrap64 (rd l0 a1)), .int .i64 (rd t468 0), .slice none 0 0, .int .i64 0, .int .i64 0, .int .i64 0, .slice none 0 0, .int .i64 0, .slice none 0 0] 40 (0, 0)) bk hb); have n3_ := Aside0.mk (below_step bl hb); clear BK458; clear BK461; clear HB; have HO502 := n0_; have BK458 := n1_; have BK461 := n2_; have HB := n3_; clear n0_ n1_ n2_ n3_; (try clear hb); (try clear hb2); (try clear hk); (try clear hi); (try clear ho0)))
                      have n0_ := Aside0.mk (Kd.R_drew HO502.out)
                      have n1_ := Aside0.mk (blk_drew BK458.out)
                      have n2_ := Aside0.mk (blk_drew BK461.out)
                      have n3_ := Aside0.mk (below_drew1 HB.out)
                      clear HO502
                      clear BK458
                      clear BK461
                      clear HB
                      have HO502 := n0_
                      have BK458 := n1_
                      have BK461 := n2_
                      have HB := n3_
                      clear n0_ n1_ n2_ n3_
                      obtain ⟨Ao143, co143, eo143⟩ := Kd.R_slice HO502.out
                      (first | subst eo143 | (injection eo143 with f1_ f2_ f3_; have f4_ := f1_.symm; have f5_ := f3_.symm; clear f1_ f2_ f3_; subst f4_; subst f5_))
                      have p503 : 0 ≤ (0 : Int) := (by omega)
                      have q503 : 0 < (t498.length : Int) := of_decide_eq_true (by first | (with_reducible assumption) | assumption)
                      obtain ⟨ad503, e503, hx503_0⟩ := Kd.at_int (Kd.R_reads' HO502.out).2.2 0 p503 q503
                      cases e503
                      have qi503 : (0 < t498.length) = True := eq_true (by omega)
                      (try rw [show ((0 : Int)).toNat = 0 from rfl] at hx503_0)
                      (try rw [Addr.add_zero'] at hx503_0)
                      replace p503 := eq_true p503
                      replace q503 := eq_true q503
                      have p504 : 0 ≤ (1 : Int) := (by omega)
                      have q504 : 1 < (t498.length : Int) := of_decide_eq_true (by first | (with_reducible assumption) | assumption)
                      obtain ⟨ad504, e504, hx504_0⟩ := Kd.at_int (Kd.R_reads' HO502.out).2.2 1 p504 q504
                      obtain rfl : ad503 = ad504 := (by injection e504)
                      (try simp only [show (1 : Int).toNat = 1 from rfl, Nat.reduceMul, Nat.reduceEqDiff, Go.Addr.add, ↓reduceIte] at hx504_0)
                      have qi504 : (1 < t498.length) = True := eq_true (by omega)
                      (try rw [show ((1 : Int)).toNat = 1 from rfl] at hx504_0)
                      replace p504 := eq_true p504
                      replace q504 := eq_true q504
                      refine start_ (n := 10) (S := fun w' => w'.cell? ad503 = some (.int .i64 (rd t498 0)) ∧ w'.cell? ⟨ad503.block, ad503.off + 1, none⟩ = some (.int .i64 (rd t498 1))) (ds := []) #[false, false, false, false, false, false, false, false, false, false] (by kernel_rfl) rfl rfl ⟨hx503_0, hx504_0⟩ (fun hHeld => ?_); refine with_tabW runnelref26_Get.tab35 runnelref26_Get.bits35 (fun HT_ HW_ => ?_)
                      generalize w141.drew = w142 at HO502 BK458 BK461 HB hx503_0 hx504_0 hHeld ⊢
                      refine pure_ (i := 0) (N := some 152) (v := ?_) (a' := ?_) #[true, false, false, false, false, false, false, false, false, false] rfl rfl (any_of HT_.out (by kernel_rfl)) (fun _ _ _ h => h) (Or.inl ⟨by rfl, ?_⟩) ?_ ?_
                      rotate_left
                      ·
                       intro w'
                       go_simp
                       with_reducible rfl
                      rotate_left
                      ·
                       simp only [Act.put, List.setIfInBounds_toArray, List.set_cons_zero, List.set_cons_succ, i64_w, i32_w]
                       rfl
                      refine pure_ (i := 1) (N := some 153) (v := ?_) (a' := ?_) #[true, true, false, false, false, false, false, false, false, false] rfl rfl (any_of HT_.out (by kernel_rfl)) (fun _ _ _ h => h) (Or.inl ⟨by rfl, ?_⟩) ?_ ?_
                      rotate_left
                      ·
                       intro w'
                       go_simp
                       with_reducible rfl
                      rotate_left
                      ·
                       simp only [Act.put, List.setIfInBounds_toArray, List.set_cons_zero, List.set_cons_succ, i64_w, i32_w]
                       rfl
                      refine pure_ (i := 3) (N := some 155) (v := ?_) (a' := ?_) #[true, true, false, true, false, false, false, false, false, false] rfl rfl (any_of HT_.out (by kernel_rfl)) (fun _ _ _ h => h) (Or.inl ⟨by rfl, ?_⟩) ?_ ?_
                      rotate_left
                      ·
                       intro w'
                       go_simp
                       with_reducible rfl
                      rotate_left
                      ·
                       simp only [Act.put, List.setIfInBounds_toArray, List.set_cons_zero, List.set_cons_succ, i64_w, i32_w]
                       rfl
                      refine pure_ (i := 4) (N := some 156) (v := ?_) (a' := ?_) #[true, true, false, true, true, false, false, false, false, false] rfl rfl (any_of HT_.out (by kernel_rfl)) (fun _ _ _ h => h) (Or.inl ⟨by rfl, ?_⟩) ?_ ?_
                      rotate_left
                      ·
                       intro w'
                       go_simp
                       with_reducible rfl
                      rotate_left
                      ·
                       simp only [Act.put, List.setIfInBounds_toArray, List.set_cons_zero, List.set_cons_succ, i64_w, i32_w]
                       rfl
                      refine take_ (i := 2) (N := some 154) (v := ?_) (a' := ?_) #[true, true, true, true, true, false, false, false, false, false] rfl rfl (take_ofW HT_.out HW_.out (by kernel_rfl)) (fun _ _ _ h => h) (Or.inl ⟨by rfl, ?_⟩) hHeld ?_ ?_
                      rotate_left
                      ·
                       rintro w' ⟨s0, s1⟩
                       go_simp
                       with_reducible rfl
                      rotate_left
                      ·
                       simp only [Act.put, List.setIfInBounds_toArray, List.set_cons_zero, List.set_cons_succ, i64_w, i32_w]
                       rfl
                      refine take_ (i := 5) (N := some 157) (v := ?_) (a' := ?_) #[true, true, true, true, true, true, false, false, false, false] rfl rfl (take_ofW HT_.out HW_.out (by kernel_rfl)) (fun _ _ _ h => h) (Or.inl ⟨by rfl, ?_⟩) hHeld ?_ ?_
                      rotate_left
                      ·
                       rintro w' ⟨s0, s1⟩
                       go_simp
                       with_reducible rfl
                      rotate_left
                      ·
                       simp only [Act.put, List.setIfInBounds_toArray, List.set_cons_zero, List.set_cons_succ, i64_w, i32_w]
                       rfl
                      refine pure_ (i := 6) (N := some 158) (v := ?_) (a' := ?_) #[true, true, true, true, true, true, true, false, false, false] rfl rfl (any_of HT_.out (by kernel_rfl)) (fun _ _ _ h => h) (Or.inl ⟨by rfl, ?_⟩) ?_ ?_
                      rotate_left
                      ·
                       intro w'
                       go_simp
                       with_reducible rfl
                      rotate_left
                      ·
                       simp only [Act.put, List.setIfInBounds_toArray, List.set_cons_zero, List.set_cons_succ, i64_w, i32_w]
                       rfl
                      refine pure_ (i := 7) (N := some 159) (v := ?_) (a' := ?_) #[true, true, true, true, true, true, true, true, false, false] rfl rfl (any_of HT_.out (by kernel_rfl)) (fun _ _ _ h => h) (Or.inl ⟨by rfl, ?_⟩) ?_ ?_
                      rotate_left
                      ·
                       intro w'
                       go_simp
                       with_reducible rfl
                      rotate_left
                      ·
                       simp only [Act.put, List.setIfInBounds_toArray, List.set_cons_zero, List.set_cons_succ, i64_w, i32_w]
                       rfl
                      refine pure_ (i := 8) (N := some 160) (v := ?_) (a' := ?_) #[true, true, true, true, true, true, true, true, true, false] rfl rfl (any_of HT_.out (by kernel_rfl)) (fun _ _ _ h => h) (Or.inl ⟨by rfl, ?_⟩) ?_ ?_
                      rotate_left
                      ·
                       intro w'
                       go_simp
                       with_reducible rfl
                      rotate_left
                      ·
                       simp only [Act.put, List.setIfInBounds_toArray, List.set_cons_zero, List.set_cons_succ, i64_w, i32_w]
                       rfl
                      refine one_ (i := 9) (N := none) #[true, true, true, true, true, true, true, true, true, true] rfl rfl (one_of HT_.out (by kernel_rfl)) (by decide) (fun K hK => ?_)
                      have hs144 : w142.cell? ⟨gb461, 3, none⟩ = some (.int .i64 0) := (blk_cell BK461.out 3).trans rfl
                      have hfs144 := blk_frozen BK461.out 3
                      have hns144_0 := NB458_461.out
                      have hms144_0 := NB461_458.out
                      have hs145 : w142.cell? ⟨gb461, 4, none⟩ = some (.int .i64 0) := (blk_cell BK461.out 4).trans rfl
                      have hfs145 := blk_frozen BK461.out 4
                      have hns145_0 := NB458_461.out
                      have hms145_0 := NB461_458.out
                      refine skip_ (w1 := ?_) (by rfl) rfl ?_ ?_
                      rotate_left
                      ·
                       go_simp
                       rfl
                      refine hK.out _ _ ⟨(cf (obq2 (Kd.R_ne HO502.out BK461.out (by decide))) ((cf (obq2 (Kd.R_ne HO502.out BK461.out (by decide))) (hHeld.1)))), (cf (obq2 (Kd.R_ne HO502.out BK461.out (by decide))) ((cf (obq2 (Kd.R_ne HO502.out BK461.out (by decide))) (hHeld.2))))⟩ (fun hHeld => ?_)
                      clear hK K
                      refine done_ (done_of HT_.out (by kernel_rfl)) ?_
                      have hnb146 := NB461_458.out
                      have hnc146 := NB458_461.out
                      obtain ⟨hcz147_0, hcz147_1, hcz147_2, hcz147_3, hcz147_4, hcz147_5, hcz147_6, hcz147_7, hcz147_8⟩ := cells9 BK461.out
                      obtain ⟨hfz147_0, hfz147_1, hfz147_2, hfz147_3, hfz147_4, hfz147_5, hfz147_6, hfz147_7, hfz147_8⟩ := frz9 BK461.out
                      obtain ⟨hcz148_0, hcz148_1, hcz148_2, hcz148_3, hcz148_4, hcz148_5, hcz148_6, hcz148_7, hcz148_8⟩ := cells9 BK458.out
                      obtain ⟨hfz148_0, hfz148_1, hfz148_2, hfz148_3, hfz148_4, hfz148_5, hfz148_6, hfz148_7, hfz148_8⟩ := frz9 BK458.out
                      try go_wp2
                      refine bodyPost_ret (results_ctt rfl _ _ gb458 40 #[.int .i64 (wrap64 (rd l0 a1)), .int .i64 (rd t468 0), .slice none 0 0, .int .i64 (rd t498 0), .int .i64 (rd t498 1), .int .i64 0, .slice none 0 0, .int .i64 0, .slice none 0 0] (0, 0) _ rfl bk Try.underlying40 rfl (by kernel_rfl)) rfl ?_
                      exact ⟨_, _, _, erq, nlq, nlq, nlq, by repeat (first | (with_reducible first | exact HB.out | apply below_alloc | apply pw_below_drewN | apply below_drew1 | refine below_set ?_ GE458.out | refine below_set ?_ GE461.out) | exact HB.out)⟩
                     ·
                      exact absurd rfl c140
                    ·
                     rw [if_neg c139] at H
                     exact absurd H (by simp)
                   ·
                    rw [if_neg c138] at H
                    exact absurd H (by simp)
                  ·
                   replace c137 := Bool.eq_false_iff.mpr c137
                   subst c137
                   have H1 : (some (0, 0, ([] : List (S103)), 0, 0, 0, ([] : List (S36)), 0, ([] : List Int), 0, 6)) = some (r1, r2, r3, r4, r5, r6, r7, r8, r9, r10, r11) := by rw [if_neg (show ¬ (false = true) by decide)] at H; exact H
                   clear H
                   have H := H1
                   clear H1
                   simp only [Option.some.injEq, Prod.mk.injEq] at H
                   obtain ⟨rfl, rfl, rfl, rfl, rfl, rfl, rfl, rfl, rfl, rfl, rfl⟩ := H
                   go_wp2_with (first | ((with_reducible refine gate_callee (f := 42) rfl ?_); refine goesL_ (some 147) rfl rfl Try.func42 (by kernel_rfl) rfl #[.slice (some ad460) l0.length c0, .int .i64 t469, .int .i64 2] rfl mpq ?_; (with_reducible refine (runnelref26_numbers.calls kj89 _ _ l0 t469 2 t498 t499 false _ ?side1 ?side2 A136.out).mono ?_); (case side1 => repeat (first | exact (Kd.C_below HR0.out HB.out) | (with_reducible refine Kd.C_alloc ?_ _) | (with_reducible refine Kd.C_drewN ?_ _) | (with_reducible refine Kd.C_drew ?_))); (case side2 => exact HC0.out); rintro e w156 ⟨v501, rfl, ho0, hb⟩; refine ⟨_, rfl, ?_⟩; have n0_ := Aside0.mk (Kd.R_lower (Kd.R_newM (M := fun k_ => (w.heap.size ≤ k_)) ho0 (below_size bl) (fun k_ h_ => h_)) (below_size bl)); have n1_ := Aside0.mk (blk_below (g := gb458) (o := .cells #[.int .i64 0, .int .i64 0, .slice none 0 0, .int .i64 0, .int .i64 0, .int .i64 0, .slice none 0 0, .int .i64 0, .slice none 0 0] 40 (0, 0)) bk hb); have n2_ := Aside0.mk (blk_below (g := gb461) (o := .cells #[.int .i64 (wrap64 (rd l0 a1)), .int .i64 (rd t468 0), .slice none 0 0, .int .i64 0, .int .i64 0, .int .i64 0, .slice none 0 0, .int .i64 0, .slice none 0 0] 40 (0, 0)) bk hb); have n3_ := Aside0.mk (below_step bl hb); clear BK458; clear BK461; clear HB; have HO502 := n0_; have BK458 := n1_; have BK461 := n2_; have HB := n3_; clear n0_ n1_ n2_ n3_; (try clear hb); (try clear hb2); (try clear hk); (try clear hi); (try clear ho0); have hnb157 := NB458_461.out; have hnc157 := NB461_458.out; obtain ⟨hcz158_0, hcz158_1, hcz158_2, hcz158_3, hcz158_4, hcz158_5, hcz158_6, hcz158_7, hcz158_8⟩ := cells9 BK458.out; obtain ⟨hfz158_0, hfz158_1, hfz158_2, hfz158_3, hfz158_4, hfz158_5, hfz158_6, hfz158_7, hfz158_8⟩ := frz9 BK458.out))
                   refine bodyPost_ret (results_ctt rfl _ _ gb458 40 #[.int .i64 0, .int .i64 0, .slice none 0 0, .int .i64 0, .int .i64 0, .int .i64 0, .slice none 0 0, .int .i64 0, .slice none 0 0] (0, 0) _ rfl bk Try.underlying40 rfl (by kernel_rfl)) rfl ?_
                   exact ⟨_, _, _, erq, nlq, nlq, nlq, by repeat (first | (with_reducible first | exact HB.out | apply below_alloc | apply pw_below_drewN | apply below_drew1 | refine below_set ?_ GE458.out | refine below_set ?_ GE461.out) | exact HB.out)⟩
                 ·
                  rw [if_neg c135] at H
                  have c135b0 : ((wrap64 (rd l0 a1)) == 5) = false := beq_eq_false_iff_ne.mpr c135
                  have c135b1 : ((wrap64 (rd l0 a1)) != 5) = true := bne_iff_ne.mpr c135
                  by_cases c159 : 0 = 0
                  ·
                   rw [if_pos c159] at H
                   have c159b0 : (0 == 0) = true := beq_iff_eq.mpr c159
                   have c159b1 : (0 != 0) = false := bne_eq_false_iff_eq.mpr c159
                   clear c159
                   simp only [Option.some.injEq, Prod.mk.injEq] at H
                   obtain ⟨rfl, rfl, rfl, rfl, rfl, rfl, rfl, rfl, rfl, rfl, rfl⟩ := H
                   have hnb160 := NB461_458.out
                   have hnc160 := NB458_461.out
                   obtain ⟨hcz161_0, hcz161_1, hcz161_2, hcz161_3, hcz161_4, hcz161_5, hcz161_6, hcz161_7, hcz161_8⟩ := cells9 BK461.out
                   obtain ⟨hfz161_0, hfz161_1, hfz161_2, hfz161_3, hfz161_4, hfz161_5, hfz161_6, hfz161_7, hfz161_8⟩ := frz9 BK461.out
                   obtain ⟨hcz162_0, hcz162_1, hcz162_2, hcz162_3, hcz162_4, hcz162_5, hcz162_6, hcz162_7, hcz162_8⟩ := cells9 BK458.out
                   obtain ⟨hfz162_0, hfz162_1, hfz162_2, hfz162_3, hfz162_4, hfz162_5, hfz162_6, hfz162_7, hfz162_8⟩ := frz9 BK458.out
                   go_wp2
                   refine bodyPost_ret (results_ctt rfl _ _ gb458 40 #[.int .i64 (wrap64 (rd l0 a1)), .int .i64 (rd t468 0), .slice none 0 0, .int .i64 0, .int .i64 0, .int .i64 0, .slice none 0 0, .int .i64 0, .slice none 0 0] (0, 0) _ rfl bk Try.underlying40 rfl (by kernel_rfl)) rfl ?_
                   exact ⟨_, _, _, erq, nlq, nlq, nlq, by repeat (first | (with_reducible first | exact HB.out | apply below_alloc | apply pw_below_drewN | apply below_drew1 | refine below_set ?_ GE458.out | refine below_set ?_ GE461.out) | exact HB.out)⟩
                  ·
                   exact absurd rfl c159
           ·
            rw [if_neg c35] at H
            exact absurd H (by simp)
          ·
           replace c34 := Bool.eq_false_iff.mpr c34
           subst c34
           have H1 : (some (0, 0, ([] : List (S103)), 0, 0, 0, ([] : List (S36)), 0, ([] : List Int), 0, 6)) = some (r1, r2, r3, r4, r5, r6, r7, r8, r9, r10, r11) := by rw [if_neg (show ¬ (false = true) by decide)] at H; exact H
           clear H
           have H := H1
           clear H1
           simp only [Option.some.injEq, Prod.mk.injEq] at H
           obtain ⟨rfl, rfl, rfl, rfl, rfl, rfl, rfl, rfl, rfl, rfl, rfl⟩ := H
           have p460 : 0 ≤ (a1 : Int) := of_decide_eq_true (by first | (with_reducible assumption) | assumption)
           have q460 : a1 < (l0.length : Int) := of_decide_eq_true (by first | (with_reducible assumption) | assumption)
           obtain ⟨ad460, e460, hx460_0⟩ := Kd.at_int HR0.out a1 p460 q460
           cases e460
           replace hx460_0 := bc HB.out hx460_0
           replace p460 := eq_true p460
           replace q460 := eq_true q460
           go_wp2_with (first | ((with_reducible refine gate_dst (N := 7) rfl ?_); (try (refine gate_guard (by rfl) ?_; dsimp only)); refine box_event ?hg (N := 7) ?hd (cs := #[.int .i64 0, .int .i64 0, .slice none 0 0, .int .i64 0, .int .i64 0, .int .i64 0, .slice none 0 0, .int .i64 0, .slice none 0 0]) (t := 40) ?hr ?_; (case hd => rfl); (case hg => rfl); (case hr => first | (go_simp; done) | (go_simp; rfl)); intro gb461 hg w165 hbox hb; have n0_ := Aside0.mk (blk_below (g := gb458) (o := .cells #[.int .i64 0, .int .i64 0, .slice none 0 0, .int .i64 0, .int .i64 0, .int .i64 0, .slice none 0 0, .int .i64 0, .slice none 0 0] 40 (0, 0)) bk hb); have n1_ := Aside0.mk (below_step bl hb); have n2_ := Aside0.mk (hbox); have n3_ := Aside0.mk ((by rw [hg]; exact (below_size bl) : w.heap.size ≤ gb461)); have n4_ := Aside0.mk ((by rw [hg]; exact (below_size bl) : w.heap.size ≤ gb461)); have n5_ := Aside0.mk ((by rw [hg]; exact Nat.ne_of_lt blt : gb458 ≠ gb461)); have n6_ := Aside0.mk ((by rw [hg]; exact Nat.ne_of_gt blt : gb461 ≠ gb458)); clear BK458; clear HB; have BK458 := n0_; have HB := n1_; have BK461 := n2_; have GW461 := n3_; have GE461 := n4_; have NB458_461 := n5_; have NB461_458 := n6_; clear n0_ n1_ n2_ n3_ n4_ n5_ n6_; clear hb hbox hg; have hnb166 := NB461_458.out; have hnc166 := NB458_461.out; obtain ⟨hcz167_0, hcz167_1, hcz167_2, hcz167_3, hcz167_4, hcz167_5, hcz167_6, hcz167_7, hcz167_8⟩ := cells9 BK461.out; have hfz167_0 := blk_frozen BK461.out 0; have hfz167_1 := blk_frozen BK461.out 1; have hfz167_2 := blk_frozen BK461.out 2; have hfz167_3 := blk_frozen BK461.out 3; have hfz167_4 := blk_frozen BK461.out 4; have hfz167_5 := blk_frozen BK461.out 5; have hfz167_6 := blk_frozen BK461.out 6; have hfz167_7 := blk_frozen BK461.out 7; have hfz167_8 := blk_frozen BK461.out 8) | ((with_reducible refine gate_callee (f := 42) rfl ?_); refine goesL_ (some 65) rfl rfl Try.func42 (by kernel_rfl) rfl #[.slice (some ad460) l0.length c0, .int .i64 (wrap64 (a1 + 1)), .int .i64 1] rfl mpq ?_; (with_reducible refine (runnelref26_numbers.calls kj7 _ _ l0 (wrap64 (a1 + 1)) 1 t468 t469 false _ ?side1 ?side2 A33.out).mono ?_); (case side1 => exact Kd.C_below HR0.out bl); (case side2 => exact HC0.out); rintro e w168 ⟨v471, rfl, ho0, hb⟩; refine ⟨_, rfl, ?_⟩; have n0_ := Aside0.mk (Kd.R_lower (Kd.R_newM (M := fun k_ => (w.heap.size ≤ k_)) ho0 (below_size bl) (fun k_ h_ => h_)) (below_size bl)); have n1_ := Aside0.mk (blk_below (g := gb458) (o := .cells #[.int .i64 0, .int .i64 0, .slice none 0 0, .int .i64 0, .int .i64 0, .int .i64 0, .slice none 0 0, .int .i64 0, .slice none 0 0] 40 (0, 0)) bk hb); have n2_ := Aside0.mk (blk_below (g := gb461) (o := .cells #[.int .i64 (wrap64 (rd l0 a1)), .int .i64 0, .slice none 0 0, .int .i64 0, .int .i64 0, .int .i64 0, .slice none 0 0, .int .i64 0, .slice none 0 0] 40 (0, 0)) bk hb); have n3_ := Aside0.mk (below_step bl hb); clear BK458; clear BK461; clear HB; have HO472 := n0_; have BK458 := n1_; have BK461 := n2_; have HB := n3_; clear n0_ n1_ n2_ n3_; (try clear hb); (try clear hb2); (try clear hk); (try clear hi); (try clear ho0); obtain ⟨hcz169_0, hcz169_1, hcz169_2, hcz169_3, hcz169_4, hcz169_5, hcz169_6, hcz169_7, hcz169_8⟩ := cells9 BK458.out; obtain ⟨hfz169_0, hfz169_1, hfz169_2, hfz169_3, hfz169_4, hfz169_5, hfz169_6, hfz169_7, hfz169_8⟩ := frz9 BK458.out))
           refine bodyPost_ret (results_ctt rfl _ _ gb458 40 #[.int .i64 0, .int .i64 0, .slice none 0 0, .int .i64 0, .int .i64 0, .int .i64 0, .slice none 0 0, .int .i64 0, .slice none 0 0] (0, 0) _ rfl bk Try.underlying40 rfl (by kernel_rfl)) rfl ?_
           exact ⟨_, _, _, erq, nlq, nlq, nlq, by repeat (first | (with_reducible first | exact HB.out | apply below_alloc | apply pw_below_drewN | apply below_drew1 | refine below_set ?_ GE458.out | refine below_set ?_ GE461.out) | exact HB.out)⟩
        ·
         rw [if_neg c15] at H
         exact absurd H (by simp)
       ·
        rw [if_neg c14] at H
        exact absurd H (by simp)

end Go.Proofs.Ytpplklickfioiaa.PWireDecodes
