/- One piece of the machine's side of the law, written by a program over the translation; Lean checks it. -/
import Derived.Test.YtednmkmhileikaaOHoldPlaysx0
import Derived.Test.YtednmkmhileikaaStr
import Derived.Test.YtednmkmhileikaaShort
namespace Go.Proofs.Ytednmkmhileikaa.PHoldPlays
open Go.RowKit Go.Proofs.YtednmkmhileikaaW.PrintWords Go.Proofs.YtednmkmhileikaaW.PrintLast Go.Proofs.YtednmkmhileikaaW.PrintMore
attribute [local go_sem] max2_int min2_int max_two min_two max_three min_three max_four min_four   -- for this text's walks alone
attribute [-go_sem] binOp_string_gtr
attribute [local go_sem] Go.Proofs.Ytednmkmhileikaa.Str.gtr_str
set_option linter.unusedVariables false
set_option linter.unusedSimpArgs false

/-! ### runnelref03_Cmp: function 51 -/
def runnelref03_Cmp.j0 : Nat → Bool → Int → Int → ByteArray → Int → Int → ByteArray → Option (Int)
 | 0, _, _, _, _, _, _, _ => none
 | k + 1, x40, x161000, x161001, x161002, x162000, x162001, x162002 => if x40 = true then (some (-1)) else (if x161000 > x162000 then (some 1) else (if x161000 = x162000 then (if x161000 = 0 then (if x161001 > x162001 then (some 1) else (if x161000 = 1 then (if (Op.bytesLess x162002.toList x161002.toList) = true then (some 1) else (some 0)) else (some 0))) else (if x161000 = 1 then (if (Op.bytesLess x162002.toList x161002.toList) = true then (some 1) else (some 0)) else (some 0))) else (some 0)))
def runnelref03_Cmp.f (k : Nat) (a0_0 : Int) (a0_1 : Int) (a0_2 : ByteArray) (a1_0 : Int) (a1_1 : Int) (a1_2 : ByteArray) : Option (Int) := if a0_0 < a1_0 then (runnelref03_Cmp.j0 k true a0_0 a0_1 a0_2 a1_0 a1_1 a1_2) else (if a0_0 = a1_0 then (if a0_0 = 0 then (if a0_1 < a1_1 then (runnelref03_Cmp.j0 k true a0_0 a0_1 a0_2 a1_0 a1_1 a1_2) else (if a0_0 = 1 then (runnelref03_Cmp.j0 k (Op.bytesLess a0_2.toList a1_2.toList) a0_0 a0_1 a0_2 a1_0 a1_1 a1_2) else (runnelref03_Cmp.j0 k false a0_0 a0_1 a0_2 a1_0 a1_1 a1_2))) else (if a0_0 = 1 then (runnelref03_Cmp.j0 k (Op.bytesLess a0_2.toList a1_2.toList) a0_0 a0_1 a0_2 a1_0 a1_1 a1_2) else (runnelref03_Cmp.j0 k false a0_0 a0_1 a0_2 a1_0 a1_1 a1_2))) else (runnelref03_Cmp.j0 k false a0_0 a0_1 a0_2 a1_0 a1_1 a1_2))
set_option maxHeartbeats 8000000 in
set_option maxRecDepth 100000 in
theorem runnelref03_Cmp.calls (k : Nat) (a0_0 : Int) (a0_1 : Int) (a0_2 : ByteArray) (a1_0 : Int) (a1_1 : Int) (a1_2 : ByteArray) (r : Int) (w : World) (h : runnelref03_Cmp.f k a0_0 a0_1 a0_2 a1_0 a1_1 a1_2 = some r) :
  Calls Try.prog 51 #[.agg #[.int .i64 a0_0, .int .i64 a0_1, .string a0_2], .agg #[.int .i64 a1_0, .int .i64 a1_1, .string a1_2]] w fun e w' => e = .returned (.int .i64 r) ∧ Below w.heap.size w w' := by
 have hu61 := Try.underlying61
 have HB := Aside0.mk (Below.refl w.heap.size w)
 have H : (if a0_0 < a1_0 then (runnelref03_Cmp.j0 k true a0_0 a0_1 a0_2 a1_0 a1_1 a1_2) else (if a0_0 = a1_0 then (if a0_0 = 0 then (if a0_1 < a1_1 then (runnelref03_Cmp.j0 k true a0_0 a0_1 a0_2 a1_0 a1_1 a1_2) else (if a0_0 = 1 then (runnelref03_Cmp.j0 k (Op.bytesLess a0_2.toList a1_2.toList) a0_0 a0_1 a0_2 a1_0 a1_1 a1_2) else (runnelref03_Cmp.j0 k false a0_0 a0_1 a0_2 a1_0 a1_1 a1_2))) else (if a0_0 = 1 then (runnelref03_Cmp.j0 k (Op.bytesLess a0_2.toList a1_2.toList) a0_0 a0_1 a0_2 a1_0 a1_1 a1_2) else (runnelref03_Cmp.j0 k false a0_0 a0_1 a0_2 a1_0 a1_1 a1_2))) else (runnelref03_Cmp.j0 k false a0_0 a0_1 a0_2 a1_0 a1_1 a1_2))) = some r := h
 clear h
 have HC3 := Aside0.mk H
 clear H
 go_enter Try.func51, Try.ntmps51
 go_upto_region 1 with (first | ((with_reducible refine gate_dst (N := 2) rfl ?_); refine box_event ?hg (N := 2) ?hd (cs := #[.int .i64 a0_0, .int .i64 a0_1, .string a0_2]) (t := 61) ?hr ?_; (case hd => rfl); (case hg => rfl); (case hr => first | (go_simp; done) | (go_simp; rfl)); intro gb160 hg w4 hbox hb; have n0_ := Aside0.mk (below_step bl hb); have n1_ := Aside0.mk (hbox); have n2_ := Aside0.mk ((by rw [hg]; exact (below_size bl) : w.heap.size ≤ gb160)); have n3_ := Aside0.mk ((by rw [hg]; exact (below_size bl) : w.heap.size ≤ gb160)); clear HB; have HB := n0_; have BK160 := n1_; have GW160 := n2_; have GE160 := n3_; clear n0_ n1_ n2_ n3_; clear hb hbox hg) | ((with_reducible refine gate_dst (N := 3) rfl ?_); refine box_event ?hg (N := 3) ?hd (cs := #[.int .i64 a1_0, .int .i64 a1_1, .string a1_2]) (t := 61) ?hr ?_; (case hd => rfl); (case hg => rfl); (case hr => first | (go_simp; done) | (go_simp; rfl)); intro gb161 hg w5 hbox hb; have n0_ := Aside0.mk (blk_below (g := gb160) (o := .cells #[.int .i64 a0_0, .int .i64 a0_1, .string a0_2] 61 (0, 0)) bk hb); have n1_ := Aside0.mk (below_step bl hb); have n2_ := Aside0.mk (hbox); have n3_ := Aside0.mk ((by rw [hg]; exact (below_size bl) : w.heap.size ≤ gb161)); have n4_ := Aside0.mk ((by rw [hg]; exact (below_size bl) : w.heap.size ≤ gb161)); have n5_ := Aside0.mk ((by rw [hg]; exact Nat.ne_of_lt blt : gb160 ≠ gb161)); have n6_ := Aside0.mk ((by rw [hg]; exact Nat.ne_of_gt blt : gb161 ≠ gb160)); clear BK160; clear HB; have BK160 := n0_; have HB := n1_; have BK161 := n2_; have GW161 := n3_; have GE161 := n4_; have NB160_161 := n5_; have NB161_160 := n6_; clear n0_ n1_ n2_ n3_ n4_ n5_ n6_; clear hb hbox hg))
 (try simp only [Act.put, List.setIfInBounds_toArray, List.set_cons_zero, List.set_cons_succ])
 go_cut [40] (fun v40 wc => ∃ (kq : Nat) (x40_2 : Bool), v40 = .bool x40_2 ∧ Aside0 (runnelref03_Cmp.j0 kq x40_2 a0_0 a0_1 a0_2 a1_0 a1_1 a1_2 = some r) ∧ Aside0 (kq ≤ k) ∧ Aside0 (wc.heap[gb160]? = some (.cells #[.int .i64 a0_0, .int .i64 a0_1, .string a0_2] 61 (0, 0))) ∧ Aside0 (wc.heap[gb161]? = some (.cells #[.int .i64 a1_0, .int .i64 a1_1, .string a1_2] 61 (0, 0))) ∧ Aside0 (Below w.heap.size w wc))
 case first =>
  have H := HC3.out
  clear HC3
  by_cases c6 : a0_0 < a1_0
  ·
   rw [if_pos c6] at H
   have c6b0 : decide (a0_0 < a1_0) = true := decide_eq_true c6
   clear c6
   (first | rw [c6b0] | (simp only [i64_w, i32_w]; rw [c6b0]) | skip)
   have H' := Aside0.mk H
   clear H
   have hnb7 := NB160_161.out
   have hnc7 := NB161_160.out
   obtain ⟨hcz8_0, hcz8_1, hcz8_2⟩ := cells3 BK160.out
   obtain ⟨hfz8_0, hfz8_1, hfz8_2⟩ := frz3 BK160.out
   obtain ⟨hcz9_0, hcz9_1, hcz9_2⟩ := cells3 BK161.out
   obtain ⟨hfz9_0, hfz9_1, hfz9_2⟩ := frz3 BK161.out
   go_wp2
   go_meet
   case rel => exact ⟨_, (true), (by first | rfl | (simp; done) | (simp [*]; done)), H', ⟨by first | omega | exact Nat.le_refl _⟩, ⟨by (with_reducible repeat (first | refine blk_drewN ?_ _ | refine blk_drew ?_ | refine blk_alloc ?_ _)); exact BK160.out⟩, ⟨by (with_reducible repeat (first | refine blk_drewN ?_ _ | refine blk_drew ?_ | refine blk_alloc ?_ _)); exact BK161.out⟩, ⟨bl⟩⟩
  ·
   rw [if_neg c6] at H
   have c6b0 : decide (a0_0 < a1_0) = false := decide_eq_false c6
   clear c6
   (first | rw [c6b0] | (simp only [i64_w, i32_w]; rw [c6b0]) | skip)
   by_cases c10 : a0_0 = a1_0
   ·
    rw [if_pos c10] at H
    have c10b0 : (a0_0 == a1_0) = true := beq_iff_eq.mpr c10
    have c10b1 : (a0_0 != a1_0) = false := bne_eq_false_iff_eq.mpr c10
    clear c10
    by_cases c11 : a0_0 = 0
    ·
     rw [if_pos c11] at H
     have c11b0 : (a0_0 == 0) = true := beq_iff_eq.mpr c11
     have c11b1 : (a0_0 != 0) = false := bne_eq_false_iff_eq.mpr c11
     clear c11
     by_cases c12 : a0_1 < a1_1
     ·
      rw [if_pos c12] at H
      have c12b0 : decide (a0_1 < a1_1) = true := decide_eq_true c12
      clear c12
      have H' := Aside0.mk H
      clear H
      have hnb13 := NB160_161.out
      have hnc13 := NB161_160.out
      obtain ⟨hcz14_0, hcz14_1, hcz14_2⟩ := cells3 BK160.out
      obtain ⟨hfz14_0, hfz14_1, hfz14_2⟩ := frz3 BK160.out
      obtain ⟨hcz15_0, hcz15_1, hcz15_2⟩ := cells3 BK161.out
      obtain ⟨hfz15_0, hfz15_1, hfz15_2⟩ := frz3 BK161.out
      go_wp2
      go_meet
      case rel => exact ⟨_, (true), (by first | rfl | (simp; done) | (simp [*]; done)), H', ⟨by first | omega | exact Nat.le_refl _⟩, ⟨by (with_reducible repeat (first | refine blk_drewN ?_ _ | refine blk_drew ?_ | refine blk_alloc ?_ _)); exact BK160.out⟩, ⟨by (with_reducible repeat (first | refine blk_drewN ?_ _ | refine blk_drew ?_ | refine blk_alloc ?_ _)); exact BK161.out⟩, ⟨bl⟩⟩
     ·
      rw [if_neg c12] at H
      have c12b0 : decide (a0_1 < a1_1) = false := decide_eq_false c12
      clear c12
      by_cases c16 : a0_0 = 1
      ·
       rw [if_pos c16] at H
       have c16b0 : (a0_0 == 1) = true := beq_iff_eq.mpr c16
       have c16b1 : (a0_0 != 1) = false := bne_eq_false_iff_eq.mpr c16
       clear c16
       have H' := Aside0.mk H
       clear H
       have hnb17 := NB160_161.out
       have hnc17 := NB161_160.out
       obtain ⟨hcz18_0, hcz18_1, hcz18_2⟩ := cells3 BK160.out
       obtain ⟨hfz18_0, hfz18_1, hfz18_2⟩ := frz3 BK160.out
       obtain ⟨hcz19_0, hcz19_1, hcz19_2⟩ := cells3 BK161.out
       obtain ⟨hfz19_0, hfz19_1, hfz19_2⟩ := frz3 BK161.out
       go_wp2
       go_meet
       case rel => exact ⟨_, ((Op.bytesLess a0_2.toList a1_2.toList)), (by first | rfl | (simp; done) | (simp [*]; done)), H', ⟨by first | omega | exact Nat.le_refl _⟩, ⟨by (with_reducible repeat (first | refine blk_drewN ?_ _ | refine blk_drew ?_ | refine blk_alloc ?_ _)); exact BK160.out⟩, ⟨by (with_reducible repeat (first | refine blk_drewN ?_ _ | refine blk_drew ?_ | refine blk_alloc ?_ _)); exact BK161.out⟩, ⟨bl⟩⟩
      ·
       rw [if_neg c16] at H
       have c16b0 : (a0_0 == 1) = false := beq_eq_false_iff_ne.mpr c16
       have c16b1 : (a0_0 != 1) = true := bne_iff_ne.mpr c16
       have H' := Aside0.mk H
       clear H
       have hnb20 := NB160_161.out
       have hnc20 := NB161_160.out
       obtain ⟨hcz21_0, hcz21_1, hcz21_2⟩ := cells3 BK160.out
       obtain ⟨hfz21_0, hfz21_1, hfz21_2⟩ := frz3 BK160.out
       obtain ⟨hcz22_0, hcz22_1, hcz22_2⟩ := cells3 BK161.out
       obtain ⟨hfz22_0, hfz22_1, hfz22_2⟩ := frz3 BK161.out
       go_wp2
       go_meet
       case rel => exact ⟨_, (false), (by first | rfl | (simp; done) | (simp [*]; done)), H', ⟨by first | omega | exact Nat.le_refl _⟩, ⟨by (with_reducible repeat (first | refine blk_drewN ?_ _ | refine blk_drew ?_ | refine blk_alloc ?_ _)); exact BK160.out⟩, ⟨by (with_reducible repeat (first | refine blk_drewN ?_ _ | refine blk_drew ?_ | refine blk_alloc ?_ _)); exact BK161.out⟩, ⟨bl⟩⟩
    ·
     rw [if_neg c11] at H
     have c11b0 : (a0_0 == 0) = false := beq_eq_false_iff_ne.mpr c11
     have c11b1 : (a0_0 != 0) = true := bne_iff_ne.mpr c11
     by_cases c23 : a0_0 = 1
     ·
      rw [if_pos c23] at H
      have c23b0 : (a0_0 == 1) = true := beq_iff_eq.mpr c23
      have c23b1 : (a0_0 != 1) = false := bne_eq_false_iff_eq.mpr c23
      clear c23
      have H' := Aside0.mk H
      clear H
      have hnb24 := NB160_161.out
      have hnc24 := NB161_160.out
      obtain ⟨hcz25_0, hcz25_1, hcz25_2⟩ := cells3 BK160.out
      obtain ⟨hfz25_0, hfz25_1, hfz25_2⟩ := frz3 BK160.out
      obtain ⟨hcz26_0, hcz26_1, hcz26_2⟩ := cells3 BK161.out
      obtain ⟨hfz26_0, hfz26_1, hfz26_2⟩ := frz3 BK161.out
      go_wp2
      go_meet
      case rel => exact ⟨_, ((Op.bytesLess a0_2.toList a1_2.toList)), (by first | rfl | (simp; done) | (simp [*]; done)), H', ⟨by first | omega | exact Nat.le_refl _⟩, ⟨by (with_reducible repeat (first | refine blk_drewN ?_ _ | refine blk_drew ?_ | refine blk_alloc ?_ _)); exact BK160.out⟩, ⟨by (with_reducible repeat (first | refine blk_drewN ?_ _ | refine blk_drew ?_ | refine blk_alloc ?_ _)); exact BK161.out⟩, ⟨bl⟩⟩
     ·
      rw [if_neg c23] at H
      have c23b0 : (a0_0 == 1) = false := beq_eq_false_iff_ne.mpr c23
      have c23b1 : (a0_0 != 1) = true := bne_iff_ne.mpr c23
      have H' := Aside0.mk H
      clear H
      have hnb27 := NB160_161.out
      have hnc27 := NB161_160.out
      obtain ⟨hcz28_0, hcz28_1, hcz28_2⟩ := cells3 BK160.out
      obtain ⟨hfz28_0, hfz28_1, hfz28_2⟩ := frz3 BK160.out
      obtain ⟨hcz29_0, hcz29_1, hcz29_2⟩ := cells3 BK161.out
      obtain ⟨hfz29_0, hfz29_1, hfz29_2⟩ := frz3 BK161.out
      go_wp2
      go_meet
      case rel => exact ⟨_, (false), (by first | rfl | (simp; done) | (simp [*]; done)), H', ⟨by first | omega | exact Nat.le_refl _⟩, ⟨by (with_reducible repeat (first | refine blk_drewN ?_ _ | refine blk_drew ?_ | refine blk_alloc ?_ _)); exact BK160.out⟩, ⟨by (with_reducible repeat (first | refine blk_drewN ?_ _ | refine blk_drew ?_ | refine blk_alloc ?_ _)); exact BK161.out⟩, ⟨bl⟩⟩
   ·
    rw [if_neg c10] at H
    have c10b0 : (a0_0 == a1_0) = false := beq_eq_false_iff_ne.mpr c10
    have c10b1 : (a0_0 != a1_0) = true := bne_iff_ne.mpr c10
    have H' := Aside0.mk H
    clear H
    have hnb30 := NB160_161.out
    have hnc30 := NB161_160.out
    obtain ⟨hcz31_0, hcz31_1, hcz31_2⟩ := cells3 BK160.out
    obtain ⟨hfz31_0, hfz31_1, hfz31_2⟩ := frz3 BK160.out
    obtain ⟨hcz32_0, hcz32_1, hcz32_2⟩ := cells3 BK161.out
    obtain ⟨hfz32_0, hfz32_1, hfz32_2⟩ := frz3 BK161.out
    go_wp2
    go_meet
    case rel => exact ⟨_, (false), (by first | rfl | (simp; done) | (simp [*]; done)), H', ⟨by first | omega | exact Nat.le_refl _⟩, ⟨by (with_reducible repeat (first | refine blk_drewN ?_ _ | refine blk_drew ?_ | refine blk_alloc ?_ _)); exact BK160.out⟩, ⟨by (with_reducible repeat (first | refine blk_drewN ?_ _ | refine blk_drew ?_ | refine blk_alloc ?_ _)); exact BK161.out⟩, ⟨bl⟩⟩
 case rest =>
  clear HC3
  obtain ⟨kq, x40_2, rfl, HA, HJ2, BK160, BK161, HB⟩ := hcut
  cases kq with
  | zero => exact absurd HA.out (by simp [runnelref03_Cmp.j0])
  | succ kj2 =>
   have H := HA.out
   clear HA
   simp only [runnelref03_Cmp.j0] at H
   by_cases c33 : x40_2 = true
   ·
    subst c33
    have H1 : (some (-1)) = some r := by rw [if_pos rfl] at H; exact H
    clear H
    have H := H1
    clear H1
    obtain rfl := Option.some.inj H
    go_wp2
    go_ret
    exact ⟨erq, by repeat (first | (with_reducible first | exact HB.out | apply below_alloc | apply pw_below_drewN | apply below_drew1 | refine below_set ?_ GE160.out | refine below_set ?_ GE161.out) | exact HB.out)⟩
   ·
    replace c33 := Bool.eq_false_iff.mpr c33
    subst c33
    have H1 : (if a0_0 > a1_0 then (some 1) else (if a0_0 = a1_0 then (if a0_0 = 0 then (if a0_1 > a1_1 then (some 1) else (if a0_0 = 1 then (if (Op.bytesLess a1_2.toList a0_2.toList) = true then (some 1) else (some 0)) else (some 0))) else (if a0_0 = 1 then (if (Op.bytesLess a1_2.toList a0_2.toList) = true then (some 1) else (some 0)) else (some 0))) else (some 0))) = some r := by rw [if_neg (show ¬ (false = true) by decide)] at H; exact H
    clear H
    have H := H1
    clear H1
    by_cases c34 : a0_0 > a1_0
    ·
     rw [if_pos c34] at H
     have c34b0 : decide (a1_0 < a0_0) = true := decide_eq_true c34
     clear c34
     obtain rfl := Option.some.inj H
     have hnb35 := NB160_161.out
     have hnc35 := NB161_160.out
     obtain ⟨hcz36_0, hcz36_1, hcz36_2⟩ := cells3 BK160.out
     obtain ⟨hfz36_0, hfz36_1, hfz36_2⟩ := frz3 BK160.out
     obtain ⟨hcz37_0, hcz37_1, hcz37_2⟩ := cells3 BK161.out
     obtain ⟨hfz37_0, hfz37_1, hfz37_2⟩ := frz3 BK161.out
     go_wp2
     go_ret
     exact ⟨erq, by repeat (first | (with_reducible first | exact HB.out | apply below_alloc | apply pw_below_drewN | apply below_drew1 | refine below_set ?_ GE160.out | refine below_set ?_ GE161.out) | exact HB.out)⟩
    ·
     rw [if_neg c34] at H
     have c34b0 : decide (a1_0 < a0_0) = false := decide_eq_false c34
     clear c34
     by_cases c38 : a0_0 = a1_0
     ·
      rw [if_pos c38] at H
      have c38b0 : (a0_0 == a1_0) = true := beq_iff_eq.mpr c38
      have c38b1 : (a0_0 != a1_0) = false := bne_eq_false_iff_eq.mpr c38
      clear c38
      by_cases c39 : a0_0 = 0
      ·
       rw [if_pos c39] at H
       have c39b0 : (a0_0 == 0) = true := beq_iff_eq.mpr c39
       have c39b1 : (a0_0 != 0) = false := bne_eq_false_iff_eq.mpr c39
       clear c39
       by_cases c40 : a0_1 > a1_1
       ·
        rw [if_pos c40] at H
        have c40b0 : decide (a1_1 < a0_1) = true := decide_eq_true c40
        clear c40
        obtain rfl := Option.some.inj H
        have hnb41 := NB160_161.out
        have hnc41 := NB161_160.out
        obtain ⟨hcz42_0, hcz42_1, hcz42_2⟩ := cells3 BK160.out
        obtain ⟨hfz42_0, hfz42_1, hfz42_2⟩ := frz3 BK160.out
        obtain ⟨hcz43_0, hcz43_1, hcz43_2⟩ := cells3 BK161.out
        obtain ⟨hfz43_0, hfz43_1, hfz43_2⟩ := frz3 BK161.out
        go_wp2
        go_ret
        exact ⟨erq, by repeat (first | (with_reducible first | exact HB.out | apply below_alloc | apply pw_below_drewN | apply below_drew1 | refine below_set ?_ GE160.out | refine below_set ?_ GE161.out) | exact HB.out)⟩
       ·
        rw [if_neg c40] at H
        have c40b0 : decide (a1_1 < a0_1) = false := decide_eq_false c40
        clear c40
        by_cases c44 : a0_0 = 1
        ·
         rw [if_pos c44] at H
         have c44b0 : (a0_0 == 1) = true := beq_iff_eq.mpr c44
         have c44b1 : (a0_0 != 1) = false := bne_eq_false_iff_eq.mpr c44
         clear c44
         by_cases c45 : (Op.bytesLess a1_2.toList a0_2.toList) = true
         ·
          rw [if_pos c45] at H
          have c45b0 : (Op.bytesLess a1_2.toList a0_2.toList) = true := c45
          clear c45
          obtain rfl := Option.some.inj H
          have hnb46 := NB160_161.out
          have hnc46 := NB161_160.out
          obtain ⟨hcz47_0, hcz47_1, hcz47_2⟩ := cells3 BK160.out
          obtain ⟨hfz47_0, hfz47_1, hfz47_2⟩ := frz3 BK160.out
          obtain ⟨hcz48_0, hcz48_1, hcz48_2⟩ := cells3 BK161.out
          obtain ⟨hfz48_0, hfz48_1, hfz48_2⟩ := frz3 BK161.out
          go_wp2
          go_ret
          exact ⟨erq, by repeat (first | (with_reducible first | exact HB.out | apply below_alloc | apply pw_below_drewN | apply below_drew1 | refine below_set ?_ GE160.out | refine below_set ?_ GE161.out) | exact HB.out)⟩
         ·
          rw [if_neg c45] at H
          have c45b0 : (Op.bytesLess a1_2.toList a0_2.toList) = false := by simpa using c45
          clear c45
          obtain rfl := Option.some.inj H
          have hnb49 := NB160_161.out
          have hnc49 := NB161_160.out
          obtain ⟨hcz50_0, hcz50_1, hcz50_2⟩ := cells3 BK160.out
          obtain ⟨hfz50_0, hfz50_1, hfz50_2⟩ := frz3 BK160.out
          obtain ⟨hcz51_0, hcz51_1, hcz51_2⟩ := cells3 BK161.out
          obtain ⟨hfz51_0, hfz51_1, hfz51_2⟩ := frz3 BK161.out
          go_wp2
          go_ret
          exact ⟨erq, by repeat (first | (with_reducible first | exact HB.out | apply below_alloc | apply pw_below_drewN | apply below_drew1 | refine below_set ?_ GE160.out | refine below_set ?_ GE161.out) | exact HB.out)⟩
        ·
         rw [if_neg c44] at H
         have c44b0 : (a0_0 == 1) = false := beq_eq_false_iff_ne.mpr c44
         have c44b1 : (a0_0 != 1) = true := bne_iff_ne.mpr c44
         obtain rfl := Option.some.inj H
         have hnb52 := NB160_161.out
         have hnc52 := NB161_160.out
         obtain ⟨hcz53_0, hcz53_1, hcz53_2⟩ := cells3 BK160.out
         obtain ⟨hfz53_0, hfz53_1, hfz53_2⟩ := frz3 BK160.out
         obtain ⟨hcz54_0, hcz54_1, hcz54_2⟩ := cells3 BK161.out
         obtain ⟨hfz54_0, hfz54_1, hfz54_2⟩ := frz3 BK161.out
         go_wp2
         go_ret
         exact ⟨erq, by repeat (first | (with_reducible first | exact HB.out | apply below_alloc | apply pw_below_drewN | apply below_drew1 | refine below_set ?_ GE160.out | refine below_set ?_ GE161.out) | exact HB.out)⟩
      ·
       rw [if_neg c39] at H
       have c39b0 : (a0_0 == 0) = false := beq_eq_false_iff_ne.mpr c39
       have c39b1 : (a0_0 != 0) = true := bne_iff_ne.mpr c39
       by_cases c55 : a0_0 = 1
       ·
        rw [if_pos c55] at H
        have c55b0 : (a0_0 == 1) = true := beq_iff_eq.mpr c55
        have c55b1 : (a0_0 != 1) = false := bne_eq_false_iff_eq.mpr c55
        clear c55
        by_cases c56 : (Op.bytesLess a1_2.toList a0_2.toList) = true
        ·
         rw [if_pos c56] at H
         have c56b0 : (Op.bytesLess a1_2.toList a0_2.toList) = true := c56
         clear c56
         obtain rfl := Option.some.inj H
         have hnb57 := NB160_161.out
         have hnc57 := NB161_160.out
         obtain ⟨hcz58_0, hcz58_1, hcz58_2⟩ := cells3 BK160.out
         obtain ⟨hfz58_0, hfz58_1, hfz58_2⟩ := frz3 BK160.out
         obtain ⟨hcz59_0, hcz59_1, hcz59_2⟩ := cells3 BK161.out
         obtain ⟨hfz59_0, hfz59_1, hfz59_2⟩ := frz3 BK161.out
         go_wp2
         go_ret
         exact ⟨erq, by repeat (first | (with_reducible first | exact HB.out | apply below_alloc | apply pw_below_drewN | apply below_drew1 | refine below_set ?_ GE160.out | refine below_set ?_ GE161.out) | exact HB.out)⟩
        ·
         rw [if_neg c56] at H
         have c56b0 : (Op.bytesLess a1_2.toList a0_2.toList) = false := by simpa using c56
         clear c56
         obtain rfl := Option.some.inj H
         have hnb60 := NB160_161.out
         have hnc60 := NB161_160.out
         obtain ⟨hcz61_0, hcz61_1, hcz61_2⟩ := cells3 BK160.out
         obtain ⟨hfz61_0, hfz61_1, hfz61_2⟩ := frz3 BK160.out
         obtain ⟨hcz62_0, hcz62_1, hcz62_2⟩ := cells3 BK161.out
         obtain ⟨hfz62_0, hfz62_1, hfz62_2⟩ := frz3 BK161.out
         go_wp2
         go_ret
         exact ⟨erq, by repeat (first | (with_reducible first | exact HB.out | apply below_alloc | apply pw_below_drewN | apply below_drew1 | refine below_set ?_ GE160.out | refine below_set ?_ GE161.out) | exact HB.out)⟩
       ·
        rw [if_neg c55] at H
        have c55b0 : (a0_0 == 1) = false := beq_eq_false_iff_ne.mpr c55
        have c55b1 : (a0_0 != 1) = true := bne_iff_ne.mpr c55
        obtain rfl := Option.some.inj H
        have hnb63 := NB160_161.out
        have hnc63 := NB161_160.out
        obtain ⟨hcz64_0, hcz64_1, hcz64_2⟩ := cells3 BK160.out
        obtain ⟨hfz64_0, hfz64_1, hfz64_2⟩ := frz3 BK160.out
        obtain ⟨hcz65_0, hcz65_1, hcz65_2⟩ := cells3 BK161.out
        obtain ⟨hfz65_0, hfz65_1, hfz65_2⟩ := frz3 BK161.out
        go_wp2
        go_ret
        exact ⟨erq, by repeat (first | (with_reducible first | exact HB.out | apply below_alloc | apply pw_below_drewN | apply below_drew1 | refine below_set ?_ GE160.out | refine below_set ?_ GE161.out) | exact HB.out)⟩
     ·
      rw [if_neg c38] at H
      have c38b0 : (a0_0 == a1_0) = false := beq_eq_false_iff_ne.mpr c38
      have c38b1 : (a0_0 != a1_0) = true := bne_iff_ne.mpr c38
      obtain rfl := Option.some.inj H
      have hnb66 := NB160_161.out
      have hnc66 := NB161_160.out
      obtain ⟨hcz67_0, hcz67_1, hcz67_2⟩ := cells3 BK160.out
      obtain ⟨hfz67_0, hfz67_1, hfz67_2⟩ := frz3 BK160.out
      obtain ⟨hcz68_0, hcz68_1, hcz68_2⟩ := cells3 BK161.out
      obtain ⟨hfz68_0, hfz68_1, hfz68_2⟩ := frz3 BK161.out
      go_wp2
      go_ret
      exact ⟨erq, by repeat (first | (with_reducible first | exact HB.out | apply below_alloc | apply pw_below_drewN | apply below_drew1 | refine below_set ?_ GE160.out | refine below_set ?_ GE161.out) | exact HB.out)⟩

end Go.Proofs.Ytednmkmhileikaa.PHoldPlays
