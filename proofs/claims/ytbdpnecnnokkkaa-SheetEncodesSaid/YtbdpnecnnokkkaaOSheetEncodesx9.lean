/- One piece of the machine's side of the law, written by a program over the translation; Lean checks it. -/
import Derived.Test.YtbdpnecnnokkkaaOSheetEncodesx0
import Derived.Test.YtbdpnecnnokkkaaShort
namespace Go.Proofs.Ytbdpnecnnokkkaa.PSheetEncodes
open Go.RowKit Go.Proofs.YtbdpnecnnokkkaaW.PrintWords Go.Proofs.YtbdpnecnnokkkaaW.PrintLast Go.Proofs.YtbdpnecnnokkkaaW.PrintMore
attribute [local go_sem] max2_int min2_int max_two min_two max_three min_three max_four min_four   -- for this text's walks alone
set_option linter.unusedVariables false
set_option linter.unusedSimpArgs false

/-! ### runnelref17_node: function 33 -/
mutual
def runnelref17_node.j0 : Nat → Bool → Int → List Int → List Int → List (List (S52)) → List Int → Int → Int → Int → Int → Option (Int)
 | 0, _, _, _, _, _, _, _, _, _, _ => none
 | k + 1, x27, x269000, x269001, x269002, x269003, x269004, x269005, x269006, x269007, x269008 => if x27 = true then (some 3) else (runnelref17_node.l0 k 0 x269000 x269001 x269002 x269003 x269004 x269005 x269006 x269007 x269008)
def runnelref17_node.l0 : Nat → Int → Int → List Int → List Int → List (List (S52)) → List Int → Int → Int → Int → Int → Option (Int)
 | 0, _, _, _, _, _, _, _, _, _, _ => none
 | k + 1, x3, x269000, x269001, x269002, x269003, x269004, x269005, x269006, x269007, x269008 => if x3 < (x269003.length : Int) then (if 0 ≤ x3 then (if ((rd_L4 x269003 x3).length : Int) > 64 then (some 3) else (runnelref17_node.l0 k (wrap64 (x3 + 1)) x269000 x269001 x269002 x269003 x269004 x269005 x269006 x269007 x269008)) else (none)) else (runnelref17_node.l1 k 0 x269000 x269001 x269002 x269003 x269004 x269005 x269006 x269007 x269008)
def runnelref17_node.l1 : Nat → Int → Int → List Int → List Int → List (List (S52)) → List Int → Int → Int → Int → Int → Option (Int)
 | 0, _, _, _, _, _, _, _, _, _, _ => none
 | k + 1, x4, x269000, x269001, x269002, x269003, x269004, x269005, x269006, x269007, x269008 => if x4 < (x269003.length : Int) then (runnelref17_node.l2 k x4 0 x269000 x269001 x269002 x269003 x269004 x269005 x269006 x269007 x269008) else (some 0)
def runnelref17_node.l2 : Nat → Int → Int → Int → List Int → List Int → List (List (S52)) → List Int → Int → Int → Int → Int → Option (Int)
 | 0, _, _, _, _, _, _, _, _, _, _, _ => none
 | k + 1, x4, x5, x269000, x269001, x269002, x269003, x269004, x269005, x269006, x269007, x269008 => if 0 ≤ x4 then (if x4 < (x269003.length : Int) then (if x5 < ((rd_L4 x269003 x4).length : Int) then (if 0 ≤ x5 then (if (((rd_T52 (rd_L4 x269003 x4) x5).f2).size : Int) > 4096 then (some 2) else (runnelref17_node.l2 k x4 (wrap64 (x5 + 1)) x269000 x269001 x269002 x269003 x269004 x269005 x269006 x269007 x269008)) else (none)) else (runnelref17_node.l1 k (wrap64 (x4 + 1)) x269000 x269001 x269002 x269003 x269004 x269005 x269006 x269007 x269008)) else (none)) else (none)
end
def runnelref17_node.f (k : Nat) (a0_0 : Int) (l0_1 : List Int) (l0_2 : List Int) (l0_3 : List (List (S52))) (l0_4 : List Int) (a0_5 : Int) (a0_6 : Int) (a0_7 : Int) (a0_8 : Int) : Option (Int) := if (l0_1.length : Int) > 8 then (runnelref17_node.j0 k true a0_0 l0_1 l0_2 l0_3 l0_4 a0_5 a0_6 a0_7 a0_8) else (if (l0_2.length : Int) > 16 then (runnelref17_node.j0 k true a0_0 l0_1 l0_2 l0_3 l0_4 a0_5 a0_6 a0_7 a0_8) else (if (l0_3.length : Int) > 16 then (runnelref17_node.j0 k true a0_0 l0_1 l0_2 l0_3 l0_4 a0_5 a0_6 a0_7 a0_8) else (runnelref17_node.j0 k (decide ((l0_4.length : Int) > 16)) a0_0 l0_1 l0_2 l0_3 l0_4 a0_5 a0_6 a0_7 a0_8)))
set_option maxHeartbeats 8000000 in
set_option maxRecDepth 100000 in
theorem runnelref17_node.calls (k : Nat) (a0_0 : Int) (A0_1 : Option Addr) (c0_1 : Nat) (l0_1 : List Int) (A0_2 : Option Addr) (c0_2 : Nat) (l0_2 : List Int) (A0_3 : Option Addr) (c0_3 : Nat) (l0_3 : List (List (S52))) (A0_4 : Option Addr) (c0_4 : Nat) (l0_4 : List Int) (a0_5 : Int) (a0_6 : Int) (a0_7 : Int) (a0_8 : Int) (r : Int) (w : World) (hr0_1 : Kd.C (Kd.int .i64) w A0_1 l0_1.length l0_1) (hc0_1 : l0_1.length ≤ c0_1) (hr0_2 : Kd.C (Kd.int .i64) w A0_2 l0_2.length l0_2) (hc0_2 : l0_2.length ≤ c0_2) (hr0_3 : Kd.C (Kd.slice 52 k52) w A0_3 l0_3.length l0_3) (hc0_3 : l0_3.length ≤ c0_3) (hr0_4 : Kd.C (Kd.int .i64) w A0_4 l0_4.length l0_4) (hc0_4 : l0_4.length ≤ c0_4) (h : runnelref17_node.f k a0_0 l0_1 l0_2 l0_3 l0_4 a0_5 a0_6 a0_7 a0_8 = some r) :
  Calls Try.prog 33 #[.agg #[.int .i64 a0_0, .slice A0_1 l0_1.length c0_1, .slice A0_2 l0_2.length c0_2, .slice A0_3 l0_3.length c0_3, .slice A0_4 l0_4.length c0_4, .int .i64 a0_5, .int .i64 a0_6, .int .i64 a0_7, .int .i64 a0_8]] w fun e w' => e = .returned (.int .i64 r) ∧ Below w.heap.size w w' := by
 have hu44 := Try.underlying44
 have HR0_1 := Aside0.mk hr0_1
 have HC0_1 := Aside0.mk hc0_1
 clear hr0_1 hc0_1
 have HR0_2 := Aside0.mk hr0_2
 have HC0_2 := Aside0.mk hc0_2
 clear hr0_2 hc0_2
 have HR0_3 := Aside0.mk hr0_3
 have HC0_3 := Aside0.mk hc0_3
 clear hr0_3 hc0_3
 have HR0_4 := Aside0.mk hr0_4
 have HC0_4 := Aside0.mk hc0_4
 clear hr0_4 hc0_4
 have HB := Aside0.mk (Below.refl w.heap.size w)
 have H : (if (l0_1.length : Int) > 8 then (runnelref17_node.j0 k true a0_0 l0_1 l0_2 l0_3 l0_4 a0_5 a0_6 a0_7 a0_8) else (if (l0_2.length : Int) > 16 then (runnelref17_node.j0 k true a0_0 l0_1 l0_2 l0_3 l0_4 a0_5 a0_6 a0_7 a0_8) else (if (l0_3.length : Int) > 16 then (runnelref17_node.j0 k true a0_0 l0_1 l0_2 l0_3 l0_4 a0_5 a0_6 a0_7 a0_8) else (runnelref17_node.j0 k (decide ((l0_4.length : Int) > 16)) a0_0 l0_1 l0_2 l0_3 l0_4 a0_5 a0_6 a0_7 a0_8)))) = some r := h
 clear h
 have HC2 := Aside0.mk H
 clear H
 go_enter Try.func33, Try.ntmps33
 go_upto_region 1 with (first | ((with_reducible refine gate_dst (N := 1) rfl ?_); (try (refine gate_guard (by rfl) ?_; dsimp only)); refine box_event ?hg (N := 1) ?hd (cs := #[.int .i64 a0_0, .slice A0_1 l0_1.length c0_1, .slice A0_2 l0_2.length c0_2, .slice A0_3 l0_3.length c0_3, .slice A0_4 l0_4.length c0_4, .int .i64 a0_5, .int .i64 a0_6, .int .i64 a0_7, .int .i64 a0_8]) (t := 44) ?hr ?_; (case hd => rfl); (case hg => rfl); (case hr => first | (go_simp; done) | (go_simp; rfl)); intro gb268 hg w3 hbox hb; have n0_ := Aside0.mk (below_step bl hb); have n1_ := Aside0.mk (hbox); have n2_ := Aside0.mk ((by rw [hg]; exact (below_size bl) : w.heap.size ≤ gb268)); have n3_ := Aside0.mk ((by rw [hg]; exact (below_size bl) : w.heap.size ≤ gb268)); clear HB; have HB := n0_; have BK268 := n1_; have GW268 := n2_; have GE268 := n3_; clear n0_ n1_ n2_ n3_; clear hb hbox hg))
 (try simp only [Act.put, List.setIfInBounds_toArray, List.set_cons_zero, List.set_cons_succ])
 go_cut [27] (fun v27 wc => ∃ (kq : Nat) (x27_1 : Bool), v27 = .bool x27_1 ∧ Aside0 (runnelref17_node.j0 kq x27_1 a0_0 l0_1 l0_2 l0_3 l0_4 a0_5 a0_6 a0_7 a0_8 = some r) ∧ Aside0 (kq ≤ k) ∧ Aside0 (wc.heap[gb268]? = some (.cells #[.int .i64 a0_0, (.slice A0_1 l0_1.length c0_1), (.slice A0_2 l0_2.length c0_2), (.slice A0_3 l0_3.length c0_3), (.slice A0_4 l0_4.length c0_4), .int .i64 a0_5, .int .i64 a0_6, .int .i64 a0_7, .int .i64 a0_8] 44 (0, 0))) ∧ Aside0 (Below w.heap.size w wc))
 case first =>
  have H := HC2.out
  clear HC2
  by_cases c4 : (l0_1.length : Int) > 8
  ·
   rw [if_pos c4] at H
   have c4b0 : decide (8 < (l0_1.length : Int)) = true := decide_eq_true c4
   have c4b1 : decide (8 < l0_1.length) = true := decide_eq_true (by omega)
   clear c4
   (first | rw [c4b0] | (simp only [i64_w, i32_w]; rw [c4b0]) | skip)
   have H' := Aside0.mk H
   clear H
   obtain ⟨hcz5_0, hcz5_1, hcz5_2, hcz5_3, hcz5_4, hcz5_5, hcz5_6, hcz5_7, hcz5_8⟩ := cells9 BK268.out
   obtain ⟨hfz5_0, hfz5_1, hfz5_2, hfz5_3, hfz5_4, hfz5_5, hfz5_6, hfz5_7, hfz5_8⟩ := frz9 BK268.out
   go_wp2
   go_meet
   case rel => exact ⟨_, (true), (by first | rfl | (simp; done) | (simp [*]; done)), H', ⟨by first | omega | exact Nat.le_refl _⟩, ⟨by (with_reducible repeat (first | refine blk_drewN ?_ _ | refine blk_drew ?_ | refine blk_alloc ?_ _)); exact BK268.out⟩, ⟨bl⟩⟩
  ·
   rw [if_neg c4] at H
   have c4b0 : decide (8 < (l0_1.length : Int)) = false := decide_eq_false c4
   have c4b1 : decide (8 < l0_1.length) = false := decide_eq_false (by omega)
   clear c4
   (first | rw [c4b0] | (simp only [i64_w, i32_w]; rw [c4b0]) | skip)
   by_cases c6 : (l0_2.length : Int) > 16
   ·
    rw [if_pos c6] at H
    have c6b0 : decide (16 < (l0_2.length : Int)) = true := decide_eq_true c6
    have c6b1 : decide (16 < l0_2.length) = true := decide_eq_true (by omega)
    clear c6
    have H' := Aside0.mk H
    clear H
    obtain ⟨hcz7_0, hcz7_1, hcz7_2, hcz7_3, hcz7_4, hcz7_5, hcz7_6, hcz7_7, hcz7_8⟩ := cells9 BK268.out
    obtain ⟨hfz7_0, hfz7_1, hfz7_2, hfz7_3, hfz7_4, hfz7_5, hfz7_6, hfz7_7, hfz7_8⟩ := frz9 BK268.out
    go_wp2
    go_meet
    case rel => exact ⟨_, (true), (by first | rfl | (simp; done) | (simp [*]; done)), H', ⟨by first | omega | exact Nat.le_refl _⟩, ⟨by (with_reducible repeat (first | refine blk_drewN ?_ _ | refine blk_drew ?_ | refine blk_alloc ?_ _)); exact BK268.out⟩, ⟨bl⟩⟩
   ·
    rw [if_neg c6] at H
    have c6b0 : decide (16 < (l0_2.length : Int)) = false := decide_eq_false c6
    have c6b1 : decide (16 < l0_2.length) = false := decide_eq_false (by omega)
    clear c6
    by_cases c8 : (l0_3.length : Int) > 16
    ·
     rw [if_pos c8] at H
     have c8b0 : decide (16 < (l0_3.length : Int)) = true := decide_eq_true c8
     have c8b1 : decide (16 < l0_3.length) = true := decide_eq_true (by omega)
     clear c8
     have H' := Aside0.mk H
     clear H
     obtain ⟨hcz9_0, hcz9_1, hcz9_2, hcz9_3, hcz9_4, hcz9_5, hcz9_6, hcz9_7, hcz9_8⟩ := cells9 BK268.out
     obtain ⟨hfz9_0, hfz9_1, hfz9_2, hfz9_3, hfz9_4, hfz9_5, hfz9_6, hfz9_7, hfz9_8⟩ := frz9 BK268.out
     go_wp2
     go_meet
     case rel => exact ⟨_, (true), (by first | rfl | (simp; done) | (simp [*]; done)), H', ⟨by first | omega | exact Nat.le_refl _⟩, ⟨by (with_reducible repeat (first | refine blk_drewN ?_ _ | refine blk_drew ?_ | refine blk_alloc ?_ _)); exact BK268.out⟩, ⟨bl⟩⟩
    ·
     rw [if_neg c8] at H
     have c8b0 : decide (16 < (l0_3.length : Int)) = false := decide_eq_false c8
     have c8b1 : decide (16 < l0_3.length) = false := decide_eq_false (by omega)
     clear c8
     have H' := Aside0.mk H
     clear H
     obtain ⟨hcz10_0, hcz10_1, hcz10_2, hcz10_3, hcz10_4, hcz10_5, hcz10_6, hcz10_7, hcz10_8⟩ := cells9 BK268.out
     obtain ⟨hfz10_0, hfz10_1, hfz10_2, hfz10_3, hfz10_4, hfz10_5, hfz10_6, hfz10_7, hfz10_8⟩ := frz9 BK268.out
     go_wp2
     go_meet
     case rel => exact ⟨_, (decide ((l0_4.length : Int) > 16)), (by first | rfl | (simp; done) | (simp [*]; done)), H', ⟨by first | omega | exact Nat.le_refl _⟩, ⟨by (with_reducible repeat (first | refine blk_drewN ?_ _ | refine blk_drew ?_ | refine blk_alloc ?_ _)); exact BK268.out⟩, ⟨bl⟩⟩
 case rest =>
  clear HC2
  obtain ⟨kq, x27_1, rfl, HA, HJ1, BK268, HB⟩ := hcut
  cases kq with
  | zero => exact absurd HA.out (by simp [runnelref17_node.j0])
  | succ kj1 =>
   have H := HA.out
   clear HA
   simp only [runnelref17_node.j0] at H
   by_cases c11 : x27_1 = true
   ·
    subst c11
    have H1 : (some 3) = some r := by rw [if_pos rfl] at H; exact H
    clear H
    have H := H1
    clear H1
    obtain rfl := Option.some.inj H
    go_wp2
    go_ret
    exact ⟨erq, by repeat (first | (with_reducible first | exact HB.out | apply below_alloc | apply pw_below_drewN | apply below_drew1 | refine below_set ?_ GE268.out) | exact HB.out)⟩
   ·
    replace c11 := Bool.eq_false_iff.mpr c11
    subst c11
    have H1 : (runnelref17_node.l0 kj1 0 a0_0 l0_1 l0_2 l0_3 l0_4 a0_5 a0_6 a0_7 a0_8) = some r := by rw [if_neg (show ¬ (false = true) by decide)] at H; exact H
    clear H
    have H := H1
    clear H1
    have H' := Aside0.mk H
    clear H
    go_wp2
    go_loopg [3] kj1 (fun kq v3 w' => ∃ (x3_2 : Int), v3 = .int .i64 x3_2 ∧ Aside0 (runnelref17_node.l0 kq x3_2 a0_0 l0_1 l0_2 l0_3 l0_4 a0_5 a0_6 a0_7 a0_8 = some r) ∧ Aside0 (kq ≤ kj1) ∧ Aside0 (w'.heap[gb268]? = some (.cells #[.int .i64 a0_0, (.slice A0_1 l0_1.length c0_1), (.slice A0_2 l0_2.length c0_2), (.slice A0_3 l0_3.length c0_3), (.slice A0_4 l0_4.length c0_4), .int .i64 a0_5, .int .i64 a0_6, .int .i64 a0_7, .int .i64 a0_8] 44 (0, 0))) ∧ Aside0 (Below w.heap.size w w'))
    case atStart => exact ⟨(0), (by first | rfl | (simp; done) | (simp [*]; done)), H', ⟨Nat.le_refl _⟩, ⟨by (with_reducible repeat (first | refine blk_drewN ?_ _ | refine blk_drew ?_ | refine blk_alloc ?_ _)); exact BK268.out⟩, ⟨bl⟩⟩
    case round =>
     clear H'
     try clear c11
     obtain ⟨x3_2, rfl, HA, HK2, BK268, HB⟩ := hrel
     cases gk with
     | zero => exact absurd HA.out (by simp [runnelref17_node.l0])
     | succ k2 =>
      have H := HA.out
      clear HA
      simp only [runnelref17_node.l0] at H
      by_cases c12 : x3_2 < (l0_3.length : Int)
      ·
       rw [if_pos c12] at H
       have c12b0 : decide (x3_2 < (l0_3.length : Int)) = true := decide_eq_true c12
       clear c12
       by_cases c13 : 0 ≤ x3_2
       ·
        rw [if_pos c13] at H
        have c13b0 : decide (0 ≤ x3_2) = true := decide_eq_true c13
        clear c13
        by_cases c14 : ((rd_L4 l0_3 x3_2).length : Int) > 64
        ·
         rw [if_pos c14] at H
         have c14b0 : decide (64 < ((rd_L4 l0_3 x3_2).length : Int)) = true := decide_eq_true c14
         have c14b1 : decide (64 < (rd_L4 l0_3 x3_2).length) = true := decide_eq_true (by omega)
         clear c14
         obtain rfl := Option.some.inj H
         obtain ⟨hcz15_0, hcz15_1, hcz15_2, hcz15_3, hcz15_4, hcz15_5, hcz15_6, hcz15_7, hcz15_8⟩ := cells9 BK268.out
         obtain ⟨hfz15_0, hfz15_1, hfz15_2, hfz15_3, hfz15_4, hfz15_5, hfz15_6, hfz15_7, hfz15_8⟩ := frz9 BK268.out
         have p269 : 0 ≤ (x3_2 : Int) := of_decide_eq_true (by first | (with_reducible assumption) | assumption)
         have q269 : x3_2 < (l0_3.length : Int) := of_decide_eq_true (by first | (with_reducible assumption) | assumption)
         obtain ⟨ad269, A269_0, c269_0, e269, hx269_0, hl269_0, hi269_0⟩ := at_L4 HR0_3.out x3_2 p269 q269
         cases e269
         replace hx269_0 := bc HB.out hx269_0
         have HR269_0 := Aside0.mk hi269_0
         have HC269_0 := Aside0.mk hl269_0
         clear hi269_0 hl269_0
         replace p269 := eq_true p269
         replace q269 := eq_true q269
         go_wp2
         go_ret
         exact ⟨erq, by repeat (first | (with_reducible first | exact HB.out | apply below_alloc | apply pw_below_drewN | apply below_drew1 | refine below_set ?_ GE268.out) | exact HB.out)⟩
        ·
         rw [if_neg c14] at H
         have c14b0 : decide (64 < ((rd_L4 l0_3 x3_2).length : Int)) = false := decide_eq_false c14
         have c14b1 : decide (64 < (rd_L4 l0_3 x3_2).length) = false := decide_eq_false (by omega)
         clear c14
         have H' := Aside0.mk H
         clear H
         obtain ⟨hcz16_0, hcz16_1, hcz16_2, hcz16_3, hcz16_4, hcz16_5, hcz16_6, hcz16_7, hcz16_8⟩ := cells9 BK268.out
         obtain ⟨hfz16_0, hfz16_1, hfz16_2, hfz16_3, hfz16_4, hfz16_5, hfz16_6, hfz16_7, hfz16_8⟩ := frz9 BK268.out
         have p269 : 0 ≤ (x3_2 : Int) := of_decide_eq_true (by first | (with_reducible assumption) | assumption)
         have q269 : x3_2 < (l0_3.length : Int) := of_decide_eq_true (by first | (with_reducible assumption) | assumption)
         obtain ⟨ad269, A269_0, c269_0, e269, hx269_0, hl269_0, hi269_0⟩ := at_L4 HR0_3.out x3_2 p269 q269
         cases e269
         replace hx269_0 := bc HB.out hx269_0
         have HR269_0 := Aside0.mk hi269_0
         have HC269_0 := Aside0.mk hl269_0
         clear hi269_0 hl269_0
         replace p269 := eq_true p269
         replace q269 := eq_true q269
         go_wp2
         go_roundg k2
         case measure => have := HJ1.out; have := HK2.out; omega
         case rel => exact ⟨(wrap64 (x3_2 + 1)), (by first | rfl | (simp; done) | (simp [*]; done)), H', ⟨by have := HJ1.out; have := HK2.out; omega⟩, ⟨by (with_reducible repeat (first | refine blk_drewN ?_ _ | refine blk_drew ?_ | refine blk_alloc ?_ _)); exact BK268.out⟩, ⟨bl⟩⟩
       ·
        rw [if_neg c13] at H
        exact absurd H (by simp)
      ·
       rw [if_neg c12] at H
       have c12b0 : decide (x3_2 < (l0_3.length : Int)) = false := decide_eq_false c12
       clear c12
       have H' := Aside0.mk H
       clear H
       obtain ⟨hcz17_0, hcz17_1, hcz17_2, hcz17_3, hcz17_4, hcz17_5, hcz17_6, hcz17_7, hcz17_8⟩ := cells9 BK268.out
       obtain ⟨hfz17_0, hfz17_1, hfz17_2, hfz17_3, hfz17_4, hfz17_5, hfz17_6, hfz17_7, hfz17_8⟩ := frz9 BK268.out
       go_wp2
       go_loopg [4] k2 (fun kq v4 w' => ∃ (x4_3 : Int), v4 = .int .i64 x4_3 ∧ Aside0 (runnelref17_node.l1 kq x4_3 a0_0 l0_1 l0_2 l0_3 l0_4 a0_5 a0_6 a0_7 a0_8 = some r) ∧ Aside0 (kq ≤ k2) ∧ Aside0 (w'.heap[gb268]? = some (.cells #[.int .i64 a0_0, (.slice A0_1 l0_1.length c0_1), (.slice A0_2 l0_2.length c0_2), (.slice A0_3 l0_3.length c0_3), (.slice A0_4 l0_4.length c0_4), .int .i64 a0_5, .int .i64 a0_6, .int .i64 a0_7, .int .i64 a0_8] 44 (0, 0))) ∧ Aside0 (Below w.heap.size w w'))
       case atStart => exact ⟨(0), (by first | rfl | (simp; done) | (simp [*]; done)), H', ⟨Nat.le_refl _⟩, ⟨by (with_reducible repeat (first | refine blk_drewN ?_ _ | refine blk_drew ?_ | refine blk_alloc ?_ _)); exact BK268.out⟩, ⟨bl⟩⟩
       case round =>
        clear H'
        (try clear c11); (try clear c12); (try clear c12b0); (try clear hcz17_0); (try clear hcz17_1); (try clear hcz17_2); (try clear hcz17_3); (try clear hcz17_4); (try clear hcz17_5); (try clear hcz17_6); (try clear hcz17_7); (try clear hcz17_8); (try clear hfz17_0); (try clear hfz17_1); (try clear hfz17_2); (try clear hfz17_3); (try clear hfz17_4); (try clear hfz17_5); (try clear hfz17_6); (try clear hfz17_7); (try clear hfz17_8)
        obtain ⟨x4_3, rfl, HA, HK3, BK268, HB⟩ := hrel
        cases gk with
        | zero => exact absurd HA.out (by simp [runnelref17_node.l1])
        | succ k3 =>
         have H := HA.out
         clear HA
         simp only [runnelref17_node.l1] at H
         by_cases c18 : x4_3 < (l0_3.length : Int)
         ·
          rw [if_pos c18] at H
          have c18b0 : decide (x4_3 < (l0_3.length : Int)) = true := decide_eq_true c18
          clear c18
          have H' := Aside0.mk H
          clear H
          obtain ⟨hcz19_0, hcz19_1, hcz19_2, hcz19_3, hcz19_4, hcz19_5, hcz19_6, hcz19_7, hcz19_8⟩ := cells9 BK268.out
          obtain ⟨hfz19_0, hfz19_1, hfz19_2, hfz19_3, hfz19_4, hfz19_5, hfz19_6, hfz19_7, hfz19_8⟩ := frz9 BK268.out
          go_wp2
          go_loopg [5] k3 (fun kq v5 w' => ∃ (x5_4 : Int), v5 = .int .i64 x5_4 ∧ Aside0 (runnelref17_node.l2 kq x4_3 x5_4 a0_0 l0_1 l0_2 l0_3 l0_4 a0_5 a0_6 a0_7 a0_8 = some r) ∧ Aside0 (kq ≤ k3) ∧ Aside0 (w'.heap[gb268]? = some (.cells #[.int .i64 a0_0, (.slice A0_1 l0_1.length c0_1), (.slice A0_2 l0_2.length c0_2), (.slice A0_3 l0_3.length c0_3), (.slice A0_4 l0_4.length c0_4), .int .i64 a0_5, .int .i64 a0_6, .int .i64 a0_7, .int .i64 a0_8] 44 (0, 0))) ∧ Aside0 (Below w.heap.size w w'))
          case atStart => exact ⟨(0), (by first | rfl | (simp; done) | (simp [*]; done)), H', ⟨Nat.le_refl _⟩, ⟨by (with_reducible repeat (first | refine blk_drewN ?_ _ | refine blk_drew ?_ | refine blk_alloc ?_ _)); exact BK268.out⟩, ⟨bl⟩⟩
          case round =>
           clear H'
           (try clear c11); (try clear c12); (try clear c12b0); (try clear c18); (try clear c18b0); (try clear hcz17_0); (try clear hcz17_1); (try clear hcz17_2); (try clear hcz17_3); (try clear hcz17_4); (try clear hcz17_5); (try clear hcz17_6); (try clear hcz17_7); (try clear hcz17_8); (try clear hcz19_0); (try clear hcz19_1); (try clear hcz19_2); (try clear hcz19_3); (try clear hcz19_4); (try clear hcz19_5); (try clear hcz19_6); (try clear hcz19_7); (try clear hcz19_8); (try clear hfz17_0); (try clear hfz17_1); (try clear hfz17_2); (try clear hfz17_3); (try clear hfz17_4); (try clear hfz17_5); (try clear hfz17_6); (try clear hfz17_7); (try clear hfz17_8); (try clear hfz19_0); (try clear hfz19_1); (try clear hfz19_2); (try clear hfz19_3); (try clear hfz19_4); (try clear hfz19_5); (try clear hfz19_6); (try clear hfz19_7); (try clear hfz19_8)
           obtain ⟨x5_4, rfl, HA, HK4, BK268, HB⟩ := hrel
           cases gk with
           | zero => exact absurd HA.out (by simp [runnelref17_node.l2])
           | succ k4 =>
            have H := HA.out
            clear HA
            simp only [runnelref17_node.l2] at H
            by_cases c20 : 0 ≤ x4_3
            ·
             rw [if_pos c20] at H
             have c20b0 : decide (0 ≤ x4_3) = true := decide_eq_true c20
             clear c20
             by_cases c21 : x4_3 < (l0_3.length : Int)
             ·
              rw [if_pos c21] at H
              have c21b0 : decide (x4_3 < (l0_3.length : Int)) = true := decide_eq_true c21
              clear c21
              by_cases c22 : x5_4 < ((rd_L4 l0_3 x4_3).length : Int)
              ·
               rw [if_pos c22] at H
               have c22b0 : decide (x5_4 < ((rd_L4 l0_3 x4_3).length : Int)) = true := decide_eq_true c22
               clear c22
               by_cases c23 : 0 ≤ x5_4
               ·
                rw [if_pos c23] at H
                have c23b0 : decide (0 ≤ x5_4) = true := decide_eq_true c23
                clear c23
                by_cases c24 : (((rd_T52 (rd_L4 l0_3 x4_3) x5_4).f2).size : Int) > 4096
                ·
                 rw [if_pos c24] at H
                 have c24b0 : decide (4096 < (((rd_T52 (rd_L4 l0_3 x4_3) x5_4).f2).size : Int)) = true := decide_eq_true c24
                 have c24b1 : decide (4096 < ((rd_T52 (rd_L4 l0_3 x4_3) x5_4).f2).size) = true := decide_eq_true (by omega)
                 clear c24
                 obtain rfl := Option.some.inj H
                 obtain ⟨hcz25_0, hcz25_1, hcz25_2, hcz25_3, hcz25_4, hcz25_5, hcz25_6, hcz25_7, hcz25_8⟩ := cells9 BK268.out
                 obtain ⟨hfz25_0, hfz25_1, hfz25_2, hfz25_3, hfz25_4, hfz25_5, hfz25_6, hfz25_7, hfz25_8⟩ := frz9 BK268.out
                 have p270 : 0 ≤ (x4_3 : Int) := of_decide_eq_true (by first | (with_reducible assumption) | assumption)
                 have q270 : x4_3 < (l0_3.length : Int) := of_decide_eq_true (by first | (with_reducible assumption) | assumption)
                 obtain ⟨ad270, A270_0, c270_0, e270, hx270_0, hl270_0, hi270_0⟩ := at_L4 HR0_3.out x4_3 p270 q270
                 cases e270
                 replace hx270_0 := bc HB.out hx270_0
                 have HR270_0 := Aside0.mk hi270_0
                 have HC270_0 := Aside0.mk hl270_0
                 clear hi270_0 hl270_0
                 replace p270 := eq_true p270
                 replace q270 := eq_true q270
                 have p271 : 0 ≤ (x4_3 : Int) := of_decide_eq_true (by first | (with_reducible assumption) | assumption)
                 have q271 : x4_3 < (l0_3.length : Int) := of_decide_eq_true (by first | (with_reducible assumption) | assumption)
                 obtain ⟨ad271, A271_0, c271_0, e271, hx271_0, hl271_0, hi271_0⟩ := at_L4 HR0_3.out x4_3 p271 q271
                 obtain rfl : ad270 = ad271 := (by injection e271)
                 replace hx271_0 := bc HB.out hx271_0
                 have HR271_0 := Aside0.mk hi271_0
                 have HC271_0 := Aside0.mk hl271_0
                 clear hi271_0 hl271_0
                 replace p271 := eq_true p271
                 replace q271 := eq_true q271
                 have ea_ := Option.some.inj (hx270_0.symm.trans hx271_0)
                 injection ea_ with ea_ en_ ec_
                 subst ea_
                 subst ec_
                 clear en_
                 have p272 : 0 ≤ (x5_4 : Int) := of_decide_eq_true (by first | (with_reducible assumption) | assumption)
                 have q272 : x5_4 < ((rd_L4 l0_3 x4_3).length : Int) := of_decide_eq_true (by first | (with_reducible assumption) | assumption)
                 obtain ⟨ad272, e272, hx272_0, hx272_1, hx272_2⟩ := at_T52 HR271_0.out x5_4 p272 q272
                 cases e272
                 replace hx272_0 := bc HB.out hx272_0
                 replace hx272_1 := bc HB.out hx272_1
                 replace hx272_2 := bc HB.out hx272_2
                 replace p272 := eq_true p272
                 replace q272 := eq_true q272
                 go_wp2
                 go_ret
                 exact ⟨erq, by repeat (first | (with_reducible first | exact HB.out | apply below_alloc | apply pw_below_drewN | apply below_drew1 | refine below_set ?_ GE268.out) | exact HB.out)⟩
                ·
                 rw [if_neg c24] at H
                 have c24b0 : decide (4096 < (((rd_T52 (rd_L4 l0_3 x4_3) x5_4).f2).size : Int)) = false := decide_eq_false c24
                 have c24b1 : decide (4096 < ((rd_T52 (rd_L4 l0_3 x4_3) x5_4).f2).size) = false := decide_eq_false (by omega)
                 clear c24
                 have H' := Aside0.mk H
                 clear H
                 obtain ⟨hcz26_0, hcz26_1, hcz26_2, hcz26_3, hcz26_4, hcz26_5, hcz26_6, hcz26_7, hcz26_8⟩ := cells9 BK268.out
                 obtain ⟨hfz26_0, hfz26_1, hfz26_2, hfz26_3, hfz26_4, hfz26_5, hfz26_6, hfz26_7, hfz26_8⟩ := frz9 BK268.out
                 have p270 : 0 ≤ (x4_3 : Int) := of_decide_eq_true (by first | (with_reducible assumption) | assumption)
                 have q270 : x4_3 < (l0_3.length : Int) := of_decide_eq_true (by first | (with_reducible assumption) | assumption)
                 obtain ⟨ad270, A270_0, c270_0, e270, hx270_0, hl270_0, hi270_0⟩ := at_L4 HR0_3.out x4_3 p270 q270
                 cases e270
                 replace hx270_0 := bc HB.out hx270_0
                 have HR270_0 := Aside0.mk hi270_0
                 have HC270_0 := Aside0.mk hl270_0
                 clear hi270_0 hl270_0
                 replace p270 := eq_true p270
                 replace q270 := eq_true q270
                 have p271 : 0 ≤ (x4_3 : Int) := of_decide_eq_true (by first | (with_reducible assumption) | assumption)
                 have q271 : x4_3 < (l0_3.length : Int) := of_decide_eq_true (by first | (with_reducible assumption) | assumption)
                 obtain ⟨ad271, A271_0, c271_0, e271, hx271_0, hl271_0, hi271_0⟩ := at_L4 HR0_3.out x4_3 p271 q271
                 obtain rfl : ad270 = ad271 := (by injection e271)
                 replace hx271_0 := bc HB.out hx271_0
                 have HR271_0 := Aside0.mk hi271_0
                 have HC271_0 := Aside0.mk hl271_0
                 clear hi271_0 hl271_0
                 replace p271 := eq_true p271
                 replace q271 := eq_true q271
                 have ea_ := Option.some.inj (hx270_0.symm.trans hx271_0)
                 injection ea_ with ea_ en_ ec_
                 subst ea_
                 subst ec_
                 clear en_
                 have p272 : 0 ≤ (x5_4 : Int) := of_decide_eq_true (by first | (with_reducible assumption) | assumption)
                 have q272 : x5_4 < ((rd_L4 l0_3 x4_3).length : Int) := of_decide_eq_true (by first | (with_reducible assumption) | assumption)
                 obtain ⟨ad272, e272, hx272_0, hx272_1, hx272_2⟩ := at_T52 HR271_0.out x5_4 p272 q272
                 cases e272
                 replace hx272_0 := bc HB.out hx272_0
                 replace hx272_1 := bc HB.out hx272_1
                 replace hx272_2 := bc HB.out hx272_2
                 replace p272 := eq_true p272
                 replace q272 := eq_true q272
                 go_wp2
                 go_roundg k4
                 case measure => have := HJ1.out; have := HK2.out; have := HK3.out; have := HK4.out; omega
                 case rel => exact ⟨(wrap64 (x5_4 + 1)), (by first | rfl | (simp; done) | (simp [*]; done)), H', ⟨by have := HJ1.out; have := HK2.out; have := HK3.out; have := HK4.out; omega⟩, ⟨by (with_reducible repeat (first | refine blk_drewN ?_ _ | refine blk_drew ?_ | refine blk_alloc ?_ _)); exact BK268.out⟩, ⟨bl⟩⟩
               ·
                rw [if_neg c23] at H
                exact absurd H (by simp)
              ·
               rw [if_neg c22] at H
               have c22b0 : decide (x5_4 < ((rd_L4 l0_3 x4_3).length : Int)) = false := decide_eq_false c22
               clear c22
               have H' := Aside0.mk H
               clear H
               obtain ⟨hcz27_0, hcz27_1, hcz27_2, hcz27_3, hcz27_4, hcz27_5, hcz27_6, hcz27_7, hcz27_8⟩ := cells9 BK268.out
               obtain ⟨hfz27_0, hfz27_1, hfz27_2, hfz27_3, hfz27_4, hfz27_5, hfz27_6, hfz27_7, hfz27_8⟩ := frz9 BK268.out
               have p270 : 0 ≤ (x4_3 : Int) := of_decide_eq_true (by first | (with_reducible assumption) | assumption)
               have q270 : x4_3 < (l0_3.length : Int) := of_decide_eq_true (by first | (with_reducible assumption) | assumption)
               obtain ⟨ad270, A270_0, c270_0, e270, hx270_0, hl270_0, hi270_0⟩ := at_L4 HR0_3.out x4_3 p270 q270
               cases e270
               replace hx270_0 := bc HB.out hx270_0
               have HR270_0 := Aside0.mk hi270_0
               have HC270_0 := Aside0.mk hl270_0
               clear hi270_0 hl270_0
               replace p270 := eq_true p270
               replace q270 := eq_true q270
               go_wp2
               go_roundg k4
               case measure => have := HJ1.out; have := HK2.out; have := HK3.out; have := HK4.out; omega
               case rel => exact ⟨(wrap64 (x4_3 + 1)), (by first | rfl | (simp; done) | (simp [*]; done)), H', ⟨by have := HJ1.out; have := HK2.out; have := HK3.out; have := HK4.out; omega⟩, ⟨by (with_reducible repeat (first | refine blk_drewN ?_ _ | refine blk_drew ?_ | refine blk_alloc ?_ _)); exact BK268.out⟩, ⟨bl⟩⟩
             ·
              rw [if_neg c21] at H
              exact absurd H (by simp)
            ·
             rw [if_neg c20] at H
             exact absurd H (by simp)
         ·
          rw [if_neg c18] at H
          have c18b0 : decide (x4_3 < (l0_3.length : Int)) = false := decide_eq_false c18
          clear c18
          obtain rfl := Option.some.inj H
          obtain ⟨hcz28_0, hcz28_1, hcz28_2, hcz28_3, hcz28_4, hcz28_5, hcz28_6, hcz28_7, hcz28_8⟩ := cells9 BK268.out
          obtain ⟨hfz28_0, hfz28_1, hfz28_2, hfz28_3, hfz28_4, hfz28_5, hfz28_6, hfz28_7, hfz28_8⟩ := frz9 BK268.out
          go_wp2
          go_ret
          exact ⟨erq, by repeat (first | (with_reducible first | exact HB.out | apply below_alloc | apply pw_below_drewN | apply below_drew1 | refine below_set ?_ GE268.out) | exact HB.out)⟩

end Go.Proofs.Ytbdpnecnnokkkaa.PSheetEncodes
