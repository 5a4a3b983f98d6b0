/- One piece of the machine's side of the law, written by a program over the translation; Lean checks it. -/
import Derived.Test.YtbdpnecnnokkkaaOSheetEncodesx0
import Derived.Test.YtbdpnecnnokkkaaOSheetEncodesx2
import Derived.Test.YtbdpnecnnokkkaaShort
namespace Go.Proofs.Ytbdpnecnnokkkaa.PSheetEncodes
open Go.RowKit Go.Proofs.YtbdpnecnnokkkaaW.PrintWords Go.Proofs.YtbdpnecnnokkkaaW.PrintLast Go.Proofs.YtbdpnecnnokkkaaW.PrintMore
attribute [local go_sem] max2_int min2_int max_two min_two max_three min_three max_four min_four   -- for this text's walks alone
set_option linter.unusedVariables false
set_option linter.unusedSimpArgs false

/-! ### runnelref16_Long: function 6 -/
mutual
def runnelref16_Long.j0 : Nat → Bool → List (S44) → List Int → Int → Option (Bool)
 | 0, _, _, _, _ => none
 | k + 1, x15, x103000, x103001, x103002 => if x15 = true then (some true) else (runnelref16_Long.l0 k 0 x103000 x103001 x103002)
def runnelref16_Long.l0 : Nat → Int → List (S44) → List Int → Int → Option (Bool)
 | 0, _, _, _, _ => none
 | k + 1, x3, x103000, x103001, x103002 => if x3 < (x103000.length : Int) then (if 0 ≤ x3 then (if (((rd_T44 x103000 x3).f1).length : Int) > 20 then (runnelref16_Long.j2 k x3 true x103000 x103001 x103002 ((rd_T44 x103000 x3).f0) ((rd_T44 x103000 x3).f1) ((rd_T44 x103000 x3).f2) ((rd_T44 x103000 x3).f3) ((rd_T44 x103000 x3).f4) ((rd_T44 x103000 x3).f5) ((rd_T44 x103000 x3).f6) ((rd_T44 x103000 x3).f7) ((rd_T44 x103000 x3).f8)) else (if (((rd_T44 x103000 x3).f2).length : Int) > 30 then (runnelref16_Long.j2 k x3 true x103000 x103001 x103002 ((rd_T44 x103000 x3).f0) ((rd_T44 x103000 x3).f1) ((rd_T44 x103000 x3).f2) ((rd_T44 x103000 x3).f3) ((rd_T44 x103000 x3).f4) ((rd_T44 x103000 x3).f5) ((rd_T44 x103000 x3).f6) ((rd_T44 x103000 x3).f7) ((rd_T44 x103000 x3).f8)) else (if (((rd_T44 x103000 x3).f3).length : Int) > 30 then (runnelref16_Long.j2 k x3 true x103000 x103001 x103002 ((rd_T44 x103000 x3).f0) ((rd_T44 x103000 x3).f1) ((rd_T44 x103000 x3).f2) ((rd_T44 x103000 x3).f3) ((rd_T44 x103000 x3).f4) ((rd_T44 x103000 x3).f5) ((rd_T44 x103000 x3).f6) ((rd_T44 x103000 x3).f7) ((rd_T44 x103000 x3).f8)) else (runnelref16_Long.j2 k x3 (decide ((((rd_T44 x103000 x3).f4).length : Int) > 30)) x103000 x103001 x103002 ((rd_T44 x103000 x3).f0) ((rd_T44 x103000 x3).f1) ((rd_T44 x103000 x3).f2) ((rd_T44 x103000 x3).f3) ((rd_T44 x103000 x3).f4) ((rd_T44 x103000 x3).f5) ((rd_T44 x103000 x3).f6) ((rd_T44 x103000 x3).f7) ((rd_T44 x103000 x3).f8))))) else (none)) else (some false)
def runnelref16_Long.j2 : Nat → Int → Bool → List (S44) → List Int → Int → Int → List Int → List Int → List (List (S52)) → List Int → Int → Int → Int → Int → Option (Bool)
 | 0, _, _, _, _, _, _, _, _, _, _, _, _, _, _ => none
 | k + 1, x3, x49, x103000, x103001, x103002, x105000, x105001, x105002, x105003, x105004, x105005, x105006, x105007, x105008 => if x49 = true then (some true) else (runnelref16_Long.l1 k x3 0 x103000 x103001 x103002 x105000 x105001 x105002 x105003 x105004 x105005 x105006 x105007 x105008)
def runnelref16_Long.l1 : Nat → Int → Int → List (S44) → List Int → Int → Int → List Int → List Int → List (List (S52)) → List Int → Int → Int → Int → Int → Option (Bool)
 | 0, _, _, _, _, _, _, _, _, _, _, _, _, _, _ => none
 | k + 1, x3, x5, x103000, x103001, x103002, x105000, x105001, x105002, x105003, x105004, x105005, x105006, x105007, x105008 => if x5 < (x105003.length : Int) then (if 0 ≤ x5 then ((runnelref08_Long.f k (rd_L4 x105003 x5)).bind fun t106 => (if t106 = true then (some true) else (runnelref16_Long.l1 k x3 (wrap64 (x5 + 1)) x103000 x103001 x103002 x105000 x105001 x105002 x105003 x105004 x105005 x105006 x105007 x105008))) else (none)) else (runnelref16_Long.l0 k (wrap64 (x3 + 1)) x103000 x103001 x103002)
end
def runnelref16_Long.f (k : Nat) (l0_0 : List (S44)) (l0_1 : List Int) (a0_2 : Int) : Option (Bool) := if (l0_0.length : Int) > 70 then (runnelref16_Long.j0 k true l0_0 l0_1 a0_2) else (runnelref16_Long.j0 k (decide ((l0_1.length : Int) > 20)) l0_0 l0_1 a0_2)
set_option maxHeartbeats 8000000 in
set_option maxRecDepth 100000 in
theorem runnelref16_Long.calls (k : Nat) (A0_0 : Option Addr) (c0_0 : Nat) (l0_0 : List (S44)) (A0_1 : Option Addr) (c0_1 : Nat) (l0_1 : List Int) (a0_2 : Int) (r : Bool) (w : World) (hr0_0 : Kd.C k44 w A0_0 l0_0.length l0_0) (hc0_0 : l0_0.length ≤ c0_0) (hr0_1 : Kd.C (Kd.int .i64) w A0_1 l0_1.length l0_1) (hc0_1 : l0_1.length ≤ c0_1) (h : runnelref16_Long.f k l0_0 l0_1 a0_2 = some r) :
  Calls Try.prog 6 #[.agg #[.slice A0_0 l0_0.length c0_0, .slice A0_1 l0_1.length c0_1, .int .i64 a0_2]] w fun e w' => e = .returned (.bool r) ∧ Below w.heap.size w w' := by
 have hu25 := Try.underlying25
 have hu44 := Try.underlying44
 have HR0_0 := Aside0.mk hr0_0
 have HC0_0 := Aside0.mk hc0_0
 clear hr0_0 hc0_0
 have HR0_1 := Aside0.mk hr0_1
 have HC0_1 := Aside0.mk hc0_1
 clear hr0_1 hc0_1
 have HB := Aside0.mk (Below.refl w.heap.size w)
 have H : (if (l0_0.length : Int) > 70 then (runnelref16_Long.j0 k true l0_0 l0_1 a0_2) else (runnelref16_Long.j0 k (decide ((l0_1.length : Int) > 20)) l0_0 l0_1 a0_2)) = some r := h
 clear h
 have HC2 := Aside0.mk H
 clear H
 go_enter Try.func6, Try.ntmps6
 go_upto_region 1 with (first | ((with_reducible refine gate_dst (N := 1) rfl ?_); (try (refine gate_guard (by rfl) ?_; dsimp only)); refine box_event ?hg (N := 1) ?hd (cs := #[.slice A0_0 l0_0.length c0_0, .slice A0_1 l0_1.length c0_1, .int .i64 a0_2]) (t := 25) ?hr ?_; (case hd => rfl); (case hg => rfl); (case hr => first | (go_simp; done) | (go_simp; rfl)); intro gb102 hg w3 hbox hb; have n0_ := Aside0.mk (below_step bl hb); have n1_ := Aside0.mk (hbox); have n2_ := Aside0.mk ((by rw [hg]; exact (below_size bl) : w.heap.size ≤ gb102)); have n3_ := Aside0.mk ((by rw [hg]; exact (below_size bl) : w.heap.size ≤ gb102)); clear HB; have HB := n0_; have BK102 := n1_; have GW102 := n2_; have GE102 := n3_; clear n0_ n1_ n2_ n3_; clear hb hbox hg))
 (try simp only [Act.put, List.setIfInBounds_toArray, List.set_cons_zero, List.set_cons_succ])
 go_cut [15] (fun v15 wc => ∃ (kq : Nat) (x15_1 : Bool), v15 = .bool x15_1 ∧ Aside0 (runnelref16_Long.j0 kq x15_1 l0_0 l0_1 a0_2 = some r) ∧ Aside0 (kq ≤ k) ∧ Aside0 (wc.heap[gb102]? = some (.cells #[(.slice A0_0 l0_0.length c0_0), (.slice A0_1 l0_1.length c0_1), .int .i64 a0_2] 25 (0, 0))) ∧ Aside0 (Below w.heap.size w wc))
 case first =>
  have H := HC2.out
  clear HC2
  by_cases c4 : (l0_0.length : Int) > 70
  ·
   rw [if_pos c4] at H
   have c4b0 : decide (70 < (l0_0.length : Int)) = true := decide_eq_true c4
   have c4b1 : decide (70 < l0_0.length) = true := decide_eq_true (by omega)
   clear c4
   (first | rw [c4b0] | (simp only [i64_w, i32_w]; rw [c4b0]) | skip)
   have H' := Aside0.mk H
   clear H
   obtain ⟨hcz5_0, hcz5_1, hcz5_2⟩ := cells3 BK102.out
   obtain ⟨hfz5_0, hfz5_1, hfz5_2⟩ := frz3 BK102.out
   go_wp2
   go_meet
   case rel => exact ⟨_, (true), (by first | rfl | (simp; done) | (simp [*]; done)), H', ⟨by first | omega | exact Nat.le_refl _⟩, ⟨by (with_reducible repeat (first | refine blk_drewN ?_ _ | refine blk_drew ?_ | refine blk_alloc ?_ _)); exact BK102.out⟩, ⟨bl⟩⟩
  ·
   rw [if_neg c4] at H
   have c4b0 : decide (70 < (l0_0.length : Int)) = false := decide_eq_false c4
   have c4b1 : decide (70 < l0_0.length) = false := decide_eq_false (by omega)
   clear c4
   (first | rw [c4b0] | (simp only [i64_w, i32_w]; rw [c4b0]) | skip)
   have H' := Aside0.mk H
   clear H
   obtain ⟨hcz6_0, hcz6_1, hcz6_2⟩ := cells3 BK102.out
   obtain ⟨hfz6_0, hfz6_1, hfz6_2⟩ := frz3 BK102.out
   go_wp2
   go_meet
   case rel => exact ⟨_, (decide ((l0_1.length : Int) > 20)), (by first | rfl | (simp; done) | (simp [*]; done)), H', ⟨by first | omega | exact Nat.le_refl _⟩, ⟨by (with_reducible repeat (first | refine blk_drewN ?_ _ | refine blk_drew ?_ | refine blk_alloc ?_ _)); exact BK102.out⟩, ⟨bl⟩⟩
 case rest =>
  clear HC2
  obtain ⟨kq, x15_1, rfl, HA, HJ1, BK102, HB⟩ := hcut
  cases kq with
  | zero => exact absurd HA.out (by simp [runnelref16_Long.j0])
  | succ kj1 =>
   have H := HA.out
   clear HA
   simp only [runnelref16_Long.j0] at H
   by_cases c7 : x15_1 = true
   ·
    subst c7
    have H1 : (some true) = some r := by rw [if_pos rfl] at H; exact H
    clear H
    have H := H1
    clear H1
    obtain rfl := Option.some.inj H
    go_wp2
    go_ret
    exact ⟨erq, by repeat (first | (with_reducible first | exact HB.out | apply below_alloc | apply pw_below_drewN | apply below_drew1 | refine below_set ?_ GE102.out) | exact HB.out)⟩
   ·
    replace c7 := Bool.eq_false_iff.mpr c7
    subst c7
    have H1 : (runnelref16_Long.l0 kj1 0 l0_0 l0_1 a0_2) = some r := by rw [if_neg (show ¬ (false = true) by decide)] at H; exact H
    clear H
    have H := H1
    clear H1
    have H' := Aside0.mk H
    clear H
    go_wp2
    go_loopg [3] kj1 (fun kq v3 w' => ∃ (x3_2 : Int), v3 = .int .i64 x3_2 ∧ Aside0 (runnelref16_Long.l0 kq x3_2 l0_0 l0_1 a0_2 = some r) ∧ Aside0 (kq ≤ kj1) ∧ Aside0 (w'.heap[gb102]? = some (.cells #[(.slice A0_0 l0_0.length c0_0), (.slice A0_1 l0_1.length c0_1), .int .i64 a0_2] 25 (0, 0))) ∧ Aside0 (Below w.heap.size w w'))
    case atStart => exact ⟨(0), (by first | rfl | (simp; done) | (simp [*]; done)), H', ⟨Nat.le_refl _⟩, ⟨by (with_reducible repeat (first | refine blk_drewN ?_ _ | refine blk_drew ?_ | refine blk_alloc ?_ _)); exact BK102.out⟩, ⟨bl⟩⟩
    case round =>
     clear H'
     try clear c7
     obtain ⟨x3_2, rfl, HA, HK2, BK102, HB⟩ := hrel
     cases gk with
     | zero => exact absurd HA.out (by simp [runnelref16_Long.l0])
     | succ k2 =>
      have H := HA.out
      clear HA
      simp only [runnelref16_Long.l0] at H
      by_cases c8 : x3_2 < (l0_0.length : Int)
      ·
       rw [if_pos c8] at H
       have c8b0 : decide (x3_2 < (l0_0.length : Int)) = true := decide_eq_true c8
       clear c8
       by_cases c9 : 0 ≤ x3_2
       ·
        rw [if_pos c9] at H
        have c9b0 : decide (0 ≤ x3_2) = true := decide_eq_true c9
        clear c9
        have HC10 := Aside0.mk H
        clear H
        obtain ⟨hcz11_0, hcz11_1, hcz11_2⟩ := cells3 BK102.out
        obtain ⟨hfz11_0, hfz11_1, hfz11_2⟩ := frz3 BK102.out
        have p103 : 0 ≤ (x3_2 : Int) := of_decide_eq_true (by first | (with_reducible assumption) | assumption)
        have q103 : x3_2 < (l0_0.length : Int) := of_decide_eq_true (by first | (with_reducible assumption) | assumption)
        obtain ⟨ad103, A103_1, c103_1, A103_2, c103_2, A103_3, c103_3, A103_4, c103_4, e103, hx103_0, hx103_1, hx103_2, hx103_3, hx103_4, hx103_5, hx103_6, hx103_7, hx103_8, hl103_1, hi103_1, hl103_2, hi103_2, hl103_3, hi103_3, hl103_4, hi103_4⟩ := at_T44 HR0_0.out x3_2 p103 q103
        cases e103
        replace hx103_0 := bc HB.out hx103_0
        replace hx103_1 := bc HB.out hx103_1
        replace hx103_2 := bc HB.out hx103_2
        replace hx103_3 := bc HB.out hx103_3
        replace hx103_4 := bc HB.out hx103_4
        replace hx103_5 := bc HB.out hx103_5
        replace hx103_6 := bc HB.out hx103_6
        replace hx103_7 := bc HB.out hx103_7
        replace hx103_8 := bc HB.out hx103_8
        have HR103_1 := Aside0.mk hi103_1
        have HC103_1 := Aside0.mk hl103_1
        clear hi103_1 hl103_1
        have HR103_2 := Aside0.mk hi103_2
        have HC103_2 := Aside0.mk hl103_2
        clear hi103_2 hl103_2
        have HR103_3 := Aside0.mk hi103_3
        have HC103_3 := Aside0.mk hl103_3
        clear hi103_3 hl103_3
        have HR103_4 := Aside0.mk hi103_4
        have HC103_4 := Aside0.mk hl103_4
        clear hi103_4 hl103_4
        replace p103 := eq_true p103
        replace q103 := eq_true q103
        go_upto_region 7 with (first | ((with_reducible refine gate_dst (N := 4) rfl ?_); (try (refine gate_guard (by rfl) ?_; dsimp only)); refine box_event ?hg (N := 4) ?hd (cs := #[.int .i64 0, .slice none 0 0, .slice none 0 0, .slice none 0 0, .slice none 0 0, .int .i64 0, .int .i64 0, .int .i64 0, .int .i64 0]) (t := 44) ?hr ?_; (case hd => rfl); (case hg => rfl); (case hr => first | (go_simp; done) | (go_simp; rfl)); intro gb104 hg w12 hbox hb; have n0_ := Aside0.mk (blk_below (g := gb102) (o := .cells #[.slice (some ad103) l0_0.length c0_0, .slice A0_1 l0_1.length c0_1, .int .i64 a0_2] 25 (0, 0)) bk hb); have n1_ := Aside0.mk (below_step bl hb); have n2_ := Aside0.mk (hbox); have n3_ := Aside0.mk ((by rw [hg]; exact (below_size bl) : w.heap.size ≤ gb104)); have n4_ := Aside0.mk ((by rw [hg]; exact (below_size bl) : w.heap.size ≤ gb104)); have n5_ := Aside0.mk ((by rw [hg]; exact Nat.ne_of_lt blt : gb102 ≠ gb104)); have n6_ := Aside0.mk ((by rw [hg]; exact Nat.ne_of_gt blt : gb104 ≠ gb102)); clear BK102; clear HB; have BK102 := n0_; have HB := n1_; have BK104 := n2_; have GW104 := n3_; have GE104 := n4_; have NB102_104 := n5_; have NB104_102 := n6_; clear n0_ n1_ n2_ n3_ n4_ n5_ n6_; clear hb hbox hg; have hnb13 := NB104_102.out; have hnc13 := NB102_104.out; obtain ⟨hcz14_0, hcz14_1, hcz14_2, hcz14_3, hcz14_4, hcz14_5, hcz14_6, hcz14_7, hcz14_8⟩ := cells9 BK104.out; obtain ⟨hfz14_0, hfz14_1, hfz14_2, hfz14_3, hfz14_4, hfz14_5, hfz14_6, hfz14_7, hfz14_8⟩ := frz9 BK104.out))
        (try simp only [Act.put, List.setIfInBounds_toArray, List.set_cons_zero, List.set_cons_succ])
        go_cut [49] (fun v49 wc => ∃ (kq : Nat) (x49_9 : Bool), v49 = .bool x49_9 ∧ Aside0 (runnelref16_Long.j2 kq x3_2 x49_9 l0_0 l0_1 a0_2 ((rd_T44 l0_0 x3_2).f0) ((rd_T44 l0_0 x3_2).f1) ((rd_T44 l0_0 x3_2).f2) ((rd_T44 l0_0 x3_2).f3) ((rd_T44 l0_0 x3_2).f4) ((rd_T44 l0_0 x3_2).f5) ((rd_T44 l0_0 x3_2).f6) ((rd_T44 l0_0 x3_2).f7) ((rd_T44 l0_0 x3_2).f8) = some r) ∧ Aside0 (kq ≤ k2) ∧ Aside0 (wc.heap[gb102]? = some (.cells #[(.slice (some ad103) l0_0.length c0_0), (.slice A0_1 l0_1.length c0_1), .int .i64 a0_2] 25 (0, 0))) ∧ Aside0 (wc.heap[gb104]? = some (.cells #[.int .i64 ((rd_T44 l0_0 x3_2).f0), (.slice A103_1 ((rd_T44 l0_0 x3_2).f1).length c103_1), (.slice A103_2 ((rd_T44 l0_0 x3_2).f2).length c103_2), (.slice A103_3 ((rd_T44 l0_0 x3_2).f3).length c103_3), (.slice A103_4 ((rd_T44 l0_0 x3_2).f4).length c103_4), .int .i64 ((rd_T44 l0_0 x3_2).f5), .int .i64 ((rd_T44 l0_0 x3_2).f6), .int .i64 ((rd_T44 l0_0 x3_2).f7), .int .i64 ((rd_T44 l0_0 x3_2).f8)] 44 (0, 0))) ∧ Aside0 (Below w.heap.size w wc))
        case first =>
         have H := HC10.out
         clear HC10
         by_cases c15 : (((rd_T44 l0_0 x3_2).f1).length : Int) > 20
         ·
          rw [if_pos c15] at H
          have c15b0 : decide (20 < (((rd_T44 l0_0 x3_2).f1).length : Int)) = true := decide_eq_true c15
          have c15b1 : decide (20 < ((rd_T44 l0_0 x3_2).f1).length) = true := decide_eq_true (by omega)
          clear c15
          (first | rw [c15b0] | (simp only [i64_w, i32_w]; rw [c15b0]) | skip)
          have H' := Aside0.mk H
          clear H
          have hnb16 := NB104_102.out
          have hnc16 := NB102_104.out
          obtain ⟨hcz17_0, hcz17_1, hcz17_2, hcz17_3, hcz17_4, hcz17_5, hcz17_6, hcz17_7, hcz17_8⟩ := cells9 BK104.out
          obtain ⟨hfz17_0, hfz17_1, hfz17_2, hfz17_3, hfz17_4, hfz17_5, hfz17_6, hfz17_7, hfz17_8⟩ := frz9 BK104.out
          go_wp2
          go_meet
          case rel => exact ⟨_, (true), (by first | rfl | (simp; done) | (simp [*]; done)), H', ⟨by have := HJ1.out; have := HK2.out; first | omega | exact Nat.le_refl _⟩, ⟨by (iterate 9 ((with_reducible repeat (first | refine blk_drewN ?_ _ | refine blk_drew ?_ | refine blk_alloc ?_ _)); refine blk_far ?_ NB102_104.out _)); (with_reducible repeat (first | refine blk_drewN ?_ _ | refine blk_drew ?_ | refine blk_alloc ?_ _)); exact BK102.out⟩, ⟨by refine E_in ?_; (iterate 9 ((with_reducible repeat (first | refine E_drewN ?_ _ | refine E_drew ?_ | refine E_alloc ?_ _)); refine E_set ?_)); (with_reducible repeat (first | refine E_drewN ?_ _ | refine E_drew ?_ | refine E_alloc ?_ _)); exact ⟨_, BK104.out, by first | (with_reducible rfl) | simp only [List.setIfInBounds_toArray, List.set_cons_zero, List.set_cons_succ]⟩⟩, ⟨bl⟩⟩
         ·
          rw [if_neg c15] at H
          have c15b0 : decide (20 < (((rd_T44 l0_0 x3_2).f1).length : Int)) = false := decide_eq_false c15
          have c15b1 : decide (20 < ((rd_T44 l0_0 x3_2).f1).length) = false := decide_eq_false (by omega)
          clear c15
          (first | rw [c15b0] | (simp only [i64_w, i32_w]; rw [c15b0]) | skip)
          by_cases c18 : (((rd_T44 l0_0 x3_2).f2).length : Int) > 30
          ·
           rw [if_pos c18] at H
           have c18b0 : decide (30 < (((rd_T44 l0_0 x3_2).f2).length : Int)) = true := decide_eq_true c18
           have c18b1 : decide (30 < ((rd_T44 l0_0 x3_2).f2).length) = true := decide_eq_true (by omega)
           clear c18
           have H' := Aside0.mk H
           clear H
           have hnb19 := NB104_102.out
           have hnc19 := NB102_104.out
           obtain ⟨hcz20_0, hcz20_1, hcz20_2, hcz20_3, hcz20_4, hcz20_5, hcz20_6, hcz20_7, hcz20_8⟩ := cells9 BK104.out
           obtain ⟨hfz20_0, hfz20_1, hfz20_2, hfz20_3, hfz20_4, hfz20_5, hfz20_6, hfz20_7, hfz20_8⟩ := frz9 BK104.out
           go_wp2
           go_meet
           case rel => exact ⟨_, (true), (by first | rfl | (simp; done) | (simp [*]; done)), H', ⟨by have := HJ1.out; have := HK2.out; first | omega | exact Nat.le_refl _⟩, ⟨by (iterate 9 ((with_reducible repeat (first | refine blk_drewN ?_ _ | refine blk_drew ?_ | refine blk_alloc ?_ _)); refine blk_far ?_ NB102_104.out _)); (with_reducible repeat (first | refine blk_drewN ?_ _ | refine blk_drew ?_ | refine blk_alloc ?_ _)); exact BK102.out⟩, ⟨by refine E_in ?_; (iterate 9 ((with_reducible repeat (first | refine E_drewN ?_ _ | refine E_drew ?_ | refine E_alloc ?_ _)); refine E_set ?_)); (with_reducible repeat (first | refine E_drewN ?_ _ | refine E_drew ?_ | refine E_alloc ?_ _)); exact ⟨_, BK104.out, by first | (with_reducible rfl) | simp only [List.setIfInBounds_toArray, List.set_cons_zero, List.set_cons_succ]⟩⟩, ⟨bl⟩⟩
          ·
           rw [if_neg c18] at H
           have c18b0 : decide (30 < (((rd_T44 l0_0 x3_2).f2).length : Int)) = false := decide_eq_false c18
           have c18b1 : decide (30 < ((rd_T44 l0_0 x3_2).f2).length) = false := decide_eq_false (by omega)
           clear c18
           by_cases c21 : (((rd_T44 l0_0 x3_2).f3).length : Int) > 30
           ·
            rw [if_pos c21] at H
            have c21b0 : decide (30 < (((rd_T44 l0_0 x3_2).f3).length : Int)) = true := decide_eq_true c21
            have c21b1 : decide (30 < ((rd_T44 l0_0 x3_2).f3).length) = true := decide_eq_true (by omega)
            clear c21
            have H' := Aside0.mk H
            clear H
            have hnb22 := NB104_102.out
            have hnc22 := NB102_104.out
            obtain ⟨hcz23_0, hcz23_1, hcz23_2, hcz23_3, hcz23_4, hcz23_5, hcz23_6, hcz23_7, hcz23_8⟩ := cells9 BK104.out
            obtain ⟨hfz23_0, hfz23_1, hfz23_2, hfz23_3, hfz23_4, hfz23_5, hfz23_6, hfz23_7, hfz23_8⟩ := frz9 BK104.out
            go_wp2
            go_meet
            case rel => exact ⟨_, (true), (by first | rfl | (simp; done) | (simp [*]; done)), H', ⟨by have := HJ1.out; have := HK2.out; first | omega | exact Nat.le_refl _⟩, ⟨by (iterate 9 ((with_reducible repeat (first | refine blk_drewN ?_ _ | refine blk_drew ?_ | refine blk_alloc ?_ _)); refine blk_far ?_ NB102_104.out _)); (with_reducible repeat (first | refine blk_drewN ?_ _ | refine blk_drew ?_ | refine blk_alloc ?_ _)); exact BK102.out⟩, ⟨by refine E_in ?_; (iterate 9 ((with_reducible repeat (first | refine E_drewN ?_ _ | refine E_drew ?_ | refine E_alloc ?_ _)); refine E_set ?_)); (with_reducible repeat (first | refine E_drewN ?_ _ | refine E_drew ?_ | refine E_alloc ?_ _)); exact ⟨_, BK104.out, by first | (with_reducible rfl) | simp only [List.setIfInBounds_toArray, List.set_cons_zero, List.set_cons_succ]⟩⟩, ⟨bl⟩⟩
           ·
            rw [if_neg c21] at H
            have c21b0 : decide (30 < (((rd_T44 l0_0 x3_2).f3).length : Int)) = false := decide_eq_false c21
            have c21b1 : decide (30 < ((rd_T44 l0_0 x3_2).f3).length) = false := decide_eq_false (by omega)
            clear c21
            have H' := Aside0.mk H
            clear H
            have hnb24 := NB104_102.out
            have hnc24 := NB102_104.out
            obtain ⟨hcz25_0, hcz25_1, hcz25_2, hcz25_3, hcz25_4, hcz25_5, hcz25_6, hcz25_7, hcz25_8⟩ := cells9 BK104.out
            obtain ⟨hfz25_0, hfz25_1, hfz25_2, hfz25_3, hfz25_4, hfz25_5, hfz25_6, hfz25_7, hfz25_8⟩ := frz9 BK104.out
            go_wp2
            go_meet
            case rel => exact ⟨_, (decide ((((rd_T44 l0_0 x3_2).f4).length : Int) > 30)), (by first | rfl | (simp; done) | (simp [*]; done)), H', ⟨by have := HJ1.out; have := HK2.out; first | omega | exact Nat.le_refl _⟩, ⟨by (iterate 9 ((with_reducible repeat (first | refine blk_drewN ?_ _ | refine blk_drew ?_ | refine blk_alloc ?_ _)); refine blk_far ?_ NB102_104.out _)); (with_reducible repeat (first | refine blk_drewN ?_ _ | refine blk_drew ?_ | refine blk_alloc ?_ _)); exact BK102.out⟩, ⟨by refine E_in ?_; (iterate 9 ((with_reducible repeat (first | refine E_drewN ?_ _ | refine E_drew ?_ | refine E_alloc ?_ _)); refine E_set ?_)); (with_reducible repeat (first | refine E_drewN ?_ _ | refine E_drew ?_ | refine E_alloc ?_ _)); exact ⟨_, BK104.out, by first | (with_reducible rfl) | simp only [List.setIfInBounds_toArray, List.set_cons_zero, List.set_cons_succ]⟩⟩, ⟨bl⟩⟩
        case rest =>
         clear HC10
         (try clear c7); (try clear c8); (try clear c8b0); (try clear c9); (try clear c9b0); (try clear hcz11_0); (try clear hcz11_1); (try clear hcz11_2); (try clear hcz14_0); (try clear hcz14_1); (try clear hcz14_2); (try clear hcz14_3); (try clear hcz14_4); (try clear hcz14_5); (try clear hcz14_6); (try clear hcz14_7); (try clear hcz14_8); (try clear hfz11_0); (try clear hfz11_1); (try clear hfz11_2); (try clear hfz14_0); (try clear hfz14_1); (try clear hfz14_2); (try clear hfz14_3); (try clear hfz14_4); (try clear hfz14_5); (try clear hfz14_6); (try clear hfz14_7); (try clear hfz14_8); (try clear hx103_0); (try clear hx103_1); (try clear hx103_2); (try clear hx103_3); (try clear hx103_4); (try clear hx103_5); (try clear hx103_6); (try clear hx103_7); (try clear hx103_8); (try clear p103); (try clear q103)
         obtain ⟨kq, x49_9, rfl, HA, HJ9, BK102, BK104, HB⟩ := hcut
         cases kq with
         | zero => exact absurd HA.out (by simp [runnelref16_Long.j2])
         | succ kj9 =>
          have H := HA.out
          clear HA
          simp only [runnelref16_Long.j2] at H
          by_cases c26 : x49_9 = true
          ·
           subst c26
           have H1 : (some true) = some r := by rw [if_pos rfl] at H; exact H
           clear H
           have H := H1
           clear H1
           obtain rfl := Option.some.inj H
           go_wp2
           go_ret
           exact ⟨erq, by repeat (first | (with_reducible first | exact HB.out | apply below_alloc | apply pw_below_drewN | apply below_drew1 | refine below_set ?_ GE102.out | refine below_set ?_ GE104.out) | exact HB.out)⟩
          ·
           replace c26 := Bool.eq_false_iff.mpr c26
           subst c26
           have H1 : (runnelref16_Long.l1 kj9 x3_2 0 l0_0 l0_1 a0_2 ((rd_T44 l0_0 x3_2).f0) ((rd_T44 l0_0 x3_2).f1) ((rd_T44 l0_0 x3_2).f2) ((rd_T44 l0_0 x3_2).f3) ((rd_T44 l0_0 x3_2).f4) ((rd_T44 l0_0 x3_2).f5) ((rd_T44 l0_0 x3_2).f6) ((rd_T44 l0_0 x3_2).f7) ((rd_T44 l0_0 x3_2).f8)) = some r := by rw [if_neg (show ¬ (false = true) by decide)] at H; exact H
           clear H
           have H := H1
           clear H1
           have H' := Aside0.mk H
           clear H
           go_wp2
           go_loopg [5] kj9 (fun kq v5 w' => ∃ (x5_4 : Int), v5 = .int .i64 x5_4 ∧ Aside0 (runnelref16_Long.l1 kq x3_2 x5_4 l0_0 l0_1 a0_2 ((rd_T44 l0_0 x3_2).f0) ((rd_T44 l0_0 x3_2).f1) ((rd_T44 l0_0 x3_2).f2) ((rd_T44 l0_0 x3_2).f3) ((rd_T44 l0_0 x3_2).f4) ((rd_T44 l0_0 x3_2).f5) ((rd_T44 l0_0 x3_2).f6) ((rd_T44 l0_0 x3_2).f7) ((rd_T44 l0_0 x3_2).f8) = some r) ∧ Aside0 (kq ≤ kj9) ∧ Aside0 (w'.heap[gb102]? = some (.cells #[(.slice (some ad103) l0_0.length c0_0), (.slice A0_1 l0_1.length c0_1), .int .i64 a0_2] 25 (0, 0))) ∧ Aside0 (w'.heap[gb104]? = some (.cells #[.int .i64 ((rd_T44 l0_0 x3_2).f0), (.slice A103_1 ((rd_T44 l0_0 x3_2).f1).length c103_1), (.slice A103_2 ((rd_T44 l0_0 x3_2).f2).length c103_2), (.slice A103_3 ((rd_T44 l0_0 x3_2).f3).length c103_3), (.slice A103_4 ((rd_T44 l0_0 x3_2).f4).length c103_4), .int .i64 ((rd_T44 l0_0 x3_2).f5), .int .i64 ((rd_T44 l0_0 x3_2).f6), .int .i64 ((rd_T44 l0_0 x3_2).f7), .int .i64 ((rd_T44 l0_0 x3_2).f8)] 44 (0, 0))) ∧ Aside0 (Below w.heap.size w w'))
           case atStart => exact ⟨(0), (by first | rfl | (simp; done) | (simp [*]; done)), H', ⟨Nat.le_refl _⟩, ⟨by (with_reducible repeat (first | refine blk_drewN ?_ _ | refine blk_drew ?_ | refine blk_alloc ?_ _)); exact BK102.out⟩, ⟨by (with_reducible repeat (first | refine blk_drewN ?_ _ | refine blk_drew ?_ | refine blk_alloc ?_ _)); exact BK104.out⟩, ⟨bl⟩⟩
           case round =>
            clear H'
            (try clear c7); (try clear c8); (try clear c8b0); (try clear c9); (try clear c9b0); (try clear c26); (try clear hcz11_0); (try clear hcz11_1); (try clear hcz11_2); (try clear hcz14_0); (try clear hcz14_1); (try clear hcz14_2); (try clear hcz14_3); (try clear hcz14_4); (try clear hcz14_5); (try clear hcz14_6); (try clear hcz14_7); (try clear hcz14_8); (try clear hfz11_0); (try clear hfz11_1); (try clear hfz11_2); (try clear hfz14_0); (try clear hfz14_1); (try clear hfz14_2); (try clear hfz14_3); (try clear hfz14_4); (try clear hfz14_5); (try clear hfz14_6); (try clear hfz14_7); (try clear hfz14_8); (try clear hx103_0); (try clear hx103_1); (try clear hx103_2); (try clear hx103_3); (try clear hx103_4); (try clear hx103_5); (try clear hx103_6); (try clear hx103_7); (try clear hx103_8); (try clear p103); (try clear q103)
            obtain ⟨x5_4, rfl, HA, HK4, BK102, BK104, HB⟩ := hrel
            cases gk with
            | zero => exact absurd HA.out (by simp [runnelref16_Long.l1])
            | succ k4 =>
             have H := HA.out
             clear HA
             simp only [runnelref16_Long.l1] at H
             by_cases c27 : x5_4 < (((rd_T44 l0_0 x3_2).f3).length : Int)
             ·
              rw [if_pos c27] at H
              have c27b0 : decide (x5_4 < (((rd_T44 l0_0 x3_2).f3).length : Int)) = true := decide_eq_true c27
              clear c27
              by_cases c28 : 0 ≤ x5_4
              ·
               rw [if_pos c28] at H
               have c28b0 : decide (0 ≤ x5_4) = true := decide_eq_true c28
               clear c28
               replace H := Option.bind_eq_some_iff.mp H
               obtain ⟨t106, A290, H⟩ := H
               replace H : (if t106 = true then (some true) else (runnelref16_Long.l1 k4 x3_2 (wrap64 (x5_4 + 1)) l0_0 l0_1 a0_2 ((rd_T44 l0_0 x3_2).f0) ((rd_T44 l0_0 x3_2).f1) ((rd_T44 l0_0 x3_2).f2) ((rd_T44 l0_0 x3_2).f3) ((rd_T44 l0_0 x3_2).f4) ((rd_T44 l0_0 x3_2).f5) ((rd_T44 l0_0 x3_2).f6) ((rd_T44 l0_0 x3_2).f7) ((rd_T44 l0_0 x3_2).f8))) = some r := H
               have A29 := Aside0.mk A290
               clear A290
               by_cases c30 : t106 = true
               ·
                subst c30
                have H1 : (some true) = some r := by rw [if_pos rfl] at H; exact H
                clear H
                have H := H1
                clear H1
                obtain rfl := Option.some.inj H
                have hnb31 := NB104_102.out
                have hnc31 := NB102_104.out
                obtain ⟨hcz32_0, hcz32_1, hcz32_2, hcz32_3, hcz32_4, hcz32_5, hcz32_6, hcz32_7, hcz32_8⟩ := cells9 BK104.out
                obtain ⟨hfz32_0, hfz32_1, hfz32_2, hfz32_3, hfz32_4, hfz32_5, hfz32_6, hfz32_7, hfz32_8⟩ := frz9 BK104.out
                have p105 : 0 ≤ (x5_4 : Int) := of_decide_eq_true (by first | (with_reducible assumption) | assumption)
                have q105 : x5_4 < (((rd_T44 l0_0 x3_2).f3).length : Int) := of_decide_eq_true (by first | (with_reducible assumption) | assumption)
                obtain ⟨ad105, A105_0, c105_0, e105, hx105_0, hl105_0, hi105_0⟩ := at_L4 HR103_3.out x5_4 p105 q105
                cases e105
                replace hx105_0 := bc HB.out hx105_0
                have HR105_0 := Aside0.mk hi105_0
                have HC105_0 := Aside0.mk hl105_0
                clear hi105_0 hl105_0
                replace p105 := eq_true p105
                replace q105 := eq_true q105
                go_wp2_with (first | ((with_reducible refine gate_callee (f := 17) rfl ?_); refine goesL_ (some 62) rfl rfl Try.func17 (by kernel_rfl) rfl #[.slice A105_0 (rd_L4 ((rd_T44 l0_0 x3_2).f3) x5_4).length c105_0] rfl mpq ?_; (with_reducible refine (runnelref08_Long.calls k4 _ _ (rd_L4 ((rd_T44 l0_0 x3_2).f3) x5_4) true _ ?side1 ?side2 A29.out).mono ?_); (case side1 => repeat (first | exact (Kd.C_below HR105_0.out HB.out) | (with_reducible refine Kd.C_alloc ?_ _) | (with_reducible refine Kd.C_drewN ?_ _) | (with_reducible refine Kd.C_drew ?_))); (case side2 => exact HC105_0.out); rintro e w' ⟨rfl, ⟨nd, rfl⟩⟩; refine ⟨_, rfl, ?_⟩))
                go_ret
                exact ⟨erq, by repeat (first | (with_reducible first | exact HB.out | apply below_alloc | apply pw_below_drewN | apply below_drew1 | refine below_set ?_ GE102.out | refine below_set ?_ GE104.out) | exact HB.out)⟩
               ·
                replace c30 := Bool.eq_false_iff.mpr c30
                subst c30
                have H1 : (runnelref16_Long.l1 k4 x3_2 (wrap64 (x5_4 + 1)) l0_0 l0_1 a0_2 ((rd_T44 l0_0 x3_2).f0) ((rd_T44 l0_0 x3_2).f1) ((rd_T44 l0_0 x3_2).f2) ((rd_T44 l0_0 x3_2).f3) ((rd_T44 l0_0 x3_2).f4) ((rd_T44 l0_0 x3_2).f5) ((rd_T44 l0_0 x3_2).f6) ((rd_T44 l0_0 x3_2).f7) ((rd_T44 l0_0 x3_2).f8)) = some r := by rw [if_neg (show ¬ (false = true) by decide)] at H; exact H
                clear H
                have H := H1
                clear H1
                have H' := Aside0.mk H
                clear H
                have hnb33 := NB104_102.out
                have hnc33 := NB102_104.out
                obtain ⟨hcz34_0, hcz34_1, hcz34_2, hcz34_3, hcz34_4, hcz34_5, hcz34_6, hcz34_7, hcz34_8⟩ := cells9 BK104.out
                obtain ⟨hfz34_0, hfz34_1, hfz34_2, hfz34_3, hfz34_4, hfz34_5, hfz34_6, hfz34_7, hfz34_8⟩ := frz9 BK104.out
                have p105 : 0 ≤ (x5_4 : Int) := of_decide_eq_true (by first | (with_reducible assumption) | assumption)
                have q105 : x5_4 < (((rd_T44 l0_0 x3_2).f3).length : Int) := of_decide_eq_true (by first | (with_reducible assumption) | assumption)
                obtain ⟨ad105, A105_0, c105_0, e105, hx105_0, hl105_0, hi105_0⟩ := at_L4 HR103_3.out x5_4 p105 q105
                cases e105
                replace hx105_0 := bc HB.out hx105_0
                have HR105_0 := Aside0.mk hi105_0
                have HC105_0 := Aside0.mk hl105_0
                clear hi105_0 hl105_0
                replace p105 := eq_true p105
                replace q105 := eq_true q105
                go_wp2_with (first | ((with_reducible refine gate_callee (f := 17) rfl ?_); refine goesL_ (some 62) rfl rfl Try.func17 (by kernel_rfl) rfl #[.slice A105_0 (rd_L4 ((rd_T44 l0_0 x3_2).f3) x5_4).length c105_0] rfl mpq ?_; (with_reducible refine (runnelref08_Long.calls k4 _ _ (rd_L4 ((rd_T44 l0_0 x3_2).f3) x5_4) false _ ?side1 ?side2 A29.out).mono ?_); (case side1 => repeat (first | exact (Kd.C_below HR105_0.out HB.out) | (with_reducible refine Kd.C_alloc ?_ _) | (with_reducible refine Kd.C_drewN ?_ _) | (with_reducible refine Kd.C_drew ?_))); (case side2 => exact HC105_0.out); rintro e w' ⟨rfl, ⟨nd, rfl⟩⟩; refine ⟨_, rfl, ?_⟩))
                go_roundg k4
                case measure => have := HJ1.out; have := HK2.out; have := HJ9.out; have := HK4.out; omega
                case rel => exact ⟨(wrap64 (x5_4 + 1)), (by first | rfl | (simp; done) | (simp [*]; done)), H', ⟨by have := HJ1.out; have := HK2.out; have := HJ9.out; have := HK4.out; omega⟩, ⟨by (with_reducible repeat (first | refine blk_drewN ?_ _ | refine blk_drew ?_ | refine blk_alloc ?_ _)); exact BK102.out⟩, ⟨by (with_reducible repeat (first | refine blk_drewN ?_ _ | refine blk_drew ?_ | refine blk_alloc ?_ _)); exact BK104.out⟩, ⟨bl⟩⟩
              ·
               rw [if_neg c28] at H
               exact absurd H (by simp)
             ·
              rw [if_neg c27] at H
              have c27b0 : decide (x5_4 < (((rd_T44 l0_0 x3_2).f3).length : Int)) = false := decide_eq_false c27
              clear c27
              have H' := Aside0.mk H
              clear H
              have hnb35 := NB104_102.out
              have hnc35 := NB102_104.out
              obtain ⟨hcz36_0, hcz36_1, hcz36_2, hcz36_3, hcz36_4, hcz36_5, hcz36_6, hcz36_7, hcz36_8⟩ := cells9 BK104.out
              obtain ⟨hfz36_0, hfz36_1, hfz36_2, hfz36_3, hfz36_4, hfz36_5, hfz36_6, hfz36_7, hfz36_8⟩ := frz9 BK104.out
              go_wp2
              go_roundg k4
              case measure => have := HJ1.out; have := HK2.out; have := HJ9.out; have := HK4.out; omega
              case rel => exact ⟨(wrap64 (x3_2 + 1)), (by first | rfl | (simp; done) | (simp [*]; done)), H', ⟨by have := HJ1.out; have := HK2.out; have := HJ9.out; have := HK4.out; omega⟩, ⟨by (with_reducible repeat (first | refine blk_drewN ?_ _ | refine blk_drew ?_ | refine blk_alloc ?_ _)); exact BK102.out⟩, ⟨bl⟩⟩
       ·
        rw [if_neg c9] at H
        exact absurd H (by simp)
      ·
       rw [if_neg c8] at H
       have c8b0 : decide (x3_2 < (l0_0.length : Int)) = false := decide_eq_false c8
       clear c8
       obtain rfl := Option.some.inj H
       obtain ⟨hcz37_0, hcz37_1, hcz37_2⟩ := cells3 BK102.out
       obtain ⟨hfz37_0, hfz37_1, hfz37_2⟩ := frz3 BK102.out
       go_wp2
       go_ret
       exact ⟨erq, by repeat (first | (with_reducible first | exact HB.out | apply below_alloc | apply pw_below_drewN | apply below_drew1 | refine below_set ?_ GE102.out) | exact HB.out)⟩

end Go.Proofs.Ytbdpnecnnokkkaa.PSheetEncodes
