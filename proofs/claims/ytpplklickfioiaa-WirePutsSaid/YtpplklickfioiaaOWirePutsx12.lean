/- One piece of the machine's side of the law, written by a program over the translation; Lean checks it. -/
import Derived.Test.YtpplklickfioiaaOWirePutsx0
import Derived.Test.YtpplklickfioiaaOWirePutsx11
import Derived.WalkSpells
import Derived.Test.YtpplklickfioiaaShort
namespace Go.Proofs.Ytpplklickfioiaa.PWirePuts
open Go.RowKit Go.Proofs.YtpplklickfioiaaW.PrintWords Go.Proofs.YtpplklickfioiaaW.PrintLast Go.Proofs.YtpplklickfioiaaW.PrintMore
attribute [local go_sem] max2_int min2_int max_two min_two max_three min_three max_four min_four   -- for this text's walks alone
set_option linter.unusedVariables false
set_option linter.unusedSimpArgs false

/-! ### runnelref26_Check: function 20 -/
mutual
def runnelref26_Check.j0 : Nat → Bool → Int → Int → List (S103) → Int → Int → Int → List (S36) → Int → List Int → Option (Int)
 | 0, _, _, _, _, _, _, _, _, _, _ => none
 | k + 1, x10, x375000, x375001, x375002, x375003, x375004, x375005, x375006, x375007, x375008 => if x10 = true then (some 8) else (if x375000 = 0 then (runnelref26_Check.j1 k (decide ((x375008.length : Int) > 65536)) x375000 x375001 x375002 x375003 x375004 x375005 x375006 x375007 x375008) else (runnelref26_Check.j1 k false x375000 x375001 x375002 x375003 x375004 x375005 x375006 x375007 x375008))
def runnelref26_Check.j1 : Nat → Bool → Int → Int → List (S103) → Int → Int → Int → List (S36) → Int → List Int → Option (Int)
 | 0, _, _, _, _, _, _, _, _, _, _ => none
 | k + 1, x19, x375000, x375001, x375002, x375003, x375004, x375005, x375006, x375007, x375008 => if x19 = true then (some 2) else (if x375000 = 2 then (runnelref26_Check.j2 k (decide ((x375006.length : Int) > 16)) x375000 x375001 x375002 x375003 x375004 x375005 x375006 x375007 x375008) else (if x375000 = 4 then (runnelref26_Check.j2 k (decide ((x375006.length : Int) > 16)) x375000 x375001 x375002 x375003 x375004 x375005 x375006 x375007 x375008) else (runnelref26_Check.j2 k false x375000 x375001 x375002 x375003 x375004 x375005 x375006 x375007 x375008)))
def runnelref26_Check.j2 : Nat → Bool → Int → Int → List (S103) → Int → Int → Int → List (S36) → Int → List Int → Option (Int)
 | 0, _, _, _, _, _, _, _, _, _, _ => none
 | k + 1, x33, x375000, x375001, x375002, x375003, x375004, x375005, x375006, x375007, x375008 => if x33 = true then (some 3) else (if x375000 = 1 then ((runnelref03_Check.f k x375002).bind fun t375 => (some t375)) else (some 0))
end
def runnelref26_Check.f (k : Nat) (a0_0 : Int) (a0_1 : Int) (l0_2 : List (S103)) (a0_3 : Int) (a0_4 : Int) (a0_5 : Int) (l0_6 : List (S36)) (a0_7 : Int) (l0_8 : List Int) : Option (Int) := if a0_0 < 0 then (runnelref26_Check.j0 k true a0_0 a0_1 l0_2 a0_3 a0_4 a0_5 l0_6 a0_7 l0_8) else (runnelref26_Check.j0 k (decide (a0_0 > 6)) a0_0 a0_1 l0_2 a0_3 a0_4 a0_5 l0_6 a0_7 l0_8)
set_option maxHeartbeats 8000000 in
set_option maxRecDepth 100000 in
theorem runnelref26_Check.calls (k : Nat) (a0_0 : Int) (a0_1 : Int) (A0_2 : Option Addr) (c0_2 : Nat) (l0_2 : List (S103)) (a0_3 : Int) (a0_4 : Int) (a0_5 : Int) (A0_6 : Option Addr) (c0_6 : Nat) (l0_6 : List (S36)) (a0_7 : Int) (A0_8 : Option Addr) (c0_8 : Nat) (l0_8 : List Int) (r : Int) (w : World) (hr0_2 : Kd.C k103 w A0_2 l0_2.length l0_2) (hc0_2 : l0_2.length ≤ c0_2) (hr0_6 : Kd.C k36 w A0_6 l0_6.length l0_6) (hc0_6 : l0_6.length ≤ c0_6) (hr0_8 : Kd.C (Kd.int .u8) w A0_8 l0_8.length l0_8) (hc0_8 : l0_8.length ≤ c0_8) (h : runnelref26_Check.f k a0_0 a0_1 l0_2 a0_3 a0_4 a0_5 l0_6 a0_7 l0_8 = some r) :
  Calls Try.prog 20 #[.agg #[.int .i64 a0_0, .int .i64 a0_1, .slice A0_2 l0_2.length c0_2, .int .i64 a0_3, .int .i64 a0_4, .int .i64 a0_5, .slice A0_6 l0_6.length c0_6, .int .i64 a0_7, .slice A0_8 l0_8.length c0_8]] w fun e w' => e = .returned (.int .i64 r) ∧ Below w.heap.size w w' := by
 have hu40 := Try.underlying40; have HR0_2 := Aside0.mk hr0_2; have HC0_2 := Aside0.mk hc0_2; clear hr0_2 hc0_2; have HR0_6 := Aside0.mk hr0_6; have HC0_6 := Aside0.mk hc0_6; clear hr0_6 hc0_6; have HR0_8 := Aside0.mk hr0_8; have HC0_8 := Aside0.mk hc0_8; clear hr0_8 hc0_8; have HB := Aside0.mk (Below.refl w.heap.size w); have H : (if a0_0 < 0 then (runnelref26_Check.j0 k true a0_0 a0_1 l0_2 a0_3 a0_4 a0_5 l0_6 a0_7 l0_8) else (runnelref26_Check.j0 k (decide (a0_0 > 6)) a0_0 a0_1 l0_2 a0_3 a0_4 a0_5 l0_6 a0_7 l0_8)) = some r := h; clear h; have HC2 := Aside0.mk H; clear H; go_enter Try.func20, Try.ntmps20
 go_upto_region 1 with (first | ((with_reducible refine gate_dst (N := 1) rfl ?_); (try (refine gate_guard (by rfl) ?_; dsimp only)); refine box_event ?hg (N := 1) ?hd (cs := #[.int .i64 a0_0, .int .i64 a0_1, .slice A0_2 l0_2.length c0_2, .int .i64 a0_3, .int .i64 a0_4, .int .i64 a0_5, .slice A0_6 l0_6.length c0_6, .int .i64 a0_7, .slice A0_8 l0_8.length c0_8]) (t := 40) ?hr ?_; (case hd => rfl); (case hg => rfl); (case hr => first | (go_simp; done) | (go_simp; rfl)); intro gb374 hg w3 hbox hb; have n0_ := Aside0.mk (below_step bl hb); have n1_ := Aside0.mk (hbox); have n2_ := Aside0.mk ((by rw [hg]; exact (below_size bl) : w.heap.size ≤ gb374)); have n3_ := Aside0.mk ((by rw [hg]; exact (below_size bl) : w.heap.size ≤ gb374)); clear HB; have HB := n0_; have BK374 := n1_; have GW374 := n2_; have GE374 := n3_; clear n0_ n1_ n2_ n3_; clear hb hbox hg))
 (try simp only [Act.put, List.setIfInBounds_toArray, List.set_cons_zero, List.set_cons_succ]); go_cut [10] (fun v10 wc => ∃ (kq : Nat) (x10_1 : Bool), v10 = .bool x10_1 ∧ Aside0 (runnelref26_Check.j0 kq x10_1 a0_0 a0_1 l0_2 a0_3 a0_4 a0_5 l0_6 a0_7 l0_8 = some r) ∧ Aside0 (kq ≤ k) ∧ Aside0 (wc.heap[gb374]? = some (.cells #[.int .i64 a0_0, .int .i64 a0_1, (.slice A0_2 l0_2.length c0_2), .int .i64 a0_3, .int .i64 a0_4, .int .i64 a0_5, (.slice A0_6 l0_6.length c0_6), .int .i64 a0_7, (.slice A0_8 l0_8.length c0_8)] 40 (0, 0))) ∧ Aside0 (Below w.heap.size w wc))
 case first =>
  have H := HC2.out; clear HC2; by_cases c4 : a0_0 < 0
  rotate_left
  ·
   rw [if_neg c4] at H; have c4b0 : decide (a0_0 < 0) = false := decide_eq_false c4; clear c4; (first | rw [c4b0] | (simp only [i64_w, i32_w]; rw [c4b0]) | skip); have H' := Aside0.mk H; clear H; obtain ⟨hcz6_0, hcz6_1, hcz6_2, hcz6_3, hcz6_4, hcz6_5, hcz6_6, hcz6_7, hcz6_8⟩ := cells9 BK374.out; obtain ⟨hfz6_0, hfz6_1, hfz6_2, hfz6_3, hfz6_4, hfz6_5, hfz6_6, hfz6_7, hfz6_8⟩ := frz9 BK374.out; go_wp2
   go_meet
   case rel => exact ⟨_, (decide (a0_0 > 6)), rsd, H', ⟨by first | omega | exact Nat.le_refl _⟩, ⟨bp BK374.out⟩, ⟨bl⟩⟩
  rw [if_pos c4] at H; have c4b0 : decide (a0_0 < 0) = true := decide_eq_true c4; clear c4; (first | rw [c4b0] | (simp only [i64_w, i32_w]; rw [c4b0]) | skip); have H' := Aside0.mk H; clear H; obtain ⟨hcz5_0, hcz5_1, hcz5_2, hcz5_3, hcz5_4, hcz5_5, hcz5_6, hcz5_7, hcz5_8⟩ := cells9 BK374.out; obtain ⟨hfz5_0, hfz5_1, hfz5_2, hfz5_3, hfz5_4, hfz5_5, hfz5_6, hfz5_7, hfz5_8⟩ := frz9 BK374.out; go_wp2
  go_meet
  case rel => exact ⟨_, (true), rsd, H', ⟨by first | omega | exact Nat.le_refl _⟩, ⟨bp BK374.out⟩, ⟨bl⟩⟩
 clear HC2; obtain ⟨kq, x10_1, rfl, HA, HJ1, BK374, HB⟩ := hcut; cases kq with
 | zero => exact absurd HA.out (by simp [runnelref26_Check.j0])
 | succ kj1 =>
  have H := HA.out; clear HA; simp only [runnelref26_Check.j0] at H; by_cases c7 : x10_1 = true
  ·
   subst c7; have H1 : (some 8) = some r := by rw [if_pos rfl] at H; exact H
   clear H; have H := H1; clear H1; obtain rfl := Option.some.inj H; go_wp2
   go_ret
   exact ⟨erq, bl⟩
  replace c7 := Bool.eq_false_iff.mpr c7; subst c7; have H1 : (if a0_0 = 0 then (runnelref26_Check.j1 kj1 (decide ((l0_8.length : Int) > 65536)) a0_0 a0_1 l0_2 a0_3 a0_4 a0_5 l0_6 a0_7 l0_8) else (runnelref26_Check.j1 kj1 false a0_0 a0_1 l0_2 a0_3 a0_4 a0_5 l0_6 a0_7 l0_8)) = some r := by rw [if_neg (show ¬ (false = true) by decide)] at H; exact H
  clear H; have H := H1; clear H1; have HC8 := Aside0.mk H; clear H; go_upto_region 3 with (fail); go_cut [19] (fun v19 wc => ∃ (kq : Nat) (x19_7 : Bool), v19 = .bool x19_7 ∧ Aside0 (runnelref26_Check.j1 kq x19_7 a0_0 a0_1 l0_2 a0_3 a0_4 a0_5 l0_6 a0_7 l0_8 = some r) ∧ Aside0 (kq ≤ kj1) ∧ Aside0 (wc.heap[gb374]? = some (.cells #[.int .i64 a0_0, .int .i64 a0_1, (.slice A0_2 l0_2.length c0_2), .int .i64 a0_3, .int .i64 a0_4, .int .i64 a0_5, (.slice A0_6 l0_6.length c0_6), .int .i64 a0_7, (.slice A0_8 l0_8.length c0_8)] 40 (0, 0))) ∧ Aside0 (Below w.heap.size w wc))
  case first =>
   have H := HC8.out; clear HC8; by_cases c9 : a0_0 = 0
   rotate_left
   ·
    rw [if_neg c9] at H; have c9b0 : (a0_0 == 0) = false := beq_eq_false_iff_ne.mpr c9; have c9b1 : (a0_0 != 0) = true := bne_iff_ne.mpr c9; (first | rw [c9b0] | (simp only [i64_w, i32_w]; rw [c9b0]) | skip); have H' := Aside0.mk H; clear H; obtain ⟨hcz11_0, hcz11_1, hcz11_2, hcz11_3, hcz11_4, hcz11_5, hcz11_6, hcz11_7, hcz11_8⟩ := cells9 BK374.out; obtain ⟨hfz11_0, hfz11_1, hfz11_2, hfz11_3, hfz11_4, hfz11_5, hfz11_6, hfz11_7, hfz11_8⟩ := frz9 BK374.out; go_wp2
    go_meet
    case rel => exact ⟨_, (false), rsd, H', ⟨by have := HJ1.out; first | omega | exact Nat.le_refl _⟩, ⟨bp BK374.out⟩, ⟨bl⟩⟩
   rw [if_pos c9] at H; have c9b0 : (a0_0 == 0) = true := beq_iff_eq.mpr c9; have c9b1 : (a0_0 != 0) = false := bne_eq_false_iff_eq.mpr c9; clear c9; (first | rw [c9b0] | (simp only [i64_w, i32_w]; rw [c9b0]) | skip); have H' := Aside0.mk H; clear H; obtain ⟨hcz10_0, hcz10_1, hcz10_2, hcz10_3, hcz10_4, hcz10_5, hcz10_6, hcz10_7, hcz10_8⟩ := cells9 BK374.out; obtain ⟨hfz10_0, hfz10_1, hfz10_2, hfz10_3, hfz10_4, hfz10_5, hfz10_6, hfz10_7, hfz10_8⟩ := frz9 BK374.out; go_wp2
   go_meet
   case rel => exact ⟨_, (decide ((l0_8.length : Int) > 65536)), rsd, H', ⟨by have := HJ1.out; first | omega | exact Nat.le_refl _⟩, ⟨bp BK374.out⟩, ⟨bl⟩⟩
  clear HC8; try clear c7
  obtain ⟨kq, x19_7, rfl, HA, HJ7, BK374, HB⟩ := hcut; cases kq with
  | zero => exact absurd HA.out (by simp [runnelref26_Check.j1])
  | succ kj7 =>
   have H := HA.out; clear HA; simp only [runnelref26_Check.j1] at H; by_cases c12 : x19_7 = true
   ·
    subst c12; have H1 : (some 2) = some r := by rw [if_pos rfl] at H; exact H
    clear H; have H := H1; clear H1; obtain rfl := Option.some.inj H; go_wp2
    go_ret
    exact ⟨erq, bl⟩
   replace c12 := Bool.eq_false_iff.mpr c12; subst c12; have H1 : (if a0_0 = 2 then (runnelref26_Check.j2 kj7 (decide ((l0_6.length : Int) > 16)) a0_0 a0_1 l0_2 a0_3 a0_4 a0_5 l0_6 a0_7 l0_8) else (if a0_0 = 4 then (runnelref26_Check.j2 kj7 (decide ((l0_6.length : Int) > 16)) a0_0 a0_1 l0_2 a0_3 a0_4 a0_5 l0_6 a0_7 l0_8) else (runnelref26_Check.j2 kj7 false a0_0 a0_1 l0_2 a0_3 a0_4 a0_5 l0_6 a0_7 l0_8))) = some r := by rw [if_neg (show ¬ (false = true) by decide)] at H; exact H
   clear H; have H := H1; clear H1; have HC13 := Aside0.mk H; clear H; go_upto_region 5 with (fail); go_cut [33] (fun v33 wc => ∃ (kq : Nat) (x33_12 : Bool), v33 = .bool x33_12 ∧ Aside0 (runnelref26_Check.j2 kq x33_12 a0_0 a0_1 l0_2 a0_3 a0_4 a0_5 l0_6 a0_7 l0_8 = some r) ∧ Aside0 (kq ≤ kj7) ∧ Aside0 (wc.heap[gb374]? = some (.cells #[.int .i64 a0_0, .int .i64 a0_1, (.slice A0_2 l0_2.length c0_2), .int .i64 a0_3, .int .i64 a0_4, .int .i64 a0_5, (.slice A0_6 l0_6.length c0_6), .int .i64 a0_7, (.slice A0_8 l0_8.length c0_8)] 40 (0, 0))) ∧ Aside0 (Below w.heap.size w wc))
   case first =>
    have H := HC13.out; clear HC13; by_cases c14 : a0_0 = 2
    ·
     rw [if_pos c14] at H; have c14b0 : (a0_0 == 2) = true := beq_iff_eq.mpr c14; have c14b1 : (a0_0 != 2) = false := bne_eq_false_iff_eq.mpr c14; clear c14; (first | rw [c14b0] | (simp only [i64_w, i32_w]; rw [c14b0]) | skip); have H' := Aside0.mk H; clear H; obtain ⟨hcz15_0, hcz15_1, hcz15_2, hcz15_3, hcz15_4, hcz15_5, hcz15_6, hcz15_7, hcz15_8⟩ := cells9 BK374.out; obtain ⟨hfz15_0, hfz15_1, hfz15_2, hfz15_3, hfz15_4, hfz15_5, hfz15_6, hfz15_7, hfz15_8⟩ := frz9 BK374.out; go_wp2
     go_meet
     case rel => exact ⟨_, (decide ((l0_6.length : Int) > 16)), rsd, H', ⟨by have := HJ1.out; have := HJ7.out; first | omega | exact Nat.le_refl _⟩, ⟨bp BK374.out⟩, ⟨bl⟩⟩
    rw [if_neg c14] at H; have c14b0 : (a0_0 == 2) = false := beq_eq_false_iff_ne.mpr c14; have c14b1 : (a0_0 != 2) = true := bne_iff_ne.mpr c14; (first | rw [c14b0] | (simp only [i64_w, i32_w]; rw [c14b0]) | skip); by_cases c16 : a0_0 = 4
    rotate_left
    ·
     rw [if_neg c16] at H; have c16b0 : (a0_0 == 4) = false := beq_eq_false_iff_ne.mpr c16; have c16b1 : (a0_0 != 4) = true := bne_iff_ne.mpr c16; have H' := Aside0.mk H; clear H; obtain ⟨hcz18_0, hcz18_1, hcz18_2, hcz18_3, hcz18_4, hcz18_5, hcz18_6, hcz18_7, hcz18_8⟩ := cells9 BK374.out; obtain ⟨hfz18_0, hfz18_1, hfz18_2, hfz18_3, hfz18_4, hfz18_5, hfz18_6, hfz18_7, hfz18_8⟩ := frz9 BK374.out; go_wp2
     go_meet
     case rel => exact ⟨_, (false), rsd, H', ⟨by have := HJ1.out; have := HJ7.out; first | omega | exact Nat.le_refl _⟩, ⟨bp BK374.out⟩, ⟨bl⟩⟩
    rw [if_pos c16] at H; have c16b0 : (a0_0 == 4) = true := beq_iff_eq.mpr c16; have c16b1 : (a0_0 != 4) = false := bne_eq_false_iff_eq.mpr c16; clear c16; have H' := Aside0.mk H; clear H; obtain ⟨hcz17_0, hcz17_1, hcz17_2, hcz17_3, hcz17_4, hcz17_5, hcz17_6, hcz17_7, hcz17_8⟩ := cells9 BK374.out; obtain ⟨hfz17_0, hfz17_1, hfz17_2, hfz17_3, hfz17_4, hfz17_5, hfz17_6, hfz17_7, hfz17_8⟩ := frz9 BK374.out; go_wp2
    go_meet
    case rel => exact ⟨_, (decide ((l0_6.length : Int) > 16)), rsd, H', ⟨by have := HJ1.out; have := HJ7.out; first | omega | exact Nat.le_refl _⟩, ⟨bp BK374.out⟩, ⟨bl⟩⟩
   clear HC13; (try clear c7); (try clear c12); obtain ⟨kq, x33_12, rfl, HA, HJ12, BK374, HB⟩ := hcut; cases kq with
   | zero => exact absurd HA.out (by simp [runnelref26_Check.j2])
   | succ kj12 =>
    have H := HA.out; clear HA; simp only [runnelref26_Check.j2] at H; by_cases c19 : x33_12 = true
    ·
     subst c19; have H1 : (some 3) = some r := by rw [if_pos rfl] at H; exact H
     clear H; have H := H1; clear H1; obtain rfl := Option.some.inj H; go_wp2
     go_ret
     exact ⟨erq, bl⟩
    replace c19 := Bool.eq_false_iff.mpr c19; subst c19; have H1 : (if a0_0 = 1 then ((runnelref03_Check.f kj12 l0_2).bind fun t375 => (some t375)) else (some 0)) = some r := by rw [if_neg (show ¬ (false = true) by decide)] at H; exact H
    clear H; have H := H1; clear H1; by_cases c20 : a0_0 = 1
    rotate_left
    ·
     rw [if_neg c20] at H; have c20b0 : (a0_0 == 1) = false := beq_eq_false_iff_ne.mpr c20; have c20b1 : (a0_0 != 1) = true := bne_iff_ne.mpr c20; obtain rfl := Option.some.inj H; obtain ⟨hcz23_0, hcz23_1, hcz23_2, hcz23_3, hcz23_4, hcz23_5, hcz23_6, hcz23_7, hcz23_8⟩ := cells9 BK374.out; obtain ⟨hfz23_0, hfz23_1, hfz23_2, hfz23_3, hfz23_4, hfz23_5, hfz23_6, hfz23_7, hfz23_8⟩ := frz9 BK374.out; go_wp2
     go_ret
     exact ⟨erq, bl⟩

    rw [if_pos c20] at H; have c20b0 : (a0_0 == 1) = true := beq_iff_eq.mpr c20; have c20b1 : (a0_0 != 1) = false := bne_eq_false_iff_eq.mpr c20; clear c20; replace H := Option.bind_eq_some_iff.mp H; obtain ⟨t375, A210, H⟩ := H; replace H : (some t375) = some r := H; have A21 := Aside0.mk A210; clear A210; obtain rfl := Option.some.inj H; obtain ⟨hcz22_0, hcz22_1, hcz22_2, hcz22_3, hcz22_4, hcz22_5, hcz22_6, hcz22_7, hcz22_8⟩ := cells9 BK374.out; obtain ⟨hfz22_0, hfz22_1, hfz22_2, hfz22_3, hfz22_4, hfz22_5, hfz22_6, hfz22_7, hfz22_8⟩ := frz9 BK374.out; go_wp2_with (first | ((with_reducible refine gate_callee (f := 51) rfl ?_); refine goesL_ (some 40) rfl rfl Try.func51 (by kernel_rfl) rfl #[.slice A0_2 l0_2.length c0_2] rfl mpq ?_; (with_reducible refine (runnelref03_Check.calls kj12 _ _ l0_2 t375 _ ?side1 ?side2 A21.out).mono ?_); (case side1 => exact cp ((Kd.C_below HR0_2.out HB.out))); (case side2 => exact HC0_2.out); rintro e w' ⟨rfl, ⟨nd, rfl⟩⟩; refine ⟨_, rfl, ?_⟩))
    go_ret
    exact ⟨erq, bl⟩
/-! ### api_Val: function 53 -/
def api_Val.f (l0 : List (S103)) : Option ((List (S103))) := (some (([] : List (S103)) : List (S103))).bind fun y376 => (if y376.length + l0.length < 4398046511104 then (some (y376 ++ l0)) else (none))
set_option maxHeartbeats 8000000 in
set_option maxRecDepth 100000 in
theorem api_Val.calls (A0 : Option Addr) (c0 : Nat) (l0 : List (S103)) (r : List (S103)) (w : World) (hr0 : Kd.C k103 w A0 l0.length l0) (hc0 : l0.length ≤ c0) (h : api_Val.f l0 = some r) :
  Calls Try.prog 53 #[.slice A0 l0.length c0] w fun e w' => ∃ v0_ : Value, e = .returned (v0_) ∧ Kd.R k103 103 w' w.heap.size (fun _ => True) v0_ r ∧ Below w.heap.size w w' := by
 have HR0 := Aside0.mk hr0; have HC0 := Aside0.mk hc0; clear hr0 hc0; have HB := Aside0.mk (Below.refl w.heap.size w); have H : ((some (([] : List (S103)) : List (S103))).bind fun y376 => (if y376.length + l0.length < 4398046511104 then (some (y376 ++ l0)) else (none))) = some r := h; clear h; obtain ⟨y376, hy376⟩ : ∃ y_ : List (S103), y_ = (([] : List (S103))) := ⟨_, rfl⟩; replace H : (if y376.length + l0.length < 4398046511104 then (some (y376 ++ l0)) else (none)) = some r := by first | (rw [hy376]; with_reducible exact H) | (have H2_ := (Option.bind_some _ _).symm.trans H; rw [hy376]; with_reducible exact H2_) | (have H2_ := (Option.bind_some _ _).symm.trans H; with_reducible exact H2_) | with_reducible exact H | (rw [hy376]; exact H) | exact H
 have Ny376 := Aside0.mk hy376; clear hy376; by_cases c2 : y376.length + l0.length < 4398046511104
 rotate_left
 · rw [if_neg c2] at H; exact absurd H (by simp)

 rw [if_pos c2] at H; have LMc2 := Aside0.mk c2; clear c2; obtain ⟨y379, hy379⟩ : ∃ y_ : List (S103), y_ = (y376 ++ l0) := ⟨_, rfl⟩; replace H : (some y379) = some r := by first | (rw [hy379]; with_reducible exact H) | (have H2_ := (Option.bind_some _ _).symm.trans H; rw [hy379]; with_reducible exact H2_) | (have H2_ := (Option.bind_some _ _).symm.trans H; with_reducible exact H2_) | with_reducible exact H | (rw [hy379]; exact H) | exact H
 have Ny379 := Aside0.mk hy379; clear hy379; obtain rfl := Option.some.inj H; rcases A0 with _ | ad0
 ·
  have hnil : Aside0 (l0 = []) := Aside0.mk (by
   rcases Nat.eq_zero_or_pos l0.length with h0 | h0
   · exact List.eq_nil_of_length_eq_zero h0
   · obtain ⟨ad, he, _⟩ := HR0.out.2.2 h0; cases he)
  have hne : ∀ W, (binOp .eql 34 (.slice none l0.length c0) (.slice none 0 0)).run Try.prog W = .ok (.bool true) W := fun W => Lib.run_eql_slice_nil (P := Try.prog) W 34 103 none _ _ 0 0 Try.underlying34
  go_enter Try.func53, Try.ntmps53
  go_wp2
  go_ret
  exact ⟨_, rfl, (by rw [Ny379.out, Ny376.out, hnil.out]; exact Kd.R_nil _ _ _ _ _), bl⟩
 ·
  have hne : ∀ W, (binOp .eql 34 (.slice (some ad0) l0.length c0) (.slice none 0 0)).run Try.prog W = .ok (.bool false) W := fun W => Lib.run_eql_slice_nil (P := Try.prog) W 34 103 (some ad0) _ _ 0 0 Try.underlying34
  go_enter Try.func53, Try.ntmps53
  go_wp2_with (first | ((with_reducible refine gate_dst (N := 5) rfl ?_); refine Kd.R_lit k103 _ 103 ?hg (N := 5) ?hd (xs := ([] : List (S103))) (inner := []) (ok := fun _ => True) (okp := fun _ => True) ?hr ?hp (fun _ hk => hk) trivial (Below.refl _ _) (Nat.le_refl _) (by simp) ?_; (case hd => rfl); (case hg => rfl); (case hr => first | (go_simp; done) | (go_simp; rfl)); (case hp => exact (Reps.none _ _)); intro v377 w3 ho4 hb hg_ hnew_; clear hg_ hnew_; (first | rw [← Ny376.out] at ho4 | (simp only [Int.reduceToNat] at ho4; rw [← Ny376.out] at ho4)); have n0_ := Aside0.mk (Kd.R_lower ho4 (below_size bl)); have n1_ := Aside0.mk (below_step bl hb); clear HB; have HO378 := n0_; have HB := n1_; clear n0_ n1_; clear hb ho4) | ((with_reducible refine gate_builtin (b := .append) (xs := #[.tmp 5, .tmp 6]) rfl ?_); at_builtin; refine Kd.R_append_rows k103 (w0 := w) w.heap.size rfl (.tmp 5) (.tmp 6) 34 103 (.agg #[(.int .i64 0), (.int .i64 0), (.string ⟨#[]⟩)]) 32 rfl Try.underlying34 info103 rfl (by decide) (by omega) v377 y376 l0 _ _ _ (fun _ => True) (fun _ => False) rfl rfl ?aO ?aR (fun _ _ h => h) (fun _ h => h.elim) ?aF ?aB ?aS ?aL ?_; (case aR => exact cp ((Kd.C_below HR0.out HB.out))); (case aB => exact bl); (case aF => exact (fun _ _ => trivial)); (case aO => exact (rp HO378.out)); (case aS => exact (below_size bl)); (case aL => have := LMc2.out; omega); intro v380 w5 ho hb hg hat; rw [← Ny379.out] at ho; have n0_ := Aside0.mk (hb); have n1_ := Aside0.mk (ho); clear HB; clear HO378; have HB := n0_; have HO381 := n1_; clear n0_ n1_; clear ho hb hg hat))
  go_ret
  exact ⟨_, erq, rp HO381.out, bl⟩
/-! ### api_Time_54: function 54 -/
def api_Time_54.f (l0 : List (S36)) : Option ((List (S36))) := (some (([] : List (S36)) : List (S36))).bind fun y382 => (if y382.length + l0.length < 8796093022208 then (some (y382 ++ l0)) else (none))
set_option maxHeartbeats 8000000 in
set_option maxRecDepth 100000 in
theorem api_Time_54.calls (A0 : Option Addr) (c0 : Nat) (l0 : List (S36)) (r : List (S36)) (w : World) (hr0 : Kd.C k36 w A0 l0.length l0) (hc0 : l0.length ≤ c0) (h : api_Time_54.f l0 = some r) :
  Calls Try.prog 54 #[.slice A0 l0.length c0] w fun e w' => ∃ v0_ : Value, e = .returned (v0_) ∧ Kd.R k36 36 w' w.heap.size (fun _ => True) v0_ r ∧ Below w.heap.size w w' := by
 have HR0 := Aside0.mk hr0; have HC0 := Aside0.mk hc0; clear hr0 hc0; have HB := Aside0.mk (Below.refl w.heap.size w); have H : ((some (([] : List (S36)) : List (S36))).bind fun y382 => (if y382.length + l0.length < 8796093022208 then (some (y382 ++ l0)) else (none))) = some r := h; clear h; obtain ⟨y382, hy382⟩ : ∃ y_ : List (S36), y_ = (([] : List (S36))) := ⟨_, rfl⟩; replace H : (if y382.length + l0.length < 8796093022208 then (some (y382 ++ l0)) else (none)) = some r := by first | (rw [hy382]; with_reducible exact H) | (have H2_ := (Option.bind_some _ _).symm.trans H; rw [hy382]; with_reducible exact H2_) | (have H2_ := (Option.bind_some _ _).symm.trans H; with_reducible exact H2_) | with_reducible exact H | (rw [hy382]; exact H) | exact H
 have Ny382 := Aside0.mk hy382; clear hy382; by_cases c2 : y382.length + l0.length < 8796093022208
 rotate_left
 · rw [if_neg c2] at H; exact absurd H (by simp)

 rw [if_pos c2] at H; have LMc2 := Aside0.mk c2; clear c2; obtain ⟨y385, hy385⟩ : ∃ y_ : List (S36), y_ = (y382 ++ l0) := ⟨_, rfl⟩; replace H : (some y385) = some r := by first | (rw [hy385]; with_reducible exact H) | (have H2_ := (Option.bind_some _ _).symm.trans H; rw [hy385]; with_reducible exact H2_) | (have H2_ := (Option.bind_some _ _).symm.trans H; with_reducible exact H2_) | with_reducible exact H | (rw [hy385]; exact H) | exact H
 have Ny385 := Aside0.mk hy385; clear hy385; obtain rfl := Option.some.inj H; rcases A0 with _ | ad0
 ·
  have hnil : Aside0 (l0 = []) := Aside0.mk (by
   rcases Nat.eq_zero_or_pos l0.length with h0 | h0
   · exact List.eq_nil_of_length_eq_zero h0
   · obtain ⟨ad, he, _⟩ := HR0.out.2.2 h0; cases he)
  have hne : ∀ W, (binOp .eql 23 (.slice none l0.length c0) (.slice none 0 0)).run Try.prog W = .ok (.bool true) W := fun W => Lib.run_eql_slice_nil (P := Try.prog) W 23 36 none _ _ 0 0 Try.underlying23
  go_enter Try.func54, Try.ntmps54
  go_wp2
  go_ret
  exact ⟨_, rfl, (by rw [Ny385.out, Ny382.out, hnil.out]; exact Kd.R_nil _ _ _ _ _), bl⟩
 ·
  have hne : ∀ W, (binOp .eql 23 (.slice (some ad0) l0.length c0) (.slice none 0 0)).run Try.prog W = .ok (.bool false) W := fun W => Lib.run_eql_slice_nil (P := Try.prog) W 23 36 (some ad0) _ _ 0 0 Try.underlying23
  go_enter Try.func54, Try.ntmps54
  go_wp2_with (first | ((with_reducible refine gate_dst (N := 5) rfl ?_); refine Kd.R_lit k36 _ 36 ?hg (N := 5) ?hd (xs := ([] : List (S36))) (inner := []) (ok := fun _ => True) (okp := fun _ => True) ?hr ?hp (fun _ hk => hk) trivial (Below.refl _ _) (Nat.le_refl _) (by simp) ?_; (case hd => rfl); (case hg => rfl); (case hr => first | (go_simp; done) | (go_simp; rfl)); (case hp => exact (Reps.none _ _)); intro v383 w3 ho4 hb hg_ hnew_; clear hg_ hnew_; (first | rw [← Ny382.out] at ho4 | (simp only [Int.reduceToNat] at ho4; rw [← Ny382.out] at ho4)); have n0_ := Aside0.mk (Kd.R_lower ho4 (below_size bl)); have n1_ := Aside0.mk (below_step bl hb); clear HB; have HO384 := n0_; have HB := n1_; clear n0_ n1_; clear hb ho4) | ((with_reducible refine gate_builtin (b := .append) (xs := #[.tmp 5, .tmp 6]) rfl ?_); at_builtin; refine Kd.R_append_rows k36 (w0 := w) w.heap.size rfl (.tmp 5) (.tmp 6) 23 36 (.agg #[(.int .i64 0), (.int .i64 0)]) 16 rfl Try.underlying23 info36 rfl (by decide) (by omega) v383 y382 l0 _ _ _ (fun _ => True) (fun _ => False) rfl rfl ?aO ?aR (fun _ _ h => h) (fun _ h => h.elim) ?aF ?aB ?aS ?aL ?_; (case aR => exact cp ((Kd.C_below HR0.out HB.out))); (case aB => exact bl); (case aF => exact (fun _ _ => trivial)); (case aO => exact (rp HO384.out)); (case aS => exact (below_size bl)); (case aL => have := LMc2.out; omega); intro v386 w5 ho hb hg hat; rw [← Ny385.out] at ho; have n0_ := Aside0.mk (hb); have n1_ := Aside0.mk (ho); clear HB; clear HO384; have HB := n0_; have HO387 := n1_; clear n0_ n1_; clear ho hb hg hat))
  go_ret
  exact ⟨_, erq, rp HO387.out, bl⟩
end Go.Proofs.Ytpplklickfioiaa.PWirePuts
